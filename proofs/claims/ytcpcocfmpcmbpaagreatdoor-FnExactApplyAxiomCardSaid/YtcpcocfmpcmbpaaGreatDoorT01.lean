/-
  FOUNDATION 14: slicing; structs and arrays compared. Own work.
-/
import Derived.Test.YtcpcocfmpcmbpaaGreatDoorT00
import Derived.ChangeKeysEq
set_option linter.all false
namespace Go.Fd
variable [Tabs]
section ops
variable {P:Program} {F:Fr} {G G':Gh} {S S':Zb} {st:St} {a:Act} {w w':World} {C:ZJ} {K:Yc} {l b:Nat} {oper:Oper}
theorem QU(h:Sim F G st a w){x:Option X}{y:Option Operand}{n:Nat}{Kb:Nat->Prop}(hc:Qh x y=true)(hb:ZT (xv st.env) x n Kb) :
  ∃ m,Kb m/\((x=none/\y=none/\m=n)\/∃ o,y=some o/\x.isSome=true/\∃ k,a.eval o = .int k m):=by
 unfold Qh at hc;split at hc
 ·exact⟨n,hb,.inl ⟨rfl,rfl,rfl⟩⟩
 ·rename_i x o;simp only[ZT] at hb;split at hb<;>try contradiction
  rename_i k q hq;have hx:=h.x hc;rw[hq] at hx;obtain⟨hx,_⟩:=hx.val;refine⟨q.toNat,hb.2,.inr ⟨o,rfl,rfl,k,?_⟩⟩;rw[hx,Int.toNat_of_nonneg hb.1]
 ·cases hc
theorem X9(k:IntKind)(m y:Nat)(code:BoundsCode)(h:m<=y):(Instr.sliceBound (.int k m) y code).run P w = .ok m w:=by
 have h1:(m:Int)<=y:=by omega
 simp [Instr.sliceBound,asIntOf,h1]
theorem Zas{isS:Bool}{lo hi mx:Option Value}{len cap A B M:Nat}(hlo:(lo=none/\A=0)\/∃ k,lo=some (.int k A))(hhi:(hi=none/\B=len/\mx=none)\/∃ k,hi=some (.int k B))
  (hmx:(mx=none/\M=cap)\/∃ k,mx=some (.int k M)) (h1:A<=B) (h2:B<=M) (h3:M<=cap):(Instr.sliceBounds isS len cap lo hi mx).run P w = .ok (A,B,M) w:=by
 unfold Instr.sliceBounds;rcases hmx with ⟨rfl,rfl⟩ | ⟨km,rfl⟩
 ·rcases hhi with ⟨rfl,rfl,_⟩ | ⟨kh,rfl⟩
  ·rcases hlo with ⟨rfl,rfl⟩ | ⟨kl,rfl⟩
   ·simp
   ·simp [X9 kl A B _ h1]
  ·rcases hlo with ⟨rfl,rfl⟩ | ⟨kl,rfl⟩
   ·simp [X9 kh B M _ h2]
   ·simp [X9 kh B M _ h2,X9 kl A B _ h1]
 ·rcases hhi with ⟨_,_,h⟩ | ⟨kh,rfl⟩
  ·cases h
  ·rcases hlo with ⟨rfl,rfl⟩ | ⟨kl,rfl⟩
   ·simp [X9 km M cap _ h3,X9 kh B M _ h2]
   ·simp [X9 km M cap _ h3,X9 kh B M _ h2,X9 kl A B _ h1]
theorem Df{es:Row}{A n i:Nat}:(cut es A n)[i]? = if i<n then es[A+i]? else none:=by
 unfold cut;rw[UaB];split
 ·rw[UaM]
 ·rfl
theorem Xn{es:Row}{A n:Nat}(h:A+n<=es.length):(cut es A n).length=n:=by unfold cut;simp;omega
theorem ZiA{es:Row}{A n:Nat}{e:List Tr}(h:e∈cut es A n):e∈es:=Ubd (UaS h)
theorem Rds.cut{A:Nat->Prop}{ad:Option Addr}{len c k X B M:Nat}{es:Row}(h:Rds w A (.slice ad len c) (.sl es))(h1:X<=B)(h2:B<=es.length)(h3:B<=M)(hk:X=0\/ZC k es) :
  Rds w A (.slice (if M=X then ad else ad.map (·.add (X*k))) (B-X) (M-X)) (.sl (Fd.cut es X (B-X))):=by
 generalize ht:Tr.sl es=t at h;generalize hv:Value.slice ad len c=v at h;by_cases h0:B-X=0
 ·rw[h0];have:Fd.cut es X 0=[]:=by simp [Fd.cut]
  rw[this];exact .nil _ _
 ·have hM:¬ M=X:=by omega
  rw[if_neg hM];cases h with
  | v x h=>cases ht
  | nil a c=>cases ht;simp at h2;omega
  | sl b o c k' es' f hA hk' hl hc hr =>
   cases ht;cases hv;have hoff:X*k=X*k':=by
    rcases hk with rfl | hk
    ·simp
    ·have hlt:X<es.length:=(by omega);have hm:=Uaf (Uak hlt);rw[<-hk _ hm,hk' _ hm]
   have hcl:(Fd.cut es X (B-X)).length=B-X:=Xn (by omega)
   have:=Rds.sl (w:=w) (A:=A) b (o+X*k') (M-X) k' (Fd.cut es X (B-X)) (fun i j=>f (X+i) j) hA (fun e he=>hk' e (ZiA he)) (by omega)
    (fun i e j t he ht=>by
     rw[Df] at he;split at he<;>try contradiction
     have:=hc (X+i) e j t he ht;rwa [show o+X*k'+i*k'+j=o+(X+i)*k'+j from by rw[UaP];omega])
    (fun i e j t he ht=>by
     rw[Df] at he;split at he<;>try contradiction
     exact hr (X+i) e j t he ht)
   rw[hcl] at this;simpa [YJ,hoff] using this
theorem ZeD(h:Sim F G st a w){k:Nat}{x:X}{lo hi mx:Option X}(hc:Zs P (.sx k x lo hi mx) oper.op=true)(he:ev C (xv st.env) st.sto K (.sx k x lo hi mx)):EvOk P G st a w K l b oper:=by
 simp only[Zs] at hc;split at hc<;>try contradiction
 rename_i t y l0 h0 m0 ho;simp only[Uae,UaO] at hc;obtain⟨⟨⟨⟨⟨hx,c1⟩,c2⟩,c3⟩,c4⟩,hc⟩:=hc;split at hc<;>try contradiction
 rename_i e0 hel;have hu:=VA hel;have hsz:JB P e0=some k:=by simpa using hc
 have hx:=h.x hx
 have key:∀{ad:Option Addr} {len cap A B M:Nat},a.eval y = .slice ad len cap->((lo=none/\l0=none/\A=0)\/∃ o,l0=some o/\lo.isSome=true/\∃ kk,a.eval o = .int kk A) ->
   ((hi=none/\h0=none/\B=len)\/∃ o,h0=some o/\hi.isSome=true/\∃ kk,a.eval o = .int kk B) ->
   ((mx=none/\m0=none/\M=cap)\/∃ o,m0=some o/\mx.isSome=true/\∃ kk,a.eval o = .int kk M)->A<=B->B<=M->M<=cap ->
   (execOp a.eval oper).run P w = .ok (.value (.slice (if M=A then ad else ad.map (·.add (A*k))) (B-A) (M-A))) w:=fun {ad len cap A B M} hv q1 q2 q3 g1 g2 g3=>by
  have hb:=Zas (P:=P) (w:=w) (isS:=true) (lo:=l0.map a.eval) (hi:=h0.map a.eval) (mx:=m0.map a.eval) (len:=len) (cap:=cap) (A:=A) (B:=B) (M:=M)
   (by rcases q1 with ⟨_,rfl,rfl⟩ | ⟨o,rfl,_,kk,hh⟩;exact .inl ⟨rfl,rfl⟩;exact .inr ⟨kk,by simp [hh]⟩)
   (by
    rcases q2 with ⟨rfl,rfl,rfl⟩ | ⟨o,rfl,_,kk,hh⟩
    ·rcases q3 with ⟨_,rfl,_⟩ | ⟨o,_,hm,_⟩
     ·exact .inl ⟨rfl,rfl,rfl⟩
     ·rcases c4 with c4 | c4
      ·cases mx<;>simp at hm c4
      ·simp at c4
    ·exact .inr ⟨kk,by simp [hh]⟩)
   (by rcases q3 with ⟨_,rfl,rfl⟩ | ⟨o,rfl,_,kk,hh⟩;exact .inl ⟨rfl,rfl⟩;exact .inr ⟨kk,by simp [hh]⟩) g1 g2 g3
  simp only[execOp,ho,Instr.sliceAt,Sem.run_bind,run_underlying hu,Result.andThen_ok,Instr.slice,hv,hb,Vm hsz,Sem.run_pure]
 simp only[ev] at he;split at he<;>try contradiction
 ·rename_i es hq;rw[hq] at hx;obtain⟨hun,he⟩:=he;obtain⟨A,he,q1⟩:=QU h c1 he;obtain⟨B,he,q2⟩:=QU h c2 he;obtain⟨g1,g2,he⟩:=he;obtain⟨M,he,q3⟩:=QU h c3 he;obtain⟨rfl,he⟩:=he;have hv:∃ ad c,a.eval y = .slice ad es.length c/\es.length<=c:=by
   simp only[VR] at hx;generalize a.eval y=v at hx;generalize ht:Tr.sl es=t at hx;cases hx with
   | v x h=>cases ht
   | nil a c=>cases ht;exact⟨_,_,rfl,by simp⟩
   | sl b o c k es f hA hk hl hc hr=>cases ht;exact⟨_,_,rfl,hl⟩
  obtain⟨ad,c,hv,hlc⟩:=hv;have hx':Rds w (Av G st.sto w) (.slice ad es.length c) (.sl es):=by rw[<-hv];exact hx
  have hk0:A=0\/ZC k es:=by
   rcases q1 with ⟨_,_,h0⟩ | ⟨_,_,hs,_⟩
   ·exact .inl h0
   ·exact .inr (hun hs)
  rcases q3 with ⟨rfl,hm,_⟩ | ⟨o,hm,hms,kk,hh⟩
  ·have hr:=Rds.cut (k:=k) hx' g1 g2 (UaG g2 hlc) hk0;exact EvOk.pure h (key hv q1 q2 (.inl ⟨rfl,hm,rfl⟩) g1 (UaG g2 hlc) (Ual _)) (x:=.tr (.sl _)) hr (by simpa using he)
  ·have hr:=Rds.cut (k:=k) hx' g1 g2 (Ual M) hk0;have hcs:VR G st.sto w (.cs (cut es A (M-A))) (.slice (if M=A then ad else ad.map (·.add (A*k))) (M-A) (M-A)):=⟨⟨_,by rw[Xn (by omega)]⟩,hr⟩;exact EvOk.pure h (key hv q1 q2 (.inr ⟨o,hm,hms,kk,hh⟩) g1 (Ual _) (by omega)) hcs (by rw[hms] at he;simpa using he)
 ·rename_i es hq;rw[hq] at hx;obtain⟨hun,he⟩:=he;obtain⟨A,he,q1⟩:=QU h c1 he;obtain⟨B,he,q2⟩:=QU h c2 he;obtain⟨g1,g2,he⟩:=he;obtain⟨M,he,q3⟩:=QU h c3 he;obtain⟨rfl,he⟩:=he;obtain⟨⟨ad,hv⟩,hx⟩:=hx;rw[hv] at hx;have hk0:A=0\/ZC k es:=by
   rcases q1 with ⟨_,_,h0⟩ | ⟨_,_,hs,_⟩
   ·exact .inl h0
   ·exact .inr (hun hs)
  rcases q3 with ⟨rfl,hm,_⟩ | ⟨o,hm,hms,kk,hh⟩
  ·have hr:=Rds.cut (k:=k) hx g1 g2 g2 hk0;have hrun:=key hv q1 q2 (.inl ⟨rfl,hm,rfl⟩) g1 g2 (Ual _);rcases q2 with ⟨rfl,_,rfl⟩ | ⟨_,_,his,_⟩
   ·have hcs:VR G st.sto w (.cs (cut es A (es.length-A))) (.slice (if es.length=A then ad else ad.map (·.add (A*k))) (es.length-A) (es.length-A)):=⟨⟨_,by rw[Xn (by omega)]⟩,hr⟩;exact EvOk.pure h hrun hcs (by simpa using he)
   ·refine EvOk.pure h hrun (x:=.tr (.sl _)) hr ?_;have:hi.isNone=false:=by cases hi<;>simp_all
    simpa [this] using he
  ·have hr:=Rds.cut (k:=k) hx g1 g2 (Ual M) hk0;have hcs:VR G st.sto w (.cs (cut es A (M-A))) (.slice (if M=A then ad else ad.map (·.add (A*k))) (M-A) (M-A)):=⟨⟨_,by rw[Xn (by omega)]⟩,hr⟩;exact EvOk.pure h (key hv q1 q2 (.inr ⟨o,hm,hms,kk,hh⟩) g1 (Ual _) (by omega)) hcs (by rw[hms] at he;simpa using he)
 ·rename_i id p off len cap s hq;rw[hq] at hx;obtain⟨A,he,q1⟩:=QU h c1 he;obtain⟨B,he,q2⟩:=QU h c2 he;obtain⟨g1,g2,he⟩:=he;obtain⟨M,he,q3⟩:=QU h c3 he;obtain⟨g3,g4,hwid,he⟩:=he;obtain⟨⟨ad,c,hv,hlc⟩,k2,es,u,hw,ver,hs,hbd,hrel⟩:=hx;have hk:J2 p s hw ver u->∀ es' k',getp es p=some es'->(p=[]->k'=k2)->ZC k' es'->k'=k:=by
   intro hst es' k' hg hk2 hun;unfold JV at hwid;rw[hs] at hwid;simp only at hwid;split at hwid
   ·rw[hk2 rfl];exact hwid
   ·obtain⟨es3,hg3,hun3,hne⟩:=hwid;rw[hg] at hg3;cases hg3;obtain⟨e,he⟩:=UbL _ hne;rw[<-hun e he,hun3 e he]
  have Jt:∀(M':Nat) (cap':Option Nat),B<=M'->M'<=c->(J2 p s hw ver u->∀ m,cap'=some m->M' - A=m)->(cap'=none->cap=none/\M'=c) ->
    VR G st.sto w (.hd id p (off+A) (B-A) cap' s) (.slice (if M'=A then ad else ad.map (·.add (A*k))) (B-A) (M' - A)):=fun M' cap' m1 m2 m3 m4=>by
   refine⟨⟨_,_,rfl,by omega⟩,k2,es,u,hw,ver,hs,hbd,fun hst=>?_⟩;obtain⟨es',k',ad',c',hg,hkk,hun,hv',hl',hcap,hcap2,hor⟩:=hrel hst;rw[hv] at hv';cases hv';refine⟨es',k',_,M' - A,hg,hkk,hun,rfl,by omega,fun m hm=>m3 hst m hm,fun hn hp=>?_,?_⟩
   ·obtain⟨e1,e2⟩:=m4 hn;have:=hcap2 e1 hp;omega
   ·by_cases hz:M'=A
    ·exact .inl (by omega)
    ·rw[if_neg hz];rcases hor with hc0 | ⟨hp,hl0⟩ | ⟨b1,c0,hG,rfl,hle⟩
     ·omega
     ·exact .inr (.inl ⟨hp,by omega⟩)
     ·refine .inr (.inr ⟨b1,c0,hG,?_,by omega⟩);have:=hk hst es' k' hg hkk hun;subst this;simp [YJ,UaP]
  cases mx with
  | none =>
   rcases q3 with ⟨_,hm,rfl⟩ | ⟨o,_,hms,_⟩
   ·exact EvOk.pure h (key hv q1 q2 (.inl ⟨rfl,hm,rfl⟩) g1 (by omega) (Ual c)) (Jt c (cap.map (· - A)) (by omega) (Ual c) (fun hst m hm=>by
      obtain⟨_,_,_,c',_,_,_,hv',_,hcap,_⟩:=hrel hst;rw[hv] at hv';cases hv';cases cap with
      | none=>simp at hm
      | some m0 =>
       simp at hm;rw[hcap m0 rfl];exact hm) (fun hn=>by cases cap<;>simp at hn ⊢)) (by simpa using he)
   ·simp at hms
  | some mxx =>
   rcases q3 with ⟨hm,_,_⟩ | ⟨o,hm,hms,kk,hh⟩
   ·cases hm
   ·exact EvOk.pure h (key hv q1 q2 (.inr ⟨o,hm,hms,kk,hh⟩) g1 g3 (by omega)) (Jt M (some (M-A)) g3 (by omega) (fun _ m hm=>by simpa using hm) (fun hn=>by cases hn)) (by simpa using he)
theorem ZqM(h:Sim F G st a w){x:X}{lo hi:Option X}(hc:Zs P (.ss x lo hi) oper.op=true)(he:ev C (xv st.env) st.sto K (.ss x lo hi)):EvOk P G st a w K l b oper:=by
 simp only[Zs] at hc;split at hc<;>try contradiction
 rename_i t y l0 h0 m0 ho;simp only[Uae] at hc;obtain⟨⟨⟨⟨hx,c1⟩,c2⟩,c4⟩,hc⟩:=hc;split at hc<;>try contradiction
 rename_i hu;have hm0:m0=none:=by simpa using c4
 subst hm0;have hx:=h.x hx;simp only[ev] at he;split at he<;>try contradiction
 rename_i s hq;rw[hq] at hx;obtain⟨hx,_⟩:=hx.val;obtain⟨A,he,q1⟩:=QU h c1 he;obtain⟨B,he,q2⟩:=QU h c2 he;obtain⟨g1,g2,he⟩:=he
 have hb:=Zas (P:=P) (w:=w) (isS:=false) (lo:=l0.map a.eval) (hi:=h0.map a.eval) (mx:=none) (len:=s.size) (cap:=s.size) (A:=A) (B:=B) (M:=s.size)
   (by rcases q1 with ⟨_,rfl,rfl⟩ | ⟨o,rfl,_,kk,hh⟩;exact .inl ⟨rfl,rfl⟩;exact .inr ⟨kk,by simp [hh]⟩)
   (by rcases q2 with ⟨_,rfl,rfl⟩ | ⟨o,rfl,_,kk,hh⟩;exact .inl ⟨rfl,rfl,rfl⟩;exact .inr ⟨kk,by simp [hh]⟩) (.inl ⟨rfl,rfl⟩) g1 g2 (Ual _)
 refine EvOk.pure h (v:=.string (s.extract A B)) ?_ (VR.mk rfl) he;simp [execOp,ho,Instr.sliceAt,run_underlying hu,Instr.slice,hx,hb]
theorem ZiB{q:Nat}{x y:IV}{u v:Value}{t:TypeId}{Kb:Bool->Prop}(d:Nat)(hk:X6 P t q=true)(hx:VR G S w x u)(hy:VR G S w y v)(he:Xd q x y Kb) :
  ∃ r,(Op.equalIn (d+1) t u v).run P w = .ok r w/\Kb r:=by
 unfold Xd at he;split at he<;>try contradiction
 ·rename_i k a1 j b1;obtain⟨rfl,he⟩:=he;obtain⟨rfl,_⟩:=hx.val;obtain⟨rfl,_⟩:=hy.val;unfold X6 at hk;split at hk<;>try contradiction
  rename_i hq hu;cases hq;exact⟨_,run_equalIn_int w d t k _ a1 b1 hu,he⟩
 ·obtain⟨rfl,_⟩:=hx.val;obtain⟨rfl,_⟩:=hy.val;unfold X6 at hk;split at hk<;>try contradiction
  rename_i hq hu;exact⟨_,Zij d _ _ hu,he⟩
 ·rename_i a1 b1;obtain⟨rfl,_⟩:=hx.val;obtain⟨rfl,_⟩:=hy.val;unfold X6 at hk;split at hk<;>try contradiction
  rename_i hq hu;refine⟨decide (a1=b1),?_,he⟩;have:=Zii a1 b1;rw[<-beq_toListBytes] at this;simp only[Op.equalIn,Sem.run_bind,run_underlying hu,Result.andThen_ok,Sem.run_pure,this]
theorem ZbV{t:TypeId}{q:Nat}(h:X6 P t q=true):QA P t=some false:=by
 unfold X6 at h;split at h<;>try contradiction
 all_goals
  rename_i hu;simp [QA,hu]
theorem ZqN{q:Nat}{x y:IV}{Kb:Bool->Prop}(h:Xd q x y Kb):∃ b,Kb b:=by
 unfold Xd at h;split at h<;>try contradiction
 ·exact⟨_,h.2⟩
 ·exact⟨_,h⟩
 ·exact⟨_,h⟩
theorem ZiC:∀{qs:List Nat} {r s:List IV} {Kb:Bool->Prop},YN qs r s Kb->∃ b,Kb b:=by
 intro qs
 induction qs with
 | nil=>intro r s Kb h;cases r<;>cases s<;>simp only[YN] at h;exact⟨_,h⟩
 | cons q qs ih =>
  intro r s Kb h;cases r<;>cases s<;>simp only[YN] at h;obtain⟨b1,h⟩:=ZqN h;obtain⟨b2,h⟩:=ih h;exact⟨_,h⟩
theorem ZqO(d:Nat){l m:List IV}{xs ys:List Value}(hl:Zu G S w l xs)(hm:Zu G S w m ys):∀{qs:List Nat} {r s:List IV} {i:Nat} {fs:List Field} {Kb:Bool->Prop},Db P i qs fs=true ->
  l.drop i=r->m.drop i=s->YN qs r s Kb->∃ b,(Op.eqFields (d+1) xs.toArray ys.toArray fs).run P w = .ok b w/\Kb b:=by
 intro qs
 induction qs with
 | nil =>
  intro r s i fs Kb hc h1 h2 he;cases fs with
  | cons f fs=>simp [Db] at hc
  | nil =>
   cases r<;>cases s<;>simp only[YN] at he;exact⟨true,by simp [Op.eqFields],he⟩
 | cons q qs ih =>
  intro r s i fs Kb hc h1 h2 he;cases fs with
  | nil=>simp [Db] at hc
  | cons f fs =>
   cases r<;>cases s<;>simp only[YN] at he;rename_i x r y s;simp only[Db,Uae,beq_iff_eq,bne_iff_ne] at hc;obtain⟨⟨⟨ho,hn⟩,hk⟩,hc⟩:=hc;have hx:l[i]? = some x:=by have:=congrArg List.head? h1;simpa [List.head?_drop] using this
   have hy:m[i]? = some y:=(by have:=congrArg List.head? h2;simpa [List.head?_drop] using this);obtain⟨u,hu,hur⟩:=Y5 hl i x hx;obtain⟨v,hv,hvr⟩:=Y5 hm i y hy;obtain⟨b1,hb1,he⟩:=ZiB (P:=P) d hk hur hvr he;have h1':l.drop (i+1)=r:=(by rw[<-UbK,h1];rfl);have h2':m.drop (i+1)=s:=(by rw[<-UbK,h2];rfl);have hpx:(part f.type xs.toArray f.offset).run P w = .ok u w:=(by simp [part,Xj (ZbV hk),ho,hu]);have hpy:(part f.type ys.toArray f.offset).run P w = .ok v w:=(by simp [part,Xj (ZbV hk),ho,hv]);simp only[Op.eqFields,if_pos hn,Sem.run_bind,hpx,hpy,hb1,Result.andThen_ok];cases b1
   ·obtain⟨b2,he⟩:=ZiC he;exact⟨false,by simp,by simpa using he⟩
   ·obtain⟨b2,hb2,he⟩:=ih hc h1' h2' he;exact⟨b2,by simpa using hb2,by simpa using he⟩
theorem ZqP(d:Nat){l m:List IV}{xs ys:List Value}{e:TypeId}(hl:Zu G S w l xs)(hm:Zu G S w m ys)(hsz:P.cellsOf e=1):∀{qs:List Nat} {r s:List IV} {i n:Nat} {Kb:Bool->Prop},(∀ q∈qs,X6 P e q=true)->qs.length=n ->
  l.drop i=r->m.drop i=s->YN qs r s Kb->∃ b,(Op.eqItems (d+1) e (P.cellsOf e) xs.toArray ys.toArray (List.range' i n)).run P w = .ok b w/\Kb b:=by
 intro qs
 induction qs with
 | nil =>
  intro r s i n Kb hc hn h1 h2 he;simp at hn;subst hn;cases r<;>cases s<;>simp only[YN] at he;exact⟨true,by simp [Op.eqItems],he⟩
 | cons q qs ih =>
  intro r s i n Kb hc hn h1 h2 he;cases n with
  | zero=>simp at hn
  | succ n =>
   cases r<;>cases s<;>simp only[YN] at he;rename_i x r y s;have hk:=hc q (by simp);have hx:l[i]? = some x:=by have:=congrArg List.head? h1;simpa [List.head?_drop] using this
   have hy:m[i]? = some y:=(by have:=congrArg List.head? h2;simpa [List.head?_drop] using this);obtain⟨u,hu,hur⟩:=Y5 hl i x hx;obtain⟨v,hv,hvr⟩:=Y5 hm i y hy;obtain⟨b1,hb1,he⟩:=ZiB (P:=P) d hk hur hvr he;have h1':l.drop (i+1)=r:=(by rw[<-UbK,h1];rfl);have h2':m.drop (i+1)=s:=(by rw[<-UbK,h2];rfl);have hpx:(part e xs.toArray (i*P.cellsOf e)).run P w = .ok u w:=(by simp [part,Xj (ZbV hk),hsz,hu]);have hpy:(part e ys.toArray (i*P.cellsOf e)).run P w = .ok v w:=(by simp [part,Xj (ZbV hk),hsz,hv]);rw[List.range'_succ];simp only[Op.eqItems,Sem.run_bind,hpx,hpy,hb1,Result.andThen_ok];cases b1
   ·obtain⟨b2,he⟩:=ZiC he;exact⟨false,by simp,by simpa using he⟩
   ·obtain⟨b2,hb2,he⟩:=ih (fun q' hq=>hc q' (by simp [hq])) (by simpa using hn) h1' h2' he;exact⟨b2,by simpa using hb2,by simpa using he⟩
theorem ZiD{op:BinOp}{t:TypeId}{x y:Operand}{xs ys:Array Value}(h:P.eqGuardType P.depth t=false):(eqGuard op t x y (.agg xs) (.agg ys)).run P w = .ok () w:=by
 unfold eqGuard;split
 ·simp [h]
 ·simp [h]
 ·rfl
theorem ZqQ(h:Sim F G st a w){neg:Bool}{ks:List Nat}{x y:X}(hc:Zs P (.qa neg ks x y) oper.op=true)(he:ev C (xv st.env) st.sto K (.qa neg ks x y)):EvOk P G st a w K l b oper:=by
 simp only[Zs] at hc;split at hc<;>try contradiction
 rename_i op t x' y' t2 ho;simp only[Uae,decide_eq_true_eq,UaN] at hc;obtain⟨⟨⟨⟨hop,hx⟩,hy⟩,hg⟩,ht⟩:=hc;have hx:=h.x hx;have hy:=h.x hy;simp only[ev] at he;split at he<;>try contradiction
 rename_i l1 l2 hu hv;rw[hu] at hx;rw[hv] at hy;obtain⟨xs,hxv,hxs⟩:=hx;obtain⟨ys,hyv,hys⟩:=hy;have heq:∃ r,(Op.equal t (.agg xs.toArray) (.agg ys.toArray)).run P w = .ok r w/\ZH K (iB (if neg=true then !r else r)):=by
  split at ht<;>try contradiction
  ·rename_i fields hf;simp only[Uae,UaN] at ht;have hfo:P.fieldsOf t=fields:=by unfold Program.fieldsOf;rw[hf]
   obtain⟨r,hr,hK⟩:=ZqO (P:=P) 9998 hxs hys ht.2 (by simp) (by simp) he;refine⟨r,?_,hK⟩;have:=run_equalIn_struct (P:=P) w 9999 t xs.toArray ys.toArray (by rw[hfo];exact hf) ht.1;rw[hfo,hr] at this;exact this
  ·rename_i n e hf;simp only[Uae,beq_iff_eq] at ht;obtain⟨⟨hn,hk⟩,hsz⟩:=ht;obtain⟨ie,hie,hs1⟩:=X8 hsz;have hcl:P.cellsOf e=1:=by simp [Program.cellsOf,hie,hs1]
   obtain⟨r,hr,hK⟩:=ZqP (P:=P) 9998 hxs hys hcl (fun q hq=>Ube.1 hk q hq) hn (i:=0) (by simp) (by simp) he;refine⟨r,?_,hK⟩;have:=run_equalIn_array (P:=P) w 9999 xs.toArray ys.toArray hf hie;rw[List.range_eq_range',hr] at this;exact this
 obtain⟨r,hr,hK⟩:=heq;cases neg with
 | true =>
  simp only[if_true] at hop hK;subst hop;exact EvOk.pure h (v:=.bool !r) (by simp [execOp,ho,hxv,hyv,ZiD hg,binOp,hr]) (VR.mk rfl) hK
 | false =>
  simp only[Ua0,if_false] at hop hK;subst hop;exact EvOk.pure h (v:=.bool r) (by simp [execOp,ho,hxv,hyv,ZiD hg,binOp,hr]) (VR.mk rfl) hK
end ops
end Go.Fd
namespace Go.Fd
variable [Tabs]
section del
variable {G G':Gh} {S S':Zb} {w w':World} {Pd:Zd->Prop}
structure Del (S S':Zb) (Pd:Zd->Prop):Prop where
 keep:∀ i ob,S i=some ob->Pd i->S' i=some ob
 only:∀ i ob,S' i=some ob->S i=some ob/\Pd i
 bx:∀ i cells,S' i=some (.bx cells)->Zc Pd cells
theorem Del.av(d:Del S S' Pd):∀ b,Av G S w b->Av G S' w b:=fun _ hb=>⟨hb.1,fun i ob hs ho=>hb.2 i ob (d.only i ob hs).1 ho⟩
theorem Del.vr(d:Del S S' Pd)(x:IV)(v:Value)(hm:men Pd x)(h:VR G S w x v):VR G S' w x v :=
 X5 (P:=Pd) d.av (fun _ _=>rfl) (fun i ob hp hs=>⟨ob,d.keep i ob hs hp,Qg rfl ob⟩) x v hm h
theorem Del.vrs(d:Del S S' Pd)(x:List IV)(v:List Value)(hm:Zc Pd x)(h:Zu G S w x v):Zu G S' w x v :=
 QT (P:=Pd) d.av (fun _ _=>rfl) (fun i ob hp hs=>⟨ob,d.keep i ob hs hp,Qg rfl ob⟩) x v hm h
theorem Del.ok(d:Del S S' Pd)(h:SOk G S w):SOk G S' w where
 obs i ob hs:=Ut rfl d.av (fun _ _=>rfl) (fun _ _=>rfl) (fun cells vs he hv=>d.vrs cells vs (d.bx i cells (by rw[hs,he])) hv) (h.obs i ob (d.only i ob hs).1)
 dis i ob j ob' b hs hs' ho ho':=h.dis i ob j ob' b (d.only i ob hs).1 (d.only j ob' hs').1 ho ho'
 low i cells hs:=h.low i cells (d.only i _ hs).1
theorem WQ{A:Nat->Prop}(h:SOk G S w){id:Zd}{k:Nat}{es es':Row}{u:Bool}{hw ver:Nat}(hA:u=false->∀ b,Av G S w b->A b)(hs:S id=some (.ar k es u hw ver))
  (hO:∀ b,ZM G id (.ar k es u hw ver) b->A b) {p:Zn} {off len st:Nat} {cap:Option Nat} {v:Value} (hv:Vk G S id p off len cap st v) (hst:J2 p st hw ver u) (hg:getp es p=some es')
  (hl:off+len<=es'.length):Rds w A v (.sl (cut es' off len))/\∃ a c,v = .slice a len c/\∀ m,cap=some m->c=m:=by
 obtain⟨⟨a0,c0,hv0,_⟩,k2,es2,u2,hw2,ver2,hs2,_,hrel⟩:=hv;rw[hs] at hs2;cases hs2;obtain⟨es3,k',a,c,hg3,hk,hun,rfl,hlc,hcap,hcap2,hor⟩:=hrel hst;rw[hg] at hg3;cases hg3;refine⟨?_,a,c,rfl,hcap⟩;by_cases h0:len=0
 ·subst h0;rw[show cut es' off 0=[] from by simp [cut]];exact .nil _ _
 ·rcases hor with hz | ⟨_,hz⟩ | ⟨b,cc,hG,rfl,hoc⟩
  ·omega
  ·exact absurd hz h0
  ·have hr:=ZbR h hs hst hg;unfold Z7 at hr;rw[hG] at hr;obtain⟨k2,vs,ty,h1,h2,h3,h4,h5,h6⟩:=hr;have hlt:off<es'.length:=(by omega);have hm:=Uaf (Uak hlt);have hkk:k2=k':=(by rw[<-h2 _ hm,hun _ hm]);subst hkk;have hcl:(cut es' off len).length=len:=Xn hl
   have:=Rds.sl (w:=w) (A:=A) b (off*k2) c k2 (cut es' off len) (fun i j=>(vs[(off+i)*k2+j]?).getD undef) (hO b ⟨p,cc,ZbQ hst,by simp [hg],hG⟩) (fun e he=>h2 e (ZiA he)) (by omega)
    (fun i e j t he ht=>by
     rw[Df] at he;split at he<;>try contradiction
     obtain⟨x,hx,_⟩:=h6 (off+i) e j t he ht;rw[cell_of_row w b _ vs ty (0,0) h3,show off*k2+i*k2+j=(off+i)*k2+j from by rw[UaP],hx];rfl)
    (fun i e j t he ht=>by
     rw[Df] at he;split at he<;>try contradiction
     obtain⟨x,hx,hc⟩:=h6 (off+i) e j t he ht;rw[hx];exact Zep (h.obs id _ hs) hA (fun b' p' c' _ hu hs' hg' => hO b' ⟨p',c',.inr hu,hs',hg'⟩) t p (off+i) j x es' e (ZbQ hst) hg he ht hc)
   rw[hcl] at this;exact this
end del
def Uz(P:Program)(f:FuncId):Prop:=∃ fn,P.funcs[f]? = some fn/\fn.body.isSome=true/\(fn.name == "runtime.NumGoroutine")=false
def Sem(P:Program):ZJ:=fun f lvl args S r S' =>
 low lvl r/\Uz P f/\((∀ id ob,S id=some ob->id.1<lvl)->∀(G:Gh) (w:World) (vs:List Value),SOk G S w->Zu G S w args vs->Fix G S w ->
 Calls P f vs.toArray w fun e w' => ∃ v G',e = .returned v/\SOk G' (ZW S' lvl 0 (impv true lvl 0 0 r).2) w'/\VR G' (ZW S' lvl 0 (impv true lvl 0 0 r).2) w' (impv true lvl 0 0 r).1 v /\
  (∀ id ob,S' id=some ob->id.1<lvl)/\Frm ⟨G,S,w,lvl,0⟩ G' (ZW S' lvl 0 (impv true lvl 0 0 r).2) w')
end Go.Fd
namespace Go.Fd
variable [Tabs]
section ren
variable {G G1 G2:Gh} {S S1 S2:Zb} {w:World} {τ:Zd->Zd} {Pd:Zd->Prop}
structure Ren (G1:Gh) (S1:Zb) (G2:Gh) (S2:Zb) (τ:Zd->Zd) (Pd:Zd->Prop):Prop where
 live:∀ i ob,S2 i=some ob->S1 (τ i)=some ob
 gh:∀ i ob,S2 i=some ob->G2 i=G1 (τ i)
 inj:∀ i j ob ob',S2 i=some ob->S2 j=some ob'->τ i=τ j->i=j
 fix:∀ i ob,Pd i->S1 i=some ob->S2 i=some ob/\τ i=i
 bx:∀ i cells,S2 i=some (.bx cells)->Zc Pd cells/\Jk (i.1+1) cells
theorem WR{i j:Zd}{ob:Ob}{b:Nat}(h:G2 i=G1 j):ZM G2 i ob b↔ZM G1 j ob b:=by cases ob<;>simp only[ZM,h]
theorem Ren.av(r:Ren G1 S1 G2 S2 τ Pd)(b:Nat)(hb:Av G1 S1 w b):Av G2 S2 w b :=
 ⟨hb.1,fun i ob hs ho=>hb.2 (τ i) ob (r.live i ob hs) ((WR (r.gh i ob hs)).1 ho)⟩
theorem Ren.ids(r:Ren G1 S1 G2 S2 τ Pd)(i:Zd)(ob:Ob)(hp:Pd i)(hs:S1 i=some ob):∃ ob',S2 i=some ob'/\idR G1 G2 i ob ob':=by obtain⟨h1,h2⟩:=r.fix i ob hp hs;exact⟨ob,h1,Qg (by rw[r.gh i ob h1,h2]) ob⟩
theorem Ren.vr(r:Ren G1 S1 G2 S2 τ Pd)(x:IV)(v:Value)(hm:men Pd x)(h:VR G1 S1 w x v):VR G2 S2 w x v :=
 X5 (P:=Pd) r.av (fun _ _=>rfl) r.ids x v hm h
theorem Ren.vrs(r:Ren G1 S1 G2 S2 τ Pd)(x:List IV)(v:List Value)(hm:Zc Pd x)(h:Zu G1 S1 w x v):Zu G2 S2 w x v :=
 QT (P:=Pd) r.av (fun _ _=>rfl) r.ids x v hm h
theorem ZbW{A A':Nat->Prop}{i j:Zd}{p:Zn}{k:Nat}{u:Bool}{es:Row}(hG:G2 i=G1 j)(hA:∀ b,A b->A' b)(h:Z7 G1 w A j p k u es):Z7 G2 w A' i p k u es:=by
 unfold Z7 at *;rw[hG];cases hg:G1 j p with
 | none=>simpa [hg] using h
 | some bc =>
  obtain⟨b,c⟩:=bc;simp only[hg] at h ⊢;obtain⟨k',vs,ty,h1,h2,h3,h4,h5,h6⟩:=h;refine⟨k',vs,ty,h1,h2,h3,h4,h5,fun i' e f t he hf=>?_⟩;obtain⟨x,hx,hc⟩:=h6 i' e f t he hf;refine⟨x,hx,?_⟩;cases t with
  | v y=>exact hc
  | sl es2 =>
   simp only[Jl] at hc ⊢;rw[hG];split
   ·rename_i hu;simpa [hu] using hc
   ·rename_i hu;exact Rds.mono hA (fun _ _=>rfl) (by simpa [hu] using hc)
theorem Ren.ok(r:Ren G1 S1 G2 S2 τ Pd)(h:SOk G1 S1 w):SOk G2 S2 w where
 obs i ob hs:=by
  have h1:=h.obs (τ i) ob (r.live i ob hs);have hG:=r.gh i ob hs;cases ob with
  | bx cells =>
   obtain⟨b,c,vs,ty,g1,g2,g3⟩:=h1;exact⟨b,c,vs,ty,by rw[hG];exact g1,g2,r.vrs cells _ (r.bx i cells hs).1 g3⟩
  | mp l =>
   obtain⟨b,c,es,ck,g1,g2,g3⟩:=h1;exact⟨b,c,es,ck,by rw[hG];exact g1,g2,g3⟩
  | ar k es u hw ver =>
   obtain⟨g1,g2,g3,g4,g5⟩:=h1;exact⟨g1,g2,by rw[hG];exact g3,fun p es' hp he=>ZbW hG r.av (g4 p es' hp he),by rw[hG];exact g5⟩
 dis i ob j ob' b hs hs' ho ho':=r.inj i j ob ob' hs hs' (h.dis _ _ _ _ b (r.live i ob hs) (r.live j ob' hs') ((WR (r.gh i ob hs)).1 ho) ((WR (r.gh j ob' hs')).1 ho'))
 low i cells hs:=(r.bx i cells hs).2
def ZbX(obs:List Ob):Prop:=∀ ob∈obs,∃ k es u,ob = .ar k es u es.length 0
mutual
theorem Zat(l b l' b' j:Nat):∀ r,(impv true l b j r).2=(impv true l' b' j r).2
 | .ow k es u=>rfl
 | .ag xs=>by simp only[impv];exact ZeE l b l' b' j xs
 | .tu xs=>by simp only[impv];exact ZeE l b l' b' j xs
 | .un | .tr _ | .cs _ | .hd .. | .ab .. | .sv _ | .ae .. | .ta _ | .fn .. | .er=>by simp only[impv]
theorem ZeE(l b l' b' j:Nat):∀ r,(impvs true l b j r).2=(impvs true l' b' j r).2
 | []=>rfl
 | x::r=>by simp only[impvs];rw[Zat l b l' b' j x,ZeE l b l' b' _ r]
end
mutual
theorem ZeF(l b j:Nat):∀ r,ZbX (impv true l b j r).2
 | .ow k es u=>by intro ob h;simp [impv,impc] at h;exact⟨k,es,u,h⟩
 | .ag xs=>by simp only[impv];exact ZeG l b j xs
 | .tu xs=>by simp only[impv];exact ZeG l b j xs
 | .un | .tr _ | .cs _ | .hd .. | .ab .. | .sv _ | .ae .. | .ta _ | .fn .. | .er=>by simp only[impv];intro ob h;simp at h
theorem ZeG(l b j:Nat):∀ r,ZbX (impvs true l b j r).2
 | []=>by simp only[impvs];intro ob h;simp at h
 | x::r=>by
  simp only[impvs];intro ob h;rcases Uaq.1 h with h | h
  ·exact ZeF l b j x ob h
  ·exact ZeG l b _ r ob h
end
mutual
theorem ZbY(l b j:Nat):∀ r,(impv false l b j r).2=[]
 | .ow k es u=>rfl
 | .ag xs=>by simp only[impv];exact ZeH l b j xs
 | .tu xs=>by simp only[impv];exact ZeH l b j xs
 | .un | .tr _ | .cs _ | .hd .. | .ab .. | .sv _ | .ae .. | .ta _ | .fn .. | .er=>by simp only[impv]
theorem ZeH(l b j:Nat):∀ r,(impvs false l b j r).2=[]
 | []=>rfl
 | x::r=>by simp only[impvs,ZbY l b j x,ZeH l b _ r,Ubm]
end
mutual
theorem ZiE{L l b:Nat}(hl:l<L)(hS:∀ j ob,S1 (L,j)=some ob->S2 (l,b+j)=some ob/\G2 (l,b+j)=G1 (L,j))(hv:∀ x v,low L x->VR G1 S1 w x v->VR G2 S2 w x v) :
  ∀(r:IV) (j:Nat) (v:Value),VR G1 S1 w (impv true L 0 j r).1 v->low L (impv true l b j r).1->VR G2 S2 w (impv true l b j r).1 v
 | .ow k es u,j,v,h,_=>by simp only[impv,impc,if_true,Uax,VR] at h ⊢;obtain⟨h0,k2,es2,u2,hw2,ver2,hs,hbd,hrel⟩:=h;obtain⟨h1,h2⟩:=hS j _ hs;exact⟨h0,k2,es2,u2,hw2,ver2,h1,hbd,fun hst=>by rw[h2];exact hrel hst⟩
 | .ag xs,j,v,h,hm=>by simp only[impv,VR,men] at *;obtain⟨vs,hv',hvs⟩:=h;exact⟨vs,hv',ZeI hl hS hv xs j vs hvs hm⟩
 | .tu xs,j,v,h,hm=>by simp only[impv,VR,men] at *;obtain⟨vs,hv',hvs⟩:=h;exact⟨vs,hv',ZeI hl hS hv xs j vs hvs hm⟩
 | .un,j,v,h,hm=>by simp only[impv] at *;exact hv _ _ hm h
 | .tr _,j,v,h,hm=>by simp only[impv] at *;exact hv _ _ hm h
 | .cs _,j,v,h,hm=>by simp only[impv] at *;exact hv _ _ hm h
 | .hd ..,j,v,h,hm=>by simp only[impv] at *;exact hv _ _ hm h
 | .sv _,j,v,h,hm=>by simp only[impv] at *;exact hv _ _ hm h
 | .ab ..,j,v,h,hm=>by simp only[impv] at *;exact hv _ _ hm h
 | .ae ..,j,v,h,hm=>by simp only[impv] at *;exact hv _ _ hm h
 | .ta _,j,v,h,hm=>by simp only[impv] at *;exact hv _ _ hm h
 | .fn ..,j,v,h,hm=>by simp only[impv] at *;exact hv _ _ hm h
 | .er,j,v,h,hm=>by simp only[impv] at *;exact hv _ _ hm h
theorem ZeI{L l b:Nat}(hl:l<L)(hS:∀ j ob,S1 (L,j)=some ob->S2 (l,b+j)=some ob/\G2 (l,b+j)=G1 (L,j))(hv:∀ x v,low L x->VR G1 S1 w x v->VR G2 S2 w x v) :
  ∀(r:List IV) (j:Nat) (vs:List Value),Zu G1 S1 w (impvs true L 0 j r).1 vs->Jk L (impvs true l b j r).1->Zu G2 S2 w (impvs true l b j r).1 vs
 | [],j,vs,h,_=>by simp only[impvs,Zu] at *;exact h
 | x::r,j,vs,h,hm=>by simp only[impvs,Zu,Zc] at h hm ⊢;obtain⟨v,vr,rfl,h1,h2⟩:=h;refine⟨v,vr,rfl,ZiE hl hS hv x j v h1 hm.1,?_⟩;rw[Zat l b L 0 j x] at hm ⊢;exact ZeI hl hS hv r _ vr h2 hm.2
end
mutual
theorem ZiF{L l b:Nat}{imp:Bool}(hl:l<L):∀(r:IV) (j:Nat),low L r->low L (impv imp l b j r).1
 | .ow k es u,j,_=>by
  simp only[impv,impc];split
  ·exact hl
  ·trivial
 | .ag xs,j,hm=>by simp only[impv,men] at *;exact ZeJ hl xs j hm
 | .tu xs,j,hm=>by simp only[impv,men] at *;exact ZeJ hl xs j hm
 | .un,j,hm=>by simp only[impv];exact hm
 | .tr _,j,hm=>by simp only[impv];exact hm
 | .cs _,j,hm=>by simp only[impv];exact hm
 | .hd ..,j,hm=>by simp only[impv];exact hm
 | .ab ..,j,hm=>by simp only[impv];exact hm
 | .sv _,j,hm=>by simp only[impv];exact hm
 | .ae ..,j,hm=>by simp only[impv];exact hm
 | .ta _,j,hm=>by simp only[impv];exact hm
 | .fn ..,j,hm=>by simp only[impv];exact hm
 | .er,j,hm=>by simp only[impv];exact hm
theorem ZeJ{L l b:Nat}{imp:Bool}(hl:l<L):∀(r:List IV) (j:Nat),Jk L r->Jk L (impvs imp l b j r).1
 | [],j,_=>by simp only[impvs];trivial
 | x::r,j,hm=>by simp only[impvs,Zc] at hm ⊢;exact⟨ZiF hl x j hm.1,ZeJ hl r _ hm.2⟩
end
end ren
end Go.Fd
namespace Go.Fd
variable [Tabs]
section call
variable {P:Program} {G:Gh} {S:Zb} {w:World} {l b:Nat}
theorem ZqR{obs:List Ob}{S:Zb}{L:Nat}(hcl:∀ id ob,S id=some ob->id.1<L){j:Nat}{ob:Ob}(h:ZW S L 0 obs (L,j)=some ob):obs[j]? = some ob:=by
 rcases Xk obs S L 0 (L,j) ob h with h | ⟨j',_,h1,h2⟩
 ·have:=hcl _ _ h;simp at this
 ·have:=congrArg Prod.snd h1;simp at this;subst this;exact h2
theorem ZiG{S:Zb}{L n:Nat}(hcl:∀ id ob,S id=some ob->id.1<L):YR S L 0 n:=fun j _=>by
 cases hs:S (L,0+j) with
 | none=>rfl
 | some ob=>have:=hcl _ _ hs;simp at this
theorem ZqS{G1:Gh}{S0:Zb}{r:IV}{v:Value}{w':World}(hr:low (l+1) r)(hcl:∀ id ob,S id=some ob->id.1<l+1)
  (h1:SOk G1 (ZW S (l+1) 0 (impv true (l+1) 0 0 r).2) w') (h2:VR G1 (ZW S (l+1) 0 (impv true (l+1) 0 0 r).2) w' (impv true (l+1) 0 0 r).1 v)
  (h3:Frm ⟨G,S0,w,l+1,0⟩ G1 (ZW S (l+1) 0 (impv true (l+1) 0 0 r).2) w') (hf:YR S l b (impv true l b 0 r).2.length) :
  Zap G S0 S w l b (impv true l b 0 r).1 (impv true l b 0 r).2 v w':=by
 have hobs:(impv true (l+1) 0 0 r).2=(impv true l b 0 r).2:=Zat _ _ _ _ _ r;rw[hobs] at h1 h2 h3;have har:ZbX (impv true l b 0 r).2:=ZeF l b 0 r;generalize hg:(impv true l b 0 r).2=obs at *;let τ:Zd->Zd:=fun i=>if i.1=l/\b<=i.2/\i.2<b+obs.length then (l+1,i.2-b) else i
 let G2:Gh:=fun i=>G1 (τ i);have hτS:∀ i ob,S i=some ob->τ i=i:=fun i ob hs=>by
  simp only[τ];rw[if_neg]
  rintro⟨g1,g2,g3⟩
  have:=Uy (j:=i.2-b) (hf (i.2-b) (by omega)) hs;apply this;rw[show b+(i.2-b)=i.2 from by omega,<-g1]
 have hτN:∀ j,j<obs.length->τ (l,b+j)=(l+1,j):=fun j hj=>by simp only[τ];rw[if_pos ⟨trivial,by omega,by omega⟩,show b+j-b=j from by omega]
 have hS1:=Ux obs S (l+1) 0 (ZiG hcl);have hS2:=Ux obs S l b hf;have hcase:∀ i ob,ZW S l b obs i=some ob->S i=some ob\/∃ j,j<obs.length/\i=(l,b+j)/\obs[j]? = some ob:=Xk obs S l b;have ren:Ren G1 (ZW S (l+1) 0 obs) G2 (ZW S l b obs) τ (fun i=>i.1<l+1):=by
  refine⟨fun i ob hs=>?_,fun i ob _=>rfl,fun i j ob ob' hs hs' he=>?_,fun i ob hp hs=>?_,fun i cells hs=>?_⟩
  ·rcases hcase i ob hs with h | ⟨j,hj,rfl,ho⟩
   ·rw[hτS i ob h];exact hS1 i ob h
   ·rw[hτN j hj];have:=Xl obs S (l+1) 0 j ob ho;rwa [Uax] at this
  ·rcases hcase i ob hs with h | ⟨j1,hj1,rfl,_⟩<;>rcases hcase j ob' hs' with h' | ⟨j2,hj2,rfl,_⟩
   ·rw[hτS i ob h,hτS j ob' h'] at he;exact he
   ·rw[hτS i ob h,hτN j2 hj2] at he;have:=hcl i ob h;rw[he] at this;simp at this
   ·rw[hτS j ob' h',hτN j1 hj1] at he;have:=hcl j ob' h';rw[<-he] at this;simp at this
   ·rw[hτN j1 hj1,hτN j2 hj2] at he;have:=congrArg Prod.snd he;simp at this;rw[this]
  ·rcases Xk obs S (l+1) 0 i ob hs with h | ⟨j,_,rfl,_⟩
   ·exact⟨hS2 i ob h,hτS i ob h⟩
   ·simp at hp
  ·rcases hcase i _ hs with h | ⟨j,_,rfl,ho⟩
   ·have hl:=h1.low i cells (hS1 i _ h);have:=hcl i _ h;exact⟨JK (fun k (hk:k.1<i.1+1)=>by omega) cells hl,hl⟩
   ·obtain⟨k,es,u,he⟩:=har _ (Uaf ho);cases he
 refine⟨G2,ren.ok h1,?_,h3.size,h3.old,fun i ob blk hs ho=>?_,h3.os,h3.tape,h3.output,fun x u hl hv=>ren.vr x u hl (h3.stab x u hl hv)⟩
 ·refine ZiE (L:=l+1) (Ua2 l) (fun j ob hs=>?_) (fun x u hl hv=>ren.vr x u hl hv) r 0 v h2 (ZiF (Ua2 l) r 0 hr);have ho:=ZqR hcl hs;have hj:=(Uad.1 ho).1;exact⟨Xl obs S l b j ob ho,by simp only[G2];rw[hτN j hj]⟩
 ·have hown:=(WR (ren.gh i ob hs)).1 ho;exact h3.own (τ i) ob blk (ren.live i ob hs) hown
mutual
theorem ZqT(l b j j':Nat):∀ r,(impv false l b j r).1=(impv false l b j' r).1
 | .ow k es u=>rfl
 | .ag xs=>by simp only[impv];rw[Zau l b j j' xs]
 | .tu xs=>by simp only[impv];rw[Zau l b j j' xs]
 | .un | .tr _ | .cs _ | .hd .. | .ab .. | .sv _ | .ae .. | .ta _ | .fn .. | .er=>by simp only[impv]
theorem Zau(l b j j':Nat):∀ r,(impvs false l b j r).1=(impvs false l b j' r).1
 | []=>rfl
 | x::r=>by simp only[impvs];rw[ZqT l b j j' x,Zau l b _ (j'+(impv false l b j' x).2.length) r]
end
mutual
theorem ZiH{G1:Gh}{S1:Zb}{w':World}{L l b:Nat}(h1:SOk G1 S1 w')(hA:∀ blk,Av G1 S1 w' blk->Av G1 S w' blk)
  (hO:∀ j ob blk,S1 (L,j)=some ob->ZM G1 (L,j) ob blk->Av G1 S w' blk) (hv:∀ x v,low L x->VR G1 S1 w' x v->VR G1 S w' x v) :
  ∀(r:IV) (j:Nat) (v:Value),low L r->(∀ m ob,(impv true L 0 j r).2[m]? = some ob->S1 (L,j+m)=some ob)->VR G1 S1 w' (impv true L 0 j r).1 v->VR G1 S w' (impv false l b j r).1 v
 | .ow k es u,j,v,_,ho,h=>by have hs:S1 (L,j)=some (.ar k es u es.length 0):=ho 0 _ rfl;simp only[impv,impc,if_true,Uax,VR,Ua0,if_false] at h ⊢;have:=(WQ (A:=Av G1 S w') h1 (fun _=>hA) hs (fun blk hb=>hO j _ blk hs hb) h rfl rfl (by simp)).1;simpa [cut] using this
 | .ag xs,j,v,hm,ho,h=>by simp only[impv,VR,men] at *;obtain⟨vs,hv',hvs⟩:=h;exact⟨vs,hv',ZeK h1 hA hO hv xs j vs hm ho hvs⟩
 | .tu xs,j,v,hm,ho,h=>by simp only[impv,VR,men] at *;obtain⟨vs,hv',hvs⟩:=h;exact⟨vs,hv',ZeK h1 hA hO hv xs j vs hm ho hvs⟩
 | .un,j,v,hm,_,h=>by simp only[impv] at *;exact hv _ _ hm h
 | .tr _,j,v,hm,_,h=>by simp only[impv] at *;exact hv _ _ hm h
 | .cs _,j,v,hm,_,h=>by simp only[impv] at *;exact hv _ _ hm h
 | .hd ..,j,v,hm,_,h=>by simp only[impv] at *;exact hv _ _ hm h
 | .ab ..,j,v,hm,_,h=>by simp only[impv] at *;exact hv _ _ hm h
 | .sv _,j,v,hm,_,h=>by simp only[impv] at *;exact hv _ _ hm h
 | .ae ..,j,v,hm,_,h=>by simp only[impv] at *;exact hv _ _ hm h
 | .ta _,j,v,hm,_,h=>by simp only[impv] at *;exact hv _ _ hm h
 | .fn ..,j,v,hm,_,h=>by simp only[impv] at *;exact hv _ _ hm h
 | .er,j,v,hm,_,h=>by simp only[impv] at *;exact hv _ _ hm h
theorem ZeK{G1:Gh}{S1:Zb}{w':World}{L l b:Nat}(h1:SOk G1 S1 w')(hA:∀ blk,Av G1 S1 w' blk->Av G1 S w' blk)
  (hO:∀ j ob blk,S1 (L,j)=some ob->ZM G1 (L,j) ob blk->Av G1 S w' blk) (hv:∀ x v,low L x->VR G1 S1 w' x v->VR G1 S w' x v) :
  ∀(r:List IV) (j:Nat) (vs:List Value),Jk L r->(∀ m ob,(impvs true L 0 j r).2[m]? = some ob->S1 (L,j+m)=some ob)->Zu G1 S1 w' (impvs true L 0 j r).1 vs->Zu G1 S w' (impvs false l b j r).1 vs
 | [],j,vs,_,_,h=>by simp only[impvs,Zu] at *;exact h
 | x::r,j,vs,hm,ho,h=>by
  simp only[impvs,Zu,Zc] at h hm ho ⊢;obtain⟨v,vr,rfl,g1,g2⟩:=h;refine⟨v,vr,rfl,ZiH h1 hA hO hv x j v hm.1 (fun m ob hmo=>ho m ob ?_) g1,?_⟩
  ·rw[Uav (Uad.1 hmo).1];exact hmo
  ·have hn:(impv false l b j x).2=[]:=ZbY l b j x;rw[hn];have key:∀ j',(impvs false l b (j+([]:List Ob).length) r).1=(impvs false l b j' r).1:=fun j' => Zau l b _ j' r;rw[key (j+(impv true L 0 j x).2.length)];refine ZeK h1 hA hO hv r _ vr hm.2 (fun m ob hmo=>?_) g2;have:=ho ((impv true L 0 j x).2.length+m) ob (by rw[Uas (by omega)];simpa using hmo);rwa [<-Ubc] at this
end
end call
end Go.Fd
namespace Go.Fd
variable [Tabs]
section call
variable {P:Program} {F:Fr} {G:Gh} {S:Zb} {st:St} {a:Act} {w:World} {K:Yc} {l b:Nat} {oper:Oper}
theorem ZqU{G1:Gh}{S0:Zb}{r:IV}{v:Value}{w':World}(hr:low (l+1) r)(hcl:∀ id ob,S id=some ob->id.1<l+1)
  (h1:SOk G1 (ZW S (l+1) 0 (impv true (l+1) 0 0 r).2) w') (h2:VR G1 (ZW S (l+1) 0 (impv true (l+1) 0 0 r).2) w' (impv true (l+1) 0 0 r).1 v)
  (h3:Frm ⟨G,S0,w,l+1,0⟩ G1 (ZW S (l+1) 0 (impv true (l+1) 0 0 r).2) w'):Zap G S0 S w l b (impv false l b 0 r).1 (impv false l b 0 r).2 v w':=by
 have hS1:=Ux (impv true (l+1) 0 0 r).2 S (l+1) 0 (ZiG hcl);have har:ZbX (impv true (l+1) 0 0 r).2:=ZeF _ _ 0 r;have hat:=fun(j:Nat) (ob:Ob) (ho:(impv true (l+1) 0 0 r).2[j]? = some ob)=>Xl (impv true (l+1) 0 0 r).2 S (l+1) 0 j ob ho;generalize hg:(impv true (l+1) 0 0 r).2=obs at *;have del:Del (ZW S (l+1) 0 obs) S (fun i=>i.1<l+1):=by
  refine⟨fun i ob hs hp=>?_,fun i ob hs=>⟨hS1 i ob hs,hcl i ob hs⟩,fun i cells hs=>?_⟩
  ·rcases Xk obs S (l+1) 0 i ob hs with h | ⟨j,_,rfl,_⟩
   ·exact h
   ·simp at hp
  ·have hl:=h1.low i cells (hS1 i _ hs);have:=hcl i _ hs;exact JK (fun k (hk:k.1<i.1+1)=>by omega) cells hl
 rw[ZbY];refine⟨G1,del.ok h1,?_,h3.size,h3.old,fun i ob blk hs ho=>h3.own i ob blk (hS1 i ob hs) ho,h3.os,h3.tape,h3.output,fun x u hl hv=>del.vr x u hl (h3.stab x u hl hv)⟩;refine ZiH (L:=l+1) (S1:=ZW S (l+1) 0 obs) h1 (fun blk hb=>del.av blk hb) (fun j ob blk hs ho=>⟨Ys (h1.obs _ _ hs) ho,fun i ob' hs' ho' => ?_⟩) (fun x u hl hv=>del.vr x u hl hv) r 0 v hr (fun m ob hmo=>?_) h2
 ·have:=h1.dis _ _ _ _ blk hs (hS1 i ob' hs') ho ho';have h4:=hcl i ob' hs';rw[<-this] at h4;simp at h4
 ·rw[hg] at hmo;exact hat m ob hmo
theorem Zav{G1:Gh}{S0:Zb}{r:IV}{v:Value}{w':World}{imp:Bool}(hr:low (l+1) r)(hcl:∀ id ob,S id=some ob->id.1<l+1)
  (h1:SOk G1 (ZW S (l+1) 0 (impv true (l+1) 0 0 r).2) w') (h2:VR G1 (ZW S (l+1) 0 (impv true (l+1) 0 0 r).2) w' (impv true (l+1) 0 0 r).1 v)
  (h3:Frm ⟨G,S0,w,l+1,0⟩ G1 (ZW S (l+1) 0 (impv true (l+1) 0 0 r).2) w') (hf:YR S l b (impv imp l b 0 r).2.length):Zap G S0 S w l b (impv imp l b 0 r).1 (impv imp l b 0 r).2 v w':=by
 cases imp
 ·exact ZqU hr hcl h1 h2 h3
 ·exact ZqS hr hcl h1 h2 h3 hf
mutual
theorem ZqV(hS:SOk G S w):∀(x:IV) (v:Value) (Ks:IV->Prop),men (fun _=>False) x->VR G S w x v->Jc S x Ks->∃ y,Ks y/\VR G S w y v
 | .un,v,Ks,_,h,hk=>⟨_,hk,h⟩
 | .tr t,v,Ks,_,h,hk=>⟨_,hk,h⟩
 | .cs es,v,Ks,_,h,hk=>⟨_,hk,h.2⟩
 | .hd ..,v,Ks,hm,h,hk=>hm.elim
 | .ab ..,v,Ks,hm,h,hk=>hm.elim
 | .sv _,v,Ks,hm,h,hk=>hm.elim
 | .ae ..,v,Ks,hm,h,hk=>hm.elim
 | .ta _,v,Ks,_,h,hk=>⟨_,hk,h⟩
 | .ag l,v,Ks,hm,h,hk=>by simp only[Jc,VR,men] at *;obtain⟨vs,rfl,hvs⟩:=h;obtain⟨l',hk,hl'⟩:=ZbZ hS l vs _ hm hvs hk;exact⟨_,hk,by simp only[VR];exact⟨vs,rfl,hl'⟩⟩
 | .tu l,v,Ks,_,_,hk=>by simp only[Jc] at hk
 | .fn f c,v,Ks,hm,h,hk=>by simp only[Jc,VR,men] at *;obtain⟨vs,rfl,hvs⟩:=h;obtain⟨l',hk,hl'⟩:=ZbZ hS c vs _ hm hvs hk;exact⟨_,hk,by simp only[VR];exact⟨vs,rfl,hl'⟩⟩
 | .ow ..,v,Ks,_,h,_=>by simp only[VR] at h
 | .er,v,Ks,_,h,hk=>⟨_,hk,h⟩
theorem ZbZ(hS:SOk G S w):∀(l:List IV) (vs:List Value) (Ks:List IV->Prop),Zc (fun _=>False) l->Zu G S w l vs->Z5 S l Ks->∃ l',Ks l'/\Zu G S w l' vs
 | [],vs,Ks,_,h,hk=>⟨[],hk,h⟩
 | x::r,vs,Ks,hm,h,hk=>by simp only[Z5,Zu,Zc] at *;obtain⟨v,vr,rfl,h1,h2⟩:=h;obtain⟨y,hk,hy⟩:=ZqV hS x v _ hm.1 h1 hk;obtain⟨l',hk,hl'⟩:=ZbZ hS r vr _ hm.2 h2 hk;exact⟨y::l',hk,v,vr,rfl,hy,hl'⟩
end
theorem QV{G0:Gh}(b:Nat)(hb:b<w.heap.size):Av G0 noS w b:=⟨hb,fun i ob hs=>by cases hs⟩
theorem ZiI:∀(n:Nat) {l:List IV} {vs:List Value},Zu G S w l vs->Zu G S w (l.drop n) (vs.drop n)
 | 0,_,_,h=>h
 | n+1,[],vs,h=>by simp only[Zu] at h;subst h;exact rfl
 | n+1,x::r,vs,h=>by simp only[Zu] at h;obtain⟨v,vr,rfl,_,h2⟩:=h;exact ZiI n h2
theorem ZiJ{G0:Gh}(hS:SOk G S w):∀(l:List IV) (vs:List Value) (Ks:List Tr->Prop),Zu G S w l vs->YM S l Ks->∃ ts,Ks ts/\(ts.length=vs.length/\∀(j:Nat) (t:Tr) (v:Value),ts[j]? = some t->vs[j]? = some v->Rds w (Av G0 noS w) v t)
 | [],vs,Ks,h,hk=>by simp only[Zu] at h;subst h;exact⟨[],hk,rfl,fun j t v ht=>by simp at ht⟩
 | x::r,vs,Ks,h,hk=>by
  simp only[YM,Zu] at *;obtain⟨v,vr,rfl,h1,h2⟩:=h;have Jt:∀(t:Tr),Rds w (Av G0 noS w) v t->(YM S r fun ts=>Ks (t::ts))->∃ ts,Ks ts/\(ts.length=(v::vr).length/\∀(j:Nat) (t:Tr) (u:Value),ts[j]? = some t->(v::vr)[j]? = some u->Rds w (Av G0 noS w) u t):=fun t ht hk=>by
   obtain⟨ts,hk,hl,hr⟩:=ZiJ hS r vr _ h2 hk;refine⟨t::ts,hk,by simp [hl],fun j t' u h3 h4=>?_⟩;cases j with
   | zero=>simp at h3 h4;subst h3 h4;exact ht
   | succ j=>exact hr j t' u (by simpa using h3) (by simpa using h4)
  cases x with
  | tr t=>exact Jt t (Rds.mono (fun b hb=>QV b hb.1) (fun _ _=>rfl) h1) hk
  | cs es=>exact Jt _ (Rds.mono (fun b hb=>QV b hb.1) (fun _ _=>rfl) h1.2) hk
  | hd id p off len cap st =>
   simp only[VT,JU,VR] at *;split at hk<;>try contradiction
   rename_i k es u hw ver hs;obtain⟨es',hg,hst,hl,hk⟩:=hk;exact Jt _ (WQ hS (fun _ b hb=>QV b hb.1) hs (fun b hb=>QV b (Ys (hS.obs _ _ hs) hb)) h1 hst hg hl).1 hk
  | _=>simp only[VT] at hk
mutual
theorem ZqW{G0:Gh}(hS:SOk G S w):∀(x:IV) (v:Value) (Ks:IV->Prop),VR G S w x v->Jc S x Ks->∃ y,Ks y/\VR G0 noS w y v
 | .un,v,Ks,h,hk=>⟨_,hk,trivial⟩
 | .tr t,v,Ks,h,hk=>⟨_,hk,Rds.mono (fun b hb=>QV b hb.1) (fun _ _=>rfl) h⟩
 | .cs es,v,Ks,h,hk=>⟨_,hk,Rds.mono (fun b hb=>QV b hb.1) (fun _ _=>rfl) h.2⟩
 | .hd id p off len cap st,v,Ks,h,hk=>by
  simp only[Jc,JU,VR] at *;split at hk<;>try contradiction
  rename_i k es u hw ver hs;obtain⟨es',hg,hst,hl,hk⟩:=hk;exact⟨_,hk,by simp only[VR];exact(WQ hS (fun _ b hb=>QV b hb.1) hs (fun b hb=>QV b (Ys (hS.obs _ _ hs) hb)) h hst hg hl).1⟩
 | .ab id off,v,Ks,h,hk=>by
  simp only[Jc,Xc,VR] at *;split at hk<;>try contradiction
  rename_i cells hs;obtain⟨cells',b,c,hs',hg,rfl⟩:=h;rw[hs] at hs';cases hs';have hlt:=Ys (hS.obs _ _ hs) ⟨c,hg⟩;obtain⟨b',c',vs,ty,hb1,hb2,hvs⟩:=hS.obs _ _ hs;rw[hg] at hb1;cases hb1;obtain⟨ts,hk,hts⟩:=ZiJ (G0:=G0) hS (cells.drop off) (vs.toList.drop off) _ (ZiI off hvs) hk;refine⟨_,hk,?_⟩;simp only[VR];have hl:ts.length=(vs.toList.drop off).length:=hts.1;refine⟨b,off,fun j=>(vs[off+j]?).getD undef,QV b hlt,rfl,fun j t ht=>?_⟩;have hj:j<(vs.toList.drop off).length:=by rw[<-hl];exact(Uad.1 ht).1
  have hv:(vs.toList.drop off)[j]? = some ((vs[off+j]?).getD undef):=by
   rw[UaM,Array.getElem?_toList];have:off+j<vs.size:=by simp at hj;omega
   simp [this]
  refine⟨?_,hts.2 j t _ ht hv⟩;rw[cell_of_row w b (off+j) vs ty (0,0) hb2];rw[UaM,Array.getElem?_toList] at hv;exact hv
 | .sv _,v,Ks,_,hk=>by simp only[Jc] at hk
 | .ae ..,v,Ks,_,hk=>by simp only[Jc] at hk
 | .ta _,v,Ks,h,hk=>⟨_,hk,Zie (fun b hb=>QV b hb.1) (fun _ _=>rfl) h⟩
 | .ag l,v,Ks,h,hk=>by simp only[Jc,VR] at *;obtain⟨vs,rfl,hvs⟩:=h;obtain⟨l',hk,hl'⟩:=Zb0 (G0:=G0) hS l vs _ hvs hk;exact⟨_,hk,by simp only[VR];exact⟨vs,rfl,hl'⟩⟩
 | .tu l,v,Ks,_,hk=>by simp only[Jc] at hk
 | .fn f c,v,Ks,h,hk=>by simp only[Jc,VR] at *;obtain⟨vs,rfl,hvs⟩:=h;obtain⟨l',hk,hl'⟩:=Zb0 (G0:=G0) hS c vs _ hvs hk;exact⟨_,hk,by simp only[VR];exact⟨vs,rfl,hl'⟩⟩
 | .ow ..,v,Ks,h,_=>by simp only[VR] at h
 | .er,v,Ks,h,hk=>⟨_,hk,by simp only[VR] at *;exact h⟩
theorem Zb0{G0:Gh}(hS:SOk G S w):∀(l:List IV) (vs:List Value) (Ks:List IV->Prop),Zu G S w l vs->Z5 S l Ks->∃ l',Ks l'/\Zu G0 noS w l' vs
 | [],vs,Ks,h,hk=>⟨[],hk,h⟩
 | x::r,vs,Ks,h,hk=>by simp only[Z5,Zu] at *;obtain⟨v,vr,rfl,h1,h2⟩:=h;obtain⟨y,hk,hy⟩:=ZqW (G0:=G0) hS x v _ h1 hk;obtain⟨l',hk,hl'⟩:=Zb0 (G0:=G0) hS r vr _ h2 hk;exact⟨y::l',hk,v,vr,rfl,hy,hl'⟩
end
theorem ZqX{G0:Gh}:SOk G0 noS w:=⟨fun _ _ hs=>(by cases hs),fun _ _ _ _ _ hs=>(by cases hs),fun _ _ hs=>(by cases hs)⟩
mutual
theorem ZiK(l b j:Nat):∀ r,noSh r->∀ ob∈(impv true l b j r).2,∃ k es,ob = .ar k es true es.length 0
 | .ow k es u,h=>by intro ob ho;simp only[noSh] at h;subst h;simp [impv,impc] at ho;exact⟨k,es,ho⟩
 | .ag xs,h=>by simp only[impv,noSh] at *;exact ZeL l b j xs h
 | .tu xs,h=>by simp only[impv,noSh] at *;exact ZeL l b j xs h
 | .un,_=>by simp only[impv];intro ob h;simp at h
 | .tr _,_=>by simp only[impv];intro ob h;simp at h
 | .cs _,_=>by simp only[impv];intro ob h;simp at h
 | .hd ..,_=>by simp only[impv];intro ob h;simp at h
 | .ab ..,_=>by simp only[impv];intro ob h;simp at h
 | .sv _,_=>by simp only[impv];intro ob h;simp at h
 | .ae ..,_=>by simp only[impv];intro ob h;simp at h
 | .ta _,_=>by simp only[impv];intro ob h;simp at h
 | .fn ..,_=>by simp only[impv];intro ob h;simp at h
 | .er,_=>by simp only[impv];intro ob h;simp at h
theorem ZeL(l b j:Nat):∀ r,noShs r->∀ ob∈(impvs true l b j r).2,∃ k es,ob = .ar k es true es.length 0
 | [],_=>by simp only[impvs];intro ob h;simp at h
 | x::r,h=>by
  simp only[impvs,noShs] at *;intro ob ho;rcases Uaq.1 ho with ho | ho
  ·exact ZiK l b j x h.1 ob ho
  ·exact ZeL l b _ r h.2 ob ho
end
theorem Zb1{G1 G2:Gh}{A A':Nat->Prop}{i j:Zd}{p:Zn}{k:Nat}{es:Row}(hG:G2 i=G1 j)(h:Z7 G1 w A j p k true es):Z7 G2 w A' i p k true es:=by
 unfold Z7 at *;rw[hG];cases hg:G1 j p with
 | none=>simpa [hg] using h
 | some bc =>
  obtain⟨b,c⟩:=bc;simp only[hg] at h ⊢;obtain⟨k',vs,ty,h1,h2,h3,h4,h5,h6⟩:=h;refine⟨k',vs,ty,h1,h2,h3,h4,h5,fun i' e f t he hf=>?_⟩;obtain⟨x,hx,hc⟩:=h6 i' e f t he hf;refine⟨x,hx,?_⟩;cases t with
  | v y=>exact hc
  | sl es2 =>
   simp only[Jl,if_true] at hc ⊢;rw[hG];exact hc
mutual
theorem ZeM{G1 G2:Gh}{S1 S2:Zb}{w':World}{L l b:Nat}{imp:Bool}(h1:SOk G1 S1 w')
  (hS:imp=true->∀ j ob,S1 (L,j)=some ob->S2 (l,b+j)=some ob/\G2 (l,b+j)=G1 (L,j))
  (hO:imp=false->∀ j ob blk,S1 (L,j)=some ob->ZM G1 (L,j) ob blk->Av G2 S2 w' blk) :
  ∀(r:IV) (j:Nat) (v:Value),noSh r->(∀ m ob,(impv true L 0 j r).2[m]? = some ob->S1 (L,j+m)=some ob)->VR G1 S1 w' (impv true L 0 j r).1 v->VR G2 S2 w' (impv imp l b j r).1 v
 | .ow k es u,j,v,hn,ho,h=>by
  simp only[noSh] at hn;subst hn;have hs:S1 (L,j)=some (.ar k es true es.length 0):=ho 0 _ rfl;simp only[impv,impc,if_true,Uax,VR] at h;cases imp with
  | true =>
   simp only[impv,impc,if_true,VR];obtain⟨h0,k2,es2,u2,hw2,ver2,hs2,hbd,hrel⟩:=h;obtain⟨g1,g2⟩:=hS rfl j _ hs2;exact⟨h0,k2,es2,u2,hw2,ver2,g1,hbd,fun hst=>by rw[g2];exact hrel hst⟩
  | false =>
   simp only[impv,impc,Ua0,if_false,VR];have:=(WQ (A:=Av G2 S2 w') h1 (fun h=>by cases h) hs (fun blk hb=>hO rfl j _ blk hs hb) h rfl rfl (by simp)).1;simpa [cut] using this
 | .ag xs,j,v,hn,ho,h=>by simp only[impv,VR,noSh] at *;obtain⟨vs,hv',hvs⟩:=h;exact⟨vs,hv',ZeN h1 hS hO xs j vs hn ho hvs⟩
 | .tu xs,j,v,hn,ho,h=>by simp only[impv,VR,noSh] at *;obtain⟨vs,hv',hvs⟩:=h;exact⟨vs,hv',ZeN h1 hS hO xs j vs hn ho hvs⟩
 | .un,j,v,_,_,_=>by simp only[impv,VR]
 | .tr t,j,v,hn,_,h=>by
  simp only[impv,VR,noSh] at *;cases t with
  | v x=>obtain⟨rfl,hx⟩:=Rds.val h;exact .v _ hx
  | sl es=>simp [isSc] at hn
 | .cs _,j,v,hn,_,_=>by simp only[noSh] at hn
 | .hd ..,j,v,hn,_,_=>by simp only[noSh] at hn
 | .ab ..,j,v,hn,_,_=>by simp only[noSh] at hn
 | .sv _,j,v,hn,_,_=>by simp only[noSh] at hn
 | .ae ..,j,v,hn,_,_=>by simp only[noSh] at hn
 | .ta _,j,v,hn,_,_=>by simp only[noSh] at hn
 | .fn f c,j,v,hn,_,h=>by simp only[noSh] at hn;subst hn;simp only[impv,VR,Zu] at *;exact h
 | .er,j,v,_,_,h=>by simp only[impv,VR] at *;exact h
theorem ZeN{G1 G2:Gh}{S1 S2:Zb}{w':World}{L l b:Nat}{imp:Bool}(h1:SOk G1 S1 w')
  (hS:imp=true->∀ j ob,S1 (L,j)=some ob->S2 (l,b+j)=some ob/\G2 (l,b+j)=G1 (L,j))
  (hO:imp=false->∀ j ob blk,S1 (L,j)=some ob->ZM G1 (L,j) ob blk->Av G2 S2 w' blk) :
  ∀(r:List IV) (j:Nat) (vs:List Value),noShs r->(∀ m ob,(impvs true L 0 j r).2[m]? = some ob->S1 (L,j+m)=some ob)->Zu G1 S1 w' (impvs true L 0 j r).1 vs->Zu G2 S2 w' (impvs imp l b j r).1 vs
 | [],j,vs,_,_,h=>by simp only[impvs,Zu] at *;exact h
 | x::r,j,vs,hn,ho,h=>by
  simp only[impvs,Zu,noShs] at h hn ho ⊢;obtain⟨v,vr,rfl,g1,g2⟩:=h;refine⟨v,vr,rfl,ZeM h1 hS hO x j v hn.1 (fun m ob hmo=>ho m ob ?_) g1,?_⟩
  ·rw[Uav (Uad.1 hmo).1];exact hmo
  ·have hr:∀ m ob,(impvs true L 0 (j+(impv true L 0 j x).2.length) r).2[m]? = some ob->S1 (L,j+(impv true L 0 j x).2.length+m)=some ob:=fun m ob hmo=>by have:=ho ((impv true L 0 j x).2.length+m) ob (by rw[Uas (by omega)];simpa using hmo);rwa [<-Ubc] at this
   have hrec:=ZeN h1 hS hO r _ vr hn.2 hr g2;cases imp with
   | true=>rw[Zat l b L 0 j x];exact hrec
   | false =>
    rw[Zau l b (j+(impv false l b j x).2.length) (j+(impv true L 0 j x).2.length) r];exact hrec
end
theorem ZqY{G1:Gh}{r:IV}{v:Value}{w':World}{imp:Bool}(hS:SOk G S w)(hn:noSh r)
  (h1:SOk G1 (ZW noS (l+1) 0 (impv true (l+1) 0 0 r).2) w') (h2:VR G1 (ZW noS (l+1) 0 (impv true (l+1) 0 0 r).2) w' (impv true (l+1) 0 0 r).1 v)
  (h3:Frm ⟨G1,noS,w,l+1,0⟩ G1 (ZW noS (l+1) 0 (impv true (l+1) 0 0 r).2) w') (hf:YR S l b (impv imp l b 0 r).2.length):Got G S w l b (impv imp l b 0 r).1 (impv imp l b 0 r).2 v w':=by
 have hu:=ZiK (l+1) 0 0 r hn;have hat:=fun(j:Nat) (ob:Ob) (ho:(impv true (l+1) 0 0 r).2[j]? = some ob)=>Xl (impv true (l+1) 0 0 r).2 noS (l+1) 0 j ob ho;have hnew:∀ i ob,ZW noS (l+1) 0 (impv true (l+1) 0 0 r).2 i=some ob->∃ j,i=(l+1,j)/\(impv true (l+1) 0 0 r).2[j]? = some ob:=fun i ob hs=>by
  rcases Xk _ noS (l+1) 0 i ob hs with h | ⟨j,_,rfl,ho⟩
  ·cases h
  ·exact⟨j,by rw[Uax],ho⟩
 have hfresh:∀ i ob blk,ZW noS (l+1) 0 (impv true (l+1) 0 0 r).2 i=some ob->ZM G1 i ob blk->w.heap.size<=blk:=fun i ob blk hs ho=>by
  rcases h3.own i ob blk hs ho with g | ⟨_,ob0,g1,_⟩
  ·exact g
  ·cases g1
 have ext:Ext w w':=⟨h3.size,fun b hb=>h3.old b hb (fun i ob hs=>by cases hs),h3.os,h3.tape,h3.output⟩;cases imp with
 | false =>
  rw[ZbY];have hv:=ZeM (S2:=S) (G2:=G) (L:=l+1) (l:=l) (b:=b) (imp:=false) h1 (fun h=>by cases h) (fun _ j ob blk hs ho=>⟨Ys (h1.obs _ _ hs) ho,fun i ob' hs' ho' => by
   have g1:=hfresh _ _ blk hs ho;have g2:=Ys (hS.obs i ob' hs') ho';omega⟩) r 0 v hn (fun m ob hmo=>by simpa using hat m ob hmo) h2
  exact⟨G,hS.ext ext,hv,Frm.of_ext ext⟩
 | true =>
  have hobs:(impv true l b 0 r).2=(impv true (l+1) 0 0 r).2:=Zat _ _ _ _ _ r;rw[hobs] at hf ⊢;generalize hg:(impv true (l+1) 0 0 r).2=obs at *;let G2:Gh:=fun i=>if i.1=l/\b<=i.2/\i.2<b+obs.length then G1 (l+1,i.2-b) else G i
  have hG2:∀ j,j<obs.length->G2 (l,b+j)=G1 (l+1,j):=fun j hj=>by simp only[G2];rw[if_pos ⟨trivial,by omega,by omega⟩,show b+j-b=j from by omega]
  have hlt:∀{j:Nat} {ob:Ob},obs[j]? = some ob->j<obs.length:=fun h=>(Uad.1 h).1;have hS1:∀ j ob,obs[j]? = some ob->ZW noS (l+1) 0 obs (l+1,j)=some ob:=fun j ob ho=>by simpa using hat j ob ho
  refine Got.mk (G':=G2) hS hf ext (fun i ob hs=>?_) (fun j ob hj blk ho=>?_) (fun _ j ob hj=>?_) (fun j ob j' ob' blk hj hj' ho ho' => ?_) (fun j cells hj=>?_) (fun _=>?_)
  ·simp only[G2];rw[if_neg]
   rintro⟨g1,g2,g3⟩
   have:=Uy (j:=i.2-b) (hf (i.2-b) (by omega)) hs;apply this;rw[show b+(i.2-b)=i.2 from by omega,<-g1]
  ·exact hfresh _ ob blk (hS1 j ob hj) ((WR (hG2 j (hlt hj))).1 ho)
  ·obtain⟨k,es,rfl⟩:=hu ob (Uaf hj);obtain⟨g1,g2,g3,g4,g5⟩:=h1.obs _ _ (hS1 j _ hj);have hG:=hG2 j (hlt hj);exact⟨g1,g2,by rw[hG];exact g3,fun p es' hp he=>Zb1 hG (g4 p es' hp he),by rw[hG];exact g5⟩
  ·have:=h1.dis _ _ _ _ blk (hS1 j ob hj) (hS1 j' ob' hj') ((WR (hG2 j (hlt hj))).1 ho) ((WR (hG2 j' (hlt hj'))).1 ho');exact congrArg Prod.snd this
  ·obtain⟨k,es,h⟩:=hu _ (Uaf hj);cases h
  ·refine ZeM (S1:=ZW noS (l+1) 0 obs) (L:=l+1) (imp:=true) h1 (fun _ j ob hs=>?_) (fun h=>by cases h) r 0 v hn (fun m ob hmo=>by rw[hg] at hmo;simpa using hS1 m ob hmo) h2;obtain⟨j',hj',ho⟩:=hnew _ _ hs;have:=congrArg Prod.snd hj';simp at this;subst this;exact⟨Xl obs S l b j ob ho,hG2 j (hlt ho)⟩
theorem Dg{f:FuncId}{caps:List Value}{g:Operand}{args:Array Operand}{at1:Array TypeId}{fn:Func}(ho:oper.op = .call { callee:=.value g,args,argTypes:=at1 })(hg:a.eval g = .func (.func f) #[] caps.toArray)
  (hf:P.funcs[f]? = some fn) (hb:fn.body.isSome=true) (hn:(fn.name == "runtime.NumGoroutine")=false) :
  (execOp a.eval oper).run P w = .ok (.enter f (args.map a.eval++caps.toArray)) w:=by
 have hb':¬ fn.body=none:=by cases hh:fn.body<;>simp_all
 have hn':¬ fn.name = "runtime.NumGoroutine" := by simpa using hn
 simp [execOp,ho,resolve,Deferred.ofValue,hg,invoke,callFunc,hf,hn',hb']
theorem Sim.clean(h:Sim F G st a w):∀ id ob,st.sto id=some ob->id.1<st.lvl+1:=fun id ob hs=>by
 unfold St.sto ZF at hs;split at hs
 ·rename_i he;rw[he];exact Ua2 _
 ·exact Ub2 (h.outl id ob hs)
theorem ZqZ(h:Sim F G st a w){imp:Bool}{f:X}{xs:List X}(hl:l=st.lvl)(hfr:∀ mk obs,K mk obs->YR st.sto l b (obs l b).length)(hc:Zs P (.ca .pure imp f xs) oper.op=true)
  (he:ev (Sem P) (xv st.env) st.sto K (.ca .pure imp f xs)):EvOk P G st a w K l b oper:=by
 simp only[Zs] at hc;split at hc<;>try contradiction
 rename_i g args at1 ho;simp only[Uae] at hc;have hg:=h.x hc.1;have hargs:=h.xs hc.2;simp only[ev] at he;split at he<;>try contradiction
 rename_i fid caps hq;rw[hq] at hg;simp only[VR] at hg;obtain⟨cvs,hg,hcv⟩:=hg;have hargs:=Zal hargs hcv;have hcl:=h.clean;subst hl;by_cases hm:Zc (fun _=>False) (xs.map (xv st.env)++caps)
 ·obtain⟨l',⟨r,hsem,_,hK⟩,hl'⟩:=ZbZ h.ok _ _ _ hm hargs he;obtain⟨hr,⟨fn,hf,hb,hn⟩,hcall⟩:=hsem (st.lvl+1) st.sto;have hrun:=Dg (P:=P) (w:=w) (caps:=cvs) ho hg hf hb hn;refine Res.of_enter hrun ?_;have hc:=hcall hcl G w (args.toList.map a.eval++cvs) h.ok hl' (h.fr.fix h.fix);have harr:(args.map a.eval++cvs.toArray)=(args.toList.map a.eval++cvs).toArray:=by cases args;simp
  rw[harr];refine hc.mono ?_
  rintro e w' ⟨v,G1,rfl,h1,h2,_,h3⟩
  exact⟨v,rfl,_,_,hK,Zav hr hcl h1 h2 h3 (hfr _ _ hK)⟩
 ·obtain⟨l',⟨r,hsem,hor,hK⟩,hl'⟩:=Zb0 (G0:=G) h.ok _ _ _ hargs he;have hns:=hor.resolve_left hm;obtain⟨hr,⟨fn,hf,hb,hn⟩,hcall⟩:=hsem (st.lvl+1) noS;have hrun:=Dg (P:=P) (w:=w) (caps:=cvs) ho hg hf hb hn;refine Res.of_enter hrun ?_;have hc:=hcall (fun id ob hs=>by cases hs) G w (args.toList.map a.eval++cvs) ZqX hl' (Fix.noS (h.fr.fix h.fix));have harr:(args.map a.eval++cvs.toArray)=(args.toList.map a.eval++cvs).toArray:=by cases args;simp
  rw[harr];refine hc.mono ?_
  rintro e w' ⟨v,G1,rfl,h1,h2,_,h3⟩
  refine⟨v,rfl,_,_,hK,ZqY h.ok hns h1 h2 ⟨h3.size,fun blk hb _=>h3.old blk hb (fun i ob hs=>by cases hs),fun i ob blk hs hown=>?_,h3.os,h3.tape,h3.output,fun x u hlo hv=>?_⟩ (hfr _ _ hK)⟩
  ·rcases h3.own i ob blk hs hown with g | ⟨_,ob0,g1,_⟩
   ·exact .inl g
   ·cases g1
  ·exact h3.stab x u hlo (X5 (P:=fun _=>True) (fun blk hblk=>QV blk hblk.1) (fun _ _=>rfl) (fun i ob _ hs=>by cases hs) x u (JZ (fun _ _=>trivial) x (Us x u hv)) hv)
theorem Zq0{Q:Zd->Prop}(h:∀ i,(st.sto i).isSome=true->Q i){l:List IV}{vs:List Value}(hv:Zu G st.sto w l vs):Zc Q l:=JK (fun i hi=>h i hi) l (Xi l vs hv)
theorem Zq1(h:Sim F G st a w){imp:Bool}{f:X}{xs:List X}(hl:l=st.lvl)(hfr:∀ mk obs,K mk obs->YR st.sto l b (obs l b).length)(hc:Zs P (.ca .see imp f xs) oper.op=true)
  (he:ev (Sem P) (xv st.env) st.sto K (.ca .see imp f xs)):EvOk P G st a w K l b oper:=by
 simp only[Zs] at hc;split at hc<;>try contradiction
 rename_i g args at1 ho;simp only[Uae] at hc;have hg:=h.x hc.1;have hargs:=h.xs hc.2;simp only[ev] at he;split at he<;>try contradiction
 rename_i fid caps hq;rw[hq] at hg;simp only[VR] at hg;obtain⟨cvs,hg,hcv⟩:=hg;have hargs:=Zal hargs hcv;have hcl:=h.clean;subst hl;obtain⟨r,hsem,hK⟩:=he;have hseen:∀ i,(st.sto i).isSome=true->XY st.sto st.sto (st.lvl+1) i:=fun i hi=>by obtain⟨ob,hob⟩:=Uan.1 hi;refine⟨⟨hcl i ob hob,fun _ h=>h⟩,fun cells hs=>JK (fun j (hj:j.1<i.1+1)=>⟨?_,fun _ h=>h⟩) cells (h.ok.low i cells hs)⟩;have:=hcl i ob hob;omega
 obtain⟨hr,⟨fn,hf,hb,hn⟩,hcall⟩:=hsem (st.lvl+1) st.sto (Zq0 hseen hargs);have hrun:=Dg (P:=P) (w:=w) (caps:=cvs) ho hg hf hb hn;refine Res.of_enter hrun ?_;have hc:=hcall hcl G w (args.toList.map a.eval++cvs) h.ok hargs (h.fr.fix h.fix);have harr:(args.map a.eval++cvs.toArray)=(args.toList.map a.eval++cvs).toArray:=by cases args;simp
 rw[harr];refine hc.mono ?_
 rintro e w' ⟨v,G1,rfl,h1,h2,_,h3⟩
 exact⟨v,rfl,_,_,hK,Zav hr hcl h1 h2 h3 (hfr _ _ hK)⟩
end call
end Go.Fd
namespace Go.Fd
variable [Tabs]
inductive Wk (D:Zd->Prop):Ob->Ob->Prop
 | ar (k:Nat) (es:Row) (u:Bool) (hw ver:Nat):Wk D (.ar k es u hw ver) (.ar k es u hw ver)
 | mp (l:List (Int×Int)):Wk D (.mp l) (.mp l)
 | bx (cells cells2:List IV) (hm:Zc (fun i=>¬ D i) cells2) (hv:∀ G S w vs,Zu G S w cells vs->Zu G S w cells2 vs) (hl:∀ P:Zd->Prop,Zc P cells->Zc P cells2):Wk D (.bx cells) (.bx cells2)
section trn
variable {G G':Gh} {S S':Zb} {w w':World} {T D:Zd->Prop}
theorem Wk.own{id:Zd}{ob ob':Ob}(h:Wk D ob ob'){b:Nat}:ZM G id ob' b↔ZM G id ob b:=by cases h<;>exact UbB
theorem Wk.idR{id:Zd}{ob ob':Ob}(h:Wk D ob ob')(hG:G' id=G id):idR G G' id ob ob':=by
 cases h with
 | ar=>exact Qg hG _
 | mp=>exact Qg hG _
 | bx=>show G' id []=G id [];rw[hG]
structure Trn (G G':Gh) (S S':Zb) (w w':World) (T D:Zd->Prop):Prop where
 gh:∀ i,¬ T i->G' i=G i
 live:∀ i ob,¬ T i -> ¬ D i->S i=some ob->∃ ob',S' i=some ob'/\Wk D ob ob'
 only:∀ i ob',¬ T i->S' i=some ob' -> ¬ D i/\∃ ob,S i=some ob/\Wk D ob ob'
 size:w.heap.size<=w'.heap.size
 heap:∀ b,b<w.heap.size->(∀ i ob,T i->S i=some ob -> ¬ ZM G i ob b)->w'.heap[b]? = w.heap[b]?
 own:∀ i ob b,T i->S' i=some ob->ZM G' i ob b->(∃ j ob0,(T j\/D j)/\S j=some ob0/\ZM G j ob0 b)\/w.heap.size<=b
 rel:∀ i ob,T i -> ¬ D i->S i=some ob->∃ ob',S' i=some ob'/\idR G G' i ob ob'
theorem Trn.av(t:Trn G G' S S' w w' T D):∀ b,Av G S w b->Av G' S' w' b:=by
 intro b hb;refine⟨UaZ hb.1 t.size,fun i ob hs ho=>?_⟩;by_cases hi:T i
 ·rcases t.own i ob b hi hs ho with ⟨j,ob0,_,h1,h2⟩ | h
  ·exact hb.2 j ob0 h1 h2
  ·have:=hb.1;omega
 ·obtain⟨_,ob0,h1,h2⟩:=t.only i ob hi hs;exact hb.2 i ob0 h1 ((Vy (t.gh i hi)).1 (h2.own.1 ho))
theorem Trn.same(t:Trn G G' S S' w w' T D):∀ b,Av G S w b->w'.heap[b]? = w.heap[b]? :=
 fun b hb=>t.heap b hb.1 fun i ob _ hs=>hb.2 i ob hs
theorem Trn.ids(t:Trn G G' S S' w w' T D)(i:Zd)(ob:Ob)(hd:¬ D i)(hs:S i=some ob):∃ ob2,S' i=some ob2/\idR G G' i ob ob2:=by
 by_cases hi:T i
 ·exact t.rel i ob hi hd hs
 ·obtain⟨ob',h1,h2⟩:=t.live i ob hi hd hs;exact⟨ob',h1,h2.idR (t.gh i hi)⟩
theorem Trn.vr(t:Trn G G' S S' w w' T D)(x:IV)(v:Value)(hm:men (fun i=>¬ D i) x)(h:VR G S w x v):VR G' S' w' x v :=
 X5 t.av t.same t.ids x v hm h
theorem Trn.vrs(t:Trn G G' S S' w w' T D)(x:List IV)(v:List Value)(hm:Zc (fun i=>¬ D i) x)(h:Zu G S w x v):Zu G' S' w' x v :=
 QT t.av t.same t.ids x v hm h
theorem Trn.ok(t:Trn G G' S S' w w' T D)(h:SOk G S w)(hob:∀ i ob,T i->S' i=some ob->Vd G' S' w' i ob)
  (hdis:∀ i ob j ob' b,T i->T j->S' i=some ob->S' j=some ob'->ZM G' i ob b->ZM G' j ob' b->i=j)
  (hlow:∀ i cells,T i->S' i=some (.bx cells)->Jk (i.1+1) cells):SOk G' S' w' where
 obs i ob hs:=by
  by_cases hi:T i
  ·exact hob i ob hi hs
  ·obtain⟨_,ob0,h1,h2⟩:=t.only i ob hi hs
   have hh:∀ b,ZM G i ob0 b->w'.heap[b]? = w.heap[b]?:=fun b hb =>
    t.heap b (Ys (h.obs i ob0 h1) hb) fun j ob2 hj h3 h4=>hi ((h.dis _ _ _ _ b h1 h3 hb h4) ▸ hj)
   have h5:=h.obs i ob0 h1;cases h2 with
   | ar=>exact Ut (t.gh i hi) t.av t.same hh (fun _ _ he=>by cases he) h5
   | mp=>exact Ut (t.gh i hi) t.av t.same hh (fun _ _ he=>by cases he) h5
   | bx cells cells2 hm hv hl =>
    obtain⟨b,c,vs,ty,g1,g2,g3⟩:=h5;exact⟨b,c,vs,ty,by rw[t.gh i hi];exact g1,by rw[hh b ⟨c,g1⟩];exact g2,t.vrs cells2 _ hm (hv _ _ _ _ g3)⟩
 dis i ob j ob' b hs hs' ho ho':=by
  have key:∀ i ob j ob',T i -> ¬ T j->S' i=some ob->S' j=some ob'->ZM G' i ob b->ZM G' j ob' b->False:=by
   intro i ob j ob' hi hj hs hs' ho ho';obtain⟨hd,ob0,h1,h2⟩:=t.only j ob' hj hs';have h3:=(Vy (t.gh j hj)).1 (h2.own.1 ho');rcases t.own i ob b hi hs ho with ⟨k,ob3,h4,h5,h6⟩ | h4
   ·have:=h.dis _ _ _ _ b h1 h5 h3 h6;subst this;rcases h4 with h4 | h4
    ·exact hj h4
    ·exact hd h4
   ·have:=Ys (h.obs j ob0 h1) h3;omega
  by_cases hi:T i<;>by_cases hj:T j
  ·exact hdis i ob j ob' b hi hj hs hs' ho ho'
  ·exact(key i ob j ob' hi hj hs hs' ho ho').elim
  ·exact(key j ob' i ob hj hi hs' hs ho' ho).elim
  ·obtain⟨_,ob0,h1,h2⟩:=t.only i ob hi hs;obtain⟨_,ob1,h3,h4⟩:=t.only j ob' hj hs';exact h.dis _ _ _ _ b h1 h3 ((Vy (t.gh i hi)).1 (h2.own.1 ho)) ((Vy (t.gh j hj)).1 (h4.own.1 ho'))
 low i cells hs:=by
  by_cases hi:T i
  ·exact hlow i cells hi hs
  ·obtain⟨_,ob0,h1,h2⟩:=t.only i _ hi hs;cases h2 with
   | bx cells0 _ hm hv hl=>exact hl _ (h.low i cells0 h1)
theorem Trn.frm(t:Trn G G' S S' w w' T D){L n:Nat}(hD:∀ i,D i->L<=i.1)(hos:w'.os=w.os)(htape:w'.tape=w.tape)(hout:w'.output=w.output):Frm ⟨G,S,w,L,n⟩ G' S' w' where
 size:=t.size
 old b hb ho:=t.heap b hb fun i ob _ hs=>ho i ob hs
 own i ob b hs ho:=by
  by_cases hi:T i
  ·rcases t.own i ob b hi hs ho with ⟨j,ob0,h1,h2,h3⟩ | h
   ·exact .inr ⟨j,ob0,h2,h3⟩
   ·exact .inl h
  ·obtain⟨_,ob0,h1,h2⟩:=t.only i ob hi hs;exact .inr ⟨i,ob0,h1,(Vy (t.gh i hi)).1 (h2.own.1 ho)⟩
 os:=hos
 tape:=htape
 output:=hout
 stab x v hl hv:=t.vr x v (JZ (fun i (hi:i.1<L) hd=>by have:=hD i hd;omega) x hl) hv
end trn
end Go.Fd
namespace Go.Fd
variable [Tabs]
theorem QW{st:St}{i:Zd}(h:i.1=st.lvl):st.sto i=lkO i.2 st.loc:=by unfold St.sto ZF;rw[if_pos h]
theorem YS{st:St}{i:Zd}(h:i.1≠st.lvl):st.sto i=st.out i:=by unfold St.sto ZF;rw[if_neg h]
theorem QC(st:St)(id:Zd)(o:Ob):(Zp st id o).lvl=st.lvl:=by unfold Zp;split<;>rfl
theorem WS(st:St)(id:Zd)(o:Ob):(Zp st id o).env=st.env:=by unfold Zp;split<;>rfl
theorem Yt(st:St)(id:Zd)(o:Ob):(Zp st id o).sto=Zo st.sto id o:=by
 funext i;by_cases hid:id.1=st.lvl
 ·have he:Zp st id o = { st with loc:=ptO id.2 o st.loc }:=by unfold Zp;rw[if_pos hid]
  rw[he];by_cases hi:i.1=st.lvl
  ·rw[QW (st:={ st with loc:=ptO id.2 o st.loc }) hi,Zao];unfold Zo;rw[QW hi];by_cases h2:i.2=id.2
   ·rw[if_pos h2,if_pos (Prod.ext (hi.trans hid.symm) h2)]
   ·rw[if_neg h2,if_neg (fun e=>h2 (congrArg Prod.snd e))]
  ·rw[YS (st:={ st with loc:=ptO id.2 o st.loc }) hi];unfold Zo;rw[YS hi,if_neg (fun e=>hi (by rw[e,hid]))]
 ·have he:Zp st id o = { st with out:=Zo st.out id o }:=by unfold Zp;rw[if_neg hid]
  rw[he];by_cases hi:i.1=st.lvl
  ·rw[QW (st:={ st with out:=Zo st.out id o }) hi];unfold Zo;rw[QW hi,if_neg (fun e=>hid (by rw[<-e,hi]))]
  ·rw[YS (st:={ st with out:=Zo st.out id o }) hi];unfold Zo;rw[YS hi]
mutual
theorem ZiL(id:Zd){G:Gh}{S:Zb}{w:World}:∀(x:IV) (v:Value),VR G S w x v->VR G S w (scr id x) v
 | .un,_,_=>trivial
 | .tr _,_,h=>h
 | .cs _,_,h=>h
 | .hd i p off len cap st,v,h=>by simp only[scr];split<;>first | trivial | exact h
 | .ab i off,v,h=>by simp only[scr];split<;>first | trivial | exact h
 | .sv i,v,h=>by simp only[scr];split<;>first | trivial | exact h
 | .ae i p a b st,v,h=>by simp only[scr];split<;>first | trivial | exact h
 | .ta _,_,h=>h
 | .ag l,v,h=>by simp only[scr,VR] at *;obtain⟨vs,hv,hl⟩:=h;exact⟨vs,hv,Zaw id l vs hl⟩
 | .tu l,v,h=>by simp only[scr,VR] at *;obtain⟨vs,hv,hl⟩:=h;exact⟨vs,hv,Zaw id l vs hl⟩
 | .fn f l,v,h=>by simp only[scr,VR] at *;obtain⟨vs,hv,hl⟩:=h;exact⟨vs,hv,Zaw id l vs hl⟩
 | .ow ..,_,h=>h
 | .er,_,h=>h
theorem Zaw(id:Zd){G:Gh}{S:Zb}{w:World}:∀(l:List IV) (vs:List Value),Zu G S w l vs->Zu G S w (scrs id l) vs
 | [],vs,h=>h
 | x::r,vs,h=>by simp only[scrs,Zu] at *;obtain⟨v,vr,hv,h1,h2⟩:=h;exact⟨v,vr,hv,ZiL id x v h1,Zaw id r vr h2⟩
end
mutual
theorem Zb2(id:Zd){P:Zd->Prop}:∀(x:IV),men P x->men (fun i=>P i/\i≠id) (scr id x)
 | .un,_=>trivial
 | .tr _,_=>trivial
 | .cs _,_=>trivial
 | .hd i p off len cap st,h=>by
  simp only[scr];split
  ·trivial
  ·rename_i hi;exact⟨h,hi⟩
 | .ab i off,h=>by
  simp only[scr];split
  ·trivial
  ·rename_i hi;exact⟨h,hi⟩
 | .sv i,h=>by
  simp only[scr];split
  ·trivial
  ·rename_i hi;exact⟨h,hi⟩
 | .ae i p a b st,h=>by
  simp only[scr];split
  ·trivial
  ·rename_i hi;exact⟨h,hi⟩
 | .ta _,_=>trivial
 | .ag l,h=>by simp only[scr,men] at *;exact Dh id l h
 | .tu l,h=>by simp only[scr,men] at *;exact Dh id l h
 | .fn f l,h=>by simp only[scr,men] at *;exact Dh id l h
 | .ow ..,_=>trivial
 | .er,_=>trivial
theorem Dh(id:Zd){P:Zd->Prop}:∀(l:List IV),Zc P l->Zc (fun i=>P i/\i≠id) (scrs id l)
 | [],_=>trivial
 | x::r,h=>⟨Zb2 id x h.1,Dh id r h.2⟩
end
structure Kl (D:Zd->Prop) (st st1:St):Prop where
 lvl:st1.lvl=st.lvl
 out:st1.out=st.out
 vr:∀ t G S w v,VR G S w (lk t st.env) v->VR G S w (lk t st1.env) v
 men:∀ t,men (fun i=>¬ D i) (lk t st1.env)
 dead:∀ i,D i->i.1=st.lvl
 was:∀ i,D i->(st.sto i).isSome=true
 live:∀ i ob,¬ D i->st.sto i=some ob->∃ ob',st1.sto i=some ob'/\Wk D ob ob'
 only:∀ i ob',st1.sto i=some ob' -> ¬ D i/\∃ ob,st.sto i=some ob/\Wk D ob ob'
theorem UA:∀ x,men (fun _=>True) x:=by
 have key:(∀ x,men (fun _=>True) x)/\∀ l,Zc (fun _=>True) l:=by
  refine⟨fun x=>?_,fun l=>?_⟩
  ·exact IV.rec (motive_1:=fun x=>men (fun _=>True) x) (motive_2:=fun l=>Zc (fun _=>True) l) trivial (fun _=>trivial) (fun _=>trivial) (fun _ _ _ _ _ _=>trivial) (fun _ _=>trivial) (fun _ _ _ _ _=>trivial) (fun _=>trivial) (fun _=>trivial) (fun _ h=>h) (fun _ h=>h) (fun _ _ h=>h) (fun _ _ _=>trivial) trivial trivial (fun _ _ h1 h2=>⟨h1,h2⟩) x
  ·induction l with
   | nil=>trivial
   | cons x r ih=>exact⟨IV.rec (motive_1:=fun x=>men (fun _=>True) x) (motive_2:=fun l=>Zc (fun _=>True) l) trivial (fun _=>trivial) (fun _=>trivial) (fun _ _ _ _ _ _=>trivial) (fun _ _=>trivial) (fun _ _ _ _ _=>trivial) (fun _=>trivial) (fun _=>trivial) (fun _ h=>h) (fun _ h=>h) (fun _ _ h=>h) (fun _ _ _=>trivial) trivial trivial (fun _ _ h1 h2=>⟨h1,h2⟩) x,ih⟩
 exact key.1
theorem QX:∀ l,Zc (fun _=>True) l
 | []=>trivial
 | x::r=>⟨UA x,QX r⟩
theorem Kl.refl(st:St):Kl (fun _=>False) st st where
 lvl:=rfl
 out:=rfl
 vr _ _ _ _ _ h:=h
 men t:=JZ (fun _ _ h=>h) _ (UA _)
 dead _ h:=h.elim
 was _ h:=h.elim
 live i ob _ hs:=⟨ob,hs,by cases ob with
  | bx cells=>exact .bx cells cells (JK (fun _ _ h=>h) _ (QX _)) (fun _ _ _ _ h=>h) (fun _ h=>h)
  | ar=>exact .ar ..
  | mp=>exact .mp ..⟩
 only i ob hs:=⟨fun h=>h,ob,hs,by cases ob with
  | bx cells=>exact .bx cells cells (JK (fun _ _ h=>h) _ (QX _)) (fun _ _ _ _ h=>h) (fun _ h=>h)
  | ar=>exact .ar ..
  | mp=>exact .mp ..⟩
theorem Wa{st:St}{id i:Zd}(h:i.1=st.lvl)(hid:id.1=st.lvl):(Zw id st).sto i=if i=id then none else (st.sto i).map (scrOb id):=by
 rw[QW (st:=Zw id st) h,QW h];simp only[Zw];rw[Zer,ZbN];by_cases h2:i.2=id.2
 ·rw[if_pos h2,if_pos (Prod.ext (h.trans hid.symm) h2)];rfl
 ·rw[if_neg h2,if_neg (fun e=>h2 (congrArg Prod.snd e))]
theorem Zax{st:St}{id i:Zd}(h:i.1≠st.lvl):(Zw id st).sto i=st.sto i:=by rw[YS (st:=Zw id st) h,YS h];rfl
theorem Wk.step{D D':Zd->Prop}{ob ob1 ob2:Ob}(h:Wk D ob ob1)(h2:Wk D' ob1 ob2):Wk D' ob ob2:=by
 cases h with
 | ar=>exact h2
 | mp=>exact h2
 | bx cells cells2 hm hv hl =>
  cases h2 with
  | bx _ cells3 hm' hv' hl' => exact .bx _ _ hm' (fun G S w vs h=>hv' G S w vs (hv G S w vs h)) (fun P h=>hl' P (hl P h))
theorem Kl.step{D:Zd->Prop}{st st1:St}(k:Kl D st st1)(hlow:∀ i cells,st.sto i=some (.bx cells)->Jk (i.1+1) cells)(houtl:∀ id ob,st.out id=some ob->id.1<st.lvl){id:Zd}(hid:id.1=st.lvl)(hsome:(st.sto id).isSome=true) :
  Kl (fun i=>D i\/i=id) st (Zw id st1):=by
 have hlv:(Zw id st1).lvl=st.lvl:=k.lvl;have hw:∀ i ob,st.sto i=some ob->∀ ob',i≠id->Wk D ob ob'->∃ ob'',((if i.1=st.lvl then scrOb id ob' else ob')=ob'')/\Wk (fun i=>D i\/i=id) ob ob'':=by
  intro i ob hs ob' hne h;refine⟨_,rfl,?_⟩;cases h with
  | ar=>split<;>exact .ar ..
  | mp=>split<;>exact .mp ..
  | bx cells cells2 hm hv hl =>
   split
   ·refine .bx _ _ (JK (fun j hj=>fun h=>?_) _ (Dh id cells2 hm)) (fun G S w vs h=>Zaw id _ _ (hv G S w vs h)) (fun P h=>JK (fun _ h=>h.1) _ (Dh id cells2 (hl P h)));rcases h with h | h
    ·exact hj.1 h
    ·exact hj.2 h
   ·rename_i hi;have hlt:i.1<st.lvl:=houtl i _ (by rw[<-YS hi];exact hs);refine .bx _ _ (JK (fun j hj=>fun h=>?_) _ (hl _ (hlow i cells hs))) hv hl;have hj:j.1<i.1+1:=hj;rcases h with h | h
    ·have:=k.dead j h;omega
    ·rw[h,hid] at hj;omega
 have hl1:∀ i,i≠id->∀ ob',st1.sto i=some ob'->(Zw id st1).sto i=some (if i.1=st.lvl then scrOb id ob' else ob'):=by
  intro i hi ob' hs;by_cases h:i.1=st.lvl
  ·rw[Wa (h.trans k.lvl.symm) (hid.trans k.lvl.symm),if_neg hi,hs,if_pos h];rfl
  ·rw[Zax (by rw[k.lvl];exact h),hs,if_neg h]
 refine⟨hlv,k.out,fun t G S w v h=>?_,fun t=>?_,fun i h=>?_,fun i h=>?_,fun i ob hd hs=>?_,fun i ob' hs=>?_⟩
 ·simp only[Zw];rw[Dd];exact ZiL id _ _ (k.vr t G S w v h)
 ·simp only[Zw];rw[Dd];refine JZ (fun j hj=>fun h=>?_) _ (Zb2 id _ (k.men t));rcases h with h | h
  ·exact hj.1 h
  ·exact hj.2 h
 ·rcases h with h | h
  ·exact k.dead i h
  ·rw[h,hid]
 ·rcases h with h | h
  ·exact k.was i h
  ·rw[h];exact hsome
 ·obtain⟨ob',h1,h2⟩:=k.live i ob (fun h=>hd (.inl h)) hs;have hne:i≠id:=fun h=>hd (.inr h);obtain⟨ob'',h3,h4⟩:=hw i ob hs ob' hne h2;exact⟨ob'',by rw[hl1 i hne ob' h1,h3],h4⟩
 ·have hne:i≠id:=by
   rintro rfl
   rw[Wa (hid.trans k.lvl.symm) (hid.trans k.lvl.symm),if_pos rfl] at hs;cases hs
  cases h1:st1.sto i with
  | none =>
   exfalso;by_cases h:i.1=st.lvl
   ·rw[Wa (h.trans k.lvl.symm) (hid.trans k.lvl.symm),if_neg hne,h1] at hs;cases hs
   ·rw[Zax (by rw[k.lvl];exact h),h1] at hs;cases hs
  | some ob1 =>
   obtain⟨hd,ob,h2,h3⟩:=k.only i ob1 h1;obtain⟨ob'',h4,h5⟩:=hw i ob h2 ob1 hne h3;rw[hl1 i hne ob1 h1] at hs;cases hs;refine⟨fun h=>?_,ob,h2,by rw[<-h4] at h5;exact h5⟩;rcases h with h | h
   ·exact hd h
   ·exact hne h
section sim
variable {F:Fr} {G G':Gh} {st st1:St} {a:Act} {w w':World} {D:Zd->Prop}
theorem Act.put_get(a:Act)(d:Option Nat)(v:Value)(t:Nat)(hd:∀ x,d=some x->x<a.tmps.size):(a.put d v).tmps.getD t undef=if d=some t then v else a.tmps.getD t undef:=by
 cases d with
 | none=>simp [Act.put]
 | some d =>
  have:=hd d rfl;simp only[Act.put,Uat];by_cases h:d=t
  ·subst h;simp [Array.getD,this]
  ·rw[if_neg h];simp [UaH,h]
theorem Sim.go(h:Sim F G st a w){st':St}{env0:List (Nat×IV)}{T:Zd->Prop}{d:Option Nat}{x:IV}{v:Value}(hlvl:st'.lvl=st.lvl)(hout:∀ id ob,st'.out id=some ob->id.1<st.lvl)
  (t:Trn G G' st.sto st'.sto w w' T D) (hD:∀ i,D i->i.1=st.lvl) (hos:w'.os=w.os) (htape:w'.tape=w.tape) (houtp:w'.output=w.output) (hok:SOk G' st'.sto w')
  (henv:∀ t G S w v,VR G S w (lk t st.env) v->VR G S w (lk t env0) v) (hmen:∀ t,men (fun i=>¬ D i) (lk t env0)) (he:st'.env=ptd d x env0) (hd:∀ y,d=some y->y<F.nt) (hx:VR G' st'.sto w' x v):Sim F G' st' (a.put d v) w' where
 dfr:=by cases d<;>exact h.dfr
 sz:=by cases d<;>simp [Act.put,h.sz]
 env s:=by
  rw[Act.put_get a d v s (by rw[h.sz];exact hd),he];have h0:=t.vr _ _ (hmen s) (henv s _ _ _ _ (h.env s));cases d with
  | none=>simpa [ptd] using h0
  | some d =>
   simp only[ptd,Uat];rw[Uv];by_cases hs:s=d
   ·rw[if_pos hs,if_pos hs.symm];exact hx
   ·rw[if_neg hs,if_neg (fun e=>hs e.symm)];exact h0
 ok:=hok
 lvl:=hlvl.trans h.lvl
 outl id ob hs:=by rw[hlvl];exact hout id ob hs
 fix:=h.fix
 fr:=h.fr.trans (t.frm (L:=st.lvl) (n:=0) (fun i hi=>Ub6 (hD i hi).symm) hos htape houtp) (Ub6 h.lvl.symm)
theorem Sim.turn(h:Sim F G st a w)(k:Kl D st st1){id:Zd}{ob':Ob}{d:Option Nat}{x:IV}{v:Value}(hid:¬ D id)(hidl:id.1=st.lvl\/(st.sto id).isSome=true)
  (gh:∀ i,i≠id->G' i=G i) (size:w.heap.size<=w'.heap.size)
  (heap:∀ b,b<w.heap.size->(∀ ob,st.sto id=some ob -> ¬ ZM G id ob b)->w'.heap[b]? = w.heap[b]?)
  (own:∀ b,ZM G' id ob' b->(∃ j ob0,(j=id\/D j)/\st.sto j=some ob0/\ZM G j ob0 b)\/w.heap.size<=b)
  (rel:∀ ob,st.sto id=some ob->idR G G' id ob ob')
  (hos:w'.os=w.os) (htape:w'.tape=w.tape) (houtp:w'.output=w.output)
  (hob:Trn G G' st.sto (Zo st1.sto id ob') w w' (· = id) D->Vd G' (Zo st1.sto id ob') w' id ob')
  (hlow:∀ cells,ob' = .bx cells->Jk (id.1+1) cells)
  (hd:∀ y,d=some y->y<F.nt)
  (hx:Trn G G' st.sto (Zo st1.sto id ob') w w' (· = id) D->VR G' (Zo st1.sto id ob') w' x v) :
  Sim F G' { Zp st1 id ob' with env:=ptd d x st1.env } (a.put d v) w'/\Trn G G' st.sto (Zo st1.sto id ob') w w' (· = id) D:=by
 have hsto:({ Zp st1 id ob' with env:=ptd d x st1.env }:St).sto=Zo st1.sto id ob':=by rw[<-Yt];rfl
 have ht:Trn G G' st.sto (Zo st1.sto id ob') w w' (· = id) D:=by
  refine⟨gh,fun i ob hi hdi hs=>?_,fun i ob hi hs=>?_,size,fun b hb hn=>heap b hb fun ob hs=>hn id ob rfl hs,fun i ob b hi hs ho=>?_,fun i ob hi _ hs=>?_⟩
  ·obtain⟨o2,h1,h2⟩:=k.live i ob hdi hs;exact⟨o2,by unfold Zo;rw[if_neg hi];exact h1,h2⟩
  ·unfold Zo at hs;rw[if_neg hi] at hs;exact k.only i ob hs
  ·subst hi;unfold Zo at hs;rw[if_pos rfl] at hs;cases hs;exact own b ho
  ·subst hi;exact⟨ob',by unfold Zo;rw[if_pos rfl],rel ob hs⟩
 refine⟨h.go (T:=(· = id)) (env0:=st1.env) (D:=D) (by simp only;rw[QC,k.lvl]) (fun i ob hs=>?_) (by rw[hsto];exact ht) k.dead hos htape houtp ?_ k.vr k.men rfl hd (by rw[hsto];exact hx ht),ht⟩
 ·have hs:(Zp st1 id ob').out i=some ob:=hs;unfold Zp at hs;split at hs
  ·rw[k.out] at hs;exact h.outl i ob hs
  ·rename_i hne;simp only[Zo] at hs;split at hs
   ·rename_i hi;subst hi;rcases hidl with hidl | hidl
    ·exact absurd (hidl.trans k.lvl.symm) hne
    ·obtain⟨o2,ho2⟩:=Uan.1 hidl;rw[YS (by rw[<-k.lvl];exact hne)] at ho2;exact h.outl _ o2 ho2
   ·rw[k.out] at hs;exact h.outl i ob hs
 ·rw[hsto];refine ht.ok h.ok (fun i ob hi hs=>?_) (fun i ob j ob' b hi hj _ _ _ _=>hi.trans hj.symm) (fun i cells hi hs=>?_)
  ·subst hi;unfold Zo at hs;rw[if_pos rfl] at hs;cases hs;exact hob ht
  ·subst hi;unfold Zo at hs;rw[if_pos rfl] at hs;cases hs;exact hlow _ rfl
theorem Sim.kl(h:Sim F G st a w)(k:Kl D st st1):Sim F G st1 a w/\Trn G G st.sto st1.sto w w (fun _=>False) D:=by
 have ht:Trn G G st.sto st1.sto w w (fun _=>False) D :=
  ⟨fun _ _=>rfl,fun i ob _ hdi hs=>k.live i ob hdi hs,fun i ob _ hs=>k.only i ob hs,Ual _,fun _ _ _=>rfl,fun _ _ _ hf=>hf.elim,fun _ _ hf=>hf.elim⟩
 have:=h.go (T:=fun _=>False) (D:=D) (d:=none) (x:=.un) (v:=undef) (env0:=st1.env) k.lvl (fun i ob hs=>by rw[k.out] at hs;exact h.outl i ob hs) ht k.dead rfl rfl rfl
  (ht.ok h.ok (fun _ _ hf=>hf.elim) (fun _ _ _ _ _ hf=>hf.elim) (fun _ _ hf=>hf.elim)) k.vr k.men rfl (fun _ he=>by cases he) trivial
 exact⟨this,ht⟩
end sim
end Go.Fd
namespace Go.Fd
variable [Tabs]
theorem ZiM:∀(p:Zn) (es:Row) (i f:Nat) (t:Tr),(ZK es p i f t).length=es.length
 | [],es,i,f,t=>by simp only[ZK];split<;>simp
 | (a,b)::p,es,i,f,t=>by
  simp only[ZK];split
  ·split<;>simp
  ·rfl
def shT(t1 t2:Tr):Prop:=t1=t2\/∃ a b,t1 = .sl a/\t2 = .sl b/\a.length=b.length
def Sh(es1 es2:Row):Prop:=es2.length=es1.length/\∀(i:Nat) (e2:List Tr),es2[i]? = some e2->∃ e1,es1[i]? = some e1/\e1.length=e2.length/\∀(f:Nat) (t2:Tr),e2[f]? = some t2->∃ t1,e1[f]? = some t1/\shT t1 t2
theorem Sh.refl(es:Row):Sh es es:=⟨rfl,fun _ e2 h=>⟨e2,h,rfl,fun _ t2 h=>⟨t2,h,.inl rfl⟩⟩⟩
theorem Sh.un{es1 es2:Row}(h:Sh es1 es2){k:Nat}(hk:ZC k es1):ZC k es2:=by intro e he;obtain⟨i,hi⟩:=Ubu he;obtain⟨e1,h1,h2,_⟩:=h.2 i e hi;rw[<-h2];exact hk e1 (Uaf h1)
theorem WT{α:Type}{l:List α}{i:Nat}{x y:α}(h:l[i]? = some y)(j:Nat):(l.set i x)[j]? = if j=i then some x else l[j]?:=by
 rw[Ua3];have:=(Uad.1 h).1;by_cases hj:i=j
 ·subst hj;simp [this]
 ·rw[if_neg hj,if_neg (fun e=>hj e.symm)]
theorem Sh.set{es:Row}{a b:Nat}{e:List Tr}{x y:Row}(ha:es[a]? = some e)(hb:e[b]? = some (.sl x))(hl:y.length=x.length):Sh es (es.set a (e.set b (.sl y))):=by
 refine⟨by simp,fun i e2 h=>?_⟩;rw[WT ha] at h;by_cases hi:i=a
 ·subst hi;rw[if_pos rfl] at h;cases h;refine⟨e,ha,by simp,fun f t2 h=>?_⟩;rw[WT hb] at h;by_cases hf:f=b
  ·subst hf;rw[if_pos rfl] at h;cases h;exact⟨_,hb,.inr ⟨x,y,rfl,rfl,hl.symm⟩⟩
  ·rw[if_neg hf] at h;exact⟨t2,h,.inl rfl⟩
 ·rw[if_neg hi] at h;exact⟨e2,h,rfl,fun f t2 h=>⟨t2,h,.inl rfl⟩⟩
theorem Vn{es es2:Row}{a b:Nat}{p:Zn}(h:getp es ((a,b)::p)=some es2):∃ e x,es[a]? = some e/\e[b]? = some (.sl x)/\getp x p=some es2:=by
 simp only[getp] at h;split at h
 ·rename_i e he;split at h
  ·rename_i x hx;exact⟨e,x,he,hx,h⟩
  ·cases h
 ·cases h
theorem QY{es es2:Row}{a b:Nat}{p:Zn}{e:List Tr}{x:Row}(ha:es[a]? = some e)(hb:e[b]? = some (.sl x))(h:getp x p=some es2):getp es ((a,b)::p)=some es2:=by simp [getp,ha,hb,h]
theorem ZeO{es:Row}{a b i f:Nat}{p:Zn}{e:List Tr}{x:Row}{t:Tr}(ha:es[a]? = some e)(hb:e[b]? = some (.sl x)):ZK es ((a,b)::p) i f t=es.set a (e.set b (.sl (ZK x p i f t))):=by simp [ZK,ha,hb]
theorem Wb{es:Row}{i f:Nat}{e:List Tr}{t:Tr}(ha:es[i]? = some e):ZK es [] i f t=es.set i (e.set f t):=by simp [ZK,ha]
theorem Xo{es es2:Row}{a b:Nat}{e:List Tr}{t0 t:Tr}(ha:es[a]? = some e)(hb:e[b]? = some t0){c d:Nat}{q:Zn} :
  getp (es.set a (e.set b t)) ((c,d)::q)=some es2↔(if c=a/\d=b then ∃ x,t = .sl x/\getp x q=some es2 else getp es ((c,d)::q)=some es2):=by
 have h1:=WT (x:=e.set b t) ha c;have h2:=WT (x:=t) hb d;constructor
 ·intro h;obtain⟨e',x,g1,g2,g3⟩:=Vn h;rw[h1] at g1;by_cases hc:c=a
  ·rw[if_pos hc] at g1;cases g1;rw[h2] at g2;by_cases hd:d=b
   ·rw[if_pos hd] at g2;cases g2;rw[if_pos ⟨hc,hd⟩];exact⟨x,rfl,g3⟩
   ·rw[if_neg hd] at g2;rw[if_neg (fun h=>hd h.2)];subst hc;exact QY ha g2 g3
  ·rw[if_neg hc] at g1;rw[if_neg (fun h=>hc h.1)];exact QY g1 g2 g3
 ·intro h;by_cases hc:c=a
  ·by_cases hd:d=b
   ·rw[if_pos ⟨hc,hd⟩] at h;obtain⟨x,rfl,g3⟩:=h;exact QY (by rw[h1,if_pos hc]) (by rw[h2,if_pos hd]) g3
   ·rw[if_neg (fun h=>hd h.2)] at h;obtain⟨e',x,g1,g2,g3⟩:=Vn h;subst hc;rw[ha] at g1;cases g1;exact QY (by rw[h1,if_pos rfl]) (by rw[h2,if_neg hd];exact g2) g3
  ·rw[if_neg (fun h=>hc h.1)] at h;obtain⟨e',x,g1,g2,g3⟩:=Vn h;exact QY (by rw[h1,if_neg hc];exact g1) g2 g3
theorem ZeP:∀{p:Zn} {es es':Row} {i f:Nat} {e:List Tr} {t:Tr},getp es p=some es'->es'[i]? = some e->getp (ZK es p i f t) p=some (es'.set i (e.set f t))
 | [],es,es',i,f,e,t,h,hi=>by simp only[getp,Uat] at h;subst h;rw[Wb hi];rfl
 | (a,b)::p,es,es',i,f,e,t,h,hi=>by obtain⟨e',x,g1,g2,g3⟩:=Vn h;rw[ZeO g1 g2,Xo g1 g2,if_pos ⟨rfl,rfl⟩];exact⟨_,rfl,ZeP g3 hi⟩
theorem Zb3:∀{p:Zn} {es es':Row} {i f:Nat} {e:List Tr} {y:Value} {t0:Tr},getp es p=some es'->es'[i]? = some e->e[f]? = some t0->isSc t0=true->∀(q:Zn) (es2:Row),q≠p ->
  getp (ZK es p i f (.v y)) q=some es2->∃ es1,getp es q=some es1/\Sh es1 es2
 | [],es,es',i,f,e,y,t0,h,hi,hf,hs,q,es2,hq,h2=>by
  simp only[getp,Uat] at h;subst h;rw[Wb hi] at h2;cases q with
  | nil=>exact absurd rfl hq
  | cons cd q =>
   obtain⟨c,d⟩:=cd;rw[Xo hi hf] at h2;split at h2
   ·obtain⟨x,hx,_⟩:=h2;cases hx
   ·exact⟨es2,h2,Sh.refl _⟩
 | (a,b)::p,es,es',i,f,e,y,t0,h,hi,hf,hs,q,es2,hq,h2=>by
  obtain⟨e',x,g1,g2,g3⟩:=Vn h;rw[ZeO g1 g2] at h2;cases q with
  | nil =>
   simp only[getp,Uat] at h2;subst h2;exact⟨es,rfl,Sh.set g1 g2 (ZiM ..)⟩
  | cons cd q =>
   obtain⟨c,d⟩:=cd;rw[Xo g1 g2] at h2;split at h2
   ·rename_i hcd;obtain⟨rfl,rfl⟩:=hcd;obtain⟨z,hz,h2⟩:=h2;cases hz;obtain⟨es1,k1,k2⟩:=Zb3 g3 hi hf hs q es2 (fun hh=>hq (by rw[hh])) h2;exact⟨es1,QY g1 g2 k1,k2⟩
   ·exact⟨es2,h2,Sh.refl _⟩
theorem ZiN:∀{p:Zn} {es es':Row} {i f:Nat} {e:List Tr} {y:Value} {t0:Tr},getp es p=some es'->es'[i]? = some e->e[f]? = some t0->isSc t0=true->∀(q:Zn) (es1:Row),
  getp es q=some es1->∃ es2,getp (ZK es p i f (.v y)) q=some es2
 | [],es,es',i,f,e,y,t0,h,hi,hf,hs,q,es1,h2=>by
  simp only[getp,Uat] at h;subst h;rw[Wb hi];cases q with
  | nil=>exact⟨_,rfl⟩
  | cons cd q =>
   obtain⟨c,d⟩:=cd;refine⟨es1,?_⟩;rw[Xo hi hf];split
   ·rename_i hcd;obtain⟨rfl,rfl⟩:=hcd;obtain⟨e',x,g1,g2,g3⟩:=Vn h2;rw[hi] at g1;cases g1;rw[hf] at g2;cases g2;simp [isSc] at hs
   ·exact h2
 | (a,b)::p,es,es',i,f,e,y,t0,h,hi,hf,hs,q,es1,h2=>by
  obtain⟨e',x,g1,g2,g3⟩:=Vn h;rw[ZeO g1 g2];cases q with
  | nil=>exact⟨_,rfl⟩
  | cons cd q =>
   obtain⟨c,d⟩:=cd;by_cases hcd:c=a/\d=b
   ·obtain⟨rfl,rfl⟩:=hcd;obtain⟨e2,x2,k1,k2,k3⟩:=Vn h2;rw[g1] at k1;cases k1;rw[g2] at k2;cases k2;obtain⟨es2,hh⟩:=ZiN (y:=y) g3 hi hf hs q es1 k3;exact⟨es2,by rw[Xo g1 g2,if_pos ⟨rfl,rfl⟩];exact⟨_,rfl,hh⟩⟩
   ·exact⟨es1,by rw[Xo g1 g2,if_neg hcd];exact h2⟩
theorem ZeQ{i j k f g:Nat}(hf:f<k)(hg:g<k)(h:i*k+f=j*k+g):i=j/\f=g:=by
 have h1:(i*k+f) / k=i:=by rw[Ubw,Nat.add_mul_div_right _ _ (by omega),Nat.div_eq_of_lt hf,Uax]
 have h2:(j*k+g) / k=j:=by rw[Ubw,Nat.add_mul_div_right _ _ (by omega),Nat.div_eq_of_lt hg,Uax]
 have h3:i=j:=by rw[<-h1,<-h2,h]
 subst h3;exact⟨rfl,by omega⟩
section
variable {P:Program} {F:Fr} {G G':Gh} {S S':Zb} {st:St} {a:Act} {w w':World} {C:ZJ} {oper:Oper}
theorem Zq2{id:Zd}{k:Nat}{es es':Row}{u:Bool}{hw ver:Nat}{p:Zn}{i f b c:Nat}{e:List Tr}{t0:Tr}{vs:Array Value}{ty:TypeId}{x:Value}(h:Vd G S w id (.ar k es u hw ver))
  (hp:p=[]\/u=true) (hg:getp es p=some es') (hi:es'[i]? = some e) (hf:e[f]? = some t0) (hs:isSc t0=true) (hG:G id p=some (b,c)) (hh:w.heap[b]? = some (.cells vs ty (0,0))) (hx:Jw x=true)
  (hA:∀ b,Av G S w b->Av G S' w' b) (hhA:∀ b,Av G S w b->w'.heap[b]? = w.heap[b]?) (hw':w'=w.setRow b (vs.setIfInBounds (i*e.length+f) x)) :
  Vd G S' w' id (.ar k (ZK es p i f (.v x)) u hw ver):=by
 obtain⟨h1,h2,h3,h4,h5⟩:=h;have hun:∀ q es2,getp (ZK es p i f (.v x)) q=some es2->q≠p->∃ es1,getp es q=some es1/\Sh es1 es2:=fun q es2 he hq=>Zb3 hg hi hf hs q es2 hq he;have hunk:ZC k (ZK es p i f (.v x)):=by
  by_cases hq:[]=p
  ·subst hq;simp only[getp,Uat] at hg;subst hg;rw[Wb hi];intro e2 he2;rcases UaW he2 with h | h
   ·exact h2 e2 h
   ·subst h;rw[UaU];exact h2 e (Uaf hi)
  ·obtain⟨es1,k1,k2⟩:=hun [] _ rfl hq;simp only[getp,Uat] at k1;subst k1;exact k2.un h2
 have hsome:∀ q,(getp (ZK es p i f (.v x)) q).isSome=true->(getp es q).isSome=true:=fun q hq=>by
  obtain⟨es2,he⟩:=Uan.1 hq;by_cases hqp:q=p
  ·subst hqp;simp [hg]
  ·obtain⟨es1,k1,_⟩:=hun q es2 he hqp;simp [k1]
 refine⟨by rw[ZiM];exact h1,hunk,h3,fun q es2 hq he=>?_,fun q q' b1 c1 c1' hq hq' g1 g2=>h5 q q' b1 c1 c1' hq hq' (hsome q g1) (hsome q' g2)⟩;by_cases hqp:q=p
 ·subst hqp;have h6:=h4 q es' hq hg;rw[ZeP hg hi] at he;cases he;unfold Z7 at *;rw[hG] at *;obtain⟨k',vs',ty',g1,g2,g3,g4,g5,g6⟩:=h6;rw[hh] at g3;cases g3;have hek:e.length=k':=g2 e (Uaf hi);refine⟨k',_,ty,g1,fun e2 he2=>?_,by rw[hw'];exact setRow_heap w b vs _ ty (0,0) hh,by simpa using g4,by simpa using g5,fun i' e2 f' t2 hi' hf' => ?_⟩
  ·rcases UaW he2 with h | h
   ·exact g2 e2 h
   ·subst h;rw[UaU];exact hek
  ·rw[WT hi] at hi';have keep:∀(e3:List Tr),es'[i']? = some e3->e3[f']? = some t2 -> ¬ (i'=i/\f'=f)->∃ x',(vs.setIfInBounds (i*e.length+f) x)[i'*k'+f']? = some x'/\Jl G w' (Av G S' w') id q u i' f' x' t2:=by
    intro e3 k1 k2 hne;obtain⟨x',k3,k4⟩:=g6 i' e3 f' t2 k1 k2;refine⟨x',?_,U8 rfl hA hhA k4⟩;rw[UaV,if_neg]
    ·exact k3
    ·intro heq;rw[hek] at heq;have hfl:f<k':=by rw[<-hek];exact(Uad.1 hf).1
     have hfl':f' < k':=(by rw[<-g2 e3 (Uaf k1)];exact(Uad.1 k2).1);obtain⟨r1,r2⟩:=ZeQ hfl hfl' heq;exact hne ⟨r1.symm,r2.symm⟩
   by_cases hii:i'=i
   ·rw[if_pos hii] at hi';cases hi';rw[WT hf] at hf';by_cases hff:f'=f
    ·rw[if_pos hff] at hf';cases hf';refine⟨x,?_,rfl,hx⟩;obtain⟨x',k3,_⟩:=g6 i e f t0 hi hf;have:=(UaE.1 k3).1;rw[hii,hff,hek,UaV,if_pos rfl,if_pos this]
    ·rw[if_neg hff] at hf';rw[<-hii] at hi;exact keep e hi hf' (fun h=>hff h.2)
   ·rw[if_neg hii] at hi';exact keep e2 hi' hf' (fun h=>hii h.1)
 ·obtain⟨es1,k1,k2⟩:=hun q es2 he hqp;have h6:=h4 q es1 hq k1;unfold Z7 at *;cases hgq:G id q with
  | none =>
   rw[hgq] at h6;simp only at h6 ⊢;subst h6;exact Uay k2.1
  | some bc =>
   obtain⟨bq,cq⟩:=bc;rw[hgq] at h6;simp only at h6 ⊢;obtain⟨k',vs',ty',g1,g2,g3,g4,g5,g6⟩:=h6;have hbq:bq≠b:=by
    rintro rfl
    exact hqp (h5 q p bq cq c hq hp (by simp [k1]) (by simp [hg]) hgq hG)
   refine⟨k',vs',ty',g1,k2.un g2,by rw[hw',setRow_other w b bq _ hbq];exact g3,g4,by rw[k2.1];exact g5,fun i' e2 f' t2 hi' hf' => ?_⟩;obtain⟨e1,r1,r2,r3⟩:=k2.2 i' e2 hi';obtain⟨t1,r4,r5⟩:=r3 f' t2 hf';obtain⟨x',r6,r7⟩:=g6 i' e1 f' t1 r1 r4;refine⟨x',r6,?_⟩;rcases r5 with rfl | ⟨za,zb,rfl,rfl,hl⟩
   ·exact U8 rfl hA hhA r7
   ·have hu:u=true:=by
     rcases hp with hp | hp
     ·rcases hq with hq | hq
      ·exact absurd (hq.trans hp.symm) hqp
      ·exact hq
     ·exact hp
    simp only[Jl,hu,if_true] at r7 ⊢;rw[<-hl];exact r7
end
variable [Tabs]
section
variable {P:Program} {F:Fr} {G G':Gh} {S S':Zb} {st:St} {a:Act} {w w':World} {C:ZJ} {oper:Oper}
theorem Zb4{A A':Nat->Prop}{id id':Zd}{p p':Zn}{u:Bool}{i f:Nat}{x:Value}{t:Tr}(hG:u=true->G' id' (p'++[(i,f)])=G id (p++[(i,f)]))(hA:u=false->∀ b,A b->A' b)(hh:∀ b,A b->w'.heap[b]? = w.heap[b]?)
  (h:Jl G w A id p u i f x t):Jl G' w' A' id' p' u i f x t:=by
 cases t with
 | v y=>exact h
 | sl es =>
  simp only[Jl] at *;split
  ·rename_i hu;simp only[hu,if_true] at h;rw[hG hu];exact h
  ·rename_i hu;simp only[hu] at h;exact Rds.mono (hA (by simpa using hu)) hh h
theorem Wc{A A':Nat->Prop}{id id':Zd}{p p':Zn}{k k':Nat}{u:Bool}{es:Row}(hG0:G' id' p'=G id p)(hG:u=true->∀ q,G' id' (p'++[q])=G id (p++[q]))(hA:u=false->∀ b,A b->A' b)(hh:∀ b,A b->w'.heap[b]? = w.heap[b]?)
  (hk:p'=[]->p=[]/\k'=k) (hb:∀ b c,G id p=some (b,c)->w'.heap[b]? = w.heap[b]?) (h:Z7 G w A id p k u es):Z7 G' w' A' id' p' k' u es:=by
 unfold Z7 at *;rw[hG0];cases hg:G id p with
 | none=>simpa [hg] using h
 | some bc =>
  obtain⟨b,c⟩:=bc;simp only[hg] at h ⊢;obtain⟨kk,vs,ty,h1,h2,h3,h4,h5,h6⟩:=h;exact⟨kk,vs,ty,fun hp=>by rw[h1 (hk hp).1,(hk hp).2],h2,by rw[hb b c hg];exact h3,h4,h5,fun i e f t he hf=>by
   obtain⟨x,hx,hc⟩:=h6 i e f t he hf;exact⟨x,hx,Zb4 (fun hu=>hG hu _) hA hh hc⟩⟩
def below(g:Zn->Option (Nat×Nat))(i f:Nat)(N:Zn->Option (Nat×Nat)):Zn->Option (Nat×Nat)
 | []=>g []
 | (a,b)::q=>if a=i/\b=f then N q else g ((a,b)::q)
theorem Di{g:Zn->Option (Nat×Nat)}{i f:Nat}{N:Zn->Option (Nat×Nat)}{a b:Nat}{p:Zn}(h:¬ (a=i/\b=f)):below g i f N ((a,b)::p)=g ((a,b)::p):=by simp only[below];rw[if_neg h]
theorem below_in{g:Zn->Option (Nat×Nat)}{i f:Nat}{N:Zn->Option (Nat×Nat)}{p:Zn}:below g i f N ((i,f)::p)=N p:=by simp [below]
theorem ZiO{id:Zd}{k:Nat}{es:Row}{u:Bool}{hw ver:Nat}{i f b c:Nat}{e:List Tr}{t0:Tr}{vs:Array Value}{ty:TypeId}{x:Value}{zs:Row}{N:Zn->Option (Nat×Nat)}(h:Vd G S w id (.ar k es u hw ver))
  (hi:es[i]? = some e) (hf:e[f]? = some t0) (hG:G id []=some (b,c)) (hh:w.heap[b]? = some (.cells vs ty (0,0))) (hG':G' id=below (G id) i f N)
  (hA:∀ b,Av G S w b->Av G' S' w' b) (hhA:∀ b,Av G S w b->w'.heap[b]? = w.heap[b]?) (hw':w'=w.setRow b (vs.setIfInBounds (i*e.length+f) x))
  (hx:Jl G' w' (Av G' S' w') id [] u i f x (.sl zs))
  (hN:u=true->∀ q es2,getp zs q=some es2->Z7 G' w' (Av G' S' w') id ((i,f)::q) k u es2)
  (hI:u=true->∀ q1 q2 b c c',(getp zs q1).isSome=true->(getp zs q2).isSome=true->N q1=some (b,c)->N q2=some (b,c')->q1=q2)
  (hX:u=true->∀ q1 q b1 c1 c2,(getp zs q1).isSome=true->N q1=some (b1,c1)->(getp es q).isSome=true->G id q=some (b1,c2)->False) :
  Vd G' S' w' id (.ar k (ZK es [] i f (.sl zs)) u hw (ver+1)):=by
 obtain⟨h1,h2,h3,h4,h5⟩:=h;rw[Wb hi];have hb0:∀{bq cq:Nat} {q:Zn},u=true->q≠[]->(getp es q).isSome=true->G id q=some (bq,cq)->bq≠b:=fun {bq cq q} hu hq hs hg hbb=>by subst hbb;exact hq (h5 q [] bq cq c (.inr hu) (.inl rfl) hs rfl hg hG)
 refine⟨by rw[UaU];exact h1,?_,by rw[hG'];exact h3,fun q es2 hq he=>?_,fun q q' b1 c1 c1' hq hq' g1 g2 k1 k2=>?_⟩
 ·intro e2 he2;rcases UaW he2 with h | h
  ·exact h2 e2 h
  ·subst h;rw[UaU];exact h2 e (Uaf hi)
 ·cases q with
  | nil =>
   simp only[getp,Uat] at he;subst he;have h6:=h4 [] es (.inl rfl) rfl;unfold Z7 at *;rw[hG'];simp only[below];rw[hG] at *;simp only at h6 ⊢;obtain⟨k',vs',ty',g1,g2,g3,g4,g5,g6⟩:=h6;rw[hh] at g3;cases g3;have hek:e.length=k':=g2 e (Uaf hi);refine⟨k',_,ty,g1,fun e2 he2=>?_,by rw[hw'];exact setRow_heap w b vs _ ty (0,0) hh,by simpa using g4,by simpa using g5,fun i' e2 f' t2 hi' hf' => ?_⟩
   ·rcases UaW he2 with h | h
    ·exact g2 e2 h
    ·subst h;rw[UaU];exact hek
   ·rw[WT hi] at hi';have keep:∀(e3:List Tr),es[i']? = some e3->e3[f']? = some t2 -> ¬ (i'=i/\f'=f)->∃ x',(vs.setIfInBounds (i*e.length+f) x)[i'*k'+f']? = some x'/\Jl G' w' (Av G' S' w') id [] u i' f' x' t2:=by
     intro e3 k1 k2 hne;obtain⟨x',k3,k4⟩:=g6 i' e3 f' t2 k1 k2;refine⟨x',?_,Zb4 (fun _=>by rw[hG'];exact Di hne) (fun _=>hA) hhA k4⟩;rw[UaV,if_neg]
     ·exact k3
     ·intro heq;rw[hek] at heq;have hfl:f<k':=by rw[<-hek];exact(Uad.1 hf).1
      have hfl':f' < k':=(by rw[<-g2 e3 (Uaf k1)];exact(Uad.1 k2).1);obtain⟨r1,r2⟩:=ZeQ hfl hfl' heq;exact hne ⟨r1.symm,r2.symm⟩
    by_cases hii:i'=i
    ·rw[if_pos hii] at hi';cases hi';rw[WT hf] at hf';by_cases hff:f'=f
     ·rw[if_pos hff] at hf';cases hf';rw[hii,hff];refine⟨x,?_,hx⟩;obtain⟨x',k3,_⟩:=g6 i e f t0 hi hf;have:=(UaE.1 k3).1;rw[hek,UaV,if_pos rfl,if_pos this]
     ·rw[if_neg hff] at hf';rw[<-hii] at hi;exact keep e hi hf' (fun h=>hff h.2)
    ·rw[if_neg hii] at hi';exact keep e2 hi' hf' (fun h=>hii h.1)
  | cons cd q =>
   obtain⟨c1,d1⟩:=cd;have hu:u=true:=by
     rcases hq with hq | hq; · cases hq
     ·exact hq
   rw[Xo hi hf] at he;split at he
   ·rename_i hcd;obtain⟨rfl,rfl⟩:=hcd;obtain⟨z,hz,he⟩:=he;cases hz;exact hN hu q es2 he
   ·rename_i hcd;have h6:=h4 _ es2 (.inr hu) he;exact Wc (by rw[hG'];exact Di hcd) (fun _ r=>by rw[hG'];exact Di hcd) (fun _=>hA) hhA (fun h=>by cases h) (fun bq cq hg=>by rw[hw',setRow_other w b bq _ (hb0 hu (by simp) (by simp [he]) hg)]) h6
 ·have sp:∀ q b c,(q=[]\/u=true)->(getp (es.set i (e.set f (.sl zs))) q).isSome=true->G' id q=some (b,c)->(∃ q',q=(i,f)::q'/\u=true/\(getp zs q').isSome=true/\N q'=some (b,c))\/((getp es q).isSome=true/\G id q=some (b,c)):=by
   intro q b c hq hs hg;cases q with
   | nil=>exact .inr ⟨rfl,by rw[hG'] at hg;exact hg⟩
   | cons cd q =>
    obtain⟨c1,d1⟩:=cd;have hu:u=true:=by
      rcases hq with hq | hq; · cases hq
      ·exact hq
    obtain⟨es2,he⟩:=Uan.1 hs;rw[Xo hi hf] at he;rw[hG'] at hg;split at he
    ·rename_i hcd;obtain⟨rfl,rfl⟩:=hcd;obtain⟨z,hz,he⟩:=he;cases hz;rw[below_in] at hg;exact .inl ⟨q,rfl,hu,by simp [he],hg⟩
    ·rename_i hcd;rw[Di hcd] at hg;exact .inr ⟨by simp [he],hg⟩
  rcases sp q b1 c1 hq g1 k1 with ⟨q1,rfl,hu,r1,r2⟩ | ⟨r1,r2⟩<;>rcases sp q' b1 c1' hq' g2 k2 with ⟨q2,rfl,hu2,s1,s2⟩ | ⟨s1,s2⟩
  ·rw[hI hu q1 q2 b1 c1 c1' r1 s1 r2 s2]
  ·exact(hX hu q1 q' b1 c1 c1' r1 r2 s1 s2).elim
  ·exact(hX hu2 q2 q b1 c1' c1 s1 s2 r1 r2).elim
  ·exact h5 q q' b1 c1 c1' hq hq' r1 s1 r2 s2
theorem QZ(st:St)(id:Zd)(o:Ob)(x:IV):{ Zp st id o with env:=ptd none x st.env }=Zp st id o:=by unfold Zp;split<;>rfl
theorem Sim.freeze(h:Sim F G st a w){id:Zd}{k:Nat}{es:Row}{hw ver:Nat}{u:Bool}(hs:st.sto id=some (.ar k es u hw ver)) :
  Sim F G (Zp st id (.ar k es false hw ver)) a w/\Trn G G st.sto (Zp st id (.ar k es false hw ver)).sto w w (· = id) (fun _=>False):=by
 cases u with
 | false =>
  have he:(Zp st id (.ar k es false hw ver)).sto=st.sto:=by
   rw[Yt];funext i;unfold Zo;split
   ·rename_i hi;rw[hi,hs]
   ·rfl
  refine⟨?_,?_⟩
  ·refine⟨h.dfr,h.sz,by rw[he,WS];exact h.env,by rw[he];exact h.ok,by rw[QC];exact h.lvl,?_,by rw[he];exact h.fr,h.fix⟩;intro i ob hi;rw[QC];unfold Zp at hi;split at hi
   ·exact h.outl i ob hi
   ·rename_i hne;simp only[Zo] at hi;split at hi
    ·rename_i hii;subst hii;rw[YS hne] at hs;exact h.outl _ _ hs
    ·exact h.outl i ob hi
  ·rw[he];refine⟨fun _ _=>rfl,fun i ob _ _ hs=>⟨ob,hs,?_⟩,fun i ob _ hs=>⟨fun h=>h,ob,hs,?_⟩,Ual _,fun _ _ _=>rfl,fun i ob b _ hs ho=>.inl ⟨i,ob,.inl ‹_›,hs,ho⟩,fun i ob _ _ hs=>⟨ob,hs,Qg rfl ob⟩⟩
   all_goals
    cases ob with
    | bx cells=>exact .bx cells cells (JK (fun _ _ h=>h) _ (QX _)) (fun _ _ _ _ h=>h) (fun _ h=>h)
    | ar=>exact .ar ..
    | mp=>exact .mp ..
 | true =>
  have hok:=h.ok.obs _ _ hs;have own:∀ b,ZM G id (.ar k es false hw ver) b->ZM G id (.ar k es true hw ver) b:=fun b ⟨p,c,hp,h1,h2⟩=>⟨p,c,.inr rfl,h1,h2⟩;have rel:∀ ob,st.sto id=some ob->idR G G id ob (.ar k es false hw ver):=fun ob ho=>by
   rw[hs] at ho;cases ho;refine⟨rfl,Ual _,Ual _,fun p s _ hst=>⟨?_,fun es' he=>⟨rfl,es',he,fun _ _ hk=>hk⟩⟩⟩;cases p with
   | nil=>exact hst
   | cons q p=>exact absurd hst.1 (by simp)
  have hx:=And.left <| h.turn (Kl.refl st) (id:=id) (ob':=.ar k es false hw ver) (d:=none) (x:=.un) (v:=undef) (G':=G) (w':=w) (fun h=>h) (.inr (by rw[hs];rfl)) (fun _ _=>rfl) (Ual _) (fun _ _ _=>rfl)
   (fun b ho=>.inl ⟨id,_,.inl rfl,hs,own b ho⟩) rel rfl rfl rfl (fun t=>?_) (fun _ he=>by cases he) (fun _ he=>by cases he) (fun _=>trivial)
  ·rw[QZ] at hx;refine⟨hx,?_⟩;rw[Yt];refine⟨fun _ _=>rfl,fun i ob hi _ hs=>⟨ob,by unfold Zo;rw[if_neg hi];exact hs,?_⟩,fun i ob hi hs=>⟨fun h=>h,ob,by unfold Zo at hs;rw[if_neg hi] at hs;exact hs,?_⟩,Ual _,fun _ _ _=>rfl,fun i ob b hi hs2 ho=>?_,fun i ob hi _ hs2=>?_⟩
   ·cases ob with
    | bx cells=>exact .bx cells cells (JK (fun _ _ h=>h) _ (QX _)) (fun _ _ _ _ h=>h) (fun _ h=>h)
    | ar=>exact .ar ..
    | mp=>exact .mp ..
   ·cases ob with
    | bx cells=>exact .bx cells cells (JK (fun _ _ h=>h) _ (QX _)) (fun _ _ _ _ h=>h) (fun _ h=>h)
    | ar=>exact .ar ..
    | mp=>exact .mp ..
   ·subst hi;unfold Zo at hs2;rw[if_pos rfl] at hs2;cases hs2;exact .inl ⟨_,_,.inl rfl,hs,own b ho⟩
   ·subst hi;exact⟨_,by unfold Zo;rw[if_pos rfl],rel ob hs2⟩
  ·obtain⟨h1,h2,h3,h4,h5⟩:=hok;refine⟨h1,h2,h3,fun p es' hp he=>?_,fun p p' b c c' hp hp' => h5 p p' b c c' (.inr rfl) (.inr rfl)⟩;have hp0:p=[]:=by
     rcases hp with h | h; · exact h
     ·cases h
   subst hp0;simp only[getp,Uat] at he;subst he;have h6:=h4 [] es (.inl rfl) rfl;unfold Z7 at *;cases hg:G id [] with
   | none=>simpa [hg] using h6
   | some bc =>
    obtain⟨b,c⟩:=bc;simp only[hg] at h6 ⊢;obtain⟨kk,vs,ty,g1,g2,g3,g4,g5,g6⟩:=h6;refine⟨kk,vs,ty,g1,g2,g3,g4,g5,fun i e f t he hf=>?_⟩;obtain⟨x,hx1,hc⟩:=g6 i e f t he hf;refine⟨x,hx1,?_⟩;have hr:=Zep (A:=Av G (Zo st.sto id (.ar k es false hw ver)) w) (h.ok.obs _ _ hs) (fun hu=>by cases hu) (fun blk p c hp _ hsome hgp=>?_) t [] i f x es e (.inl rfl) rfl he hf hc
    ·cases t with
     | v y=>exact hc
     | sl z=>simpa [Jl] using hr
    ·refine⟨Ys (h.ok.obs _ _ hs) ⟨p,c,.inr rfl,hsome,hgp⟩,fun j ob hj ho=>?_⟩;unfold Zo at hj;split at hj
     ·rename_i hji;cases hj;rw[hji] at ho;obtain⟨p2,c2,hp2,hs2,hg2⟩:=ho;have hp20:p2=[]:=by
        rcases hp2 with h | h; · exact h
        ·cases h
      exact hp ((h5 p p2 blk c c2 (.inr rfl) (.inr rfl) hsome hs2 hgp hg2).trans hp20)
     ·rename_i hji;exact hji (h.ok.dis _ _ _ _ blk hj hs ho ⟨p,c,.inr rfl,hsome,hgp⟩)
end
variable [Tabs]
section
variable {P:Program} {F:Fr} {G G':Gh} {S S':Zb} {st:St} {a:Act} {w w':World} {C:ZJ} {oper:Oper}
theorem Zq3{g i:Nat}{t:TypeId}{v:Value}{cur:Array Value}(hg:w.heap[g]? = some (.cells cur t (0,0)))(hi:i<cur.size)(h1:v.oneCell'=true) :
  (store ⟨g,i,none⟩ v).run P w = .ok () (w.setRow g (cur.setIfInBounds i v)):=by
 have hcell:w.cell? ⟨g,i,none⟩=some cur[i]:=by simp [World.cell?,hg,hi]
 have hfro:w.frozen? ⟨g,i,none⟩=false:=by simp [World.frozen?,hg]
 rw[run_store P w _ v _ h1,hcell];simp [hfro,setCell_eq_setRow w g i cur t (0,0) v hg]
theorem Wd{x:IV}{v:Value}(h:VR G S w x v)(hc:isCell x=true):v.oneCell'=true:=by
 cases x<;>simp only[VR] at h<;>first
  | (simp [isCell] at hc;done)
  | (cases h<;>first | rfl | (rename_i h1;revert h1;cases v<;>simp [Jw,Value.oneCell']);done)
  | (obtain⟨⟨_,rfl⟩,_⟩:=h;rfl)
  | (obtain⟨⟨_,_,rfl,_⟩,_⟩:=h;rfl)
  | (obtain⟨_,_,_,_,_,rfl⟩:=h;rfl)
  | (obtain⟨_,_,_,_,rfl,_⟩:=h;rfl)
  | (obtain⟨_,rfl,_⟩:=h;rfl)
  | (obtain⟨_,_,rfl⟩:=h;rfl)
structure Stp (F:Fr) (a:Act) (G:Gh) (st st':St) (w w':World) (G':Gh):Prop where
 sim:Sim F G' st' a w'
 vr:∀ x v,men (fun i=>(st'.sto i).isSome=true) x->VR G st.sto w x v->VR G' st'.sto w' x v
 live:∀ i,(st'.sto i).isSome=true->(st.sto i).isSome=true
theorem Stp.trans{G1 G2:Gh}{st1 st2:St}{w1 w2:World}(h:Stp F a G st st1 w w1 G1)(k:Stp F a G1 st1 st2 w1 w2 G2):Stp F a G st st2 w w2 G2 :=
 ⟨k.sim,fun x v hm hv=>k.vr x v hm (h.vr x v (JZ (fun i hi=>k.live i hi) x hm) hv),fun i hi=>h.live i (k.live i hi)⟩
theorem Stp.refl(h:Sim F G st a w):Stp F a G st st w w G:=⟨h,fun _ _ _ h=>h,fun _ h=>h⟩
theorem Stp.of{st':St}{T D:Zd->Prop}(h:Sim F G' st' a w')(t:Trn G G' st.sto st'.sto w w' T D)(hT:∀ i,T i -> ¬ D i/\(st.sto i).isSome=true):Stp F a G st st' w w' G':=by
 have key:∀ i,(st'.sto i).isSome=true -> ¬ D i/\(st.sto i).isSome=true:=fun i hi=>by
  by_cases hti:T i
  ·exact hT i hti
  ·obtain⟨ob,ho⟩:=Uan.1 hi;obtain⟨h1,ob0,h2,_⟩:=t.only i ob hti ho;exact⟨h1,by simp [h2]⟩
 exact⟨h,fun x v hm hv=>t.vr x v (JZ (fun i hi=>(key i hi).1) x hm) hv,fun i hi=>(key i hi).2⟩
theorem ZiP(t:Nat)(x y:Ob):∀ l,ptO t y (ptO t x l)=ptO t y l
 | []=>by simp [ptO]
 | (b,z)::r=>by
  simp only[ptO];split
  ·simp [ptO]
  ·split
   ·simp [ptO]
   ·rename_i h1 h2;simp only[ptO];rw[if_neg h1,if_neg h2,ZiP t x y r]
theorem Zq4(S:Zb)(id:Zd)(x y:Ob):Zo (Zo S id x) id y=Zo S id y:=by funext i;unfold Zo;split<;>rfl
theorem Zb5(st:St)(id:Zd)(x y:Ob):Zp (Zp st id x) id y=Zp st id y:=by
 unfold Zp;by_cases h:id.1=st.lvl
 ·simp only[h,if_true,ZiP]
 ·simp only[h,if_false,Zq4]
theorem Zq5(h:Sim F G st a w){id:Zd}{p:Zn}{i f s:Nat}{k:Nat}{es es':Row}{u:Bool}{hw ver:Nat}{e:List Tr}{t0:Tr}{x:Value}(hs:st.sto id=some (.ar k es u hw ver))
  (hg:getp es p=some es') (hst:J2 p s hw ver u) (hi:es'[i]? = some e) (hf:e[f]? = some t0) (hsc:isSc t0=true) {b c:Nat} {vs:Array Value} {ty:TypeId} (hG:G id p=some (b,c)) (hh:w.heap[b]? = some (.cells vs ty (0,0)))
  (hx:Jw x=true):Stp F a G st (Zp st id (.ar k (ZK es p i f (.v x)) u hw ver)) w (w.setRow b (vs.setIfInBounds (i*e.length+f) x)) G:=by
 have hp:=ZbQ hst;have hsome:∀ q,(getp (ZK es p i f (.v x)) q).isSome=true->(getp es q).isSome=true:=fun q hq=>by
  obtain⟨es2,he⟩:=Uan.1 hq;by_cases hqp:q=p
  ·subst hqp;simp [hg]
  ·obtain⟨es1,k1,_⟩:=Zb3 hg hi hf hsc q es2 hqp he;simp [k1]
 have ht:=h.turn (Kl.refl st) (id:=id) (ob':=.ar k (ZK es p i f (.v x)) u hw ver) (d:=none) (x:=.un) (v:=undef) (G':=G) (w':=w.setRow b (vs.setIfInBounds (i*e.length+f) x)) (fun h=>h) (.inr (by rw[hs];rfl)) (fun _ _=>rfl) (by simp)
  (fun blk hb hn=>setRow_other w b blk _ (fun hbb=>by subst hbb;exact hn _ hs ⟨p,c,hp,by simp [hg],hG⟩))
  (fun blk ho=>by
   obtain⟨q,cq,hq,hqs,hgq⟩:=ho;exact .inl ⟨id,_,.inl rfl,hs,q,cq,hq,hsome q hqs,hgq⟩)
  (fun ob ho=>by
   rw[hs] at ho;cases ho;refine⟨rfl,Ual _,Ual _,fun q s2 _ hq=>⟨hq,fun es1 he=>⟨rfl,?_⟩⟩⟩;by_cases hqp:q=p
   ·subst hqp;rw[hg] at he;cases he;refine⟨_,ZeP hg hi,fun k' _ hk e2 he2=>?_⟩;rcases UaW he2 with h | h
    ·exact hk e2 h
    ·subst h;rw[UaU];exact hk e (Uaf hi)
   ·obtain⟨es2,h2⟩:=ZiN (y:=x) hg hi hf hsc q es1 he;obtain⟨es3,h3,h4⟩:=Zb3 hg hi hf hsc q es2 hqp h2;rw[he] at h3;cases h3;exact⟨es2,h2,fun k' _ hk=>h4.un hk⟩)
  rfl rfl rfl (fun t=>Zq2 (h.ok.obs _ _ hs) hp hg hi hf hsc hG hh hx t.av t.same rfl) (fun _ he=>by cases he) (fun _ he=>by cases he) (fun _=>trivial)
 rw[QZ] at ht;exact Stp.of ht.1 (by rw[Yt];exact ht.2) fun j hj=>⟨fun h=>h,by rw[show j=id from hj,hs];rfl⟩
theorem ZiQ(h:Sim F G st a w){id:Zd}{i f:Nat}{k:Nat}{es:Row}{u:Bool}{hw ver:Nat}{e:List Tr}{t0:Tr}{x:Value}{zs:Row}(hs:st.sto id=some (.ar k es u hw ver))
  (hi:es[i]? = some e) (hf:e[f]? = some t0) {b c:Nat} {vs:Array Value} {ty:TypeId} (hG:G id []=some (b,c)) (hh:w.heap[b]? = some (.cells vs ty (0,0)))
  (hx:Rds w (Av G st.sto w) x (.sl zs)) (hu:u=true->zs=[]) :
  ∃ G',Stp F a G st (Zp st id (.ar k (ZK es [] i f (.sl zs)) u hw (ver+1))) w (w.setRow b (vs.setIfInBounds (i*e.length+f) x)) G':=by
 let N:Zn->Option (Nat×Nat):=fun _=>none;let G':Gh:=fun j=>if j=id then below (G id) i f N else G j
 have hG':G' id=below (G id) i f N:=by simp [G']
 have hb0:ZM G id (.ar k es u hw ver) b:=⟨[],c,.inl rfl,rfl,hG⟩
 have ht:=h.turn (Kl.refl st) (id:=id) (ob':=.ar k (ZK es [] i f (.sl zs)) u hw (ver+1)) (d:=none) (x:=.un) (v:=undef) (G':=G') (w':=w.setRow b (vs.setIfInBounds (i*e.length+f) x)) (fun h=>h) (.inr (by rw[hs];rfl))
  (fun j hj=>by simp [G',hj]) (by simp)
  (fun blk hb hn=>setRow_other w b blk _ (fun hbb=>by subst hbb;exact hn _ hs hb0))
  (fun blk ho=>by
   obtain⟨q,cq,hq,hqs,hgq⟩:=ho;rw[hG'] at hgq;refine .inl ⟨id,_,.inl rfl,hs,q,cq,hq,?_,?_⟩
   ·cases q with
    | nil=>rfl
    | cons cd q =>
     obtain⟨es2,he⟩:=Uan.1 hqs;rw[Wb hi,Xo hi hf] at he;split at he
     ·rename_i hcd;obtain⟨rfl,rfl⟩:=hcd;rw[below_in] at hgq;cases hgq
     ·simp [he]
   ·cases q with
    | nil=>exact hgq
    | cons cd q =>
     by_cases hcd:cd.1=i/\cd.2=f
     ·obtain⟨rfl,rfl⟩:=hcd;rw[below_in] at hgq;cases hgq
     ·rw[Di hcd] at hgq;exact hgq)
  (fun ob ho=>by
   rw[hs] at ho;cases ho;refine⟨rfl,Ual _,Nat.le_succ _,fun q s2 hbd hq=>?_⟩;cases q with
   | nil =>
    refine⟨hq,fun es1 he=>⟨by rw[hG'];rfl,?_⟩⟩;simp only[getp,Uat] at he;subst he;refine⟨_,rfl,fun k' _ hk e2 he2=>?_⟩;rw[Wb hi] at he2;rcases UaW he2 with h | h
    ·exact hk e2 h
    ·subst h;rw[UaU];exact hk e (Uaf hi)
   | cons cd q =>
    have h1:s2<=ver:=hbd;have h2:s2=ver+1:=hq.2;omega)
  rfl rfl rfl (fun t=>ZiO (h.ok.obs _ _ hs) hi hf hG hh hG' t.av t.same rfl ?_ (fun hu2 q es2 he=>?_) (fun _ _ _ _ _ _ _ _ h _=>by cases h) (fun _ _ _ _ _ _ _ h _ _=>by cases h)) (fun _ he=>by cases he) (fun _ he=>by cases he) (fun _=>trivial)
 ·rw[QZ] at ht;exact⟨G',Stp.of ht.1 (by rw[Yt];exact ht.2) fun j hj=>⟨fun h=>h,by rw[show j=id from hj,hs];rfl⟩⟩
 ·simp only[Jl];split
  ·rename_i hu2;have:=hu hu2;subst this;obtain⟨ad,cc,rfl⟩:=Rds.empty hx;exact⟨ad,cc,rfl,UbC _,.inl rfl⟩
  ·exact Rds.mono t.av t.same hx
 ·have:=hu hu2;subst this;obtain⟨rfl,rfl⟩:=Qi he;unfold Z7;rw[hG',below_in]
theorem Zq6(h:Sim F G st a w){id id2:Zd}{i f:Nat}{k k2:Nat}{es:Row}{hw ver hw2 ver2:Nat}{e:List Tr}{t0:Tr}{x:Value}{zs:Row}(hs:st.sto id=some (.ar k es true hw ver))(hs2:st.sto id2=some (.ar k2 zs true hw2 ver2))
  (hne:id2≠id) (hl2:id2.1=st.lvl)
  (hi:es[i]? = some e) (hf:e[f]? = some t0) {b c:Nat} {vs:Array Value} {ty:TypeId} (hG:G id []=some (b,c)) (hh:w.heap[b]? = some (.cells vs ty (0,0)))
  (hx:Vk G st.sto id2 [] 0 zs.length none hw2 x) :
  ∃ G',Stp F a G st (Zp (Zw id2 st) id (.ar k (ZK es [] i f (.sl zs)) true hw (ver+1))) w (w.setRow b (vs.setIfInBounds (i*e.length+f) x)) G':=by
 let G':Gh:=fun j=>if j=id then below (G id) i f (G id2) else G j
 have hG':G' id=below (G id) i f (G id2):=by simp [G']
 have hb0:ZM G id (.ar k es true hw ver) b:=⟨[],c,.inl rfl,rfl,hG⟩;have hok2:=h.ok.obs _ _ hs2
 have hX:∀ q1 q b1 c1 c2,(getp zs q1).isSome=true->G id2 q1=some (b1,c1)->(getp es q).isSome=true->G id q=some (b1,c2)->False:=fun q1 q b1 c1 c2 h1 h2 h3 h4 =>
  hne (h.ok.dis _ _ _ _ b1 hs2 hs ⟨q1,c1,.inr rfl,h1,h2⟩ ⟨q,c2,.inr rfl,h3,h4⟩)
 have hnd:¬ (False\/id=id2):=fun h=>h.elim (fun hh=>hh) fun hh=>hne hh.symm;have kl:=(Kl.refl st).step (fun j cells hj=>h.ok.low j cells hj) h.outl hl2 (by rw[hs2];rfl)
 have ht:=h.turn kl (id:=id) (ob':=.ar k (ZK es [] i f (.sl zs)) true hw (ver+1)) (d:=none) (x:=.un) (v:=undef) (G':=G') (w':=w.setRow b (vs.setIfInBounds (i*e.length+f) x)) hnd (.inr (by rw[hs];rfl))
  (fun j hj=>by simp [G',hj]) (by simp)
  (fun blk hb hn=>setRow_other w b blk _ (fun hbb=>by subst hbb;exact hn _ hs hb0))
  (fun blk ho=>by
   obtain⟨q,cq,hq,hqs,hgq⟩:=ho;rw[hG'] at hgq;cases q with
   | nil=>exact .inl ⟨id,_,.inl rfl,hs,[],cq,.inl rfl,rfl,hgq⟩
   | cons cd q =>
    obtain⟨es2,he⟩:=Uan.1 hqs;obtain⟨c1,d1⟩:=cd;rw[Wb hi,Xo hi hf] at he;split at he
    ·rename_i hcd;obtain⟨rfl,rfl⟩:=hcd;obtain⟨z,hz,he⟩:=he;cases hz;rw[below_in] at hgq;exact .inl ⟨id2,_,.inr (.inr rfl),hs2,q,cq,.inr rfl,by simp [he],hgq⟩
    ·rename_i hcd;rw[Di hcd] at hgq;exact .inl ⟨id,_,.inl rfl,hs,_,cq,.inr rfl,by simp [he],hgq⟩)
  (fun ob ho=>by
   rw[hs] at ho;cases ho;refine⟨rfl,Ual _,Nat.le_succ _,fun q s2 hbd hq=>?_⟩;cases q with
   | nil =>
    refine⟨hq,fun es1 he=>⟨by rw[hG'];rfl,?_⟩⟩;simp only[getp,Uat] at he;subst he;refine⟨_,rfl,fun k' _ hk e2 he2=>?_⟩;rw[Wb hi] at he2;rcases UaW he2 with h | h
    ·exact hk e2 h
    ·subst h;rw[UaU];exact hk e (Uaf hi)
   | cons cd q =>
    have h1:s2<=ver:=hbd;have h2:s2=ver+1:=hq.2;omega)
  rfl rfl rfl (fun t=>ZiO (h.ok.obs _ _ hs) hi hf hG hh hG' t.av t.same rfl ?_ (fun _ q es2 he=>?_) (fun _ q1 q2 b1 c1 c1' h1 h2 h3 h4=>hok2.2.2.2.2 q1 q2 b1 c1 c1' (.inr rfl) (.inr rfl) h1 h2 h3 h4) (fun _=>hX)) (fun _ he=>by cases he) (fun _ he=>by cases he) (fun _=>trivial)
 ·have hks:Zp (Zw id2 st) id (.ar k (ZK es [] i f (.sl zs)) true hw (ver+1)) = { Zp (Zw id2 st) id (.ar k (ZK es [] i f (.sl zs)) true hw (ver+1)) with env:=ptd none .un (Zw id2 st).env }:=(QZ ..).symm;refine⟨G',?_⟩;rw[hks];exact Stp.of ht.1 (by rw[<-hks,Yt];exact ht.2) fun j hj=>⟨by rw[show j=id from hj];exact hnd,by rw[show j=id from hj,hs];rfl⟩
 ·simp only[Jl,if_true];obtain⟨⟨a0,c0,hx0,hle⟩,k3,es3,u3,hw3,ver3,g1,_,g2⟩:=hx;rw[hs2] at g1;cases g1;obtain⟨es4,k4,ad,cc,e1,e2,e3,e4,e5,e6,e7,e8⟩:=g2 rfl;refine⟨ad,cc,e4,e5,?_⟩;rcases e8 with h0 | ⟨h0,_⟩ | ⟨b1,c1,h1,h2,h3⟩
  ·exact .inl (by omega)
  ·exact absurd rfl h0
  ·refine .inr ⟨b1,c1,?_,by simpa using h2,by simpa using h3⟩;rw[hG'];exact below_in.trans h1
 ·refine Wc (id:=id2) (p:=q) (A:=Av G st.sto w) (by rw[hG'];exact below_in) (fun _ r=>by rw[hG'];exact below_in) (fun hu=>by cases hu) t.same (fun h=>by cases h) (fun bq cq hg=>setRow_other w b bq _ (fun hbb=>?_)) (hok2.2.2.2.1 q es2 (.inr rfl) he);subst hbb;exact hX q [] bq cq c (by simp [he]) hg rfl hG
theorem Zq7(h:Sim F G st a w){id:Zd}{i f:Nat}{k:Nat}{es:Row}{hw ver:Nat}{e:List Tr}{x:Value}{zs:Row}(hs:st.sto id=some (.ar k es true hw ver))
  (hi:es[i]? = some e) (hf:e[f]? = some (.sl zs)) {b c:Nat} {vs:Array Value} {ty:TypeId} (hG:G id []=some (b,c)) (hh:w.heap[b]? = some (.cells vs ty (0,0)))
  (hx:Vk G st.sto id [(i,f)] 0 zs.length none ver x) :
  Stp F a G st (Zp st id (.ar k es true hw ver)) w (w.setRow b (vs.setIfInBounds (i*e.length+f) x)) G:=by
 have hb0:ZM G id (.ar k es true hw ver) b:=⟨[],c,.inl rfl,rfl,hG⟩
 have ht:=h.turn (Kl.refl st) (id:=id) (ob':=.ar k es true hw ver) (d:=none) (x:=.un) (v:=undef) (G':=G) (w':=w.setRow b (vs.setIfInBounds (i*e.length+f) x)) (fun h=>h) (.inr (by rw[hs];rfl)) (fun _ _=>rfl) (by simp)
  (fun blk hb hn=>setRow_other w b blk _ (fun hbb=>by subst hbb;exact hn _ hs hb0))
  (fun blk ho=>.inl ⟨id,_,.inl rfl,hs,ho⟩)
  (fun ob ho=>by rw[hs] at ho;cases ho;exact Qg rfl _)
  rfl rfl rfl (fun t=>?_) (fun _ he=>by cases he) (fun _ he=>by cases he) (fun _=>trivial)
 ·rw[QZ] at ht;exact Stp.of ht.1 (by rw[Yt];exact ht.2) fun j hj=>⟨fun h=>h,by rw[show j=id from hj,hs];rfl⟩
 ·obtain⟨h1,h2,h3,h4,h5⟩:=h.ok.obs _ _ hs;refine⟨h1,h2,h3,fun q es2 hq he=>?_,h5⟩;have h6:=h4 q es2 hq he;cases q with
  | cons cd q =>
   refine Zen rfl t.av t.same (fun bq cq hg=>setRow_other w b bq _ (fun hbb=>?_)) h6;subst hbb;have:=h5 (cd::q) [] bq cq c (.inr rfl) (.inl rfl) (by rw[he];rfl) rfl hg hG;cases this
  | nil =>
   simp only[getp,Uat] at he;subst he;unfold Z7 at *;rw[hG] at *;simp only at h6 ⊢;obtain⟨k',vs',ty',g1,g2,g3,g4,g5,g6⟩:=h6;rw[hh] at g3;cases g3;have hek:e.length=k':=g2 e (Uaf hi);refine⟨k',_,ty,g1,g2,setRow_heap w b vs _ ty (0,0) hh,by simpa using g4,g5,fun i' e2 f' t2 hi' hf' => ?_⟩;by_cases hne:i'=i/\f'=f
   ·obtain⟨rfl,rfl⟩:=hne;rw[hi] at hi';cases hi';rw[hf] at hf';cases hf';refine⟨x,?_,?_⟩
    ·obtain⟨x',k3,_⟩:=g6 i' e f' _ hi hf;have:=(UaE.1 k3).1;rw[hek,UaV,if_pos rfl,if_pos this]
    ·simp only[Jl,if_true];obtain⟨⟨a0,c0,hx0,hle⟩,k3,es3,u3,hw3,ver3,q1,_,q2⟩:=hx;rw[hs] at q1;cases q1;obtain⟨es4,k4,ad,cc,e1,e2,e3,e4,e5,e6,e7,e8⟩:=q2 ⟨rfl,rfl⟩;refine⟨ad,cc,e4,e5,?_⟩;rcases e8 with h0 | ⟨_,h0⟩ | ⟨b1,c1,r1,r2,r3⟩
     ·exact .inl (by omega)
     ·exact .inl h0
     ·exact .inr ⟨b1,c1,r1,by simpa using r2,by simpa using r3⟩
   ·obtain⟨x',k3,k4⟩:=g6 i' e2 f' t2 hi' hf';refine⟨x',?_,U8 rfl t.av t.same k4⟩;rw[UaV,if_neg]
    ·exact k3
    ·intro heq;rw[hek] at heq;have hfl:f<k':=by rw[<-hek];exact(Uad.1 hf).1
     have hfl':f' < k':=(by rw[<-g2 e2 (Uaf hi')];exact(Uad.1 hf').1);obtain⟨r1,r2⟩:=ZeQ hfl hfl' heq;exact hne ⟨r1.symm,r2.symm⟩
end
variable [Tabs]
section
variable {P:Program} {F:Fr} {G G':Gh} {S S':Zb} {st:St} {a:Act} {w w':World} {C:ZJ} {oper:Oper}
theorem We{i k c f:Nat}(hi:i<c)(hf:f<k):i*k+f<c*k:=by have h1:(i+1)*k<=c*k:=Uaz k hi;rw[UaP,UbW] at h1;omega
theorem Zay(h:Sim F G st a w){id2:Zd}{k2:Nat}{zs:Row}{u2:Bool}{hw2 ver2:Nat}{x:Value}(hs2:st.sto id2=some (.ar k2 zs u2 hw2 ver2))(hl2:id2.1=st.lvl)(hx:Vk G st.sto id2 [] 0 zs.length none hw2 x) :
  Stp F a G st (Zw id2 st) w w G/\Rds w (Av G (Zw id2 st).sto w) x (.sl zs):=by
 have kl:=(Kl.refl st).step (fun j cells hj=>h.ok.low j cells hj) h.outl hl2 (by rw[hs2];rfl);obtain⟨h1,h2⟩:=h.kl kl;refine⟨Stp.of h1 h2 (fun _ hf=>hf.elim),?_⟩;have:=(WQ (A:=Av G (Zw id2 st).sto w) h.ok (fun _=>h2.av) hs2 (fun b hb=>⟨Ys (h.ok.obs _ _ hs2) hb,fun j ob hj ho=>?_⟩) hx (rfl:J2 [] hw2 hw2 ver2 u2) rfl (by simp)).1
 ·simpa [cut] using this
 ·obtain⟨hd,ob0,g1,g2⟩:=h2.only j ob (fun h=>h) hj;exact hd (.inr (h.ok.dis _ _ _ _ b g1 hs2 (g2.own.1 ho) hb))
theorem ZeR(h:Sim F G st a w){id:Zd}{i f:Nat}{k:Nat}{es:Row}{u:Bool}{hw ver:Nat}{e:List Tr}{t0:Tr}{x:Value}{zs:Row}(hs:st.sto id=some (.ar k es u hw ver))
  (hi:es[i]? = some e) (hf:e[f]? = some t0) {b c:Nat} {vs:Array Value} {ty:TypeId} (hG:G id []=some (b,c)) (hh:w.heap[b]? = some (.cells vs ty (0,0)))
  (hx:Rds w (Av G st.sto w) x (.sl zs)) :
  ∃ G',Stp F a G st (Zp st id (.ar k (ZK es [] i f (.sl zs)) false hw (ver+1))) w (w.setRow b (vs.setIfInBounds (i*e.length+f) x)) G':=by
 obtain⟨h1,h2⟩:=h.freeze hs;have hs':(Zp st id (.ar k es false hw ver)).sto id=some (.ar k es false hw ver):=by rw[Yt];unfold Zo;rw[if_pos rfl]
 obtain⟨G',hG'⟩:=ZiQ h1 hs' hi hf hG hh (Rds.mono h2.av h2.same hx) (fun h=>by cases h);rw[Zb5] at hG';exact⟨G',(Stp.of h1 h2 fun j hj=>⟨fun h=>h,by rw[show j=id from hj,hs];rfl⟩).trans hG'⟩
theorem Zq8(h:Sim F G st a w){id:Zd}{p:Zn}{i f0 j s:Nat}{x:IV}{v:Value}{K:St->Prop}{b o:Nat}(hae:QR G st.sto id p i f0 s (.pointer (some ⟨b,o,none⟩)))
  (hx:men (fun i=>(st.sto i).isSome=true) x->VR G st.sto w x v) (hc:isCell x=true) (hk:X0 st id p i (f0+j) s x K) :
  ∃ w' G' st',(store ⟨b,o+j,none⟩ v).run P w = .ok () w'/\K st'/\Stp F a G st st' w w' G':=by
 unfold X0 at hk;split at hk<;>try contradiction
 rename_i k es u hw ver hs;obtain⟨es',hg,hst,e,hi,t0,hf,hk⟩:=hk;obtain⟨b',c,vs,ty,hv,hG,hh,hsz,hic,_,_,_⟩:=ZbS (S:=st.sto) h.ok hae hs hst hg hi;cases hv;have hfl:=(Uad.1 hf).1;have hlt:i*e.length+f0+j<vs.size:=by rw[hsz];have:=We hic hfl;omega
 have hrun:∀{v},v.oneCell'=true->(store ⟨b,i*e.length+f0+j,none⟩ v).run P w = .ok () (w.setRow b (vs.setIfInBounds (i*e.length+(f0+j)) v)):=fun {v} h1=>by rw[Zq3 hh hlt h1,Ubc]
 split at hk
 ·rename_i y;obtain⟨hsc,hk⟩:=hk;have hx:=hx trivial;obtain⟨rfl,hy⟩:=Rds.val hx;exact⟨_,_,_,hrun (Wd hx hc),hk,Zq5 h hs hg hst hi hf hsc hG hh hy⟩
 ·obtain⟨rfl,hk⟩:=hk;have hx:=hx trivial;simp only[getp,Uat] at hg;subst hg;obtain⟨G',h2⟩:=ZiQ h hs hi hf hG hh hx.2 (fun _=>rfl);exact⟨_,G',_,hrun (Wd hx hc),hk,h2⟩
 ·obtain⟨rfl,hk⟩:=hk;have hx:=hx trivial;simp only[getp,Uat] at hg;subst hg;obtain⟨G',h2⟩:=ZeR h hs hi hf hG hh hx.2;exact⟨_,G',_,hrun (Wd hx hc),hk,h2⟩
 ·obtain⟨rfl,hk⟩:=hk;have hx:=hx trivial;simp only[getp,Uat] at hg;subst hg;obtain⟨G',h2⟩:=ZeR h hs hi hf hG hh hx;exact⟨_,G',_,hrun (Wd hx hc),hk,h2⟩
 ·rename_i id2 len s2;obtain⟨rfl,hne,hl2,hk⟩:=hk;split at hk<;>try contradiction
  rename_i k2 zs u2 hw2 ver2 hs2;obtain⟨rfl,rfl,hk⟩:=hk;have hx:=hx (by show (st.sto id2).isSome=true;rw[hs2];rfl);simp only[getp,Uat] at hg;subst hg;by_cases huu:(u&&u2)=true
  ·simp only[Uae] at huu;obtain⟨rfl,rfl⟩:=huu;obtain⟨G',h2⟩:=Zq6 h hs hs2 hne hl2 hi hf hG hh hx;exact⟨_,G',_,hrun (Wd hx hc),hk,h2⟩
  ·rw[Bool.not_eq_true] at huu;rw[huu] at hk;obtain⟨h3,h4⟩:=Zay h hs2 hl2 hx;have hs':(Zw id2 st).sto id=some (.ar k es u hw ver):=by
    by_cases hid:id.1=st.lvl
    ·rw[Wa hid hl2,if_neg (fun e=>hne e.symm),hs];rfl
    ·rw[Zax hid,hs]
   obtain⟨G',h5⟩:=ZeR h3.sim hs' hi hf hG hh h4;exact⟨_,G',_,hrun (Wd hx hc),hk,h3.trans h5⟩
 ·rename_i id2 a2 b2 len s2;obtain⟨rfl,rfl,rfl,rfl,rfl,rfl,hln,hk⟩:=hk;have hx:=hx (by show (st.sto id2).isSome=true;rw[hs];rfl);simp only[getp,Uat] at hg;subst hg;cases t0 with
  | v y=>cases hln
  | sl zs =>
   simp only[U5,Uat] at hln;subst hln;exact⟨_,G,_,hrun (Wd hx hc),hk,Zq7 h hs hi hf hG hh hx⟩
 ·contradiction
theorem Stp.ae{st':St}(h:Stp F a G st st' w w' G'){id:Zd}{p:Zn}{i f s:Nat}{v:Value}(hl:(st'.sto id).isSome=true)(hv:QR G st.sto id p i f s v):QR G' st'.sto id p i f s v :=
 h.vr (.ae id p i f s) v hl hv
theorem ZiR:∀(l:List IV) (vs:List Value) (j:Nat) (st:St) (G:Gh) (w:World) (K:St->Prop) (id:Zd) (p:Zn) (i f0 s b o:Nat),Sim F G st a w->QR G st.sto id p i f0 s (.pointer (some ⟨b,o,none⟩))->vs.length=l.length ->
  (∀(n:Nat) (x:IV) (v:Value),l[n]? = some x->vs[n]? = some v->men (fun i=>(st.sto i).isSome=true) x->VR G st.sto w x v)->(∀ x∈l,isCell x=true)->YO id p i s (f0+j) l st K ->
  ∃ w' G' st',(storeCells ⟨b,o,none⟩ vs j).run P w = .ok () w'/\K st'/\Stp F a G st st' w w' G'
 | [],vs,j,st,G,w,K,id,p,i,f0,s,b,o,h,hae,hl,hv,hc,hk=>by simp at hl;subst hl;exact⟨w,G,st,rfl,hk,Stp.refl h⟩
 | x::r,[],j,st,G,w,K,id,p,i,f0,s,b,o,h,hae,hl,hv,hc,hk=>by simp at hl
 | x::r,v::vs,j,st,G,w,K,id,p,i,f0,s,b,o,h,hae,hl,hv,hc,hk=>by
  simp only[YO] at hk;obtain⟨w1,G1,st1,hr1,hk1,hs1⟩:=Zq8 (P:=P) h hae (hv 0 x v rfl rfl) (hc x (by simp)) hk;have hk1:YO id p i s (f0+(j+1)) r st1 K:=hk1;have hlive:r≠[]->(st1.sto id).isSome=true:=fun hr=>by
   cases r with
   | nil=>exact absurd rfl hr
   | cons y r =>
    simp only[YO,X0] at hk1;split at hk1<;>try contradiction
    rename_i hs;rw[hs];rfl
  by_cases hr:r=[]
  ·subst hr;simp at hl;subst hl;exact⟨w1,G1,st1,by simp only[storeCells,YJ,Sem.run_bind,hr1,Result.andThen_ok];rfl,hk1,hs1⟩
  ·obtain⟨w2,G2,st2,hr2,hk2,hs2⟩:=ZiR r vs (j+1) st1 G1 w1 K id p i f0 s b o hs1.sim (hs1.ae (hlive hr) hae) (by simpa using hl)
    (fun n y u hy hu hm=>hs1.vr y u hm (hv (n+1) y u (by simpa using hy) (by simpa using hu) (JZ (fun i hi=>hs1.live i hi) y hm))) (fun y hy=>hc y (by simp [hy])) hk1
   exact⟨w2,G2,st2,by simp only[storeCells,YJ,Sem.run_bind,hr1,Result.andThen_ok,hr2],hk2,hs1.trans hs2⟩
def LOk(P:Program)(F:Fr)(a:Act)(w:World)(oper:Oper)(K:St->Prop):Prop :=
 Res P oper a w fun v w' => ∃ st' G',K st'/\Sim F G' st' (a.put oper.dst v) w'
theorem ZeS(h:Sim F G st a w){m:Nat}{p x:X}{d:Option Nat}{K:St->Prop}(hd:d=oper.dst)(hc:Zs P (.st m p x) oper.op=true)(he:ew C d st K (.st m p x)):LOk P F a w oper K:=by
 simp only[Zs] at hc;split at hc<;>try contradiction
 rename_i t y v ho;simp only[Uae,beq_iff_eq] at hc;obtain⟨⟨hsz,hp⟩,hx⟩:=hc;have hp:=h.x hp;have hx:=h.x hx;simp only[ew] at he;obtain⟨hdn,he⟩:=he;subst hd;split at he<;>try contradiction
 rename_i l hcl;obtain⟨hl,he⟩:=he;obtain⟨hvs,hcell⟩:=WO hx hcl;have hlen:(a.eval v).cells.toList.length=l.length:=YP hvs;have hrun:∀{ad:Addr} {w'},a.eval y = .pointer (some ad)->(storeCells ad (a.eval v).cells.toList).run P w = .ok () w'->(execOp a.eval oper).run P w = .ok .skip w':=fun {ad w'} hy hr=>by
  have hs1:(Go.sizeOf t).run P w = .ok m w:=Vm hsz;have hne:¬ (a.eval v).cells.size≠m:=by rw[<-hl,<-hlen];simp
  have hne2:(a.eval v).cells.size=m:=by simpa using hne
  simp [execOp,ho,Instr.storeAt,Instr.sureAddr,hy,storeVar,hs1,hne2,hr]
 have hput:∀ u,a.put oper.dst u=a:=fun u=>by rw[hdn];rfl
 split at he<;>try contradiction
 ·rename_i id off hq;rw[hq] at hp;split at he<;>try contradiction
  rename_i cells hs;obtain⟨hle,hlo,hk⟩:=he;obtain⟨cells',b,c,hs',hG,hv⟩:=hp;rw[hs] at hs';cases hs';obtain⟨b2,c2,vs,ty,hG2,hh,hcs⟩:=h.ok.obs _ _ hs;rw[hG] at hG2;cases hG2;have hcl2:=YP hcs;have hvl:vs.size=cells.length:=by simpa using hcl2
  have hone:∀ u∈(a.eval v).cells.toList,u.oneCell'=true:=fun u hu=>by
   obtain⟨n,hn⟩:=Ubu hu;have hnl:n<l.length:=by rw[<-hlen];exact(Uad.1 hn).1
   obtain⟨u',hu',hr⟩:=Y5 hvs n l[n] (by simp [hnl]);rw[hn] at hu';cases hu';exact Wd hr (hcell _ (by simp))
  have hst:=run_storeCells_at P b off ty (a.eval v).cells.toList 0 vs w hh (by rw[hlen,hvl];simpa using hle) hone;refine Res.of_skip (hrun hv hst) ?_;rw[hput];generalize hnew:(vs.toList.take (off+0)++(a.eval v).cells.toList++vs.toList.drop (off+0+(a.eval v).cells.toList.length)).toArray=vs2;have hb0:ZM G id (.bx cells) b:=⟨c,hG⟩
  have ht:=h.turn (Kl.refl st) (id:=id) (ob':=.bx (Yb cells off l)) (d:=none) (x:=.un) (v:=undef) (G':=G) (w':=w.setRow b vs2) (fun h=>h) (.inr (by rw[hs];rfl)) (fun _ _=>rfl) (by simp)
   (fun blk _ hn=>setRow_other w b blk _ (fun hbb=>by subst hbb;exact hn _ hs hb0))
   (fun blk ho=>.inl ⟨id,_,.inl rfl,hs,ho⟩)
   (fun ob ho=>by rw[hs] at ho;cases ho;exact rfl)
   rfl rfl rfl (fun t=>⟨b,c,vs2,ty,hG,setRow_heap w b vs _ ty (0,0) hh,?_⟩) (fun cs hcs=>?_) (fun _ he=>by cases he) (fun _=>trivial)
  ·rw[QZ] at ht;exact⟨_,_,hk,ht.1⟩
  ·have hsv:=Zez l (a.eval v).cells.toList cells vs off hvs hcs hle;have heq:(((a.eval v).cells.toList.zipIdx.foldl (fun(cs:Array Value) (cj:Value×Nat)=>cs.setIfInBounds (off+cj.2) cj.1) vs))=vs2:=by
    rw[<-hnew];apply Array.ext';have gen:∀(us:List Value) (k:Nat) (cs:Array Value),off+k+us.length<=cs.size->((us.zipIdx k).foldl (fun(cs:Array Value) (cj:Value×Nat)=>cs.setIfInBounds (off+cj.2) cj.1) cs).toList=cs.toList.take (off+k)++us++cs.toList.drop (off+k+us.length):=by
     intro us
     induction us with
     | nil=>intro k cs _;simp
     | cons u us ih =>
      intro k cs hle;simp only[List.zipIdx_cons,List.foldl_cons,List.length_cons] at hle ⊢;rw[ih (k+1) _ (by simp;omega)];simp only[Array.toList_setIfInBounds];have hlt:off+k<cs.toList.length:=by simp;omega
      have e1:(cs.toList.set (off+k) u).take (off+(k+1))=cs.toList.take (off+k)++[u]:=by
       apply Ubf;intro n;simp only[UaB,UbT,Ua3,Uai];have:min (off+k) cs.toList.length=off+k:=by omega
       rw[this];by_cases h1:n<off+k
       ·have h2:n<off+(k+1):=(by omega);have h3:¬ off+k=n:=(by omega);simp [h1,h2,h3]
       ·by_cases h2:n=off+k
        ·subst h2;have h3:off+k<cs.size:=by simpa using hlt
         have h4:off+k<off+(k+1):=(by omega);simp [h3,h4]
        ·have h3:¬ n<off+(k+1):=(by omega);have h4:n-(off+k)≠0:=(by omega);simp [h1,h3];omega
      have e2:(cs.toList.set (off+k) u).drop (off+(k+1)+us.length)=cs.toList.drop (off+k+(us.length+1)):=(by rw[List.drop_set_of_lt (by omega)];congr 1;omega);rw[e1,e2];simp
    have:=gen (a.eval v).cells.toList 0 vs (by rw[hlen,hvl];simpa using hle);simpa using this
   rw[heq] at hsv;exact t.vrs _ _ (JK (fun _ _ h=>h) _ (QX _)) hsv
  ·cases hcs;have:∀(l cells:List IV) (off:Nat),Jk (id.1+1) l->Jk (id.1+1) cells->Jk (id.1+1) (Yb cells off l):=by
    intro l
    induction l with
    | nil=>intro cells off _ h;exact h
    | cons x r ih =>
     intro cells off h1 h2;refine ih _ _ h1.2 ?_;have:∀(cells:List IV) (off:Nat),Jk (id.1+1) cells->Jk (id.1+1) (cells.set off x):=by
      intro cells
      induction cells with
      | nil=>intro off h;exact h
      | cons y r ih =>
       intro off h;cases off with
       | zero=>exact⟨h1.1,h.2⟩
       | succ n=>exact⟨h.1,ih n h.2⟩
     exact this cells off h2
   exact this l cells off hlo (h.ok.low _ _ hs)
 ·rename_i id p i f s hq;rw[hq] at hp;obtain⟨⟨ad,hv⟩,hrest⟩:=hp;have hp2:QR G st.sto id p i f s (a.eval y):=⟨⟨ad,hv⟩,hrest⟩;have hfin:∃ b o,ad=⟨b,o,none⟩\/l=[]:=by
   cases l with
   | nil=>exact⟨0,0,.inr rfl⟩
   | cons x r =>
    simp only[YO,X0] at he;split at he<;>try contradiction
    rename_i k es u hw ver hs;obtain⟨es',hg,hst,e,hi,_⟩:=he;obtain⟨b',c,vs,ty,hv2,_⟩:=ZbS (S:=st.sto) h.ok hp2 hs hst hg hi;rw[hv] at hv2;cases hv2;exact⟨b',_,.inl rfl⟩
  obtain⟨b,o,hado⟩:=hfin;rcases hado with rfl | hl0
  ·rw[hv] at hp2
   obtain⟨w',G',st',hr,hk,hs⟩:=ZiR (P:=P) l (a.eval v).cells.toList 0 st G w K id p i f s b o h hp2 hlen
    (fun n x u hx hu _=>by
     obtain⟨u',hu',hr⟩:=Y5 hvs n x hx;rw[hu] at hu';cases hu';exact hr) hcell he
   refine Res.of_skip (hrun hv hr) ?_;rw[hput];exact⟨st',G',hk,hs.sim⟩
  ·subst hl0;have hnil:(a.eval v).cells.toList=[]:=Uay hlen;refine Res.of_skip (hrun hv (w':=w) (by rw[hnil];rfl)) ?_;rw[hput];exact⟨st,G,he,h⟩
theorem ZeT{id:Zd}{p:Zn}{i s k:Nat}{u:Bool}{hw ver:Nat}(hst:J2 p s hw ver u):∀(l:List IV) (f:Nat) (es:Row) (st0:St) (K:St->Prop),st0.sto id=some (.ar k es u hw ver)->QQ p i f l es (fun es' => K (Zp st0 id (.ar k es' u hw ver)))->(l=[]->K st0)->YO id p i s f l st0 K
 | [],f,es,st0,K,_,_,h0=>h0 rfl
 | x::r,f,es,st0,K,hs,h,hnil=>by
  clear hnil;simp only[QQ] at h;obtain⟨es',hg,e,hi,t0,hf,hsc,h⟩:=h;split at h<;>try contradiction
  rename_i y;simp only[YO,X0];rw[hs];refine⟨es',hg,hst,e,hi,t0,hf,hsc,?_⟩;have hs1:(Zp st0 id (.ar k (ZK es p i f (.v y)) u hw ver)).sto id=some (.ar k (ZK es p i f (.v y)) u hw ver):=by rw[Yt];unfold Zo;rw[if_pos rfl]
  refine ZeT hst r (f+1) _ _ K hs1 (by simp only[Zb5];exact h) (fun hr=>?_);subst hr;exact h
theorem Zq9(h:Sim F G st a w){m:Nat}{p x:X}{d:Option Nat}{K:St->Prop}(hd:d=oper.dst)(hc:Zs P (.s0 m p x) oper.op=true)(he:ew C d st K (.s0 m p x)):LOk P F a w oper K:=by
 have hc':Zs P (.st m p x) oper.op=true:=by simpa only[Zs] using hc
 refine ZeS (C:=C) h hd hc' ?_;simp only[ew,JG] at he ⊢;obtain⟨hdn,he⟩:=he;refine⟨hdn,?_⟩;split at he<;>try contradiction
 rename_i l hcl;obtain⟨hl,he⟩:=he;refine⟨hl,?_⟩;split at he<;>try contradiction
 ·exact he
 ·rename_i id p i f s hq;split at he<;>try contradiction
  rename_i k es u hw ver hs;exact ZeT he.2.1 l f es st K hs he.2.2 (fun hn=>absurd hn he.1)
end
variable [Tabs]
section
variable {P:Program} {F:Fr} {G G':Gh} {S S':Zb} {st st1 st2:St} {a:Act} {w w':World} {C:ZJ} {oper:Oper} {D D2:Zd->Prop}
theorem ZeU{need old:Nat}{e:TypeId}(h:need<=9223372036854775807):grownCap w need old e<=9223372036854775807:=by show need+_ % (2 ^ 63-need)<=_;have:=Nat.mod_lt (w.tape w.drawn (.appendCap need old e)) (show 0<2 ^ 63-need by omega);omega
theorem ZiS{id:Zd}{k:Nat}{es:Row}{u:Bool}{hw ver b c:Nat}{vs:Array Value}{ty:TypeId}(hG:G' id []=some (b,c))(hh:w'.heap[b]? = some (.cells vs ty (0,0)))(hsz:vs.size=c*k)(hle:es.length<=hw)(hc:hw<=c)(h63:c<=9223372036854775807)(hk:ZC k es)
  (hcell:∀(i:Nat) (e:List Tr) (f:Nat) (t:Tr),es[i]? = some e->e[f]? = some t->∃ x,vs[i*k+f]? = some x/\Jl G' w' (Av G' S' w') id [] u i f x t)
  (hsub:u=true->∀(i f:Nat) (e:List Tr) (zs:Row) (q:Zn) (es2:Row),es[i]? = some e->e[f]? = some (.sl zs)->getp zs q=some es2->Z7 G' w' (Av G' S' w') id ((i,f)::q) k u es2)
  (hinj:u=true->∀ p p' b1 c1 c2,p≠[]->p' ≠ []->(getp es p).isSome=true->(getp es p').isSome=true->G' id p=some (b1,c1)->G' id p'=some (b1,c2)->p=p')
  (hroot:u=true->∀ p c1,p≠[]->(getp es p).isSome=true->G' id p≠some (b,c1)):Vd G' S' w' id (.ar k es u hw ver):=by
 refine⟨hle,hk,by rw[hG];exact⟨hc,h63⟩,fun p es2 hp he=>?_,fun p p' b1 c1 c2 hp hp' h1 h2 g1 g2=>?_⟩
 ·cases p with
  | nil =>
   simp only[getp,Uat] at he;subst he;unfold Z7;rw[hG];exact⟨k,vs,ty,fun _=>rfl,hk,hh,hsz,UaG hle hc,hcell⟩
  | cons cd q =>
   obtain⟨c1,d1⟩:=cd;have hu:u=true:=by
     rcases hp with hp | hp; · cases hp
     ·exact hp
   obtain⟨e,zs,g1,g2,g3⟩:=Vn he;exact hsub hu c1 d1 e zs q es2 g1 g2 g3
 ·by_cases hp0:p=[]<;>by_cases hp1:p'=[]
  ·rw[hp0,hp1]
  ·subst hp0;rw[hG] at g1;cases g1;exact absurd g2 (hroot (hp'.resolve_left hp1) p' c2 hp1 h2)
  ·subst hp1;rw[hG] at g2;cases g2;exact absurd g1 (hroot (hp.resolve_left hp0) p c1 hp0 h1)
  ·exact hinj (hp.resolve_left hp0) p p' b1 c1 c2 hp0 hp1 h1 h2 g1 g2
theorem Kl.av(k:Kl D st st1):∀ b,Av G st.sto w b->Av G st1.sto w b:=fun b hb=>⟨hb.1,fun i ob hs ho=>by
 obtain⟨_,ob0,h1,h2⟩:=k.only i ob hs;exact hb.2 i ob0 h1 (h2.own.1 ho)⟩
theorem Kl.av_dead(h:SOk G st.sto w)(k:Kl D st st1){j:Zd}{ob:Ob}(hD:D j)(hs:st.sto j=some ob){b:Nat}(ho:ZM G j ob b):Av G st1.sto w b:=⟨Ys (h.obs _ _ hs) ho,fun i ob1 hs1 ho1=>by
 obtain⟨hd,ob0,h1,h2⟩:=k.only i ob1 hs1;exact hd ((h.dis _ _ _ _ b h1 hs (h2.own.1 ho1) ho) ▸ hD)⟩
theorem ZeV(h:Sim F G st a w)(kl:Kl D st st1){d:Option Nat}{key k c:Nat}{es:Row}{u:Bool}{vs:Array Value}{ty:TypeId}{N:Zn->Option (Nat×Nat)}(hkey:st.sto (st.lvl,key)=none)(hd:∀ y,d=some y->y<F.nt)
  (e:Ext w w') (hh:w'.heap[w.heap.size]? = some (.cells vs ty (0,0))) (hsz:vs.size=c*k) (hc:es.length<=c) (h63:c<=9223372036854775807) (hk:ZC k es)
  (hcell:∀(i:Nat) (e:List Tr) (f:Nat) (t:Tr),es[i]? = some e->e[f]? = some t->∃ x,vs[i*k+f]? = some x/\Jl (fun _=>N) w (Av G st1.sto w) (0,0) [] u i f x t)
  (hsub:u=true->∀(i f:Nat) (e:List Tr) (zs:Row) (q:Zn) (es2:Row),es[i]? = some e->e[f]? = some (.sl zs)->getp zs q=some es2->Z7 (fun _=>N) w (fun _=>False) (0,0) ((i,f)::q) k u es2)
  (hsrc:u=true->∀ p b1 c1,p≠[]->(getp es p).isSome=true->N p=some (b1,c1)->∃ j ob,D j/\st.sto j=some ob/\ZM G j ob b1)
  (hinj:u=true->∀ p p' b1 c1 c2,p≠[]->p' ≠ []->(getp es p).isSome=true->(getp es p').isSome=true->N p=some (b1,c1)->N p'=some (b1,c2)->p=p') :
  ∃ G',Sim F G' { Zp st1 (st.lvl,key) (.ar k es u es.length 0) with env:=ptd d (.hd (st.lvl,key) [] 0 es.length none es.length) st1.env } (a.put d (.slice (some ⟨w.heap.size,0,none⟩) es.length c)) w':=by
 let id:Zd:=(st.lvl,key);let G':Gh:=fun j=>if j=id then fun p=>if p=[] then some (w.heap.size,c) else N p else G j
 have hG0:G' id []=some (w.heap.size,c):=by simp [G']
 have hG1:∀ p,p≠[]->G' id p=N p:=fun p hp=>by simp [G',hp]
 have hGo:∀ j,j≠id->G' j=G j:=fun j hj=>by simp [G',hj]
 have hnone:∀ ob,st.sto id≠some ob:=fun ob ho=>by rw[hkey] at ho;cases ho
 have hlt:∀ j ob b1,st.sto j=some ob->ZM G j ob b1->b1<w.heap.size:=fun j ob b1 h1 h2=>Ys (h.ok.obs _ _ h1) h2;have hav:∀ b,Av G st1.sto w b->Av G' (Zo st1.sto id (.ar k es false es.length 0)) w' b:=fun b hb=>⟨UaZ hb.1 e.size,fun j ob hj ho=>by
  unfold Zo at hj;split at hj
  ·rename_i hji;cases hj;obtain⟨p,c1,hp,_,hg⟩:=ho;have hp0:p=[]:=by
     rcases hp with h | h; · exact h
     ·cases h
   subst hp0;rw[hji,hG0] at hg;cases hg;exact absurd hb.1 (UbU _)
  ·rename_i hji;exact hb.2 j ob hj ((Vy (hGo j hji)).1 ho)⟩
 have hnd:¬ D id:=fun hD=>by have:=kl.was id hD;rw[hkey] at this;cases this
 refine⟨G',(h.turn kl (id:=id) (ob':=.ar k es u es.length 0) (d:=d) (G':=G') (w':=w') hnd (.inl rfl) hGo e.size (fun b hb _=>e.heap b hb) (fun b ho=>?_) (fun ob ho=>absurd ho (hnone ob)) e.os e.tape e.output (fun t=>?_) (fun _ he=>by cases he) hd (fun t=>?_)).1⟩
 ·obtain⟨p,c1,hp,hs,hg⟩:=ho;by_cases hp0:p=[]
  ·subst hp0;rw[hG0] at hg;cases hg;exact .inr (Ual _)
  ·rw[hG1 p hp0] at hg;obtain⟨j,ob,h1,h2,h3⟩:=hsrc (hp.resolve_left hp0) p b c1 hp0 hs hg;exact .inl ⟨j,ob,.inr h1,h2,h3⟩
 ·refine ZiS hG0 hh hsz (Ual _) hc h63 hk (fun i e0 f t0 hi hf=>?_) (fun hu i f e0 zs q es2 hi hf hq=>?_) (fun hu p p' b1 c1 c2 hp hp' h1 h2 g1 g2=>?_) (fun hu p c1 hp h1 hg=>?_)
  ·obtain⟨x,hx,hr⟩:=hcell i e0 f t0 hi hf;refine⟨x,hx,Zb4 (G:=fun _=>N) (id:=(0,0)) (p:=[]) (fun _=>hG1 _ (by simp)) (fun hu b hb=>?_) (fun b hb=>e.heap b hb.1) hr⟩;subst hu;exact hav b hb
  ·refine Wc (G:=fun _=>N) (id:=(0,0)) (p:=(i,f)::q) (A:=fun _=>False) (hG1 _ (by simp)) (fun _ r=>hG1 _ (by simp)) (fun hu2=>by rw[hu] at hu2;cases hu2) (fun b hb=>hb.elim) (fun h=>by cases h) (fun b1 c1 hg=>e.heap b1 ?_) (hsub hu i f e0 zs q es2 hi hf hq);obtain⟨j,ob,h1,h2,h3⟩:=hsrc hu ((i,f)::q) b1 c1 (by simp) (by rw[QY hi hf hq];rfl) hg;exact hlt j ob b1 h2 h3
  ·rw[hG1 p hp] at g1;rw[hG1 p' hp'] at g2;exact hinj hu p p' b1 c1 c2 hp hp' h1 h2 g1 g2
  ·rw[hG1 p hp] at hg;obtain⟨j,ob,h2,h3,h4⟩:=hsrc hu p _ c1 hp h1 hg;exact absurd (hlt j ob _ h3 h4) (UbU _)
 ·refine⟨⟨_,_,rfl,hc⟩,k,es,u,es.length,0,by unfold Zo;rw[if_pos rfl],Ual _,fun _=>⟨es,k,_,c,rfl,fun _=>rfl,hk,rfl,hc,fun m hm=>by simp at hm,fun _ _=>by rw[hG0];simp [Vx],.inr (.inr ⟨w.heap.size,c,hG0,by simp,by simp⟩)⟩⟩
structure Src (G:Gh) (st:St) (D:Zd->Prop) (t:Tr) (v:Value) (j:Zd):Prop where
 dead:D j
 lvl:j.1=st.lvl
 obj:∃ k2 zs hw2 ver2,st.sto j=some (.ar k2 zs true hw2 ver2)/\t = .sl zs/\Vk G st.sto j [] 0 zs.length none hw2 v
theorem Zb6(h:Sim F G st a w):∀(l:List IV) (vs:List Value) (st1:St) (D:Zd->Prop) (K:List Tr->Bool->St->Prop),Kl D st st1->Zu G st.sto w l vs->Y3 l st1 K ->
  ∃(ts:List Tr) (u:Bool) (st2:St) (D2:Zd->Prop) (src:Nat->Option Zd),K ts u st2/\Kl D2 st st2/\(∀ i,D i->D2 i)/\ts.length=l.length/\(∀(f:Nat) (t:Tr) (v:Value),ts[f]? = some t->vs[f]? = some v->Rds w (Av G st2.sto w) v t) /\
   (u=true->∀(f:Nat) (t:Tr) (v:Value),ts[f]? = some t->vs[f]? = some v->match src f with | none=>Y6 t | some j=>Src G st D2 t v j)/\(∀ f j,src f=some j -> ¬ D j)/\∀ f f' j,src f=some j->src f'=some j->f=f'
 | [],vs,st1,D,K,k,hv,hk=>⟨[],true,st1,D,fun _=>none,hk,k,fun _ h=>h,rfl,fun f t v h=>by simp at h,fun _ f t v h=>by simp at h,fun _ _ h=>(by cases h),fun _ _ _ h=>(by cases h)⟩
 | x::r,vs,st1,D,K,k,hv,hk=>by
  simp only[Zu] at hv;obtain⟨v,vr,rfl,hv,hvr⟩:=hv;simp only[Y3,Xe] at hk;split at hk
  ·rename_i id2 len s2;obtain⟨hl2,hk⟩:=hk;split at hk<;>try contradiction
   rename_i k2 zs u2 hw2 ver2 hs2;obtain⟨rfl,rfl,hk⟩:=hk;obtain⟨hd2,ob0,hs0,hwk⟩:=k.only _ _ hs2;have hob:ob0 = .ar k2 zs u2 s2 ver2:=by cases hwk;rfl
   subst hob;have hl2:id2.1=st.lvl:=hl2.trans k.lvl;have k1:=k.step (fun j cells hj=>h.ok.low j cells hj) h.outl hl2 (by rw[hs0];rfl);obtain⟨ts,u,st2,D2,src,h1,h2,h3,h4,h5,h6,h7,h8⟩:=Zb6 h r vr (Zw id2 st1) _ _ k1 hvr hk;have hx:Vk G st.sto id2 [] 0 zs.length none s2 v:=hv;have hD2:D2 id2:=h3 _ (.inr rfl);refine⟨.sl zs::ts,u2&&u,st2,D2,fun f=>match f with | 0=>some id2 | f+1=>src f,h1,h2,fun i hi=>h3 i (.inl hi),by simp [h4],fun f t v' hf hv' => ?_,fun hu f t v' hf hv' => ?_,fun f j hf=>?_,fun f f' j hf hf' => ?_⟩
   ·cases f with
    | zero =>
     simp at hf hv';subst hf;subst hv';have:=(WQ (A:=Av G st2.sto w) h.ok (fun _=>h2.av) hs0 (fun b hb=>h2.av_dead h.ok hD2 hs0 hb) hx (rfl:J2 [] s2 s2 ver2 u2) rfl (by simp)).1;simpa [cut] using this
    | succ f=>exact h5 f t v' (by simpa using hf) (by simpa using hv')
   ·simp only[Uae] at hu;obtain⟨rfl,hu⟩:=hu;cases f with
    | zero =>
     simp at hf hv';subst hf;subst hv';exact⟨hD2,hl2,k2,zs,s2,ver2,hs0,rfl,hx⟩
    | succ f=>exact h6 hu f t v' (by simpa using hf) (by simpa using hv')
   ·cases f with
    | zero=>simp at hf;subst hf;exact hd2
    | succ f=>exact fun hd=>h7 f j hf (.inl hd)
   ·cases f with
    | zero =>
     simp at hf;subst hf;cases f' with
     | zero=>rfl
     | succ f' => exact absurd (.inr rfl) (h7 f' _ hf')
    | succ f =>
     cases f' with
     | zero=>simp at hf';subst hf';exact absurd (.inr rfl) (h7 f _ hf)
     | succ f' => rw[h8 f f' j hf hf']
  ·split at hk<;>try contradiction
   rename_i t q ht;obtain⟨ts,u,st2,D2,src,h1,h2,h3,h4,h5,h6,h7,h8⟩:=Zb6 h r vr st1 _ _ k hvr hk;obtain⟨r1,r2⟩:=Ziw hv ht;refine⟨t::ts,q&&u,st2,D2,fun f=>match f with | 0=>none | f+1=>src f,h1,h2,h3,by simp [h4],fun f t v' hf hv' => ?_,fun hu f t v' hf hv' => ?_,fun f j hf=>?_,fun f f' j hf hf' => ?_⟩
   ·cases f with
    | zero =>
     simp at hf hv';subst hf;subst hv';exact Rds.mono h2.av (fun _ _=>rfl) r1
    | succ f=>exact h5 f t v' (by simpa using hf) (by simpa using hv')
   ·simp only[Uae] at hu;cases f with
    | zero =>
     simp at hf hv';subst hf;subst hv';exact r2 hu.1
    | succ f=>exact h6 hu.2 f t v' (by simpa using hf) (by simpa using hv')
   ·cases f with
    | zero=>cases hf
    | succ f=>exact h7 f j hf
   ·cases f with
    | zero=>cases hf
    | succ f =>
     cases f' with
     | zero=>cases hf'
     | succ f' => rw[h8 f f' j hf hf']
end
variable [Tabs]
section
variable {P:Program} {F:Fr} {G G':Gh} {S S':Zb} {st st1 st2:St} {a:Act} {w w':World} {C:ZJ} {oper:Oper} {D D2:Zd->Prop}
theorem Rds.cell{G:Gh}{A:Nat->Prop}{id:Zd}{p:Zn}{u:Bool}{i f:Nat}{x:Value}{t:Tr}(h:Rds w A x t)(hu:u=true->Y6 t):Jl G w A id p u i f x t:=by
 cases t with
 | v y=>exact h.val
 | sl es =>
  simp only[Jl];split
  ·rename_i hu';have:=hu hu';simp only[Y6] at this;subst this;obtain⟨a,c,rfl⟩:=Rds.empty h;exact⟨a,c,rfl,UbC _,.inl rfl⟩
  ·exact h
theorem Src.cell{N:Gh}{A:Nat->Prop}{id:Zd}{p:Zn}{i f:Nat}{x:Value}{t:Tr}{j:Zd}(h:Src G st D t x j)(hN:N id (p++[(i,f)])=G j []):Jl N w A id p true i f x t:=by
 obtain⟨_,_,k2,zs,hw2,ver2,hs2,rfl,hx⟩:=h;simp only[Jl,if_true];obtain⟨⟨a0,c0,hx0,hle⟩,k3,es3,u3,hw3,ver3,g1,_,g2⟩:=hx;rw[hs2] at g1;cases g1;obtain⟨es4,k4,ad,cc,e1,e2,e3,e4,e5,e6,e7,e8⟩:=g2 rfl;refine⟨ad,cc,e4,e5,?_⟩;rcases e8 with h0 | ⟨h0,_⟩ | ⟨b1,c1,h1,h2,h3⟩
 ·exact .inl (by omega)
 ·exact absurd rfl h0
 ·exact .inr ⟨b1,c1,hN.trans h1,by simpa using h2,by simpa using h3⟩
theorem ZeW{b:Nat}(h:freshK b st.loc 1):st.sto (st.lvl,b)=none:=by rw[QW rfl];exact h.1
theorem Zra(h:Sim F G st a w){k n:Nat}{z:List Value}{ps:List (Nat×X)}{d:Option Nat}{K:St->Prop}(hd:d=oper.dst)(hdn:∀ y,d=some y->y<F.nt)(hc:Zs P (.bw k n z ps) oper.op=true)(he:ew C d st K (.bw k n z ps)):LOk P F a w oper K:=by
 subst hd;simp only[Zs] at hc;split at hc<;>try contradiction
 rename_i t len parts ho;simp only[Uae,WN,decide_eq_true_eq,beq_iff_eq] at hc;obtain⟨⟨⟨hcs,hcp⟩,hk0⟩,hzl0⟩:=hc;split at hcs<;>try contradiction
 rename_i e hel;simp only[Uae,beq_iff_eq,decide_eq_true_eq,UaO] at hcs;obtain⟨⟨⟨hsz,rfl⟩,hsm⟩,hz⟩:=hcs;have hu:=VA hel;obtain⟨ie,hie,hks⟩:=X8 hsz;simp only[ew] at he;split at he<;>try contradiction
 rename_i x;obtain⟨rfl,he⟩:=he;split at he<;>try contradiction
 rename_i l hcl;obtain⟨hl,hfr,he⟩:=he;obtain⟨parts⟩:=parts;cases parts with
 | nil=>simp [Vz] at hcp
 | cons py rest =>
 obtain⟨i0,y⟩:=py;cases rest with
 | cons _ _=>simp [Vz] at hcp
 | nil =>
 simp only[Vz,Uae,beq_iff_eq,UbN] at hcp;obtain⟨rfl,hxy⟩:=hcp;obtain⟨hvs,hcell⟩:=WO (h.x hxy) hcl;have hlen:(a.eval y).cells.size=k:=by rw[<-hl];simpa using YP hvs
 obtain⟨ts,u,st2,D2,src,h1,h2,_,h4,h5,h6,_,h8⟩:=Zb6 h l _ st _ _ (Kl.refl st) hvs he;have htl:ts.length=k:=by rw[h4,hl]
 have hzt:=hz.resolve_left (by simp);obtain⟨i2,zv,hi2,hzv,hzc,_⟩:=Xm hzt.1;rw[hie] at hi2;cases hi2;let cells:Array Value:=(Array.range (1*ie.size)).map (zv.cells[· % zv.cells.size]!);have hcsz:cells.size=k:=by simp [cells,hks]
 let out:Array Value:=((a.eval y).cells.zipIdx.foldl (fun(cs:Array Value) (cj:Value×Nat)=>cs.setIfInBounds (0*k+cj.2) cj.1) cells);have hfs:=ZbU (a.eval y).cells.toList 0 (0*k) cells (by simp [hlen,hcsz]);have hfold:out=((a.eval y).cells.toList.zipIdx.foldl (fun(cs:Array Value) (cj:Value×Nat)=>cs.setIfInBounds (0*k+cj.2) cj.1) cells):=by simp only[out,<-UbZ,UbV]
 rw[<-hfold] at hfs;have hrun:(execOp a.eval oper).run P w = .ok (.value (.slice (some ⟨w.heap.size,0,none⟩) 1 1)) (w.alloc (.cells out e)):=by
  have hsm':¬ 1*ie.size > 2 ^ 24:=by rw[hks];omega
  have:=run_buildSlice (P:=P) w t e 1 #[(0,a.eval y)] out ie zv hu hie hzv hsm' (by rw[hks];omega) (by
   simp only[Instr.fill];rw[if_neg (by simp [hlen,hks])];simp only[out,cells,hks])
  simp [execOp,ho,this]
 refine Res.of_run hrun ?_
 let N:Zn->Option (Nat×Nat):=fun p=>match p with
  | (_,f)::q=>match src f with
   | some j=>G j q
   | none=>none
  | []=>none
 have es1:∀{i:Nat} {e:List Tr},[ts][i]? = some e->i=0/\e=ts:=fun {i e} hi=>by
  cases i with
  | zero=>simp at hi;exact⟨rfl,hi.symm⟩
  | succ i=>simp at hi
 have vat:∀{f:Nat} {t:Tr},ts[f]? = some t->∃ v,(a.eval y).cells.toList[f]? = some v/\out[0*k+f]? = some v:=fun {f t} hf=>by
  have hlt:f<k:=by rw[<-htl];exact(Uad.1 hf).1
  refine⟨(a.eval y).cells.toList[f]'(by simpa [hlen] using hlt),by simp [hlen,hlt],?_⟩;rw[hfs.2,if_pos (by simp [hlen];exact hlt),show 0*k+f-(0*k+0)=f from by omega];simp [hlen,hlt]
 have hsrc1:u=true->∀ p b1 c1,p≠[]->(getp [ts] p).isSome=true->N p=some (b1,c1)->∃ f q j k2 zs hw2 ver2,p=(0,f)::q/\src f=some j/\G j q=some (b1,c1)/\D2 j/\st.sto j=some (.ar k2 zs true hw2 ver2)/\(getp zs q).isSome=true:=by
  intro hu p b1 c1 hp hs hN;cases p with
  | nil=>exact absurd rfl hp
  | cons cd q =>
   obtain⟨i,f⟩:=cd;obtain⟨es2,he2⟩:=Uan.1 hs;obtain⟨e0,zs,g1,g2,g3⟩:=Vn he2;obtain⟨rfl,rfl⟩:=es1 g1;simp only[N] at hN;split at hN
   ·rename_i j hj;obtain⟨v,hv,_⟩:=vat g2;have:=h6 hu f _ v g2 hv;rw[hj] at this;obtain⟨r1,r2,k2,zs2,hw2,ver2,r3,r4,r5⟩:=this;cases r4;exact⟨f,q,j,k2,zs,hw2,ver2,rfl,hj,hN,r1,r3,by rw[g3];rfl⟩
   ·cases hN
 obtain⟨G',hG'⟩:=ZeV h h2 (d:=oper.dst) (key:=keyOf oper.dst) (k:=k) (c:=1) (es:=[ts]) (u:=u) (vs:=out) (ty:=e) (N:=N) (ZeW hfr) hdn (Ext.alloc w (.cells out e)) (heap_alloc_new w _) (by rw[hfs.1,hcsz];simp) (by simp) (by omega)
  (fun e he=>by simp at he;subst he;exact htl)
  (fun i e f t hi hf=>by
   obtain⟨rfl,rfl⟩:=es1 hi;obtain⟨v,hv,ho⟩:=vat hf;refine⟨v,ho,?_⟩;cases u with
   | false=>exact Rds.cell (h5 f t v hf hv) (fun h=>by cases h)
   | true =>
    have:=h6 rfl f t v hf hv;split at this
    ·exact Rds.cell (h5 f t v hf hv) (fun _=>this)
    ·rename_i j hj;exact Src.cell this (by simp [N,hj]))
  (fun hu i f e zs q es2 hi hf hq=>by
   obtain⟨rfl,rfl⟩:=es1 hi;obtain⟨v,hv,_⟩:=vat hf;have:=h6 hu f _ v hf hv;split at this
   ·rename_i hj;simp only[Y6] at this;subst this;obtain⟨rfl,rfl⟩:=Qi hq;unfold Z7;simp [N,hj]
   ·rename_i j hj;obtain⟨r1,r2,k2,zs2,hw2,ver2,r3,r4,r5⟩:=this;cases r4;have hr:=(h.ok.obs _ _ r3).2.2.2.1 q es2 (.inr rfl) hq;subst hu;have hr2:=Zb1 (G1:=G) (G2:=G) (A':=fun _=>False) (i:=j) rfl hr;exact Wc (G:=G) (id:=j) (p:=q) (A:=fun _=>False) (by simp [N,hj]) (fun _ r=>by simp [N,hj]) (fun hu=>by cases hu) (fun b hb=>hb.elim) (fun h=>by cases h) (fun _ _ _=>rfl) hr2)
  (fun hu p b1 c1 hp hs hN=>by
   obtain⟨f,q,j,k2,zs,hw2,ver2,rfl,hj,g1,g2,g3,g4⟩:=hsrc1 hu p b1 c1 hp hs hN;exact⟨j,_,g2,g3,q,c1,.inr rfl,g4,g1⟩)
  (fun hu p p' b1 c1 c2 hp hp' hs hs' hN hN' => by
   obtain⟨f,q,j,k2,zs,hw2,ver2,rfl,hj,g1,g2,g3,g4⟩:=hsrc1 hu p b1 c1 hp hs hN;obtain⟨f',q',j',k2',zs',hw2',ver2',rfl,hj',g1',g2',g3',g4'⟩:=hsrc1 hu p' b1 c2 hp' hs' hN';have hjj:=h.ok.dis _ _ _ _ b1 g3 g3' ⟨q,c1,.inr rfl,g4,g1⟩ ⟨q',c2,.inr rfl,g4',g1'⟩;subst hjj;rw[g3] at g3';cases g3';rw[h8 f f' j hj hj',(h.ok.obs _ _ g3).2.2.2.2 q q' b1 c1 c2 (.inr rfl) (.inr rfl) g4 g4' g1 g1'])
 exact⟨_,G',h1,hG'⟩
theorem Zrb(h:Sim F G st a w){K:Yc}{l0 b0:Nat}{k n:Nat}{z:List Value}{ps:List (Nat×X)}(hl0:l0=st.lvl)(hfr:∀ mk obs,K mk obs->YR st.sto l0 b0 (obs l0 b0).length)(hc:Zs P (.bv k n z ps) oper.op=true)(he:ev C (xv st.env) st.sto K (.bv k n z ps)):EvOk P G st a w K l0 b0 oper:=by
 simp only[Zs] at hc;split at hc<;>try contradiction
 rename_i t len parts ho;simp only[Uae,WN,decide_eq_true_eq,beq_iff_eq] at hc;obtain⟨⟨⟨hcs,hcp⟩,hk0⟩,hzl0⟩:=hc;split at hcs<;>try contradiction
 rename_i e hel;simp only[Uae,beq_iff_eq,decide_eq_true_eq,UaO] at hcs;obtain⟨⟨⟨hsz,rfl⟩,hsm⟩,hz⟩:=hcs;have hu:=VA hel;obtain⟨ie,hie,hks⟩:=X8 hsz;simp only[ev] at he;split at he<;>try contradiction
 rename_i x;obtain⟨rfl,he⟩:=he;split at he<;>try contradiction
 rename_i l hcl;obtain⟨hl,he⟩:=he;have hfr:=hfr _ _ he;obtain⟨parts⟩:=parts;cases parts with
 | nil=>simp [Vz] at hcp
 | cons py rest =>
 obtain⟨i0,y⟩:=py;cases rest with
 | cons _ _=>simp [Vz] at hcp
 | nil =>
 simp only[Vz,Uae,beq_iff_eq,UbN] at hcp;obtain⟨rfl,hxy⟩:=hcp;obtain⟨hvs,hcell⟩:=WO (h.x hxy) hcl;have hlen:(a.eval y).cells.size=k:=by rw[<-hl];simpa using YP hvs
 have hzt:=hz.resolve_left (by simp);obtain⟨i2,zv,hi2,hzv,hzc,_⟩:=Xm hzt.1;rw[hie] at hi2;cases hi2;let cells:Array Value:=(Array.range (1*ie.size)).map (zv.cells[· % zv.cells.size]!);have hcsz:cells.size=k:=by simp [cells,hks]
 let out:Array Value:=((a.eval y).cells.zipIdx.foldl (fun(cs:Array Value) (cj:Value×Nat)=>cs.setIfInBounds (0*k+cj.2) cj.1) cells);have hfs:=ZbU (a.eval y).cells.toList 0 (0*k) cells (by simp [hlen,hcsz]);have hfold:out=((a.eval y).cells.toList.zipIdx.foldl (fun(cs:Array Value) (cj:Value×Nat)=>cs.setIfInBounds (0*k+cj.2) cj.1) cells):=by simp only[out,<-UbZ,UbV]
 rw[<-hfold] at hfs;have hrun:(execOp a.eval oper).run P w = .ok (.value (.slice (some ⟨w.heap.size,0,none⟩) 1 1)) (w.alloc (.cells out e)):=by
  have hsm':¬ 1*ie.size > 2 ^ 24:=by rw[hks];omega
  have:=run_buildSlice (P:=P) w t e 1 #[(0,a.eval y)] out ie zv hu hie hzv hsm' (by rw[hks];omega) (by
   simp only[Instr.fill];rw[if_neg (by simp [hlen,hks])];simp only[out,cells,hks])
  simp [execOp,ho,this]
 have hout:out.toList=(a.eval y).cells.toList:=by
  apply Ubf;intro f;by_cases hf:f<k
  ·have:=hfs.2 f;rw[if_pos (by simp [hlen];exact hf),show f-(0*k+0)=f from by omega] at this;simpa using this
  ·rw[UaX (by simp [hfs.1,hcsz];omega),UaX (by simp [hlen];omega)]
 refine Res.of_run (v:=.slice (some ⟨w.heap.size,0,none⟩) 1 1) (w':=w.alloc (.cells out e)) hrun ⟨_,_,he,?_⟩;have one:∀{j:Nat} {ob:Ob},[Ob.bx l][j]? = some ob->j=0/\ob = .bx l:=fun {j ob} hj=>by
  have:j=0:=by have:=(Uad.1 hj).1;simpa using this
  subst this;simp at hj;exact⟨rfl,hj.symm⟩
 refine Got.mk (G':=fun i=>if i=(l0,b0) then fun _=>some (w.heap.size,0) else G i) h.ok hfr (Ext.alloc w _) (fun i ob hs=>?_) (fun j ob hj blk hown=>?_) (fun hvr j ob hj=>?_) (fun j ob j' ob' blk hj hj' _ _=>?_) (fun j cells hj=>?_) (fun _=>?_)
 ·have hne:i≠(l0,b0):=Uy (j:=0) (hfr 0 (by simp)) hs;rw[if_neg hne]
 ·obtain⟨rfl,rfl⟩:=one hj;obtain⟨c1,h1⟩:=hown;simp at h1;omega
 ·obtain⟨rfl,rfl⟩:=one hj;refine⟨w.heap.size,0,out,e,by simp,heap_alloc_new w _,?_⟩;rw[hout];exact hvr _ _ hvs
 ·rw[(one hj).1,(one hj').1]
 ·obtain⟨_,h1⟩:=one hj;cases h1;rw[hl0];exact h.mens_lt hvs
 ·exact .inl ⟨l,w.heap.size,0,by simp [ZW,Zo],by simp,rfl⟩
end
variable [Tabs]
theorem ZeX{es items es2:Row}{i f:Nat}{q:Zn}:getp (es++items) ((i,f)::q)=some es2↔(if i<es.length then getp es ((i,f)::q)=some es2 else getp items ((i-es.length,f)::q)=some es2):=by
 by_cases hi:i<es.length
 ·rw[if_pos hi];simp only[getp,Uav hi]
 ·rw[if_neg hi];simp only[getp,Uas (Nat.le_of_not_lt hi)]
section
variable {P:Program} {F:Fr} {G G':Gh} {S S':Zb} {st st1 st2:St} {a:Act} {w w':World} {C:ZJ} {oper:Oper} {D D2:Zd->Prop}
theorem ZiT(h:Sim F G st a w)(kl:Kl D st st1){id:Zd}{d:Option Nat}{k:Nat}{es items:Row}{u:Bool}{hw ver b' c':Nat}{vs:Array Value}{ty:TypeId}{N:Zn->Option (Nat×Nat)}
  (hs:st.sto id=some (.ar k es u hw ver)) (hnd:¬ D id) (hd:∀ y,d=some y->y<F.nt) (size:w.heap.size<=w'.heap.size)
  (heap:∀ blk,blk<w.heap.size->(∀ c,G id []≠some (blk,c))->w'.heap[blk]? = w.heap[blk]?) (hos:w'.os=w.os) (htape:w'.tape=w.tape) (houtp:w'.output=w.output)
  (hb':G id []=some (b',c')\/w.heap.size<=b') (hsame:max hw (es.length+items.length)=hw->G id []=some (b',c'))
  (hh:w'.heap[b']? = some (.cells vs ty (0,0))) (hsz:vs.size=c'*k) (hc:max hw (es.length+items.length)<=c') (h63:c'<=9223372036854775807) (hk:ZC k items)
  (hold:∀(i:Nat) (e:List Tr) (f:Nat) (t:Tr),es[i]? = some e->e[f]? = some t->∃ x,vs[i*k+f]? = some x/\Jl G w (Av G st.sto w) id [] u i f x t)
  (hnew:∀(i:Nat) (e:List Tr) (f:Nat) (t:Tr),items[i]? = some e->e[f]? = some t->∃ x,vs[(es.length+i)*k+f]? = some x/\Jl (fun _=>N) w (Av G st1.sto w) (0,0) [] u i f x t)
  (hsub:u=true->∀(i f:Nat) (e:List Tr) (zs:Row) (q:Zn) (es2:Row),items[i]? = some e->e[f]? = some (.sl zs)->getp zs q=some es2->Z7 (fun _=>N) w (fun _=>False) (0,0) ((i,f)::q) k u es2)
  (hsrc:u=true->∀ p b1 c1,p≠[]->(getp items p).isSome=true->N p=some (b1,c1)->∃ j ob,D j/\st.sto j=some ob/\ZM G j ob b1)
  (hinj:u=true->∀ p p' b1 c1 c2,p≠[]->p' ≠ []->(getp items p).isSome=true->(getp items p').isSome=true->N p=some (b1,c1)->N p'=some (b1,c2)->p=p') :
  ∃ G',Sim F G' { Zp st1 id (.ar k (es++items) u (max hw (es.length+items.length)) ver) with env:=ptd d (.hd id [] 0 (es.length+items.length) none (max hw (es.length+items.length))) st1.env }
   (a.put d (.slice (some ⟨b',0,none⟩) (es.length+items.length) c')) w':=by
 let g:Zn->Option (Nat×Nat):=fun p=>match p with
  | []=>some (b',c')
  | (i,f)::q=>if i<es.length then G id ((i,f)::q) else N ((i-es.length,f)::q)
 let G':Gh:=fun j=>if j=id then g else G j
 have hGi:G' id=g:=by simp [G']
 have hG0:G' id []=some (b',c'):=by rw[hGi]
 have hGo:∀ j,j≠id->G' j=G j:=fun j hj=>by simp [G',hj]
 have hob:=h.ok.obs _ _ hs;obtain⟨o1,o2,o3,o4,o5⟩:=hob;have hgo:∀{i f:Nat} {q:Zn},i<es.length->g ((i,f)::q)=G id ((i,f)::q):=fun hi=>by simp [g,hi]
 have hgn:∀{i f:Nat} {q:Zn},g ((es.length+i,f)::q)=N ((i,f)::q):=fun {i f q}=>by show (if es.length+i<es.length then _ else _)=_;rw[if_neg (by omega),Ubb]
 have hun:ZC k (es++items):=fun e he=>by
  rcases Uaq.1 he with he | he
  ·exact o2 e he
  ·exact hk e he
 have split:∀{p:Zn} {b1 c1:Nat},p≠[]->(getp (es++items) p).isSome=true->g p=some (b1,c1) ->
   ((getp es p).isSome=true/\G id p=some (b1,c1)/\∃ i f q,p=(i,f)::q/\i<es.length)\/(∃ i f q,p=(es.length+i,f)::q/\(getp items ((i,f)::q)).isSome=true/\N ((i,f)::q)=some (b1,c1)):=by
  intro p b1 c1 hp hss hg;cases p with
  | nil=>exact absurd rfl hp
  | cons cd q =>
   obtain⟨i,f⟩:=cd;obtain⟨es2,he2⟩:=Uan.1 hss;rw[ZeX] at he2;by_cases hi:i<es.length
   ·rw[if_pos hi] at he2;rw[hgo hi] at hg;exact .inl ⟨by rw[he2];rfl,hg,i,f,q,rfl,hi⟩
   ·rw[if_neg hi] at he2;obtain⟨m,rfl⟩:∃ m,i=es.length+m:=⟨i-es.length,by omega⟩;rw[hgn] at hg;rw[show es.length+m-es.length=m from by omega] at he2;exact .inr ⟨m,f,q,rfl,by rw[he2];rfl,hg⟩
 have hlt:∀{j:Zd} {ob:Ob} {b1:Nat},st.sto j=some ob->ZM G j ob b1->b1<w.heap.size:=fun h1 h2=>Ys (h.ok.obs _ _ h1) h2;have hav:u=false->∀ b,Av G st1.sto w b->Av G' (Zo st1.sto id (.ar k (es++items) false (max hw (es.length+items.length)) ver)) w' b:=fun hu b hb=>⟨UaZ hb.1 size,fun j ob hj ho=>by
  unfold Zo at hj;split at hj
  ·rename_i hji;cases hj;obtain⟨p,c1,hp,_,hg⟩:=ho;have hp0:p=[]:=by
     rcases hp with h | h; · exact h
     ·cases h
   subst hp0;rw[hji,hG0] at hg;cases hg;rcases hb' with hb' | hb'
   ·obtain⟨ob1,k1,k2⟩:=kl.live id _ hnd hs;exact hb.2 id ob1 k1 (k2.own.2 ⟨[],_,.inl rfl,rfl,hb'⟩)
   ·have:=hb.1;omega
  ·rename_i hji;exact hb.2 j ob hj ((Vy (hGo j hji)).1 ho)⟩
 refine⟨G',(h.turn kl (id:=id) (ob':=.ar k (es++items) u (max hw (es.length+items.length)) ver) (d:=d) (G':=G') (w':=w') hnd (.inr (by rw[hs];rfl)) hGo size (fun blk hb hn=>heap blk hb fun c hg=>hn _ hs ⟨[],c,.inl rfl,rfl,hg⟩) (fun blk ho=>?_) (fun ob ho=>?_) hos htape houtp (fun t=>?_) (fun _ he=>by cases he) hd (fun t=>?_)).1⟩
 ·obtain⟨p,c1,hp,hss,hg⟩:=ho;rw[hGi] at hg;by_cases hp0:p=[]
  ·subst hp0;have:g []=some (b',c'):=rfl;rw[this] at hg;cases hg;rcases hb' with hb' | hb'
   ·exact .inl ⟨id,_,.inl rfl,hs,[],_,.inl rfl,rfl,hb'⟩
   ·exact .inr hb'
  ·rcases split hp0 hss hg with ⟨r1,r2,_⟩ | ⟨i,f,q,rfl,r1,r2⟩
   ·exact .inl ⟨id,_,.inl rfl,hs,p,c1,hp,r1,r2⟩
   ·obtain⟨j,ob,k1,k2,k3⟩:=hsrc (hp.resolve_left hp0) _ blk c1 (by simp) r1 r2;exact .inl ⟨j,ob,.inr k1,k2,k3⟩
 ·rw[hs] at ho;cases ho;refine⟨rfl,Nat.le_max_left _ _,Ual _,fun p s hbd hst=>?_⟩;cases p with
  | nil =>
   have hs1:s<=hw:=hbd;have hs2:s=max hw (es.length+items.length):=hst;have hm:max hw (es.length+items.length)=hw:=(by have:=Nat.le_max_left hw (es.length+items.length);omega);refine⟨by show s=hw;omega,fun es1 he=>⟨by rw[hG0,hsame hm],_,rfl,fun k' hkk hk' e he' => ?_⟩⟩;simp only[getp,Uat] at he;subst he;rcases Uaq.1 he' with he' | he'
   ·exact hk' e he'
   ·rw[hkk rfl];exact hk e he'
  | cons cd q =>
   obtain⟨i,f⟩:=cd;refine⟨hst,fun es1 he=>?_⟩;have hi:i<es.length:=by obtain⟨e,zs,g1,_,_⟩:=Vn he;exact(Uad.1 g1).1
   exact⟨by rw[hGi];exact hgo hi,es1,by rw[ZeX,if_pos hi];exact he,fun _ _ h=>h⟩
 ·refine ZiS hG0 hh hsz (by rw[Uac];exact Nat.le_max_right _ _) hc h63 hun (fun i e0 f t0 hi hf=>?_) (fun hu i f e0 zs q es2 hi hf hq=>?_) (fun hu p p' b1 c1 c2 hp hp' h1 h2 g1 g2=>?_) (fun hu p c1 hp h1 hg=>?_)
  ·by_cases hil:i<es.length
   ·rw[Uav hil] at hi;obtain⟨x,hx,hr⟩:=hold i e0 f t0 hi hf;exact⟨x,hx,Zb4 (p:=[]) (fun _=>by rw[hGi];exact hgo hil) (fun _=>t.av) t.same hr⟩
   ·obtain⟨m,rfl⟩:∃ m,i=es.length+m:=⟨i-es.length,by omega⟩;rw[Uas (by omega),show es.length+m-es.length=m from by omega] at hi;obtain⟨x,hx,hr⟩:=hnew m e0 f t0 hi hf;refine⟨x,hx,?_⟩;cases t0 with
    | v y=>exact hr
    | sl zs =>
     simp only[Jl] at hr ⊢;split
     ·rename_i hu;rw[if_pos hu] at hr;simp only[List.nil_append] at hr ⊢;rw[hGi,hgn];exact hr
     ·rename_i hu;rw[if_neg hu] at hr;have hu:u=false:=by simpa using hu
      subst hu;refine Rds.mono (hav rfl) (fun b hb=>heap b hb.1 fun c hg=>?_) hr;obtain⟨ob1,k1,k2⟩:=kl.live id _ hnd hs;exact hb.2 id ob1 k1 (k2.own.2 ⟨[],c,.inl rfl,rfl,hg⟩)
  ·by_cases hil:i<es.length
   ·rw[Uav hil] at hi;have hg0:=QY hi hf hq;refine Wc (p:=(i,f)::q) (by rw[hGi];exact hgo hil) (fun _ r=>by rw[hGi];exact hgo hil) (fun _=>t.av) t.same (fun h=>by cases h) (fun b1 c1 hg=>heap b1 (hlt hs ⟨_,c1,.inr hu,by rw[hg0];rfl,hg⟩) fun c2 hg2=>?_) (o4 _ es2 (.inr hu) hg0);have:=o5 ((i,f)::q) [] b1 c1 c2 (.inr hu) (.inl rfl) (by rw[hg0];rfl) rfl hg hg2;cases this
   ·obtain⟨m,rfl⟩:∃ m,i=es.length+m:=⟨i-es.length,by omega⟩;rw[Uas (by omega),show es.length+m-es.length=m from by omega] at hi;refine Wc (G:=fun _=>N) (id:=(0,0)) (p:=(m,f)::q) (A:=fun _=>False) (by rw[hGi];exact hgn) (fun _ r=>by rw[hGi];exact hgn) (fun hu2=>by rw[hu] at hu2;cases hu2) (fun b hb=>hb.elim) (fun h=>by cases h) (fun b1 c1 hg=>?_) (hsub hu m f e0 zs q es2 hi hf hq);obtain⟨j,ob,h1,h2,h3⟩:=hsrc hu ((m,f)::q) b1 c1 (by simp) (by rw[QY hi hf hq];rfl) hg;refine heap b1 (hlt h2 h3) fun c2 hg2=>?_;have:=h.ok.dis _ _ _ _ b1 h2 hs h3 ⟨[],c2,.inl rfl,rfl,hg2⟩;subst this;exact hnd h1
  ·rw[hGi] at g1 g2;rcases split hp h1 g1 with ⟨r1,r2,i,f,q,rfl,hil⟩ | ⟨i,f,q,rfl,r1,r2⟩<;>rcases split hp' h2 g2 with ⟨s1,s2,i',f',q',rfl,hil'⟩ | ⟨i',f',q',rfl,s1,s2⟩
   ·exact o5 _ _ b1 c1 c2 (.inr hu) (.inr hu) r1 s1 r2 s2
   ·obtain⟨j,ob,k1,k2,k3⟩:=hsrc hu _ b1 c2 (by simp) s1 s2;have:=h.ok.dis _ _ _ _ b1 k2 hs k3 ⟨_,c1,.inr hu,r1,r2⟩;subst this;exact absurd k1 hnd
   ·obtain⟨j,ob,k1,k2,k3⟩:=hsrc hu _ b1 c1 (by simp) r1 r2;have:=h.ok.dis _ _ _ _ b1 k2 hs k3 ⟨_,c2,.inr hu,s1,s2⟩;subst this;exact absurd k1 hnd
   ·have:=hinj hu _ _ b1 c1 c2 (by simp) (by simp) r1 s1 r2 s2;simp only[List.cons.injEq,UbJ] at this;rw[this.1.1,this.1.2,this.2]
  ·rw[hGi] at hg;rcases split hp h1 hg with ⟨r1,r2,i,f,q,rfl,hil⟩ | ⟨i,f,q,rfl,r1,r2⟩
   ·rcases hb' with hb' | hb'
    ·have:=o5 _ [] b' c1 c' (.inr hu) (.inl rfl) r1 rfl r2 hb';cases this
    ·have:=hlt hs ⟨_,c1,.inr hu,r1,r2⟩;omega
   ·obtain⟨j,ob,k1,k2,k3⟩:=hsrc hu _ b' c1 (by simp) r1 r2;rcases hb' with hb' | hb'
    ·have:=h.ok.dis _ _ _ _ b' k2 hs k3 ⟨[],c',.inl rfl,rfl,hb'⟩;subst this;exact hnd k1
    ·have:=hlt k2 k3;omega
 ·exact⟨⟨_,_,rfl,by omega⟩,k,es++items,u,_,ver,by unfold Zo;rw[if_pos rfl],Ual _,fun _=>⟨es++items,k,_,c',rfl,fun _=>rfl,hun,rfl,by omega,fun m hm=>by simp at hm,fun _ _=>by rw[hG0];simp [Vx],.inr (.inr ⟨b',c',hG0,by simp,by simp⟩)⟩⟩
end
end Go.Fd
namespace Go.Fd
variable [Tabs]
def FC(w:World)(k n:Nat)(v:Value)(cs:List Value):Prop :=
 cs.length=n*k/\∃ a c,v = .slice a n c/\((∃ ad,a=some ad/\∀ j u,cs[j]? = some u->w.cell? (ad.add j)=some u)\/(a=none/\cs=[]))
section
variable {P:Program} {F:Fr} {G G':Gh} {S S':Zb} {st st1 st2:St} {a:Act} {w w':World} {C:ZJ} {oper:Oper} {D D2:Zd->Prop}
theorem Zaz{k n:Nat}{v:Value}{cs:List Value}(h:FC w k n v cs)(hw:w'.heap=w.heap):(Builtin.firstCells k n v).run P w' = .ok cs.toArray w':=by
 obtain⟨hl,a,c,rfl,⟨ad,rfl,hc⟩ | ⟨rfl,rfl⟩⟩:=h
 ·exact run_firstCells_some w' k n ad n c cs hl fun j u hj=>by have:=hc j u hj;rwa [<-Zem (w':=w') (w:=w) (by rw[hw])] at this
 ·exact run_firstCells_none w' k n n c
theorem Rds.one{A:Nat->Prop}{x:Value}{t:Tr}(h:Rds w A x t):x.oneCell'=true:=by
 cases h with
 | v x h=>cases x<;>first | rfl | simp [Jw] at h
 | nil=>rfl
 | sl=>rfl
theorem Rds.fc{A:Nat->Prop}{v:Value}{es:Row}{k:Nat}(h:Rds w A v (.sl es))(hk0:0<k)(hk:ZC k es) :
  ∃ cs,FC w k es.length v cs/\∀(i:Nat) (e:List Tr) (f:Nat) (t:Tr),es[i]? = some e->e[f]? = some t->∃ x,cs[i*k+f]? = some x/\Rds w A x t:=by
 generalize ht:Tr.sl es=t at h;cases h with
 | v x h=>cases ht
 | nil a c =>
  cases ht;refine⟨[],⟨by simp,a,c,rfl,?_⟩,fun i e f t h=>by simp at h⟩;cases a with
  | none=>exact .inr ⟨rfl,rfl⟩
  | some ad=>exact .inl ⟨ad,rfl,fun j u hj=>by simp at hj⟩
 | sl b o c k' es' g hA hk' hl hc hr =>
  cases ht;by_cases hes:es=[]
  ·subst hes;exact⟨[],⟨by simp,_,c,rfl,.inl ⟨_,rfl,fun j u hj=>by simp at hj⟩⟩,fun i e f t h=>by simp at h⟩
  ·obtain⟨e0,he0⟩:=UbL es hes;have hkk:k'=k:=by rw[<-hk e0 he0,hk' e0 he0]
   subst hkk;refine⟨(List.range (es.length*k')).map fun q=>g (q / k') (q % k'),⟨by simp,_,c,rfl,.inl ⟨_,rfl,fun j u hj=>?_⟩⟩,fun i e f t hi hf=>?_⟩
   ·rw[Uao,UaJ] at hj;obtain⟨q,hq,rfl⟩:=hj;have hlt:=(Uad.1 hq).1;simp only[List.length_range] at hlt;have hqj:q=j:=by simpa [hlt] using hq.symm
    subst hqj;have hd:q / k' < es.length:=Nat.div_lt_of_lt_mul (by rwa [Ubx]);have hm:q % k' < k':=Nat.mod_lt _ hk0;have he:=Uak hd;have hel:=hk' _ (Uaf he);have:=hc (q / k') _ (q % k') _ he (Uak (by rw[hel];exact hm));rw[YJ];rw[show o+q=o+q / k'*k'+q % k' from by have:=Nat.div_add_mod q k';rw[Ubx] at this;omega];exact this
   ·have hil:=(Uad.1 hi).1;have hfl:=(Uad.1 hf).1;rw[hk' e (Uaf hi)] at hfl;have hlt:=We hil hfl;refine⟨g i f,?_,hr i e f t hi hf⟩;rw[Uao,Uby hlt];simp only[Option.map_some];have h1:(i*k'+f) / k'=i:=(by rw[Ubw,Nat.add_mul_div_right _ _ (by omega),Nat.div_eq_of_lt hfl,Uax]);have h2:(i*k'+f) % k'=f:=(by rw[Ubw,Ubn,UbM hfl]);rw[h1,h2]
theorem ZiU(h:SOk G S w){id:Zd}{k:Nat}{es:Row}{u:Bool}{hw ver:Nat}{v:Value}(hs:S id=some (.ar k es u hw ver))(hv:Vk G S id [] 0 es.length none hw v) :
  ∃ ad cs c,v = .slice ad es.length c/\es.length<=c/\c=Vx (G id [])/\FC w k es.length v cs/\(∀(i:Nat) (e:List Tr) (f:Nat) (t:Tr),es[i]? = some e->e[f]? = some t->∃ x,cs[i*k+f]? = some x/\Jl G w (Av G S w) id [] u i f x t) /\
   (c≠0->∃ b vs ty,G id []=some (b,c)/\ad=some ⟨b,0,none⟩/\w.heap[b]? = some (.cells vs ty (0,0))/\vs.size=c*k/\cs=vs.toList.take (es.length*k)):=by
 obtain⟨_,k2,es2,u2,hw2,ver2,hs2,_,hrel⟩:=hv;rw[hs] at hs2;cases hs2;obtain⟨es3,k',ad,c,hg3,hk,hun,rfl,hlc,_,hcap,hor⟩:=hrel rfl;simp only[getp,Uat] at hg3;subst hg3;have hkk:=hk rfl;subst hkk;have hc:c=Vx (G id []):=by simpa using hcap rfl rfl
 have hr:=(h.obs _ _ hs).2.2.2.1 [] es (.inl rfl) rfl;unfold Z7 at hr;by_cases hc0:c=0
 ·have hes:es=[]:=Uay (by omega);subst hes;refine⟨ad,[],c,rfl,hlc,hc,⟨by simp,ad,c,rfl,?_⟩,fun i e f t h=>by simp at h,fun hne=>absurd hc0 hne⟩;cases ad with
  | none=>exact .inr ⟨rfl,rfl⟩
  | some ad=>exact .inl ⟨ad,rfl,fun j u hj=>by simp at hj⟩
 ·rcases hor with h0 | ⟨h0,_⟩ | ⟨b,c0,hG,rfl,hcc⟩
  ·exact absurd h0 hc0
  ·exact absurd rfl h0
  ·rw[hG] at hr hc;simp only[Vx] at hc;subst hc;obtain⟨k2,vs,ty,g1,g2,g3,g4,g5,g6⟩:=hr;have hkk:=g1 rfl;subst hkk;have hll:es.length*k2<=vs.size:=by rw[g4];exact Uaz _ g5
   refine⟨_,vs.toList.take (es.length*k2),c,rfl,hlc,by rw[hG];rfl,⟨by simp;omega,_,c,rfl,.inl ⟨_,rfl,fun j u hj=>?_⟩⟩,fun i e f t hi hf=>?_,fun _=>⟨b,vs,ty,hG,by simp,g3,g4,rfl⟩⟩
   ·rw[UaB] at hj;split at hj<;>try contradiction
    rw[YJ,Nat.zero_mul,Uax,cell_of_row w b j vs ty (0,0) g3];simpa using hj
   ·obtain⟨x,hx,hcell⟩:=g6 i e f t hi hf;have hil:=(Uad.1 hi).1;have hfl:=(Uad.1 hf).1;rw[g2 e (Uaf hi)] at hfl;refine⟨x,?_,hcell⟩;rw[UaB,if_pos (We hil hfl)];simpa using hx
section run
variable {t ty e:TypeId} {i:TypeInfo} {z:Value}
theorem ZiV(ht:P.underlying t=some (.slice e))(hi:P.info? e=some i){ad:Option Addr}{n c:Nat}{yv:Value}(hy:FC w i.size 0 yv [])(hn:n<=c) :
  (Builtin.append_ #[t,t] ty #[.slice ad n c,yv]).run P w = .ok (.slice ad n c) w:=by
 have hf:=Zaz (P:=P) hy (w':=w) rfl;obtain⟨_,a,c',rfl,_⟩:=hy;cases ad with
 | none=>simp [Builtin.append_,run_underlying ht,Go.sizeOf,typeInfo,hi,Builtin.lenOf,hn,hf]
 | some ad=>simp [Builtin.append_,run_underlying ht,Go.sizeOf,typeInfo,hi,Builtin.lenOf,hn,hf,storeCells]
theorem Zrc(ht:P.underlying t=some (.slice e))(hi:P.info? e=some i){g n c m:Nat}{yv:Value}{news:List Value}{cur:Array Value}{tt:TypeId}(hg:w.heap[g]? = some (.cells cur tt (0,0)))(hy:FC w i.size m yv news)(h1:∀ u∈news,u.oneCell'=true)
  (hroom:n+m<=c) (hfit:n*i.size+news.length<=cur.size) :
  (Builtin.append_ #[t,t] ty #[.slice (some ⟨g,0,none⟩) n c,yv]).run P w =
   .ok (.slice (some ⟨g,0,none⟩) (n+m) c) (w.setRow g (cur.toList.take (n*i.size)++news++cur.toList.drop (n*i.size+news.length)).toArray):=by
 have hf:=Zaz (P:=P) hy (w':=w) rfl;have hst:=run_storeCells_at P g (n*i.size) tt news 0 cur w hg (by simpa using hfit) h1;simp only[Nat.add_zero] at hst;obtain⟨_,a,c',rfl,_⟩:=hy;simp [Builtin.append_,run_underlying ht,Go.sizeOf,typeInfo,hi,Builtin.lenOf,hroom,hf,YJ,hst]
theorem ZeY(ht:P.underlying t=some (.slice e))(hi:P.info? e=some i)(hz:i.zero=some z){ad:Option Addr}{n c m:Nat}{yv:Value}{olds news:List Value}(hv:FC w i.size n (.slice ad n c) olds)(hy:FC w i.size m yv news)
  (hg:c<n+m) (hb:n+m<=bigN) (hby:i.bytes<=1024) :
  (Builtin.append_ #[t,t] ty #[.slice ad n c,yv]).run P w =
   .ok (.slice (some ⟨w.heap.size,0,none⟩) (n+m) (grownCap w (n+m) c e)) (w.drew.alloc (.cells (olds.toArray++news.toArray++Builtin.zeroCells z.cells (grownCap w (n+m) c e-(n+m))) e)):=by
 have hn:¬ (n+m<=c):=by omega
 have hbb:n+m<=4294967296:=hb;have h63':¬ (9223372036854775807<((n:Int)+(m:Int))):=by omega
 have h48:Builtin.nextslicecap (n+m) c*i.bytes<=281474976710656:=growslice_fits hg (by
  calc (n+m)*i.bytes<=4294967296*1024:=Nat.mul_le_mul hbb hby
   _<=140737488355328:=by decide)
 have h48':¬ (281474976710656<Builtin.nextslicecap (n+m) c*i.bytes):=by omega
 have hf:=Zaz (P:=P) hy (w':=w.drew) rfl;have hfo:=Zaz (P:=P) hv (w':=w.drew) rfl;obtain⟨_,a,c',rfl,_⟩:=hy;simp [Builtin.append_,run_underlying ht,Go.sizeOf,typeInfo,zeroValue,hi,hz,Builtin.lenOf,hn,h63',h48',Question.forced,hf,hfo,newRow,grownCap];congr 2;apply Array.ext';simp [UaR]
end run
end
end Go.Fd
namespace Go.Fd
variable [Tabs]
section
variable {P:Program} {F:Fr} {G G':Gh} {S S':Zb} {st st1 st2:St} {a:Act} {w w':World} {C:ZJ} {oper:Oper} {D D2:Zd->Prop}
theorem Wk.refl(ob:Ob):Wk (fun _=>False) ob ob:=by
 cases ob with
 | bx cells=>exact .bx cells cells (JK (fun _ _ h=>h) _ (QX _)) (fun _ _ _ _ h=>h) (fun _ h=>h)
 | ar=>exact .ar ..
 | mp=>exact .mp ..
theorem Sim.put(h:Sim F G st a w){d:Option Nat}{x:IV}{v:Value}(hx:VR G st.sto w x v)(hd:∀ y,d=some y->y<F.nt):Sim F G { st with env:=ptd d x st.env } (a.put d v) w :=
 h.go (st':={ st with env:=ptd d x st.env }) (T:=fun _=>False) (D:=fun _=>False) (env0:=st.env) rfl h.outl
  ⟨fun _ _=>rfl,fun _ ob _ _ hs=>⟨ob,hs,Wk.refl ob⟩,fun _ ob _ hs=>⟨fun h=>h,ob,hs,Wk.refl ob⟩,Ual _,fun _ _ _=>rfl,fun _ _ _ hf=>hf.elim,fun _ _ hf=>hf.elim⟩
  (fun _ hf=>hf.elim) rfl rfl rfl h.ok (fun _ _ _ _ _ h=>h) (fun _=>JZ (fun _ _ h=>h) _ (UA _)) rfl hd hx
theorem Sim.idle(h:Sim F G st a w){id:Zd}{ob:Ob}(hs:st.sto id=some ob):Sim F G (Zp st id ob) a w:=by
 have he:(Zp st id ob).sto=st.sto:=by
  rw[Yt];funext i;unfold Zo;split
  ·rename_i hi;rw[hi,hs]
  ·rfl
 refine⟨h.dfr,h.sz,by rw[he,WS];exact h.env,by rw[he];exact h.ok,by rw[QC];exact h.lvl,?_,by rw[he];exact h.fr,h.fix⟩;intro i o hi;rw[QC];unfold Zp at hi;split at hi
 ·exact h.outl i o hi
 ·rename_i hne;simp only[Zo] at hi;split at hi
  ·rename_i hii;subst hii;rw[YS hne] at hs;exact h.outl _ _ hs
  ·exact h.outl i o hi
structure IT (G:Gh) (st st1:St) (w:World) (D:Zd->Prop) (items:Row) (N:Zn->Option (Nat×Nat)) (ui:Bool) (k:Nat) (yv:Value) (news:List Value):Prop where
 kl:Kl D st st1
 fc:FC w k items.length yv news
 un:ZC k items
 rd:∀(i:Nat) (e:List Tr) (f:Nat) (t:Tr),items[i]? = some e->e[f]? = some t->∃ x,news[i*k+f]? = some x/\Rds w (Av G st1.sto w) x t
 cl:ui=true->∀(i:Nat) (e:List Tr) (f:Nat) (t:Tr),items[i]? = some e->e[f]? = some t->∃ x,news[i*k+f]? = some x/\Jl (fun _=>N) w (Av G st1.sto w) (0,0) [] true i f x t
 sub:ui=true->∀(i f:Nat) (e:List Tr) (zs:Row) (q:Zn) (es2:Row),items[i]? = some e->e[f]? = some (.sl zs)->getp zs q=some es2->Z7 (fun _=>N) w (fun _=>False) (0,0) ((i,f)::q) k true es2
 src:ui=true->∀ p b1 c1,p≠[]->(getp items p).isSome=true->N p=some (b1,c1)->∃ j ob,D j/\st.sto j=some ob/\ZM G j ob b1
 inj:ui=true->∀ p p' b1 c1 c2,p≠[]->p' ≠ []->(getp items p).isSome=true->(getp items p').isSome=true->N p=some (b1,c1)->N p'=some (b1,c2)->p=p'
theorem IT.one{items:Row}{N:Zn->Option (Nat×Nat)}{ui:Bool}{k:Nat}{yv:Value}{news:List Value}(h:IT G st st1 w D items N ui k yv news)(hk0:0<k):∀ u∈news,u.oneCell'=true:=by intro u hu;obtain⟨q,hq⟩:=Ubu hu;have hlt:=(Uad.1 hq).1;rw[h.fc.1] at hlt;have hd:q / k<items.length:=Nat.div_lt_of_lt_mul (by rwa [Ubx]);have hm:q % k<k:=Nat.mod_lt _ hk0;have he:=Uak hd;have hel:=h.un _ (Uaf he);obtain⟨x,hx,hr⟩:=h.rd (q / k) _ (q % k) _ he (Uak (by rw[hel];exact hm));rw[show q / k*k+q % k=q from by have:=Nat.div_add_mod q k;rw[Ubx] at this;omega,hq] at hx;cases hx;exact hr.one
theorem IT.trees{items:Row}{ui:Bool}{k:Nat}{yv:Value}(hy:Rds w (Av G st.sto w) yv (.sl items))(hk0:0<k)(hk:ZC k items)(hu:ui=true->WP items) :
  ∃ news,IT G st st w (fun _=>False) items (fun _=>none) ui k yv news:=by
 obtain⟨cs,h1,h2⟩:=hy.fc hk0 hk;refine⟨cs,Kl.refl st,h1,hk,h2,fun hui i e f t hi hf=>?_,fun hui i f e zs q es2 hi hf hq=>?_,fun _ _ _ _ _ _ h=>(by cases h),fun _ _ _ _ _ _ _ _ _ _ h=>(by cases h)⟩
 ·obtain⟨x,hx,hr⟩:=h2 i e f t hi hf;exact⟨x,hx,Rds.cell hr fun _=>hu hui e (Uaf hi) t (Uaf hf)⟩
 ·have:=hu hui e (Uaf hi) _ (Uaf hf);simp only[Y6] at this;subst this;obtain⟨rfl,rfl⟩:=Qi hq;unfold Z7;rfl
theorem IT.moved(h:Sim F G st a w){id2:Zd}{k k2:Nat}{zs:Row}{hw2 ver2:Nat}{yv:Value}(hs2:st.sto id2=some (.ar k2 zs true hw2 ver2))(hl2:id2.1=st.lvl)(hy:Vk G st.sto id2 [] 0 zs.length none hw2 yv)(hk0:0<k)(hk:ZC k zs) :
  ∃ news,IT G st (Zw id2 st) w (fun i=>False\/i=id2) zs (G id2) true k yv news:=by
 obtain⟨_,htree⟩:=Zay h hs2 hl2 hy;obtain⟨cs,h1,h2⟩:=htree.fc hk0 hk;obtain⟨ad,cs2,c,hv,_,_,h3,h4,_⟩:=ZiU h.ok hs2 hy;have hob:=h.ok.obs _ _ hs2;have hcs:zs≠[]->cs=cs2:=fun hne=>by
  obtain⟨e0,he0⟩:=UbL zs hne;have hkk:k2=k:=by rw[<-hk e0 he0,hob.2.1 e0 he0]
  subst hkk;obtain⟨l1,a1,c1,e1,o1⟩:=h1;obtain⟨l2,a2,c2,e2,o2⟩:=h3;rw[e1] at e2;cases e2;rcases o1 with ⟨ad1,rfl,r1⟩ | ⟨rfl,rfl⟩
  ·rcases o2 with ⟨ad2,e3,r2⟩ | ⟨e3,_⟩
   ·cases e3;apply Ubf;intro j;by_cases hj:j<cs.length
    ·have q1:=r1 j _ (Uak hj);have q2:=r2 j _ (Uak (show j<cs2.length from by omega));rw[q1] at q2;rw[Uak hj,Uak (show j<cs2.length from by omega)];exact q2
    ·rw[UaX (by omega),UaX (by omega)]
   ·cases e3
  ·rcases o2 with ⟨ad2,e3,r2⟩ | ⟨_,rfl⟩
   ·cases e3
   ·rfl
 refine⟨cs,(Kl.refl st).step (fun j cells hj=>h.ok.low j cells hj) h.outl hl2 (by rw[hs2];rfl),h1,hk,h2,fun _ i e f t hi hf=>?_,fun _ i f e z q es2 hi hf hq=>?_,fun _ p b1 c1 hp hss hN=>⟨id2,_,.inr rfl,hs2,p,c1,.inr rfl,hss,hN⟩,fun _ p p' b1 c1 c2 hp hp' h5 h6 h7 h8=>hob.2.2.2.2 p p' b1 c1 c2 (.inr rfl) (.inr rfl) h5 h6 h7 h8⟩
 ·have hne:zs≠[]:=fun hh=>by rw[hh] at hi;simp at hi
  obtain⟨e0,he0⟩:=UbL zs hne;have hkk:k2=k:=by rw[<-hk e0 he0,hob.2.1 e0 he0]
  subst hkk;obtain⟨x,hx,hc⟩:=h4 i e f t hi hf;refine⟨x,by rw[hcs hne];exact hx,?_⟩;cases t with
  | v y=>exact hc
  | sl es=>simpa [Jl] using hc
 ·have hr:=hob.2.2.2.1 ((i,f)::q) es2 (.inr rfl) (QY hi hf hq);have hr2:=Zb1 (G1:=G) (G2:=G) (A':=fun _=>False) (i:=id2) rfl hr;exact Wc (G:=G) (id:=id2) (p:=(i,f)::q) (A:=fun _=>False) rfl (fun _ r=>rfl) (fun hu=>by cases hu) (fun b hb=>hb.elim) (fun h=>by cases h) (fun _ _ _=>rfl) hr2
def ZaA(P:Program)(t ty:TypeId)(xv yv:Value)(w:World)(v:Value)(w':World):Prop:=(Builtin.append_ #[t,t] ty #[xv,yv]).run P w = .ok v w'
theorem ZiW(h:Sim F G st a w){items:Row}{N:Zn->Option (Nat×Nat)}{ui:Bool}{k:Nat}{yv xv:Value}{news:List Value}{t ty e:TypeId}{i:TypeInfo}{z:Value}{d:Option Nat}(it:IT G st st1 w D items N ui k yv news)
  (ht:P.underlying t=some (.slice e)) (hi:P.info? e=some i) (hz:i.zero=some z) (hik:i.size=k) (hzk:z.cells.size=k) (hby:i.bytes<=1024) (hk0:0<k) (hd:∀ y,d=some y->y<F.nt)
  {id:Zd} {es:Row} {u:Bool} {hw ver:Nat} (hs:st.sto id=some (.ar k es u hw ver)) (hnd:¬ D id) (hx:Vk G st.sto id [] 0 es.length none hw xv) (huu:u=true->ui=true) (hb:es.length+items.length<=bigN) :
  ∃ v w' G',ZaA P t ty xv yv w v w'/\Sim F G' { Zp st1 id (.ar k (es++items) u (max hw (es.length+items.length)) ver) with env:=ptd d (.hd id [] 0 (es.length+items.length) none (max hw (es.length+items.length))) st1.env } (a.put d v) w':=by
 subst hik;obtain⟨ad,olds,c,rfl,hlc,hcap,hfc,hold,hblk⟩:=ZiU h.ok hs hx;obtain⟨o1,o2,o3,o4,o5⟩:=h.ok.obs _ _ hs;by_cases hit:items=[]
 ·subst hit;have hnews:news=[]:=Uay (by simpa using it.fc.1);subst hnews;obtain⟨ob1,k1,k2⟩:=it.kl.live id _ hnd hs;have hob1:ob1 = .ar i.size es u hw ver:=by cases k2;rfl
  subst hob1;have h1:=h.kl it.kl;have hmax:max hw (es.length+0)=hw:=by omega
  refine⟨_,w,G,ZiV ht hi it.fc hlc,?_⟩;simp only[Ubm,List.length_nil,Nat.add_zero] at hmax ⊢;rw[hmax];have h2:=h1.1.idle k1;have hxx:VR G (Zp st1 id (.ar i.size es u hw ver)).sto w (.hd id [] 0 es.length none hw) (.slice ad es.length c):=by
   have he:(Zp st1 id (.ar i.size es u hw ver)).sto=st1.sto:=by
    rw[Yt];funext j;unfold Zo;split
    ·rename_i hj;rw[hj,k1]
    ·rfl
   rw[he];exact h1.2.vr (.hd id [] 0 es.length none hw) _ hnd hx
  have:=h2.put hxx hd;rw[WS] at this;exact this
 ·have hm:0<items.length:=UbP fun h0=>hit (Uay h0)
  have cells:∀{vs:Array Value},(∀(j:Nat) (x:Value),olds[j]? = some x->vs[j]? = some x)->(∀(j:Nat) (x:Value),news[j]? = some x->vs[es.length*i.size+j]? = some x) ->
    (∀(i0:Nat) (e:List Tr) (f:Nat) (t:Tr),es[i0]? = some e->e[f]? = some t->∃ x,vs[i0*i.size+f]? = some x/\Jl G w (Av G st.sto w) id [] u i0 f x t) /\
    (∀(i0:Nat) (e:List Tr) (f:Nat) (t:Tr),items[i0]? = some e->e[f]? = some t->∃ x,vs[(es.length+i0)*i.size+f]? = some x/\Jl (fun _=>N) w (Av G st1.sto w) (0,0) [] u i0 f x t):=by
   intro vs h1 h2;refine⟨fun i0 e f t hi hf=>?_,fun i0 e f t hi hf=>?_⟩
   ·obtain⟨x,hx,hc⟩:=hold i0 e f t hi hf;exact⟨x,h1 _ _ hx,hc⟩
   ·cases u with
    | true =>
     obtain⟨x,hx,hc⟩:=it.cl (huu rfl) i0 e f t hi hf;exact⟨x,by rw[UaP,Ubc];exact h2 _ _ hx,hc⟩
    | false =>
     obtain⟨x,hx,hc⟩:=it.rd i0 e f t hi hf;exact⟨x,by rw[UaP,Ubc];exact h2 _ _ hx,Rds.cell hc (fun h=>by cases h)⟩
  by_cases hroom:es.length+items.length<=c
  ·obtain⟨b,vs,tt,hG,rfl,hh,hsz,hol⟩:=hblk (by omega);have hfit:es.length*i.size+news.length<=vs.size:=by rw[hsz,it.fc.1,<-UaP];exact Uaz _ hroom
   have hrun:=Zrc (P:=P) (ty:=ty) ht hi hh it.fc (it.one hk0) hroom hfit;obtain⟨c1,c2⟩:=cells (vs:=(vs.toList.take (es.length*i.size)++news++vs.toList.drop (es.length*i.size+news.length)).toArray) (fun j x hj=>by
     have hjl:=(Uad.1 hj).1;rw[hol] at hj hjl;simp only[UbS,UaR];rw[Uav hjl];exact hj) (fun j x hj=>by
     have hjl:=(Uad.1 hj).1;have htl:(vs.toList.take (es.length*i.size)).length=es.length*i.size:=(by simp;omega);simp only[UbS,UaR];rw[Uas (by omega),htl,Ubb,Uav hjl];exact hj)
   obtain⟨G',hG'⟩:=ZiT h it.kl (d:=d) hs hnd hd (w':=w.setRow b (vs.toList.take (es.length*i.size)++news++vs.toList.drop (es.length*i.size+news.length)).toArray) (by simp)
    (fun blk _ hn=>setRow_other w b blk _ (fun hbb=>hn c (by rw[hbb];exact hG))) rfl rfl rfl (.inl hG) (fun _=>hG) (setRow_heap w b vs _ tt (0,0) hh) (by simp;omega) (by rw[<-hcap] at o3;omega) (by rw[<-hcap] at o3;omega) it.un c1 c2
    (fun hu=>by rw[hu];exact it.sub (huu hu)) (fun hu=>it.src (huu hu)) (fun hu=>it.inj (huu hu))
   exact⟨_,_,G',hrun,hG'⟩
  ·have hgrow:c<es.length+items.length:=(by omega);have hrun:=ZeY (P:=P) (ty:=ty) ht hi hz hfc it.fc hgrow hb hby;have hge:=grownCap_ge w (es.length+items.length) c e;have holl:olds.length=es.length*i.size:=hfc.1;obtain⟨c1,c2⟩:=cells (vs:=olds.toArray++news.toArray++Builtin.zeroCells z.cells (grownCap w (es.length+items.length) c e-(es.length+items.length))) (fun j x hj=>by
     have hjl:=(Uad.1 hj).1;rw[UbA,UaK (by simpa using hjl)];simpa using hj) (fun j x hj=>by
     have hjl:=(Uad.1 hj).1;rw[UbA,Array.getElem?_append_right (by simp;omega),UaK (by simp;omega)];simp only[Ubv,holl,Ubb];simpa using hj)
   obtain⟨G',hG'⟩:=ZiT h it.kl (d:=d) hs hnd hd (b':=w.heap.size) (c':=grownCap w (es.length+items.length) c e) (w':=w.drew.alloc (.cells (olds.toArray++news.toArray++Builtin.zeroCells z.cells (grownCap w (es.length+items.length) c e-(es.length+items.length))) e)) (by simp)
    (fun blk hb _=>heap_alloc_old w.drew _ blk hb) rfl rfl rfl (.inr (Ual _)) (fun hmx=>by rw[<-hcap] at o3;omega) (heap_alloc_new w.drew _)
    (by simp only[Array.size_append,Ubv,size_zeroCells,hzk,holl,it.fc.1,<-UaP];congr 1;omega) (by rw[<-hcap] at o3;omega) (ZeU (by unfold bigN at *;omega)) it.un c1 c2
    (fun hu=>by rw[hu];exact it.sub (huu hu)) (fun hu=>it.src (huu hu)) (fun hu=>it.inj (huu hu))
   exact⟨_,_,G',hrun,hG'⟩
end
end Go.Fd
