/-
  WHERE THE PARTS OF A TERM BEGIN, THE PROGRAM'S SIDE, AND TermParts. Own work.
-/
import Derived.Test.YtcpcocfmpcmbpaaGreatDoorT07
set_option linter.all false
namespace Go.Fd
open Go.Proofs.Tryz renaming prog->Ucb
set_option maxRecDepth 20000
theorem Zps(t:List TTermStep)(h:goodT t)(lvl:Nat)(S:Zb):Sem Ucb ZcI lvl [.tr (.sl (t.map Zg))] S (.ow 1 (rI (ZI t t.length).1) true) S:=by
 have hl:=h.len;refine Zl ZBb trivial ?_;simp only[Zll,Uaa,Za,seval];refine ZP (α:=Nat×Nat) t.length (fun j w=>[(3,.hd (lvl,288) [] 0 j none j),(4,.hd (lvl,320) [] 0 (ZI t j).2.length none w.1),(13,iI j)]) (fun j w=>[(288,.ar 1 (rI (ZI t j).1) true j 0),(320,.ar 1 (rI (ZI t j).2) true w.1 w.2)]) (fun j w=>(ZI t j).2.length<=w.1/\w.1<=100) (0,0) (by simp only[Za,seval]) (by (simp only[ZI,Za,seval])<;>rfl) (by simp [ZI]) ?_;intro j w hj hw;have hsm:=h.sml j hj;have h1:=stS_one (t:=t) (j:=j);simp only[Uaa,Za,seval];refine Zv (fun hlt=>?_) (fun hge=>?_)
 ·have hja:j<t.length:=by omega
  have ga:=Jb (c:=Zg) hja;have htk:=h.tak j hja;have hsm2:=h.sml (j+1) (by omega);have hnd:=h.ned j hja;obtain⟨T,hT⟩:∃ T,T=Qe t j:=⟨_,rfl⟩;have hT2:ZE t[j].kind_=T:=by rw[hT,Uj hja]
  have qn:=ZhV t[j].kind_ t[j].control t[j].site t[j].names;rw[hnd,hT2] at qn;rw[<-hT] at htk;obtain⟨n,hn⟩:∃ n,n=(ZI t j).2.length-T:=⟨_,rfl⟩;have hn2:(((ZI t j).2.length:Int)-(T:Int))=(n:Int):=by omega
  have hst:ZI t (j+1)=((ZI t j).1++[if 0<T then g0 (ZI t j).2 n else (j:Int)],(ZI t j).2.take n++[if 0<T then g0 (ZI t j).2 n else (j:Int)]):=by rw[ZI,<-hT,<-hn]
  obtain⟨Z,hZ⟩:∃ Z,Z=ZI t j:=⟨_,rfl⟩;rw[<-hZ] at hn hn2 htk hst hsm h1 hw ⊢;simp only[ga,Zg,Za,seval,Zc,men];refine Zf qn ?_;by_cases h0:0<T
  ·have h0i:(0:Int)<(T:Int):=(by omega);have hnl:n<Z.2.length:=(by omega);have gn:=WE hnl;simp only[h0i,hn2,gn,hnl,Uaa,Za,seval];have e1:∀ L:List Int,rI L++[[Tr.v (Value.int .i64 Z.2[n])]]=rI (L++[Z.2[n]]):=fun L=>by rw[J4];rfl
   have e2:List.take n (rI Z.2)=rI (Z.2.take n):=(Ubj ..).symm;rw[if_pos h0,show g0 Z.2 n=Z.2[n] by simp [hnl]] at hst;have e3:(ZI t (j+1)).2.length=n+1:=(by rw[hst];simp;omega);refine⟨by rw[Ze];omega,by rw[Ze];omega,by omega,by rw[e2,Uaa,Uai];omega,by omega,h1.symm,by omega,by rw[Ze];omega,Zz (max w.1 (n+1),w.2+1) hja ?_ ⟨by rw[e3];exact Nat.le_max_right _ _,by show max w.1 (n+1)<=100;omega⟩⟩;rw[e3,hst,e1,e2,e1];rfl
  ·have h0i:¬ (0:Int)<(T:Int):=(by omega);simp only[h0i,Uaa,Za,seval];have e1:∀ L:List Int,rI L++[[Tr.v (Value.int .i64 j)]]=rI (L++[(j:Int)]):=fun L=>by rw[J4];rfl
   have hnz:n=Z.2.length:=(by omega);rw[if_neg h0,hnz,Uap] at hst;have e3:(ZI t (j+1)).2.length=Z.2.length+1:=(by rw[hst];simp);refine⟨by omega,h1.symm,by omega,by rw[Ze];omega,Zz (max w.1 (Z.2.length+1),w.2) hja ?_ ⟨by rw[e3];exact Nat.le_max_right _ _,by show max w.1 (Z.2.length+1)<=100;omega⟩⟩;rw[e3,hst,e1,e1];rfl
 ·have:j=t.length:=by omega
  subst this;simp only[Za,seval];exact stS_one.symm
theorem Zpt{α:Type}{V:List α}{n:Nat}:∀{W:List α},(W++V).drop (W.length+n)=V.drop n
 | []=>by simp
 | a::r=>by rw[List.length_cons,show r.length+1+n=(r.length+n)+1 by omega,List.cons_append,List.drop_succ_cons];exact Zpt
theorem Zpu{α:Type}{V:List α}{n:Nat}:∀{W:List α},(W++V).take (W.length+n)=W++V.take n
 | []=>by simp
 | a::r=>by rw[List.length_cons,show r.length+1+n=(r.length+n)+1 by omega,List.cons_append,List.take_succ_cons,Zpu];rfl
theorem ZGn{sig:List TControl}{W V:List ZR}{m m':Nat}{s:TTermStep}{z:Jz}(h:JE sig (V,m) s=some z):∃ k,JE sig (W++V,m') s=some (W++z.1,k):=by
 unfold JE at h;split at h
 ·rename_i hA;split at h
  ·rename_i x hx;cases h;have hA2:ZE s.kind_<=V.length:=hA.2;have e:(W++V).length-ZE s.kind_=W.length+(V.length-ZE s.kind_):=by rw[Uac];omega
   refine⟨max m' ((W++V).length-ZE s.kind_+1),?_⟩;rw[ZdY (z:=(W++V,m')) hA.1 (by show ZE s.kind_<=(W++V).length;rw[Uac];omega) (x:=x) (by
    show JI sig s ((W++V).drop ((W++V).length-ZE s.kind_))=some x;rw[e,Zpt];exact hx)]
   show some ((W++V).take ((W++V).length-ZE s.kind_)++[x],max m' ((W++V).length-ZE s.kind_+1))=_;rw[show (W++V).take ((W++V).length-ZE s.kind_)=W++V.take (V.length-ZE s.kind_) by rw[e,Zpu],UaR]
  ·cases h
 ·cases h
theorem Zpv{sig:List TControl}:∀{t:List TTermStep} {V W:List ZR} {m m':Nat} {z:Jz},t.foldlM (JE sig) ((V,m):Jz)=some z->∃ k,t.foldlM (JE sig) ((W++V,m'):Jz)=some (W++z.1,k)
 | [],V,W,m,m',z,h=>by cases h;exact⟨m',rfl⟩
 | s::r,V,W,m,m',z,h=>by
  rw[List.foldlM_cons] at h;cases hs:JE sig (V,m) s with
  | none=>rw[hs] at h;cases h
  | some z1 =>
   rw[hs] at h;obtain⟨k1,e1⟩:=ZGn (W:=W) (m':=m') hs;have h2:r.foldlM (JE sig) ((z1.1,z1.2):Jz)=some z:=h;obtain⟨k2,e2⟩:=Zpv (W:=W) (m':=k1) h2;refine⟨k2,?_⟩;rw[List.foldlM_cons,e1];exact e2
def Zr(t:List TTermStep)(a e:Nat):List TTermStep:=(t.take e).drop a
theorem J6{t:List TTermStep}{a e:Nat}(h:e<=t.length):(Zr t a e).length=e-a:=by unfold Zr;rw[UaL,Uai];omega
theorem ZGo{t:List TTermStep}{a e g:Nat}(h1:a<=e)(h2:e<=g)(h3:g<=t.length):Zr t a g=Zr t a e++Zr t e g:=by
 unfold Zr;have e1:t.take g=t.take e++(t.take g).drop e:=by
  conv=>lhs;rw[<-Ua5 e (t.take g)]
  rw[List.take_take,Nat.min_eq_left h2]
 conv=>lhs;rw[e1]
 rw[List.drop_append_of_le_length (by rw[Uai];omega)]
theorem WF{t:List TTermStep}{a j:Nat}(h1:a<=j)(h2:j<t.length):Zr t a (j+1)=Zr t a j++[t[j]]:=by unfold Zr;rw[Uag h2,List.drop_append_of_le_length (by rw[Uai];omega)]
theorem Ul{t:List TTermStep}{j:Nat}:Zr t j j=[]:=by unfold Zr;exact List.drop_eq_nil_of_le (by rw[Uai];omega)
theorem ZGp{sig:List TControl}{s:List TTermStep}{u:TTermStep}:Z3 sig (s++[u])=(Z3 sig s).bind fun z=>JE sig z u:=by
 unfold Z3;rw[List.foldlM_append];cases List.foldlM (JE sig) (([],0):Jz) s with
 | none=>rfl
 | some z =>
  show List.foldlM (JE sig) z [u]=_;simp
theorem ZGq{sig:List TControl}{s u:List TTermStep}{V W:List ZR}{m k:Nat}(h1:Z3 sig s=some (V,m))(h2:Z3 sig u=some (W,k)):∃ q,Z3 sig (s++u)=some (V++W,q):=by unfold Z3 at *;rw[List.foldlM_append,h1];have:=Zpv (W:=V) (m':=m) h2;rw[Ubm] at this;exact this
def YL(P:List Int)(j k:Nat):Nat:=if k+1<P.length then (g0 P (k+1)).toNat else j
structure SegOK (sig:List TControl) (t:List TTermStep) (P:List Int) (j k:Nat) (x:ZR):Prop where
 nn:0<=g0 P k
 lt:(g0 P k).toNat<YL P j k
 le:YL P j k<=j
 run:∃ m,Z3 sig (Zr t (g0 P k).toNat (YL P j k))=some ([x],m)
def Yf(t:List TTermStep)(j:Nat):Int:=if 0<Qe t j then g0 (ZI t j).2 ((ZI t j).2.length-Qe t j) else (j:Int)
theorem Zh1{t:List TTermStep}{j:Nat}:ZI t (j+1)=((ZI t j).1++[Yf t j],(ZI t j).2.take ((ZI t j).2.length-Qe t j)++[Yf t j]):=rfl
theorem Zh2{l:List Int}{x:Int}{k:Nat}(h:k<l.length):g0 (l++[x]) k=g0 l k:=by simp [Uav h]
theorem Zd8{l:List Int}{x:Int}{k:Nat}(h:k=l.length):g0 (l++[x]) k=x:=by subst h;simp
theorem Zpw{l:List Int}{n k:Nat}(h:k<n):g0 (l.take n) k=g0 l k:=by simp [h]
theorem VQ{t:List TTermStep}:∀{n j:Nat},j<n->g0 (ZI t n).1 j=Yf t j
 | 0,j,h=>absurd h (Ua9 j)
 | n+1,j,h=>by
  rw[Zh1];by_cases e:j<n
  ·rw[Zh2 (by rw[stS_one];exact e),VQ e]
  ·rw[Zd8 (by rw[stS_one];omega)];rw[show j=n by omega]
theorem Zd9{sig:List TControl}{t:List TTermStep}:∀{j:Nat} {z:Jz},j<=t.length->Z3 sig (t.take j)=some z->∀ k (h:k<z.1.length),SegOK sig t (ZI t j).2 j k z.1[k]
 | 0,z,_,h=>by rw[List.take_zero,Zaa] at h;cases h;intro k hk;cases hk
 | j+1,z,hj,h=>by
  have hL1:=Uk (j:=j+1) hj h;rw[Zab (by omega)] at h;cases hp:Z3 sig (t.take j) with
  | none=>rw[hp] at h;cases h
  | some z0 =>
   rw[hp] at h;have ih:=Zd9 (j:=j) (by omega) hp;have hL:=Uk (j:=j) (by omega) hp;have hst:JE sig z0 t[j]=some z:=h;unfold JE at hst;split at hst
   ·rename_i hA;split at hst
    ·rename_i x hx;cases hst;obtain⟨T,hT⟩:∃ T,T=ZE t[j].kind_:=⟨_,rfl⟩;have hTA:Qe t j=T:=by rw[Uj (by omega),hT]
     have hA1:=hA.1;have hA2:T<=z0.1.length:=(by rw[hT];exact hA.2);have hT2:T<=2:=(by rw[hT];unfold ZE;split<;>(try split)<;>omega);rw[<-hT] at hx;obtain⟨n,hn⟩:∃ n,n=z0.1.length-T:=⟨_,rfl⟩;rw[<-hn] at hx;obtain⟨P,hP⟩:∃ P,P=(ZI t j).2:=⟨_,rfl⟩;rw[<-hP] at ih hL;have hsJ:Yf t j=if 0<T then g0 P n else (j:Int):=by unfold Yf;rw[hTA,<-hP,hL,<-hn]
     have hPS:(ZI t (j+1)).2=P.take n++[Yf t j]:=(by rw[Zh1,hTA,<-hP,hL,<-hn]);have hPl:(P.take n).length=n:=(by rw[Uai];omega);have hPl2:(P.take n++[Yf t j]).length=n+1:=(by rw[Uac,hPl];rfl);rw[hPS];intro k hk;simp only[<-hT,<-hn] at hk ⊢;have hzl:(z0.1.take n).length=n:=(by rw[Uai];omega);have hk2:k<n+1:=(by rw[Uac,hzl] at hk;exact hk);have hall:∃ m,Yf t j=((Yf t j).toNat:Nat)/\(Yf t j).toNat<=j/\Z3 sig (Zr t (Yf t j).toNat j)=some (z0.1.drop n,m):=by
      have hc:T=0\/T=1\/T=2:=(by omega);rcases hc with h0 | h0 | h0
      ·have en:n=z0.1.length:=(by omega);rw[hsJ,if_neg (by omega),Int.toNat_natCast,Ul,en,Ubo];exact⟨0,rfl,Ual _,rfl⟩
      ·have hnl:n<z0.1.length:=(by omega);have q:=ih n hnl;have ee:YL P j n=j:=(by unfold YL;rw[if_neg (by omega)]);obtain⟨m,hm⟩:=q.run;have q1:=q.nn;have q2:=q.lt;rw[ee] at hm q2;rw[hsJ,if_pos (by omega)];refine⟨m,by omega,by omega,?_⟩;rw[hm,UaA hnl,List.drop_eq_nil_of_le (by omega)]
      ·have hnl:n+1<z0.1.length:=(by omega);have q:=ih n (by omega);have p:=ih (n+1) hnl;have e1:YL P j n=(g0 P (n+1)).toNat:=(by unfold YL;rw[if_pos (by omega)]);have e2:YL P j (n+1)=j:=(by unfold YL;rw[if_neg (by omega)]);obtain⟨m,hm⟩:=q.run;obtain⟨m2,hm2⟩:=p.run;have q1:=q.nn;have q2:=q.lt;have p1:=p.nn;have p2:=p.lt;rw[e1] at hm q2;rw[e2] at hm2 p2;obtain⟨w,hw⟩:=ZGq hm hm2;rw[<-ZGo (by omega) (by omega) (by omega)] at hw;rw[hsJ,if_pos (by omega)];refine⟨w,by omega,by omega,?_⟩;rw[hw,UaA (show n<z0.1.length by omega),UaA hnl,List.drop_eq_nil_of_le (by omega)];rfl
     obtain⟨m,hsn,hsle,hrun⟩:=hall;by_cases ek:k<n
     ·have q:=ih k (by omega);have g1:g0 (P.take n++[Yf t j]) k=g0 P k:=(by rw[Zh2 (by omega),Zpw ek]);have e1:YL (P.take n++[Yf t j]) (j+1) k=YL P j k:=by
       unfold YL;rw[if_pos (by omega)];by_cases ek2:k+1<n
       ·rw[Zh2 (by omega),Zpw ek2,if_pos (by omega)]
       ·rw[Zd8 (by omega),hsJ];by_cases hT0:0<T
        ·rw[if_pos hT0,if_pos (by omega),show k+1=n by omega]
        ·rw[if_neg hT0,if_neg (by omega),Int.toNat_natCast]
      have ez:(z0.1.take n++[x])[k]'hk=z0.1[k]'(by omega):=(by rw[List.getElem_append_left (by omega),List.getElem_take]);rw[ez];refine⟨by rw[g1];exact q.nn,by rw[g1,e1];exact q.lt,by rw[e1];have:=q.le;omega,by rw[g1,e1];exact q.run⟩
     ·have ekn:k=n:=(by omega);subst ekn;have g1:g0 (P.take k++[Yf t j]) k=Yf t j:=Zd8 (by omega);have e1:YL (P.take k++[Yf t j]) (j+1) k=j+1:=(by unfold YL;rw[if_neg (by omega)]);have ez:(z0.1.take k++[x])[k]'hk=x:=(by rw[List.getElem_append_right (by omega)];simp);rw[ez];refine⟨by rw[g1];omega,by rw[g1,e1];omega,by rw[e1];exact Ual _,?_⟩;rw[g1,e1,WF hsle (by omega),ZGp,hrun];have hdl:(z0.1.drop k).length=T:=(by rw[UaL];omega);refine⟨max m ((z0.1.drop k).length-ZE t[j].kind_+1),?_⟩;show JE sig (z0.1.drop k,m) t[j]=_;rw[ZdY (z:=(z0.1.drop k,m)) hA1 (by show ZE t[j].kind_<=(z0.1.drop k).length;rw[hdl,hT];exact Ual _) (x:=x) (by
       show JI sig t[j] ((z0.1.drop k).drop ((z0.1.drop k).length-ZE t[j].kind_))=some x;rw[hdl,<-hT,Ubi,Ubl];exact hx)]
      show some ((z0.1.drop k).take ((z0.1.drop k).length-ZE t[j].kind_)++[x],max m ((z0.1.drop k).length-ZE t[j].kind_+1))=_;rw[show (z0.1.drop k).take ((z0.1.drop k).length-ZE t[j].kind_)=[] by rw[hdl,<-hT,Ubi,List.take_zero]];rfl
    ·cases hst
   ·cases hst
theorem opA{sig:List TControl}{t:List TTermStep}{y:Jz}(h:Z3 sig t=some y){j:Nat}(hj:j<t.length)(hT:ZE t[j].kind_=1):∃ f:Nat,Yf t j=f/\f<j:=by
 obtain⟨z,h1,h2,h3⟩:=Vu h hj;have hL:=Uk (by omega) h1;have q:=Zd9 (by omega) h1 (z.1.length-1) (by omega);have ee:YL (ZI t j).2 j (z.1.length-1)=j:=by unfold YL;rw[if_neg (by omega)]
 have q1:=q.nn;have q2:=q.lt;rw[ee] at q2;refine⟨(g0 (ZI t j).2 (z.1.length-1)).toNat,?_,q2⟩;unfold Yf;rw[Uj hj,hT,if_pos (by omega),hL];omega
theorem U3{sig:List TControl}{t:List TTermStep}{y:Jz}(h:Z3 sig t=some y){j:Nat}(hj:j<t.length)(hT:ZE t[j].kind_=2):∃(f b:Nat) (x w:ZR),Yf t j=f/\Yf t (j-1)=b/\f<b/\b<j/\(∃ m,Z3 sig (Zr t f b)=some ([x],m))/\∃ m,Z3 sig (Zr t b j)=some ([w],m):=by
 obtain⟨z,h1,h2,h3⟩:=Vu h hj;rw[hT] at h3;have hL:=Uk (by omega) h1;have q:=Zd9 (by omega) h1 (z.1.length-2) (by omega);have p:=Zd9 (by omega) h1 (z.1.length-1) (by omega);have e1:YL (ZI t j).2 j (z.1.length-2)=(g0 (ZI t j).2 (z.1.length-1)).toNat:=by unfold YL;rw[if_pos (by omega),show z.1.length-2+1=z.1.length-1 by omega]
 have e2:YL (ZI t j).2 j (z.1.length-1)=j:=by unfold YL;rw[if_neg (by omega)]
 have q1:=q.nn;have q2:=q.lt;have q3:=q.run;have p1:=p.nn;have p2:=p.lt;have p3:=p.run;rw[e1] at q2 q3;rw[e2] at p2 p3;refine⟨_,_,_,_,?_,?_,q2,p2,q3,p3⟩
 ·unfold Yf;rw[Uj hj,hT,if_pos (by omega),hL];omega
 ·have hj0:0<j:=by
   rcases Nat.eq_zero_or_pos j with e | e
   ·subst e;rw[List.take_zero,Zaa] at h1;cases h1;simp at h3
   ·exact e
  obtain⟨i,hi⟩:∃ i,j=i+1:=⟨j-1,by omega⟩;subst hi;have:g0 (ZI t (i+1)).2 (z.1.length-1)=Yf t i:=by rw[Zh1] at hL ⊢;refine Zd8 ?_;rw[Uac] at hL;simp only[List.length_cons,List.length_nil] at hL;omega
  rw[Uca,<-this];omega
def s00:TTermStep:=⟨0,0,0,[]⟩
def Zi(t:List TTermStep)(j:Nat):TTermStep:=(t[j]?).getD s00
theorem JF{t:List TTermStep}{j:Nat}(h:j<t.length):Zi t j=t[j]:=by simp [Zi,h]
def JJ(s:TTermStep):ByteArray:=gS s.names 0
def ZV(n:Int):Int:=if n=1 then 4 else if n=2 then 4 else if n=3 then 4 else if n=4 then 5 else if n=5 then 6 else if n=6 then 3 else if n=7 then 5 else -1
theorem ZGr{n:Int}(h:0<=ZV n):n=1\/n=2\/n=3\/n=4\/n=5\/n=6\/n=7:=by
 unfold ZV at h;by_cases h1:n=1
 ·exact .inl h1
 by_cases h2:n=2
 ·exact .inr (.inl h2)
 by_cases h3:n=3
 ·exact .inr (.inr (.inl h3))
 by_cases h4:n=4
 ·exact .inr (.inr (.inr (.inl h4)))
 by_cases h5:n=5
 ·exact .inr (.inr (.inr (.inr (.inl h5))))
 by_cases h6:n=6
 ·exact .inr (.inr (.inr (.inr (.inr (.inl h6)))))
 by_cases h7:n=7
 ·exact .inr (.inr (.inr (.inr (.inr (.inr h7)))))
 rw[if_neg h1,if_neg h2,if_neg h3,if_neg h4,if_neg h5,if_neg h6,if_neg h7] at h;omega
noncomputable def Zea(sig:List TControl)(s:List TTermStep):TBigraph:=(((U2 sig s).1[0]?).map fun x=>x.1).getD JN
theorem Zeb{sig:List TControl}{s:List TTermStep}{x:ZR}{m:Nat}(h:Z3 sig s=some ([x],m)):Zea sig s=x.1:=by unfold Zea;rw[ZbD h];rfl
def YD(t:List TTermStep)(n:Int)(f b j:Nat):List TTermStep :=
 if n=1 then Zr t b j++Zr t f b++[Zi t j]
 else if n=2\/n=4 then Zr t f (b-1)++Zr t b j++[Zi t j,Zi t j]
 else if n=3 then Zr t f b
 else if n=5\/n=6 then Zr t f (j-1)++[Zi t j,Zi t (j-1)]
 else Zr t f (b-1)++Zr t b j++[Zi t j,Zi t (b-1)]
structure okT (sig:List TControl) (t:List TTermStep) (n:Int) (f b j:Nat):Prop where
 want:ZV n=(Zi t j).kind_
 shift:n=2\/n=4->(Zi t (b-1)).kind_=(Zi t j).kind_
 drop:n=3->j-b=1/\(Zi t b).kind_=1/\(Zea sig (Zr t f b)).roots=1
 close:n=5\/n=6->(Zi t (j-1)).kind_=6/\JJ (Zi t (j-1)) ∉ (Zi t j).names
 lift:n=7->(Zi t (b-1)).kind_=6/\JJ (Zi t (b-1)) ∉ (Zea sig (Zr t b j)).outer
def ZL(t:List TTermStep)(j:Nat):Nat:=(Yf t j).toNat
def Yp(t:List TTermStep)(n:Int)(j:Nat):List TTermStep:=t.take (ZL t j)++YD t n (ZL t j) (ZL t (j-1)) j++t.drop (j+1)
structure axOK (sig:List TControl) (t:List TTermStep) (n a:Int):Prop where
 val:(JX sig t).isSome=true
 at_:0<=a/\a<=(t.length:Int)-1
 ok:okT sig t n (ZL t a.toNat) (ZL t (a.toNat-1)) a.toNat
 out:(JX sig (Yp t n a.toNat)).isSome=true
open Classical in
noncomputable def Yy(sig:List TControl)(t:List TTermStep)(n a:Int):List TTermStep:=if axOK sig t n a then Yp t n a.toNat else []
noncomputable def Um(sig:List TControl)(t:List TTermStep)(n a:Int):Bool:=dc (axOK sig t n a)
abbrev eTS:List TTermStep->List Tr:=fun l=>[Tr.sl (l.map Zg)]
theorem Zh3{α:Type}{ls:List (List α)}{j:Nat}(h:j<ls.length):(ls.take (j+1)).flatten=(ls.take j).flatten++ls[j]:=by rw[Uag h,List.flatten_append];simp
theorem Zh4{α:Type}{ls:List (List α)}{j:Nat}:((ls.take j).flatten).length<=ls.flatten.length:=by have h:=congrArg (fun l=>l.flatten.length) (Ua5 j ls);simp only[List.flatten_append,Uac] at h;omega
theorem ZY{l:List TTermStep}:ZC 4 (l.map Zg)=True:=eq_true (VD Zg (fun _=>rfl) l)
theorem ZGs(n:Nat)(hn:n<=4294967296)(lvl:Nat)(S:Zb):Sem Ucb Zgj lvl [.cs [],iI n] S (.ow 4 [] true) S:=by
 refine Zl ZBr trivial ?_;simp only[Zlz,Za,seval];rw[if_neg (by omega)];refine⟨by rw[Ze];omega,by rw[Ze];omega,?_⟩;split
 ·exact⟨fun e he=>by (cases he),by omega,by omega,by omega⟩
 ·trivial
theorem Zpx(ls:List (List TTermStep))(h0:0<ls.length)(hl:ls.length<=4294967296)(ht:ls.flatten.length<=4294967290)(lvl:Nat)(S:Zb):Sem Ucb Wp lvl [.tr (.sl (ls.map eTS))] S (.ow 4 (ls.flatten.map Zg) false) S:=by
 refine Zl ZBa trivial ?_;simp only[Zlk,Uaa,Za,seval];refine ZP (α:=Unit) ls.length (fun j _=>[(3,iI ((ls.take j).flatten).length),(11,iI j)]) (fun _ _=>[]) (fun _ _=>True) () (by simp only[Za,seval]) (by (simp only[Za,seval])<;>rfl) trivial ?_;intro j _ hj _;simp only[Za,seval];refine Zv (fun hlt=>?_) (fun hge=>?_)
 ·have hja:j<ls.length:=by omega
  have ga:=Jb (c:=eTS) hja;have h1:=Zh3 (ls:=ls) hja;have h2:=Zh4 (ls:=ls) (j:=j+1);rw[h1,Uac] at h2;simp only[ga,Uaa,Za,seval];refine⟨by rw[Ze];omega,?_⟩;rw[if_neg (by omega)];exact⟨by rw[Ze];omega,Zz () hja (by rw[h1,Uac];rfl) trivial⟩
 ·have:j=ls.length:=by omega
  subst this;rw[Uap];refine Zkn (ZGs _ (by omega) _ _) ?_;simp only[Uaa,Za,seval];refine ZP (α:=Unit) ls.length (fun j _=>[(6,.hd (lvl,768) [] 0 ((ls.take j).flatten).length none ((ls.take j).flatten).length),(27,iI j)]) (fun j _=>[(768,.ar 4 ((ls.take j).flatten.map Zg) (decide (j=0)) ((ls.take j).flatten).length 0)]) (fun _ _=>True) () (by simp only[Za,seval]) (by (simp only[Za,seval])<;>rfl) trivial ?_;intro j _ hj _;simp only[Uaa,Za,seval];refine Zv (fun hlt2=>?_) (fun hge2=>?_)
  ·have hja:j<ls.length:=(by omega);have ga:=Jb (c:=eTS) hja;have h1:=Zh3 (ls:=ls) hja;have h2:=Zh4 (ls:=ls) (j:=j+1);rw[h1,Uac] at h2;have e:(ls.take (j+1)).flatten.map Zg=(ls.take j).flatten.map Zg++ls[j].map Zg:=(by rw[h1,Uaw]);have e2:((ls.take (j+1)).flatten).length=((ls.take j).flatten).length+ls[j].length:=(by rw[h1,Uac]);simp only[ga,ZY,Uaa,Za,seval];exact⟨by omega,by rw[Ze];omega,Zz () hja (by rw[e,e2,UbR,Ubq (Ubr _ _)];rfl) trivial⟩
  ·have:j=ls.length:=(by omega);subst this;rw[Uap];have hz:decide (ls.length=0)=false:=decide_eq_false (by omega);rw[hz];try rfl
theorem Zh5(ls:List (List TTermStep))(hl:ls.length<=4294967296)(ht:ls.flatten.length<=4294967290)(lvl:Nat)(S:Zb):Sem Ucb QI lvl [.tr (.sl (ls.map eTS))] S (.tr (.sl (ls.flatten.map Zg))) S:=by
 refine Zl ZA6 trivial ?_;simp only[Zlg,Za,seval];refine ZP (α:=Unit) ls.length (fun j _=>[(3,.hd (lvl,160) [] 0 ((ls.take j).flatten).length none ((ls.take j).flatten).length),(4,iI j)]) (fun j _=>[(160,.ar 4 ((ls.take j).flatten.map Zg) (decide (j=0)) ((ls.take j).flatten).length 0)]) (fun _ _=>True) () (by simp only[Za,seval]) (by (simp only[Za,seval])<;>rfl) trivial ?_;intro j _ hj _;simp only[Uaa,Za,seval];refine Zv (fun hlt2=>?_) (fun hge2=>?_)
 ·have hja:j<ls.length:=by omega
  have ga:=Jb (c:=eTS) hja;have h1:=Zh3 (ls:=ls) hja;have h2:=Zh4 (ls:=ls) (j:=j+1);rw[h1,Uac] at h2;have e:(ls.take (j+1)).flatten.map Zg=(ls.take j).flatten.map Zg++ls[j].map Zg:=by rw[h1,Uaw]
  have e2:((ls.take (j+1)).flatten).length=((ls.take j).flatten).length+ls[j].length:=by rw[h1,Uac]
  simp only[ga,ZY,Uaa,Za,seval];exact⟨by omega,by rw[Ze];omega,Zz () hja (by rw[e,e2,UbR,Ubq (Ubr _ _)];rfl) trivial⟩
 ·have:j=ls.length:=by omega
  subst this;rw[Uap];rw[show cut (ls.flatten.map Zg) 0 ls.flatten.length=ls.flatten.map Zg from Ym (Uaa ..)]
theorem Zec(A B C:List TTermStep)(h:A.length+B.length+C.length<=4294967290)(lvl:Nat)(S:Zb):Sem Ucb Wp lvl [.tr (.sl [[.sl (A.map Zg)],[.sl (B.map Zg)],[.sl (C.map Zg)]])] S (.ow 4 ((A++B++C).map Zg) false) S:=by
 have e:[A,B,C].flatten=A++B++C:=by simp
 have q:=Zpx [A,B,C] (by simp) (by simp) (by rw[e,Uac,Uac];omega) lvl S;rw[e] at q;exact q
theorem Zpy(A B:List TTermStep)(h:A.length+B.length<=4294967290)(lvl:Nat)(S:Zb):Sem Ucb Wp lvl [.tr (.sl [[.sl (A.map Zg)],[.sl (B.map Zg)]])] S (.ow 4 ((A++B).map Zg) false) S:=by
 have e:[A,B].flatten=A++B:=by simp
 have q:=Zpx [A,B] (by simp) (by simp) (by rw[e,Uac];omega) lvl S;rw[e] at q;exact q
theorem Zh6(A B C D:List TTermStep)(h:A.length+B.length+C.length+D.length<=4294967290)(lvl:Nat)(S:Zb):Sem Ucb QI lvl [.tr (.sl [[.sl (A.map Zg)],[.sl (B.map Zg)],[.sl (C.map Zg)],[.sl (D.map Zg)]])] S (.tr (.sl ((A++B++C++D).map Zg))) S:=by
 have e:[A,B,C,D].flatten=A++B++C++D:=by simp
 have q:=Zh5 [A,B,C,D] (by simp) (by rw[e,Uac,Uac,Uac];omega) lvl S;rw[e] at q;exact q
theorem Zed(A B C:List TTermStep)(h:A.length+B.length+C.length<=4294967290)(lvl:Nat)(S:Zb):Sem Ucb QI lvl [.tr (.sl [[.sl (A.map Zg)],[.sl (B.map Zg)],[.sl (C.map Zg)]])] S (.tr (.sl ((A++B++C).map Zg))) S:=by
 have e:[A,B,C].flatten=A++B++C:=by simp
 have q:=Zh5 [A,B,C] (by simp) (by rw[e,Uac,Uac];omega) lvl S;rw[e] at q;exact q
theorem ZGt(A:List TTermStep)(h:A.length<=4294967290)(lvl:Nat)(S:Zb):Sem Ucb QI lvl [.tr (.sl [[.sl (A.map Zg)]])] S (.tr (.sl (A.map Zg))) S:=by
 have e:[A].flatten=A:=by simp
 have q:=Zh5 [A] (by simp) (by rw[e];omega) lvl S;rw[e] at q;exact q
theorem ZGu(t:List TTermStep)(hl:t.length<=4294967290)(hb:∀ y∈t,Jm 4294967296 y)(lvl:Nat)(S:Zb):Sem Ucb Zf8 lvl [.tr (.sl (t.map Zg))] S (.ow 4 (t.map Zg) true) S:=by
 refine Zl ZBc trivial ?_;simp only[Zlm,Uaa,Za,seval];refine ZP (α:=Unit) t.length (fun j _=>[(3,.hd (lvl,192) [] 0 j none j),(9,iI j)]) (fun j _=>[(192,.ar 4 ((t.take j).map Zg) true j 0)]) (fun _ _=>True) () (by simp only[Za,seval]) (by (simp only[Za,seval])<;>rfl) trivial ?_;intro j _ hj _;simp only[Uaa,Za,seval];refine Zv (fun hlt=>?_) (fun hge=>?_)
 ·have hja:j<t.length:=by omega
  have ga:=Jb (c:=Zg) hja;have hlT:((t.take j).map Zg).length=j:=by rw[Uaa,Uai];omega
  have e:(t.take (j+1)).map Zg=(t.take j).map Zg++[Zg t[j]]:=by rw[Uag hja,Uaw];rfl
  have hbj:=hb _ (Uaj hja);simp only[ga,Zg,Za,seval,Zc,men];refine Zf (Zbp t[j].names hbj.1) ?_;simp only[hlT,Uaa,Za,seval];exact⟨by omega,by rw[Ze];omega,Zz () hja (by rw[e];rfl) trivial⟩
 ·have:j=t.length:=by omega
  subst this;rw[Uap];exact⟨rfl,rfl⟩
theorem ZGv(t:List TTermStep)(hl:t.length<=4294967290)(hb:∀ y∈t,Jm 4294967296 y)(lvl:Nat)(S:Zb):Sem Ucb Zf4 lvl [.tr (.sl (t.map Zg))] S (.ow 4 (t.map Zg) true) S:=by
 refine Zl ZA5 trivial ?_;simp only[Zlf,Za,seval];refine ZP (α:=Unit) t.length (fun j _=>[(3,.hd (lvl,160) [] 0 j none j),(4,iI j)]) (fun j _=>[(160,.ar 4 ((t.take j).map Zg) true j 0)]) (fun _ _=>True) () (by simp only[Za,seval]) (by (simp only[Za,seval])<;>rfl) trivial ?_;intro j _ hj _;simp only[Uaa,Za,seval];refine Zv (fun hlt=>?_) (fun hge=>?_)
 ·have hja:j<t.length:=by omega
  have ga:=Jb (c:=Zg) hja;have hlT:((t.take j).map Zg).length=j:=by rw[Uaa,Uai];omega
  have e:(t.take (j+1)).map Zg=(t.take j).map Zg++[Zg t[j]]:=by rw[Uag hja,Uaw];rfl
  have hbj:=(hb _ (Uaj hja)).1;simp only[ga,hlT,Zg,QK,V8,Uaa,Za,seval];exact⟨by omega,by omega,by rw[Ze];omega,Zz () hja (by rw[e];rfl) trivial⟩
 ·have:j=t.length:=by omega
  subst this;rw[Uap];exact⟨rfl,rfl⟩
theorem Zpz(sig:List TControl)(t:List TTermStep)(hn:sig.length<=4294967296)(hbs:∀ y∈sig,Z9 4294967296 y)(hbt:∀ y∈t,Jm 4294967296 y)(hs:Jj sig)(hl:t.length<=60){x:ZR}{m:Nat}(h:Z3 sig t=some ([x],m))(lvl:Nat)(S:Zb):Sem Ucb ZcM lvl [.tr (.sl (sig.map Zx)),.tr (.sl (t.map Zg))] S (.ag ((Zh x.1).map .tr)) S:=by refine Zl ZBl (by simp [low,men,Zc,Zh]) ?_;simp only[Zlu,Za,seval,Zc,men];refine Zf (Zph sig t hn hbs hbt hs hl) ?_;rw[Zh0 h];simp only[Zy,Zh,Za,seval]
theorem ZGw(sig:List TControl)(t:List TTermStep)(hn:sig.length<=4294967296)(hbs:∀ y∈sig,Z9 4294967296 y)(hbt:∀ y∈t,Jm 4294967296 y)(hs:Jj sig)(hl:t.length<=60){x:ZR}{m:Nat}(h:Z3 sig t=some ([x],m))(lvl:Nat)(S:Zb):Sem Ucb Zgf lvl [.tr (.sl (sig.map Zx)),.tr (.sl (t.map Zg))] S (iI x.1.roots) S:=by refine Zl ZBj trivial ?_;simp only[Zls,Za,seval,Zc,men];refine Zf (Zpz sig t hn hbs hbt hs hl h) ?_;simp only[Zh,Za,seval]
theorem ZbF{t:List TTermStep}{a e:Nat}:Zr t a e=(t.drop a).take (e-a):=by unfold Zr;rw[List.drop_take]
theorem QO{t:List TTermStep}{a e:Nat}:cut (t.map Zg) a (e-a)=(Zr t a e).map Zg:=by rw[ZbF,cut,<-List.map_drop,<-Ubj]
theorem ZGx{t:List TTermStep}{f g x y:Nat}(h:f+y<=g):Zr (Zr t f g) x y=Zr t (f+x) (f+y):=by rw[ZbF,ZbF (t:=t) (a:=f),ZbF (t:=t) (a:=f+x),List.drop_take,List.take_take,UbK];rw[show min (y-x) (g-f-x)=y-x by omega,show f+y-(f+x)=y-x by omega]
theorem WG{t:List TTermStep}{f g k:Nat}(h1:f+k<g)(h2:g<=t.length):((Zr t f g).map Zg)[k]? = some (Zg (Zi t (f+k))):=by
 have hk:k<(Zr t f g).length:=by rw[J6 h2];omega
 rw[Uao,ZbF,UaB,if_pos (by omega),UaM,Uak (by omega),JF (by omega)];rfl
theorem Yq{t:List TTermStep}{f g x y:Nat}(h:f+y<=g):cut ((Zr t f g).map Zg) x (y-x)=(Zr t (f+x) (f+y)).map Zg:=by rw[QO,ZGx h]
theorem Un{l:List TTermStep}:cut (l.map Zg) 0 l.length=l.map Zg:=Ym (by rw[Uaa])
theorem ZpA{sig:List TControl}{s u:TTermStep}(h1:stepOK sig s)(h2:stepOK sig u)(hk:s.kind_=u.kind_)(h:u.kind_=4\/u.kind_=5):s=u:=by have a1:=h1.ctl0 (by omega);have a2:=h2.ctl0 (by omega);have b1:=h1.site0 (by omega);have b2:=h2.site0 (by omega);have c1:=Uay (h1.non (by omega) (by omega) (by omega));have c2:=Uay (h2.non (by omega) (by omega) (by omega));cases s;cases u;simp only at *;subst a1 a2 b1 b2 c1 c2 hk;rfl
theorem ZpB(t:List TTermStep)(f b j:Nat)(k:Int)(hl:t.length<=60)(hj:j<t.length)(hfb:f<b)(hbj:b<j)(hb:Yf t (j-1)=b)(lvl:Nat)(S:Zb):Sem Ucb Zgi lvl [.tr (.sl ((Zr t f (j+1)).map Zg)),tI (ZI t t.length).1,iI f,iI k] S (.tu [.tr (.sl ((if (Zi t (b-1)).kind_=k then Zr t f (b-1)++Zr t b j++[Zi t (b-1),Zi t j] else []).map Zg)),iB (decide ((Zi t (b-1)).kind_=k))]) S:=by
 have hPl:(Zr t f (j+1)).length=j+1-f:=J6 (by omega);have hSl:(ZI t t.length).1.length=t.length:=stS_one;have gs:=JC (l:=(ZI t t.length).1) (i:=j-1) (by omega);rw[VQ (by omega),hb] at gs;have g1:=WG (t:=t) (f:=f) (g:=j+1) (k:=b-f-1) (by omega) (by omega);have g2:=WG (t:=t) (f:=f) (g:=j+1) (k:=j-f) (by omega) (by omega);rw[show f+(b-f-1)=b-1 by omega] at g1;rw[show f+(j-f)=j by omega] at g2;have q1:((j+1-f:Nat):Int)-1=((j-f:Nat):Int):=by omega
 have q2:(f:Int)+((j-f:Nat):Int)=(j:Int):=by omega
 have q3:(j:Int)-1=((j-1:Nat):Int):=by omega
 have q4:(b:Int)-(f:Int)=((b-f:Nat):Int):=by omega
 have q5:((b-f:Nat):Int)-1=((b-f-1:Nat):Int):=by omega
 have q6:¬ ((b-f:Nat):Int)=0:=by omega
 refine Zl ZBq (by simp [low,men,Zc]) ?_;have rep3:List.replicate 3 [Tr.sl []]=[[Tr.sl []],[Tr.sl []],[Tr.sl []]]:=rfl;have rep4:List.replicate 2 [Tr.v (Value.int IntKind.i64 0),Tr.v (Value.int IntKind.i64 0),Tr.v (Value.int IntKind.i64 0),Tr.sl []]=[[Tr.v (Value.int IntKind.i64 0),Tr.v (Value.int IntKind.i64 0),Tr.v (Value.int IntKind.i64 0),Tr.sl []],[Tr.v (Value.int IntKind.i64 0),Tr.v (Value.int IntKind.i64 0),Tr.v (Value.int IntKind.i64 0),Tr.sl []]]:=rfl;have c1:cut ((Zr t f (j+1)).map Zg) (b-f) (j-f-(b-f))=(Zr t b j).map Zg:=by rw[Yq (by omega),show f+(b-f)=b by omega,show f+(j-f)=j by omega]
 have c4:cut ((Zr t f (j+1)).map Zg) 0 (b-f-1-0)=(Zr t f (b-1)).map Zg:=by rw[Yq (by omega),show f+(b-f-1)=b-1 by omega,Nat.add_zero]
 have V8:ZC 4 ((Zr t f (j+1)).map Zg)=True:=eq_true (VD Zg (fun _=>rfl) _);have l1:(Zr t f (b-1)).length=b-1-f:=J6 (by omega);have l2:(Zr t b j).length=j-b:=J6 (by omega);have bl1:b-f-1<j+1-f:=by omega
 have bl2:j-f<j+1-f:=by omega
 have cut3:∀ x y z:List Tr,cut [x,y,z] 0 3=[x,y,z]:=fun _ _ _=>rfl;by_cases hk:(Zi t (b-1)).kind_=k
 ·subst hk;rw[if_pos rfl,decide_eq_true rfl];simp only[Zg6,Uaa,hPl,q1,q2,q3,q4,q5,q6,gs,g1,g2,rep3,rep4,c1,c4,V8,Zg,List.set_cons_zero,List.set_cons_succ,List.length_cons,List.length_nil,Int.toNat_natCast,Za,seval,Zc,men];repeat (refine⟨(by first | (rw[Ze];omega) | omega | (intro _;trivial) | trivial | (simp;done)),?_⟩)
  refine Zf (Zec (Zr t f (b-1)) (Zr t b j) [Zi t (b-1),Zi t j] (by simp;omega)) ?_;simp only[Un,Za,seval]
 ·rw[if_neg hk,decide_eq_false hk];simp only[Zg6,Uaa,hPl,q1,q2,q3,q4,q5,q6,gs,g1,hk,Zg,Int.toNat_natCast,Za,seval];repeat (refine⟨(by first | (rw[Ze];omega) | omega | (intro _;trivial) | trivial | (simp;done)),?_⟩)
  try (rw[Ze];omega)
  try rfl
theorem mapM(n:Int):Vw n [(1,4),(2,4),(3,4),(4,5),(5,6),(6,3),(7,5)]=if 0<=ZV n then some (ZV n) else none:=by
 by_cases h1:n=1
 ·subst h1;rfl
 by_cases h2:n=2
 ·subst h2;rfl
 by_cases h3:n=3
 ·subst h3;rfl
 by_cases h4:n=4
 ·subst h4;rfl
 by_cases h5:n=5
 ·subst h5;rfl
 by_cases h6:n=6
 ·subst h6;rfl
 by_cases h7:n=7
 ·subst h7;rfl
 have e:ZV n = -1:=by unfold ZV;rw[if_neg h1,if_neg h2,if_neg h3,if_neg h4,if_neg h5,if_neg h6,if_neg h7]
 rw[e,if_neg (by decide)];simp [Vw,h1,h2,h3,h4,h5,h6,h7]
open Classical in
noncomputable def WH(sig:List TControl)(t:List TTermStep)(n:Int)(j:Nat):List TTermStep:=if ZV n=(Zi t j).kind_/\(okT sig t n (ZL t j) (ZL t (j-1)) j\/n=3) then YD t n (ZL t j) (ZL t (j-1)) j else []
theorem WI{sig:List TControl}{t:List TTermStep}{y:Jz}(h:Z3 sig t=some y){j:Nat}(hj:j<t.length):∃ f:Nat,Yf t j=f/\f<=j:=by
 have hT2:ZE t[j].kind_<=2:=by unfold ZE;split<;>(try split)<;>omega
 have hc:ZE t[j].kind_=0\/ZE t[j].kind_=1\/ZE t[j].kind_=2:=by omega
 rcases hc with h0 | h0 | h0
 ·refine⟨j,?_,Ual _⟩;unfold Yf;rw[Uj hj,h0,if_neg (by omega)]
 ·obtain⟨f,h1,h2⟩:=opA h hj h0;exact⟨f,h1,by omega⟩
 ·obtain⟨f,b,x,w,h1,h2,h3,h4,_⟩:=U3 h hj h0;exact⟨f,h1,by omega⟩
theorem Zee{t:List TTermStep}{a e:Nat}(h:∀ y∈t,Jm 4294967296 y):∀ y∈Zr t a e,Jm 4294967296 y:=fun y hy=>h y (UaS (Ubd hy))
set_option maxHeartbeats 4000000 in
theorem ZGy(sig:List TControl)(t:List TTermStep)(hn:sig.length<=4294967296)(hbs:∀ y∈sig,Z9 4294967296 y)(hbt:∀ y∈t,Jm 4294967296 y)(hs:Jj sig)(hl:t.length<=60)(hg:goodT t){y:Jz}(hr:Z3 sig t=some y)(j:Nat)(hj:j<t.length)(n:Int)(lvl:Nat)(S:Zb) :
  Sem Ucb Zf7 lvl [.tr (.sl (sig.map Zx)),.tr (.sl (t.map Zg)),iI n,iI j] S (.tu [.tr (.sl ((WH sig t n j).map Zg)),iB (dc (okT sig t n (ZL t j) (ZL t (j-1)) j))]) S:=by
 obtain⟨f,hf,hfj⟩:=WI hr hj;have hfA:ZL t j=f:=by unfold ZL;rw[hf];rfl
 have hSl:(ZI t t.length).1.length=t.length:=stS_one;have gs:=JC (l:=(ZI t t.length).1) (i:=j) (by omega);rw[VQ hj,hf] at gs;have hPl:(Zr t f (j+1)).length=j+1-f:=J6 (by omega);have g2:=WG (t:=t) (f:=f) (g:=j+1) (k:=j-f) (by omega) (by omega);rw[show f+(j-f)=j by omega] at g2;have q0:((j:Int)+1)=((j+1:Nat):Int):=by omega
 have q1:((j+1-f:Nat):Int)-1=((j-f:Nat):Int):=by omega
 have hcp:cut (t.map Zg) f (j+1-f)=(Zr t f (j+1)).map Zg:=QO;refine Zl ZA9 (by simp [low,men,Zc]) ?_;simp only[Zlj,Za,seval,Zc,men];refine Zf (Zps t hg) ?_;have hM:Y2 7 5 (Y2 6 3 (Y2 5 6 (Y2 4 5 (Y2 3 4 (Y2 2 4 (Y2 1 4 []))))))=[(1,4),(2,4),(3,4),(4,5),(5,6),(6,3),(7,5)]:=rfl;have hmm:=mapM n;have unr0:ZC 4 (t.map Zg):=VD Zg (fun _=>rfl) t;have unr1:ZC 4 ((Zr t f (j+1)).map Zg):=VD Zg (fun _=>rfl) _;simp only[gs,q0,hcp,hPl,q1,g2,hM,hmm,Zg,Uaa,Int.toNat_natCast,Za,seval];refine⟨by rw[Ze];omega,fun _=>unr0,by omega,by omega,by rw[Ze];omega,?_⟩;have hso:stepOK sig t[j]:=by obtain⟨z,_,h2,_⟩:=Vu hr hj;exact h2
 have hkn:=hso.kind;rw[<-JF hj] at hso hkn;have hno:¬ ZV n=(Zi t j).kind_->IV.tu [IV.tr (Tr.sl []),IV.tr (Tr.v (Value.bool false))]=IV.tu [IV.tr (Tr.sl (List.map Zg (WH sig t n j))),iB (dc (okT sig t n (ZL t j) (ZL t (j-1)) j))]:=fun h=>by unfold WH;rw[if_neg (fun g=>h g.1),Zt (fun g=>h g.want)];rfl
 have hax:∀ b,ZL t (j-1)=b->ZV n=(Zi t j).kind_->(okT sig t n f b j\/n=3)->WH sig t n j=YD t n f b j:=fun b hb h1 h2=>by unfold WH;rw[hfA,hb,if_pos ⟨h1,h2⟩]
 have hax0:∀ b,ZL t (j-1)=b -> ¬ okT sig t n f b j -> ¬ n=3->WH sig t n j=[]:=fun b hb h1 h2=>by unfold WH;rw[hfA,hb,if_neg (fun g=>g.2.elim h1 h2)]
 have rep3:List.replicate 3 [Tr.sl []]=[[Tr.sl []],[Tr.sl []],[Tr.sl []]]:=rfl;have rep2:List.replicate 2 [Tr.sl []]=[[Tr.sl []],[Tr.sl []]]:=rfl;have rep4:List.replicate 2 [Tr.v (Value.int IntKind.i64 0),Tr.v (Value.int IntKind.i64 0),Tr.v (Value.int IntKind.i64 0),Tr.sl []]=[[Tr.v (Value.int IntKind.i64 0),Tr.v (Value.int IntKind.i64 0),Tr.v (Value.int IntKind.i64 0),Tr.sl []],[Tr.v (Value.int IntKind.i64 0),Tr.v (Value.int IntKind.i64 0),Tr.v (Value.int IntKind.i64 0),Tr.sl []]]:=rfl;by_cases hw0:0<=ZV n;rotate_left
 ·simp only[hw0,Option.isSome_none,Za,seval];exact hno (by omega)
 simp only[hw0,Option.isSome_some,Option.getD_some,Za,seval];refine Zv (fun hne=>hno hne) (fun heq=>?_);have hwk:ZV n=(Zi t j).kind_:=Classical.not_not.1 heq;have hbase:=hbt;rcases ZGr hw0 with rfl | rfl | rfl | rfl | rfl | rfl | rfl
 ·have hk:(Zi t j).kind_=4:=hwk.symm;obtain⟨f',b,x,w',e1,e2,hfb,hbj,⟨m1,r1⟩,⟨m2,r2⟩⟩:=U3 hr hj (by rw[<-JF hj,hk];rfl);have hff:f'=f:=by omega
  subst hff;have hbA:ZL t (j-1)=b:=by unfold ZL;rw[e2];rfl
  have q3:(j:Int)-1=((j-1:Nat):Int):=by omega
  have q4:(b:Int)-(f':Int)=((b-f':Nat):Int):=by omega
  have gsb:=JC (l:=(ZI t t.length).1) (i:=j-1) (by omega);rw[VQ (by omega),e2] at gsb;have hjl:j-1<t.length:=by omega
  have l1:(Zr t f' b).length=b-f':=J6 (by omega);have l2:(Zr t b j).length=j-b:=J6 (by omega);have l3:(Zr t f' (b-1)).length=b-1-f':=J6 (by omega);have c1:cut ((Zr t f' (j+1)).map Zg) (b-f') (j-f' - (b-f'))=(Zr t b j).map Zg:=by rw[Yq (by omega),show f'+(b-f')=b by omega,show f'+(j-f')=j by omega]
  have c2:cut ((Zr t f' (j+1)).map Zg) 0 (b-f' - 0)=(Zr t f' b).map Zg:=by rw[Yq (by omega),show f'+(b-f')=b by omega,Nat.add_zero]
  have c3:cut ((Zr t f' (j+1)).map Zg) (j-f') (j+1-f' - (j-f'))=[Zg (Zi t j)]:=by rw[Yq (by omega),show f'+(j-f')=j by omega,show f'+(j+1-f')=j+1 by omega,WF (Ual _) hj,Ul,JF hj];rfl
  rw[hfA,hbA];have hok:okT sig t 1 f' b j:=⟨hwk,fun h=>by omega,fun h=>by omega,fun h=>by omega,fun h=>by omega⟩;rw[hax b hbA hwk (.inl hok),ZU hok];simp only[q3,gsb,q4,hk,hPl,rep3,ZY,List.set_cons_zero,List.set_cons_succ,Uaa,List.length_cons,List.length_nil,Int.toNat_natCast,c1,c2,c3,Za,seval,Zc,men];repeat refine⟨by first | (rw[Ze];omega) | omega | exact fun _=>unr1 | (simp;done),?_⟩
  refine Zf (Zec (Zr t b j) (Zr t f' b) [Zi t j] (by simp;omega)) ?_;simp only[Un,Za,seval];try (rw[Ze];omega)
  try decide
  try rfl
 ·have hk:(Zi t j).kind_=4:=hwk.symm;obtain⟨f',b,x,w',e1,e2,hfb,hbj,⟨m1,r1⟩,⟨m2,r2⟩⟩:=U3 hr hj (by rw[<-JF hj,hk];rfl);have hff:f'=f:=by omega
  subst hff;have hbA:ZL t (j-1)=b:=by unfold ZL;rw[e2];rfl
  have q3:(j:Int)-1=((j-1:Nat):Int):=by omega
  have q4:(b:Int)-(f':Int)=((b-f':Nat):Int):=by omega
  have gsb:=JC (l:=(ZI t t.length).1) (i:=j-1) (by omega);rw[VQ (by omega),e2] at gsb;have hjl:j-1<t.length:=by omega
  have l1:(Zr t f' b).length=b-f':=J6 (by omega);have l2:(Zr t b j).length=j-b:=J6 (by omega);have l3:(Zr t f' (b-1)).length=b-1-f':=J6 (by omega);have c1:cut ((Zr t f' (j+1)).map Zg) (b-f') (j-f' - (b-f'))=(Zr t b j).map Zg:=by rw[Yq (by omega),show f'+(b-f')=b by omega,show f'+(j-f')=j by omega]
  have c2:cut ((Zr t f' (j+1)).map Zg) 0 (b-f' - 0)=(Zr t f' b).map Zg:=by rw[Yq (by omega),show f'+(b-f')=b by omega,Nat.add_zero]
  have c3:cut ((Zr t f' (j+1)).map Zg) (j-f') (j+1-f' - (j-f'))=[Zg (Zi t j)]:=by rw[Yq (by omega),show f'+(j-f')=j by omega,show f'+(j+1-f')=j+1 by omega,WF (Ual _) hj,Ul,JF hj];rfl
  rw[hfA,hbA];have hsh:=ZpB t f' b j 4 hl hj hfb hbj e2;have hb1:stepOK sig (Zi t (b-1)):=by obtain⟨z,_,h2,_⟩:=Vu hr (show b-1<t.length by omega);rw[JF (by omega)];exact h2
  by_cases hss:(Zi t (b-1)).kind_=4
  ·have hok:okT sig t 2 f' b j:=⟨hwk,fun _=>by rw[hss,hk],fun h=>by omega,fun h=>by omega,fun h=>by omega⟩;have hsame:=ZpA hb1 hso (by rw[hss,hk]) (by rw[hk];omega);rw[hax b hbA hwk (.inl hok),ZU hok];rw[if_pos hss,decide_eq_true hss,hsame] at hsh;simp only[q3,gsb,q4,hk,List.length_cons,List.length_nil,Int.toNat_natCast,Za,seval,Zc,men];repeat refine⟨by first | (rw[Ze];omega) | omega | exact fun _=>unr1 | (simp;done),?_⟩
   refine Zf hsh ?_;simp only[Za,seval];try (rw[Ze];omega)
   try decide
   try rfl
  ·have hok:¬ okT sig t 2 f' b j:=fun h=>hss (by rw[h.shift (by omega),hk]);rw[hax0 b hbA hok (by omega),Zt hok];rw[if_neg hss,decide_eq_false hss] at hsh;simp only[q3,gsb,q4,hk,List.length_cons,List.length_nil,Int.toNat_natCast,Za,seval,Zc,men];repeat refine⟨by first | (rw[Ze];omega) | omega | exact fun _=>unr1 | (simp;done),?_⟩
   refine Zf hsh ?_;simp only[Za,seval];try (rw[Ze];omega)
   try decide
   try rfl
 ·have hk:(Zi t j).kind_=4:=hwk.symm;obtain⟨f',b,x,w',e1,e2,hfb,hbj,⟨m1,r1⟩,⟨m2,r2⟩⟩:=U3 hr hj (by rw[<-JF hj,hk];rfl);have hff:f'=f:=by omega
  subst hff;have hbA:ZL t (j-1)=b:=by unfold ZL;rw[e2];rfl
  have q3:(j:Int)-1=((j-1:Nat):Int):=by omega
  have q4:(b:Int)-(f':Int)=((b-f':Nat):Int):=by omega
  have gsb:=JC (l:=(ZI t t.length).1) (i:=j-1) (by omega);rw[VQ (by omega),e2] at gsb;have hjl:j-1<t.length:=by omega
  have l1:(Zr t f' b).length=b-f':=J6 (by omega);have l2:(Zr t b j).length=j-b:=J6 (by omega);have l3:(Zr t f' (b-1)).length=b-1-f':=J6 (by omega);have c1:cut ((Zr t f' (j+1)).map Zg) (b-f') (j-f' - (b-f'))=(Zr t b j).map Zg:=by rw[Yq (by omega),show f'+(b-f')=b by omega,show f'+(j-f')=j by omega]
  have c2:cut ((Zr t f' (j+1)).map Zg) 0 (b-f' - 0)=(Zr t f' b).map Zg:=by rw[Yq (by omega),show f'+(b-f')=b by omega,Nat.add_zero]
  have c3:cut ((Zr t f' (j+1)).map Zg) (j-f') (j+1-f' - (j-f'))=[Zg (Zi t j)]:=by rw[Yq (by omega),show f'+(j-f')=j by omega,show f'+(j+1-f')=j+1 by omega,WF (Ual _) hj,Ul,JF hj];rfl
  rw[hfA,hbA];have gb:=WG (t:=t) (f:=f') (g:=j+1) (k:=b-f') (by omega) (by omega);rw[show f'+(b-f')=b by omega] at gb;have q5:((j-f':Nat):Int)-((b-f':Nat):Int)=((j-b:Nat):Int):=by omega
  have hst:=ZhY sig (Zr t f' b) hn hbs (Zee hbt) hs (by omega);rw[ZbD r1,r1] at hst;have hlb:=Zeb r1;rw[hax b hbA hwk (.inr rfl)];simp only[q3,gsb,q4,hk,hPl,ZY,Uaa,List.length_cons,List.length_nil,Int.toNat_natCast,c2,Za,seval,Zc,men];repeat refine⟨by first | (rw[Ze];omega) | omega | exact fun _=>unr1 | (simp;done),?_⟩
  refine Zf hst ?_;have hbp:b-f' < j+1-f':=by omega
  have hraw:YD t 3 f' b j=Zr t f' b:=rfl;rw[hraw];by_cases k1:j-b=1
  ·have k1':((j-b:Nat):Int)=1:=(by omega);by_cases k2:(Zi t b).kind_=1
   ·by_cases k3:x.1.roots=1
    ·have hok:okT sig t 3 f' b j:=⟨hwk,fun h=>by omega,fun _=>⟨k1,k2,by rw[hlb];exact k3⟩,fun h=>by omega,fun h=>by omega⟩;rw[ZU hok];simp only[hPl,ZY,Uaa,List.length_cons,List.length_nil,Int.toNat_natCast,c2,q5,gb,k1',k2,k3,Zg,Zy,Zh,Option.isSome_some,Za,seval];repeat refine⟨by first | (rw[Ze];omega) | omega | exact fun _=>unr1 | (simp;done),?_⟩
     try (rw[Ze];omega)
     try decide
     try rfl
    ·have hok:¬ okT sig t 3 f' b j:=fun h=>k3 (by rw[<-hlb];exact(h.drop rfl).2.2);rw[Zt hok];simp only[hPl,ZY,Uaa,List.length_cons,List.length_nil,Int.toNat_natCast,c2,q5,gb,k1',k2,k3,Zg,Zy,Zh,Option.isSome_some,Za,seval];repeat refine⟨by first | (rw[Ze];omega) | omega | exact fun _=>unr1 | (simp;done),?_⟩
     try (rw[Ze];omega)
     try decide
     try rfl
   ·have hok:¬ okT sig t 3 f' b j:=fun h=>k2 (h.drop rfl).2.1;rw[Zt hok];simp only[hPl,ZY,Uaa,List.length_cons,List.length_nil,Int.toNat_natCast,c2,q5,gb,k1',k2,Zg,Zy,Zh,Option.isSome_some,Za,seval];repeat refine⟨by first | (rw[Ze];omega) | omega | exact fun _=>unr1 | (simp;done),?_⟩
    try (rw[Ze];omega)
    try decide
    try rfl
  ·have k1':¬ ((j-b:Nat):Int)=1:=(by omega);have hok:¬ okT sig t 3 f' b j:=fun h=>k1 (h.drop rfl).1;rw[Zt hok];simp only[hPl,ZY,Uaa,List.length_nil,Int.toNat_natCast,c2,q5,k1',Zy,Zh,Option.isSome_some,Za,seval];repeat refine⟨by first | (rw[Ze];omega) | omega | exact fun _=>unr1 | (simp;done),?_⟩
   try (rw[Ze];omega)
   try decide
   try rfl
 ·have hk:(Zi t j).kind_=5:=hwk.symm;obtain⟨f',b,x,w',e1,e2,hfb,hbj,⟨m1,r1⟩,⟨m2,r2⟩⟩:=U3 hr hj (by rw[<-JF hj,hk];rfl);have hff:f'=f:=by omega
  subst hff;have hbA:ZL t (j-1)=b:=by unfold ZL;rw[e2];rfl
  have q3:(j:Int)-1=((j-1:Nat):Int):=by omega
  have q4:(b:Int)-(f':Int)=((b-f':Nat):Int):=by omega
  have gsb:=JC (l:=(ZI t t.length).1) (i:=j-1) (by omega);rw[VQ (by omega),e2] at gsb;have hjl:j-1<t.length:=by omega
  have l1:(Zr t f' b).length=b-f':=J6 (by omega);have l2:(Zr t b j).length=j-b:=J6 (by omega);have l3:(Zr t f' (b-1)).length=b-1-f':=J6 (by omega);have c1:cut ((Zr t f' (j+1)).map Zg) (b-f') (j-f' - (b-f'))=(Zr t b j).map Zg:=by rw[Yq (by omega),show f'+(b-f')=b by omega,show f'+(j-f')=j by omega]
  have c2:cut ((Zr t f' (j+1)).map Zg) 0 (b-f' - 0)=(Zr t f' b).map Zg:=by rw[Yq (by omega),show f'+(b-f')=b by omega,Nat.add_zero]
  have c3:cut ((Zr t f' (j+1)).map Zg) (j-f') (j+1-f' - (j-f'))=[Zg (Zi t j)]:=by rw[Yq (by omega),show f'+(j-f')=j by omega,show f'+(j+1-f')=j+1 by omega,WF (Ual _) hj,Ul,JF hj];rfl
  rw[hfA,hbA];have hsh:=ZpB t f' b j 5 hl hj hfb hbj e2;have hb1:stepOK sig (Zi t (b-1)):=by obtain⟨z,_,h2,_⟩:=Vu hr (show b-1<t.length by omega);rw[JF (by omega)];exact h2
  by_cases hss:(Zi t (b-1)).kind_=5
  ·have hok:okT sig t 4 f' b j:=⟨hwk,fun _=>by rw[hss,hk],fun h=>by omega,fun h=>by omega,fun h=>by omega⟩;have hsame:=ZpA hb1 hso (by rw[hss,hk]) (by rw[hk];omega);rw[hax b hbA hwk (.inl hok),ZU hok];rw[if_pos hss,decide_eq_true hss,hsame] at hsh;simp only[q3,gsb,q4,hk,List.length_cons,List.length_nil,Int.toNat_natCast,Za,seval,Zc,men];repeat refine⟨by first | (rw[Ze];omega) | omega | exact fun _=>unr1 | (simp;done),?_⟩
   refine Zf hsh ?_;simp only[Za,seval];try (rw[Ze];omega)
   try decide
   try rfl
  ·have hok:¬ okT sig t 4 f' b j:=fun h=>hss (by rw[h.shift (by omega),hk]);rw[hax0 b hbA hok (by omega),Zt hok];rw[if_neg hss,decide_eq_false hss] at hsh;simp only[q3,gsb,q4,hk,List.length_cons,List.length_nil,Int.toNat_natCast,Za,seval,Zc,men];repeat refine⟨by first | (rw[Ze];omega) | omega | exact fun _=>unr1 | (simp;done),?_⟩
   refine Zf hsh ?_;simp only[Za,seval];try (rw[Ze];omega)
   try decide
   try rfl
 ·have hk:(Zi t j).kind_=6:=hwk.symm;obtain⟨f',e1,hfb⟩:=opA hr hj (by rw[<-JF hj,hk];rfl);have hff:f'=f:=by omega
  subst hff;obtain⟨b,e2,hbj⟩:=WI hr (show j-1<t.length by omega);have hbA:ZL t (j-1)=b:=by unfold ZL;rw[e2];rfl
  have q3:(j:Int)-1=((j-1:Nat):Int):=by omega
  have q5:((j-f':Nat):Int)-1=((j-f' - 1:Nat):Int):=by omega
  have gsb:=JC (l:=(ZI t t.length).1) (i:=j-1) (by omega);rw[VQ (by omega),e2] at gsb;have hjl:j-1<t.length:=by omega
  have bj1:j-f' < j+1-f':=by omega
  have bj2:j-f' - 1<j+1-f':=by omega
  have gj:=WG (t:=t) (f:=f') (g:=j+1) (k:=j-f' - 1) (by omega) (by omega);rw[show f'+(j-f' - 1)=j-1 by omega] at gj;have l3:(Zr t f' (j-1)).length=j-1-f':=J6 (by omega);have c7:cut ((Zr t f' (j+1)).map Zg) 0 (j-f' - 1-0)=(Zr t f' (j-1)).map Zg:=by rw[Yq (by omega),show f'+(j-f' - 1)=j-1 by omega,Nat.add_zero]
  have hb1:stepOK sig (Zi t (j-1)):=by obtain⟨z,_,h2,_⟩:=Vu hr hjl;rw[JF hjl];exact h2
  have hnb:(Zi t j).names.length<=4294967296:=by rw[JF hj];exact(hbt _ (Uaj hj)).1
  rw[hfA,hbA];by_cases k1:(Zi t (j-1)).kind_=6
  ·have hnl:=hb1.one (.inl k1);have gn:(rS (Zi t (j-1)).names)[0]? = some [ts (JJ (Zi t (j-1)))]:=JS (e0:=Ja) (c:=fun n:ByteArray=>[ts n]) (i:=0) (by omega);by_cases k2:JJ (Zi t (j-1))∈(Zi t j).names
   ·have hok:¬ okT sig t 5 f' b j:=fun h=>(h.close (by omega)).2 k2;rw[hax0 b hbA hok (by omega),Zt hok];simp only[q3,gsb,gj,hk,List.set_cons_zero,List.set_cons_succ,List.length_cons,List.length_nil,Int.toNat_natCast,q5,g2,gn,k1,Zg,Za,seval,Zc,men];repeat refine⟨by first | (rw[Ze];omega) | omega | exact fun _=>unr1 | (simp;done),?_⟩
    refine Zf (Wx (Zi t j).names (JJ (Zi t (j-1))) hnb) ?_;rw[ZU k2];simp only[Za,seval];try (rw[Ze];omega)
    try (rw[Ze];omega)
    try decide
    try rfl
   ·have hok:okT sig t 5 f' b j:=⟨hwk,fun h=>by omega,fun h=>by omega,fun _=>⟨k1,k2⟩,fun h=>by omega⟩;rw[hax b hbA hwk (.inl hok),ZU hok];simp only[q3,gsb,gj,hk,List.set_cons_zero,List.set_cons_succ,List.length_cons,List.length_nil,Int.toNat_natCast,q5,g2,gn,k1,Zg,Za,seval,Zc,men];repeat refine⟨by first | (rw[Ze];omega) | omega | exact fun _=>unr1 | (simp;done),?_⟩
    refine Zf (Wx (Zi t j).names (JJ (Zi t (j-1))) hnb) ?_;rw[Zt k2];simp only[hk,hPl,rep2,rep4,ZY,List.set_cons_zero,List.set_cons_succ,Uaa,List.length_cons,List.length_nil,Int.toNat_natCast,q5,g2,c7,Zg,Za,seval,Zc,men];repeat refine⟨by first | (rw[Ze];omega) | omega | exact fun _=>unr1 | (simp;done),?_⟩
    have hcc:=Zpy (Zr t f' (j-1)) [Zi t j,Zi t (j-1)] (by simp;omega);simp only[Uah,Uam,Zg,k1,hk] at hcc;refine Zf hcc ?_;simp only[Un,Za,seval];try (rw[Ze];omega)
    try (rw[Ze];omega)
    try decide
    try rfl
  ·have hok:¬ okT sig t 5 f' b j:=fun h=>k1 (h.close (by omega)).1;rw[hax0 b hbA hok (by omega),Zt hok];simp only[q3,gsb,gj,hk,List.set_cons_zero,List.set_cons_succ,List.length_cons,List.length_nil,Int.toNat_natCast,q5,k1,Zg,Za,seval];repeat refine⟨by first | (rw[Ze];omega) | omega | exact fun _=>unr1 | (simp;done),?_⟩
   try (rw[Ze];omega)
   try (rw[Ze];omega)
   try decide
   try rfl
 ·have hk:(Zi t j).kind_=3:=hwk.symm;obtain⟨f',e1,hfb⟩:=opA hr hj (by rw[<-JF hj,hk];rfl);have hff:f'=f:=by omega
  subst hff;obtain⟨b,e2,hbj⟩:=WI hr (show j-1<t.length by omega);have hbA:ZL t (j-1)=b:=by unfold ZL;rw[e2];rfl
  have q3:(j:Int)-1=((j-1:Nat):Int):=by omega
  have q5:((j-f':Nat):Int)-1=((j-f' - 1:Nat):Int):=by omega
  have gsb:=JC (l:=(ZI t t.length).1) (i:=j-1) (by omega);rw[VQ (by omega),e2] at gsb;have hjl:j-1<t.length:=by omega
  have bj1:j-f' < j+1-f':=by omega
  have bj2:j-f' - 1<j+1-f':=by omega
  have gj:=WG (t:=t) (f:=f') (g:=j+1) (k:=j-f' - 1) (by omega) (by omega);rw[show f'+(j-f' - 1)=j-1 by omega] at gj;have l3:(Zr t f' (j-1)).length=j-1-f':=J6 (by omega);have c7:cut ((Zr t f' (j+1)).map Zg) 0 (j-f' - 1-0)=(Zr t f' (j-1)).map Zg:=by rw[Yq (by omega),show f'+(j-f' - 1)=j-1 by omega,Nat.add_zero]
  have hb1:stepOK sig (Zi t (j-1)):=by obtain⟨z,_,h2,_⟩:=Vu hr hjl;rw[JF hjl];exact h2
  have hnb:(Zi t j).names.length<=4294967296:=by rw[JF hj];exact(hbt _ (Uaj hj)).1
  rw[hfA,hbA];by_cases k1:(Zi t (j-1)).kind_=6
  ·have hnl:=hb1.one (.inl k1);have gn:(rS (Zi t (j-1)).names)[0]? = some [ts (JJ (Zi t (j-1)))]:=JS (e0:=Ja) (c:=fun n:ByteArray=>[ts n]) (i:=0) (by omega);by_cases k2:JJ (Zi t (j-1))∈(Zi t j).names
   ·have hok:¬ okT sig t 6 f' b j:=fun h=>(h.close (by omega)).2 k2;rw[hax0 b hbA hok (by omega),Zt hok];simp only[q3,gsb,gj,hk,List.set_cons_zero,List.set_cons_succ,List.length_cons,List.length_nil,Int.toNat_natCast,q5,g2,gn,k1,Zg,Za,seval,Zc,men];repeat refine⟨by first | (rw[Ze];omega) | omega | exact fun _=>unr1 | (simp;done),?_⟩
    refine Zf (Wx (Zi t j).names (JJ (Zi t (j-1))) hnb) ?_;rw[ZU k2];simp only[Za,seval];try (rw[Ze];omega)
    try (rw[Ze];omega)
    try decide
    try rfl
   ·have hok:okT sig t 6 f' b j:=⟨hwk,fun h=>by omega,fun h=>by omega,fun _=>⟨k1,k2⟩,fun h=>by omega⟩;rw[hax b hbA hwk (.inl hok),ZU hok];simp only[q3,gsb,gj,hk,List.set_cons_zero,List.set_cons_succ,List.length_cons,List.length_nil,Int.toNat_natCast,q5,g2,gn,k1,Zg,Za,seval,Zc,men];repeat refine⟨by first | (rw[Ze];omega) | omega | exact fun _=>unr1 | (simp;done),?_⟩
    refine Zf (Wx (Zi t j).names (JJ (Zi t (j-1))) hnb) ?_;rw[Zt k2];simp only[hk,hPl,rep2,rep4,ZY,List.set_cons_zero,List.set_cons_succ,Uaa,List.length_cons,List.length_nil,Int.toNat_natCast,q5,g2,c7,Zg,Za,seval,Zc,men];repeat refine⟨by first | (rw[Ze];omega) | omega | exact fun _=>unr1 | (simp;done),?_⟩
    have hcc:=Zpy (Zr t f' (j-1)) [Zi t j,Zi t (j-1)] (by simp;omega);simp only[Uah,Uam,Zg,k1,hk] at hcc;refine Zf hcc ?_;simp only[Un,Za,seval];try (rw[Ze];omega)
    try (rw[Ze];omega)
    try decide
    try rfl
  ·have hok:¬ okT sig t 6 f' b j:=fun h=>k1 (h.close (by omega)).1;rw[hax0 b hbA hok (by omega),Zt hok];simp only[q3,gsb,gj,hk,List.set_cons_zero,List.set_cons_succ,List.length_cons,List.length_nil,Int.toNat_natCast,q5,k1,Zg,Za,seval];repeat refine⟨by first | (rw[Ze];omega) | omega | exact fun _=>unr1 | (simp;done),?_⟩
   try (rw[Ze];omega)
   try (rw[Ze];omega)
   try decide
   try rfl
 ·have hk:(Zi t j).kind_=5:=hwk.symm;obtain⟨f',b,x,w',e1,e2,hfb,hbj,⟨m1,r1⟩,⟨m2,r2⟩⟩:=U3 hr hj (by rw[<-JF hj,hk];rfl);have hff:f'=f:=by omega
  subst hff;have hbA:ZL t (j-1)=b:=by unfold ZL;rw[e2];rfl
  have q3:(j:Int)-1=((j-1:Nat):Int):=by omega
  have q4:(b:Int)-(f':Int)=((b-f':Nat):Int):=by omega
  have gsb:=JC (l:=(ZI t t.length).1) (i:=j-1) (by omega);rw[VQ (by omega),e2] at gsb;have hjl:j-1<t.length:=by omega
  have l1:(Zr t f' b).length=b-f':=J6 (by omega);have l2:(Zr t b j).length=j-b:=J6 (by omega);have l3:(Zr t f' (b-1)).length=b-1-f':=J6 (by omega);have c1:cut ((Zr t f' (j+1)).map Zg) (b-f') (j-f' - (b-f'))=(Zr t b j).map Zg:=by rw[Yq (by omega),show f'+(b-f')=b by omega,show f'+(j-f')=j by omega]
  have c2:cut ((Zr t f' (j+1)).map Zg) 0 (b-f' - 0)=(Zr t f' b).map Zg:=by rw[Yq (by omega),show f'+(b-f')=b by omega,Nat.add_zero]
  have c3:cut ((Zr t f' (j+1)).map Zg) (j-f') (j+1-f' - (j-f'))=[Zg (Zi t j)]:=by rw[Yq (by omega),show f'+(j-f')=j by omega,show f'+(j+1-f')=j+1 by omega,WF (Ual _) hj,Ul,JF hj];rfl
  rw[hfA,hbA];have g1:=WG (t:=t) (f:=f') (g:=j+1) (k:=b-f' - 1) (by omega) (by omega);rw[show f'+(b-f' - 1)=b-1 by omega] at g1;have q5:((b-f':Nat):Int)-1=((b-f' - 1:Nat):Int):=by omega
  have q6:¬ ((b-f':Nat):Int)=0:=by omega
  have hbp:b-f' - 1<j+1-f':=by omega
  have hst:=ZhY sig (Zr t b j) hn hbs (Zee hbt) hs (by omega);rw[ZbD r2,r2] at hst;have hlb:=Zeb r2;have hb1:stepOK sig (Zi t (b-1)):=by obtain⟨z,_,h2,_⟩:=Vu hr (show b-1<t.length by omega);rw[JF (by omega)];exact h2
  have c4:cut ((Zr t f' (j+1)).map Zg) 0 (b-f' - 1-0)=(Zr t f' (b-1)).map Zg:=by rw[Yq (by omega),show f'+(b-f' - 1)=b-1 by omega,Nat.add_zero]
  have c5:cut ((Zr t f' (j+1)).map Zg) (b-f') (j+1-f' - (b-f'))=(Zr t b (j+1)).map Zg:=by rw[Yq (by omega),show f'+(b-f')=b by omega,show f'+(j+1-f')=j+1 by omega]
  have c6:cut ((Zr t f' (j+1)).map Zg) (b-f' - 1) (b-f' - (b-f' - 1))=[Zg (Zi t (b-1))]:=by rw[Yq (by omega),show f'+(b-f' - 1)=b-1 by omega,show f'+(b-f')=b-1+1 by omega,WF (Ual _) (by omega),Ul,JF (by omega)];rfl
  have l5:(Zr t b (j+1)).length=j+1-b:=J6 (by omega);by_cases k1:(Zi t (b-1)).kind_=6
  ·have hnl:=hb1.one (.inl k1);have gn:(rS (Zi t (b-1)).names)[0]? = some [ts (JJ (Zi t (b-1)))]:=JS (e0:=Ja) (c:=fun n:ByteArray=>[ts n]) (i:=0) (by omega);have hpw:=(WC hs (t:=Zr t b j) (j:=(Zr t b j).length) (Ual _) (by rw[Uap];exact r2)).1 w' (by simp);have hol:w'.1.outer.length<=4294967296:=(by have:=hpw.big.outer.2;omega);by_cases k2:JJ (Zi t (b-1))∈w'.1.outer
   ·have hok:¬ okT sig t 7 f' b j:=fun h=>(h.lift rfl).2 (by rw[hlb];exact k2);rw[hax0 b hbA hok (by omega),Zt hok];simp only[q3,gsb,q4,hk,hPl,ZY,Uaa,List.length_cons,List.length_nil,Int.toNat_natCast,q5,q6,g1,k1,c1,Zg,Za,seval,Zc,men];repeat refine⟨by first | (rw[Ze];omega) | omega | exact fun _=>unr1 | (simp;done),?_⟩
    refine Zf hst ?_;simp only[List.length_cons,List.length_nil,Int.toNat_natCast,q5,g1,gn,k1,Zg,Zy,Zh,Option.isSome_some,Za,seval,Zc,men];repeat refine⟨by first | (rw[Ze];omega) | omega | exact fun _=>unr1 | (simp;done),?_⟩
    refine Zf (Wx w'.1.outer (JJ (Zi t (b-1))) hol) ?_;rw[ZU k2];simp only[Za,seval];try (rw[Ze];omega)
    try decide
    try rfl
   ·have hok:okT sig t 7 f' b j:=⟨hwk,fun h=>by omega,fun h=>by omega,fun h=>by omega,fun _=>⟨k1,by rw[hlb];exact k2⟩⟩;have hraw:YD t 7 f' b j=Zr t f' (b-1)++Zr t b (j+1)++[Zi t (b-1)]:=(by rw[WF (by omega) hj,<-JF hj];show Zr t f' (b-1)++Zr t b j++[Zi t j,Zi t (b-1)]=_;simp);rw[hax b hbA hwk (.inl hok),ZU hok,hraw];simp only[q3,gsb,q4,hk,hPl,ZY,Uaa,List.length_cons,List.length_nil,Int.toNat_natCast,q5,q6,g1,k1,c1,Zg,Za,seval,Zc,men];repeat refine⟨by first | (rw[Ze];omega) | omega | exact fun _=>unr1 | (simp;done),?_⟩
    refine Zf hst ?_;simp only[List.length_cons,List.length_nil,Int.toNat_natCast,q5,g1,gn,k1,Zg,Zy,Zh,Option.isSome_some,Za,seval,Zc,men];repeat refine⟨by first | (rw[Ze];omega) | omega | exact fun _=>unr1 | (simp;done),?_⟩
    refine Zf (Wx w'.1.outer (JJ (Zi t (b-1))) hol) ?_;rw[Zt k2];simp only[hPl,rep3,ZY,List.set_cons_zero,List.set_cons_succ,Uaa,List.length_cons,List.length_nil,Int.toNat_natCast,q5,k1,c4,c5,c6,Zg,Option.isSome_some,Za,seval,Zc,men];repeat refine⟨by first | (rw[Ze];omega) | omega | exact fun _=>unr1 | (simp;done),?_⟩
    have hcc:=Zec (Zr t f' (b-1)) (Zr t b (j+1)) [Zi t (b-1)] (by simp;omega);simp only[Uah,Uam,Zg,k1] at hcc;refine Zf hcc ?_;simp only[Un,Za,seval];try (rw[Ze];omega)
    try decide
    try rfl
  ·have hok:¬ okT sig t 7 f' b j:=fun h=>k1 (h.lift rfl).1;rw[hax0 b hbA hok (by omega),Zt hok];simp only[q3,gsb,q4,hk,List.length_cons,List.length_nil,Int.toNat_natCast,q5,q6,g1,k1,Zg,Za,seval];repeat refine⟨by first | (rw[Ze];omega) | omega | exact fun _=>unr1 | (simp;done),?_⟩
   try (rw[Ze];omega)
   try decide
   try rfl
theorem ZbG{t:List TTermStep}{j:Nat}(h:j<t.length):Zr t j (j+1)=[Zi t j]:=by rw[WF (Ual _) h,Ul,JF h];rfl
def Qx(t:List TTermStep)(n:Int)(j:Nat):List TTermStep:=if ZV n=(Zi t j).kind_ then YD t n (ZL t j) (ZL t (j-1)) j else []
end Go.Fd
