/-
  NUMBERS, NODES, WIRES READ: THE REFERENCE'S SIDE, AND NODES OF BOTH. Own work.
-/
import Derived.Test.YtnhlknhpjbfpfaaGreatDoorT05
import Derived.MakeChecks
import Derived.Stop.LaidErr
import Derived.Shelf.Vars
import Derived.Handed
import Derived.KernelRfl
import Derived.Test.YtnhlknhpjbfpfaaGreatDoorProg
set_option linter.all false
namespace Go.Fd
open Go.Proofs.Tryz renaming prog->UbY
open Go.RowKit
set_option maxRecDepth 20000
theorem ZhT{n:Nat}(h0:10<=n):ZP ((n / 10:Nat):Int)++DIG.extract (n % 10) (n % 10+1)=ZP n:=VI (by
 rw[JL,ZaF ⟨n % 10,by omega⟩,ZP,YQ,Int.toNat_natCast,ZP,YQ,Int.toNat_natCast]
 conv=>rhs;rw[Lib.decDigits,dif_neg (by omega)])
theorem ZhU(n:Nat):(ZP n).size<=n+1:=by
 induction n using Nat.strongRecOn with
 | _ n ih0 =>
  by_cases h:n<10
  ·rw[<-Z3,ZP,YQ,Int.toNat_natCast,WV h]
   simp
  ·have ih:=ih0 (n / 10) (by omega)
   have e:=congrArg ByteArray.size (ZhT (n:=n) (by omega))
   rw[Uai] at e
   have e1:(DIG.extract (n % 10) (n % 10+1)).size=1:=by rw[<-Z3,ZaF ⟨n % 10,by omega⟩];rfl
   omega
theorem ZdA:∀(n:Nat),n<=9999999->∀(lvl:Nat) (S:Zc),Sem UbY Vt lvl [iI n] S (iS (ZP n)) S
 | n,hn,lvl,S=>by
  by_cases h:n<10
  ·exact Zdp h lvl S
  refine ZA ZaC trivial ?_
  have g0:¬ (n:Int)<0:=by omega
  have g1:¬ (n:Int)<10:=by omega
  have e1:(n:Int) / 10=((n / 10:Nat):Int):=by omega
  have e2:(n:Int) % 10=((n % 10:Nat):Int):=by omega
  have e3:(((n % 10:Nat):Int)+1).toNat=n % 10+1:=by omega
  simp only[UT,g0,g1,e1,e2,e3,Zb,seval,Za,men]
  refine⟨by rw[Zl];omega,?_⟩
  refine Zi (ZdA (n / 10) (by omega)) ?_
  simp only[e2,e3,Zb,seval,Za,men]
  have d2:=ZhT (n:=n) (by omega)
  have s2:=ZhU n
  refine⟨by rw[Zl];omega,by omega,by omega,?_,?_,?_⟩
  ·show n % 10+1<=10
   omega
  ·have:=congrArg ByteArray.size d2
   rw[Uai] at this
   show (ZP ((n / 10:Nat):Int)).size+(DIG.extract (n % 10) (n % 10+1)).size<=4294967296
   omega
  ·rw[<-d2]
theorem ZdB(n:Int)(hn:-9999999<=n/\n<=9999999)(lvl:Nat)(S:Zc):Sem UbY Vt lvl [iI n] S (iS (Jo n)) S:=by
 by_cases h:0<=n
 ·rw[WX h]
  obtain⟨u,rfl⟩:=UaN h
  exact ZdA u (by omega) lvl S
 ·rw[Zhy (by omega)]
  refine ZA ZaC trivial ?_
  obtain⟨u,hu⟩:=UaN (show 0 <= -n by omega)
  have hlt:n<0:=by omega
  have z:=ZhU u
  have e:(⟨#[45]⟩:ByteArray).size=1:=rfl
  have hz:(0:Int)-n=u:=by omega
  have hz2:-n=u:=by omega
  rw[hz2]
  simp only[UT,hlt,hz,hz2,Zb,seval,Za,men]
  refine⟨by rw[Zl];omega,Zi (ZdA u (by omega)) ?_⟩
  simp only[e,Zb,seval,Za,men]
  try omega
def JM(l:List UInt8):Nat:=l.foldl (fun n c=>10*n+(c.toNat-48)) 0
theorem ZaR{l:List UInt8}{j:Nat}(h:j<l.length):JM (l.take (j+1))=10*JM (l.take j)+(l[j].toNat-48):=by
 unfold JM
 rw[Uah h,List.foldl_append]
 rfl
theorem We{l:List UInt8}:∀{j:Nat},j<=l.length->(∀ i (hi:i<l.length),i<j->48<=l[i].toNat/\l[i].toNat<=57)->JM (l.take j)+1<=10 ^ j
 | 0,_,_=>by simp [JM]
 | j+1,hj,h=>by
  have ih:=We (l:=l) (j:=j) (by omega) fun i hi hij=>h i hi (by omega)
  have h1:=h j (by omega) (by omega)
  rw[ZaR (by omega),Nat.pow_succ]
  omega
theorem W0{j:Nat}(h:j<=6):10 ^ j<=1000000:=Nat.pow_le_pow_right (by decide) h
def ZaS(t:ByteArray):Prop:=∀ c∈bl t,48<=c.toNat/\c.toNat<=57
open Classical in
noncomputable def tR(s:ByteArray):ByteArray:=if 1<s.size/\(bl s)[0]? = some 45 then s.extract 1 s.size else s
open Classical in
noncomputable def Ys(s:ByteArray):Int:=if (tR s).size<s.size then -(JM (bl (tR s)):Int) else ((JM (bl (tR s)):Nat):Int)
open Classical in
noncomputable def ZK(s:ByteArray):Option Int:=if (1<=(tR s).size/\(tR s).size<=6)/\ZaS (tR s)/\Jo (Ys s)=s then some (Ys s) else none
theorem ZhV{s:ByteArray}(h:1<s.size):(s.extract 1 s.size).size=s.size-1:=by
 rw[Ubj];omega
theorem ZuC(s:ByteArray)(hs:s.size<=2000000)(h1:¬ 1<s.size)(lvl:Nat)(S:Zc):Sem UbY WR lvl [iS s] S (.tu [iI ((ZK s).getD 0),iB (ZK s).isSome]) S:=by
 refine ZA Zdb (by simp [low,men,Za]) ?_
 have hT0:tR s=s:=if_neg fun g=>h1 g.1
 have f1:=eq_false (show ¬ (1:Int)<s.size by omega)
 simp only[ZaB,f1,Zb,seval,Za,men]
 have hT:tR s=s:=hT0
 have hTs:(s).size<=2000000:=hs
 by_cases hl:1<=(s).size/\(s).size<=6
 rotate_left
 ·have hin:Z4 ((s).size:Int) 1 6=false:=by
   cases e:Z4 ((s).size:Int) 1 6
   ·rfl
   ·simp [Z4] at e;omega
  have hr:ZK s=none:=by unfold ZK;rw[hT];exact if_neg fun g=>hl g.1
  rw[hr]
  refine Zi (Vf ((s).size) 1 6) ?_
  rw[hin]
  simp only[Option.isSome_none,Zb,seval,Za,men]
  try rfl
 have hin:Z4 ((s).size:Int) 1 6=true:=by simp [Z4];omega
 refine Zi (Vf ((s).size) 1 6) ?_
 rw[hin]
 simp only[Zb,seval,Za,men]
 refine Z7 (α:=Unit) (s).size (fun j _=>[(5,iI (JM ((bl (s)).take j))),(6,iI j)]) (fun _ _=>[]) (fun j _=>∀ i (hi:i<(bl (s)).length),i<j->48<=(bl (s))[i].toNat/\(bl (s))[i].toNat<=57) () (by simp only[Zb,seval,Za,men]) (by (simp only[Zb,seval,Za,men]) <;> rfl) (fun i _ h=>absurd h (UaE i)) ?_
 intro j _ hj hA
 simp only[Zb,seval,Za,men]
 refine Zu (fun hlt=>?_) (fun hge=>?_)
 ·have hja:j<(s).size:=by omega
  have hjl:j<(bl (s)).length:=by rw[Z3];exact hja
  have gb:(s).data.toList[j]? = some (bl (s))[j]:=Uaf hjl
  by_cases c1:48<=(bl (s))[j].toNat
  rotate_left
  ·have e1:=eq_true (show ((bl (s))[j].toNat:Int)<48 by omega)
   have hr:ZK s=none:=by unfold ZK;rw[hT];exact if_neg fun g=>by have:=g.2.1 _ (Ual hjl);omega
   rw[hr]
   simp only[gb,e1,Int.toNat_natCast,Option.isSome_none,Zb,seval,Za,men]
   try rfl
  have e1:=eq_false (show ¬ ((bl (s))[j].toNat:Int)<48 by omega)
  by_cases c2:(bl (s))[j].toNat<=57
  rotate_left
  ·have e2:=eq_true (show (57:Int)<((bl (s))[j].toNat:Int) by omega)
   have hr:ZK s=none:=by unfold ZK;rw[hT];exact if_neg fun g=>by have:=g.2.1 _ (Ual hjl);omega
   rw[hr]
   simp only[gb,e1,e2,Int.toNat_natCast,Option.isSome_none,Zb,seval,Za,men]
   try rfl
  have e2:=eq_false (show ¬ (57:Int)<((bl (s))[j].toNat:Int) by omega)
  have hv:=We (l:=bl (s)) (j:=j) (by omega) hA
  have hv2:=W0 (j:=j) (by omega)
  have hw:IntKind.u8.wrap (((bl (s))[j].toNat:Int)-48)=(((bl (s))[j].toNat-48:Nat):Int):=by
   rw[Vn (by constructor <;> simp [IntKind.min,IntKind.max,IntKind.signed,IntKind.bits] <;> omega)];omega
  have hs2:10*((JM ((bl (s)).take j):Nat):Int)+(((bl (s))[j].toNat-48:Nat):Int)=((JM ((bl (s)).take (j+1)):Nat):Int):=by rw[ZaR hjl];omega
  simp only[gb,e1,e2,hw,hs2,Int.toNat_natCast,Zb,seval,Za,men]
  exact⟨by rw[Zl];omega,by rw[Zl];omega,by rw[Zl];omega,by rw[Zl];omega,ZC () hja rfl fun i hi hij=>by
   by_cases e:i=j
   ·subst e;exact⟨c1,c2⟩
   ·exact hA i hi (by omega)⟩
 ·have hj1:j=(s).size:=by omega
  subst hj1
  have hd:ZaS (s):=fun c hc=>by
   obtain⟨i,hi,rfl⟩:=UaR hc
   exact hA i hi (by rw[Z3] at hi;exact hi)
  have ht:(bl (s)).take (s).size=bl (s):=Uas (by rw[Z3];exact Uag _)
  have hv:=We (l:=bl (s)) (j:=(s).size) (by rw[Z3];exact Uag _) hA
  have hv2:=W0 (j:=(s).size) (by omega)
  rw[ht] at hv
  rw[ht]
  have e5:=eq_false (show ¬ ((s).size:Int)<s.size by omega)
  have hn:Ys s=((JM (bl (s)):Nat):Int):=by unfold Ys;rw[hT];exact if_neg (by omega)
  simp only[e5,Zb,seval,Za,men]
  refine(Zi (ZdB (((JM (bl (s)):Nat):Int)) (by omega)) ?_)
  by_cases he:Jo (Ys s)=s
  ·have hr:ZK s=some (Ys s):=by unfold ZK;rw[hT];exact if_pos ⟨hl,hd,he⟩
   rw[hn] at he hr
   have he':=eq_true he
   rw[hr]
   simp only[he',ne_eq,not_true_eq_false,Option.isSome_some,Zb,seval,Za,men]
   try rfl
  ·have hr:ZK s=none:=by unfold ZK;rw[hT];exact if_neg fun g=>he g.2.2
   rw[hn] at he
   have he':=eq_false he
   rw[hr]
   simp only[he',ne_eq,not_false_eq_true,Option.isSome_none,Zb,seval,Za,men]
   try rfl
theorem ZuD(s:ByteArray)(hs:s.size<=2000000)(h1:1<s.size)(h2:(bl s)[0]? ≠ some 45)(lvl:Nat)(S:Zc):Sem UbY WR lvl [iS s] S (.tu [iI ((ZK s).getD 0),iB (ZK s).isSome]) S:=by
 refine ZA Zdb (by simp [low,men,Za]) ?_
 have hT0:tR s=s:=if_neg fun g=>h2 g.2
 have f1:=eq_true (show (1:Int)<s.size by omega)
 have f0:0<(bl s).length:=by rw[Z3];omega
 have g0':s.data.toList[0]? = some (bl s)[0]:=Uaf f0
 have f2:=eq_false (show ¬ ((bl s)[0].toNat:Int)=45 from fun e=>h2 (by rw[Uaf f0];exact congrArg some (UInt8.toNat_inj.1 (by show (bl s)[0].toNat=45;omega))))
 simp only[ZaB,f1,g0',f2,Zb,seval,Za,men]
 have hT:tR s=s:=hT0
 have hTs:(s).size<=2000000:=hs
 by_cases hl:1<=(s).size/\(s).size<=6
 rotate_left
 ·have hin:Z4 ((s).size:Int) 1 6=false:=by
   cases e:Z4 ((s).size:Int) 1 6
   ·rfl
   ·simp [Z4] at e;omega
  have hr:ZK s=none:=by unfold ZK;rw[hT];exact if_neg fun g=>hl g.1
  rw[hr]
  refine Zi (Vf ((s).size) 1 6) ?_
  rw[hin]
  simp only[Option.isSome_none,Zb,seval,Za,men]
  try rfl
 have hin:Z4 ((s).size:Int) 1 6=true:=by simp [Z4];omega
 refine Zi (Vf ((s).size) 1 6) ?_
 rw[hin]
 simp only[Zb,seval,Za,men]
 refine Z7 (α:=Unit) (s).size (fun j _=>[(5,iI (JM ((bl (s)).take j))),(6,iI j)]) (fun _ _=>[]) (fun j _=>∀ i (hi:i<(bl (s)).length),i<j->48<=(bl (s))[i].toNat/\(bl (s))[i].toNat<=57) () (by simp only[Zb,seval,Za,men]) (by (simp only[Zb,seval,Za,men]) <;> rfl) (fun i _ h=>absurd h (UaE i)) ?_
 intro j _ hj hA
 simp only[Zb,seval,Za,men]
 refine Zu (fun hlt=>?_) (fun hge=>?_)
 ·have hja:j<(s).size:=by omega
  have hjl:j<(bl (s)).length:=by rw[Z3];exact hja
  have gb:(s).data.toList[j]? = some (bl (s))[j]:=Uaf hjl
  by_cases c1:48<=(bl (s))[j].toNat
  rotate_left
  ·have e1:=eq_true (show ((bl (s))[j].toNat:Int)<48 by omega)
   have hr:ZK s=none:=by unfold ZK;rw[hT];exact if_neg fun g=>by have:=g.2.1 _ (Ual hjl);omega
   rw[hr]
   simp only[gb,e1,Int.toNat_natCast,Option.isSome_none,Zb,seval,Za,men]
   try rfl
  have e1:=eq_false (show ¬ ((bl (s))[j].toNat:Int)<48 by omega)
  by_cases c2:(bl (s))[j].toNat<=57
  rotate_left
  ·have e2:=eq_true (show (57:Int)<((bl (s))[j].toNat:Int) by omega)
   have hr:ZK s=none:=by unfold ZK;rw[hT];exact if_neg fun g=>by have:=g.2.1 _ (Ual hjl);omega
   rw[hr]
   simp only[gb,e1,e2,Int.toNat_natCast,Option.isSome_none,Zb,seval,Za,men]
   try rfl
  have e2:=eq_false (show ¬ (57:Int)<((bl (s))[j].toNat:Int) by omega)
  have hv:=We (l:=bl (s)) (j:=j) (by omega) hA
  have hv2:=W0 (j:=j) (by omega)
  have hw:IntKind.u8.wrap (((bl (s))[j].toNat:Int)-48)=(((bl (s))[j].toNat-48:Nat):Int):=by
   rw[Vn (by constructor <;> simp [IntKind.min,IntKind.max,IntKind.signed,IntKind.bits] <;> omega)];omega
  have hs2:10*((JM ((bl (s)).take j):Nat):Int)+(((bl (s))[j].toNat-48:Nat):Int)=((JM ((bl (s)).take (j+1)):Nat):Int):=by rw[ZaR hjl];omega
  simp only[gb,e1,e2,hw,hs2,Int.toNat_natCast,Zb,seval,Za,men]
  exact⟨by rw[Zl];omega,by rw[Zl];omega,by rw[Zl];omega,by rw[Zl];omega,ZC () hja rfl fun i hi hij=>by
   by_cases e:i=j
   ·subst e;exact⟨c1,c2⟩
   ·exact hA i hi (by omega)⟩
 ·have hj1:j=(s).size:=by omega
  subst hj1
  have hd:ZaS (s):=fun c hc=>by
   obtain⟨i,hi,rfl⟩:=UaR hc
   exact hA i hi (by rw[Z3] at hi;exact hi)
  have ht:(bl (s)).take (s).size=bl (s):=Uas (by rw[Z3];exact Uag _)
  have hv:=We (l:=bl (s)) (j:=(s).size) (by rw[Z3];exact Uag _) hA
  have hv2:=W0 (j:=(s).size) (by omega)
  rw[ht] at hv
  rw[ht]
  have e5:=eq_false (show ¬ ((s).size:Int)<s.size by omega)
  have hn:Ys s=((JM (bl (s)):Nat):Int):=by unfold Ys;rw[hT];exact if_neg (by omega)
  simp only[e5,Zb,seval,Za,men]
  refine(Zi (ZdB (((JM (bl (s)):Nat):Int)) (by omega)) ?_)
  by_cases he:Jo (Ys s)=s
  ·have hr:ZK s=some (Ys s):=by unfold ZK;rw[hT];exact if_pos ⟨hl,hd,he⟩
   rw[hn] at he hr
   have he':=eq_true he
   rw[hr]
   simp only[he',ne_eq,not_true_eq_false,Option.isSome_some,Zb,seval,Za,men]
   try rfl
  ·have hr:ZK s=none:=by unfold ZK;rw[hT];exact if_neg fun g=>he g.2.2
   rw[hn] at he
   have he':=eq_false he
   rw[hr]
   simp only[he',ne_eq,not_false_eq_true,Option.isSome_none,Zb,seval,Za,men]
   try rfl
theorem ZuE(s:ByteArray)(hs:s.size<=2000000)(h1:1<s.size)(h2:(bl s)[0]? = some 45)(lvl:Nat)(S:Zc):Sem UbY WR lvl [iS s] S (.tu [iI ((ZK s).getD 0),iB (ZK s).isSome]) S:=by
 refine ZA Zdb (by simp [low,men,Za]) ?_
 have hT0:tR s=s.extract 1 s.size:=if_pos ⟨h1,h2⟩
 have hz:=ZhV h1
 have f1:=eq_true (show (1:Int)<s.size by omega)
 have f0:0<(bl s).length:=by rw[Z3];omega
 have g0':s.data.toList[0]? = some 45:=h2
 have f2:((45:UInt8).toNat:Int)=45:=rfl
 have f3:1<=s.size:=by omega
 simp only[ZaB,f1,g0',f2,f3,Zb,seval,Za,men]
 have hT:tR s=s.extract 1 s.size:=hT0
 have hTs:(s.extract 1 s.size).size<=2000000:=by omega
 by_cases hl:1<=(s.extract 1 s.size).size/\(s.extract 1 s.size).size<=6
 rotate_left
 ·have hin:Z4 ((s.extract 1 s.size).size:Int) 1 6=false:=by
   cases e:Z4 ((s.extract 1 s.size).size:Int) 1 6
   ·rfl
   ·simp [Z4] at e;omega
  have hr:ZK s=none:=by unfold ZK;rw[hT];exact if_neg fun g=>hl g.1
  rw[hr]
  refine Zi (Vf ((s.extract 1 s.size).size) 1 6) ?_
  rw[hin]
  simp only[Option.isSome_none,Zb,seval,Za,men]
  try rfl
 have hin:Z4 ((s.extract 1 s.size).size:Int) 1 6=true:=by simp [Z4];omega
 refine Zi (Vf ((s.extract 1 s.size).size) 1 6) ?_
 rw[hin]
 simp only[Zb,seval,Za,men]
 refine Z7 (α:=Unit) (s.extract 1 s.size).size (fun j _=>[(5,iI (JM ((bl (s.extract 1 s.size)).take j))),(6,iI j)]) (fun _ _=>[]) (fun j _=>∀ i (hi:i<(bl (s.extract 1 s.size)).length),i<j->48<=(bl (s.extract 1 s.size))[i].toNat/\(bl (s.extract 1 s.size))[i].toNat<=57) () (by simp only[Zb,seval,Za,men]) (by (simp only[Zb,seval,Za,men]) <;> rfl) (fun i _ h=>absurd h (UaE i)) ?_
 intro j _ hj hA
 simp only[Zb,seval,Za,men]
 refine Zu (fun hlt=>?_) (fun hge=>?_)
 ·have hja:j<(s.extract 1 s.size).size:=by omega
  have hjl:j<(bl (s.extract 1 s.size)).length:=by rw[Z3];exact hja
  have gb:(s.extract 1 s.size).data.toList[j]? = some (bl (s.extract 1 s.size))[j]:=Uaf hjl
  by_cases c1:48<=(bl (s.extract 1 s.size))[j].toNat
  rotate_left
  ·have e1:=eq_true (show ((bl (s.extract 1 s.size))[j].toNat:Int)<48 by omega)
   have hr:ZK s=none:=by unfold ZK;rw[hT];exact if_neg fun g=>by have:=g.2.1 _ (Ual hjl);omega
   rw[hr]
   simp only[gb,e1,Int.toNat_natCast,Option.isSome_none,Zb,seval,Za,men]
   try rfl
  have e1:=eq_false (show ¬ ((bl (s.extract 1 s.size))[j].toNat:Int)<48 by omega)
  by_cases c2:(bl (s.extract 1 s.size))[j].toNat<=57
  rotate_left
  ·have e2:=eq_true (show (57:Int)<((bl (s.extract 1 s.size))[j].toNat:Int) by omega)
   have hr:ZK s=none:=by unfold ZK;rw[hT];exact if_neg fun g=>by have:=g.2.1 _ (Ual hjl);omega
   rw[hr]
   simp only[gb,e1,e2,Int.toNat_natCast,Option.isSome_none,Zb,seval,Za,men]
   try rfl
  have e2:=eq_false (show ¬ (57:Int)<((bl (s.extract 1 s.size))[j].toNat:Int) by omega)
  have hv:=We (l:=bl (s.extract 1 s.size)) (j:=j) (by omega) hA
  have hv2:=W0 (j:=j) (by omega)
  have hw:IntKind.u8.wrap (((bl (s.extract 1 s.size))[j].toNat:Int)-48)=(((bl (s.extract 1 s.size))[j].toNat-48:Nat):Int):=by
   rw[Vn (by constructor <;> simp [IntKind.min,IntKind.max,IntKind.signed,IntKind.bits] <;> omega)];omega
  have hs2:10*((JM ((bl (s.extract 1 s.size)).take j):Nat):Int)+(((bl (s.extract 1 s.size))[j].toNat-48:Nat):Int)=((JM ((bl (s.extract 1 s.size)).take (j+1)):Nat):Int):=by rw[ZaR hjl];omega
  simp only[gb,e1,e2,hw,hs2,Int.toNat_natCast,Zb,seval,Za,men]
  exact⟨by rw[Zl];omega,by rw[Zl];omega,by rw[Zl];omega,by rw[Zl];omega,ZC () hja rfl fun i hi hij=>by
   by_cases e:i=j
   ·subst e;exact⟨c1,c2⟩
   ·exact hA i hi (by omega)⟩
 ·have hj1:j=(s.extract 1 s.size).size:=by omega
  subst hj1
  have hd:ZaS (s.extract 1 s.size):=fun c hc=>by
   obtain⟨i,hi,rfl⟩:=UaR hc
   exact hA i hi (by rw[Z3] at hi;exact hi)
  have ht:(bl (s.extract 1 s.size)).take (s.extract 1 s.size).size=bl (s.extract 1 s.size):=Uas (by rw[Z3];exact Uag _)
  have hv:=We (l:=bl (s.extract 1 s.size)) (j:=(s.extract 1 s.size).size) (by rw[Z3];exact Uag _) hA
  have hv2:=W0 (j:=(s.extract 1 s.size).size) (by omega)
  rw[ht] at hv
  rw[ht]
  have e5:=eq_true (show ((s.extract 1 s.size).size:Int)<s.size by omega)
  have hn:Ys s = -(JM (bl (s.extract 1 s.size)):Int):=by unfold Ys;rw[hT];exact if_pos (by omega)
  simp only[e5,Zb,seval,Za,men]
  refine⟨by rw[Zl];omega,(Zi (ZdB (-(JM (bl (s.extract 1 s.size)):Int)) (by omega)) ?_)⟩
  by_cases he:Jo (Ys s)=s
  ·have hr:ZK s=some (Ys s):=by unfold ZK;rw[hT];exact if_pos ⟨hl,hd,he⟩
   rw[hn] at he hr
   have he':=eq_true he
   rw[hr]
   simp only[he',ne_eq,not_true_eq_false,Option.isSome_some,Zb,seval,Za,men]
   try rfl
  ·have hr:ZK s=none:=by unfold ZK;rw[hT];exact if_neg fun g=>he g.2.2
   rw[hn] at he
   have he':=eq_false he
   rw[hr]
   simp only[he',ne_eq,not_false_eq_true,Option.isSome_none,Zb,seval,Za,men]
   try rfl
theorem ZuF(s:ByteArray)(hs:s.size<=2000000)(lvl:Nat)(S:Zc):Sem UbY WR lvl [iS s] S (.tu [iI ((ZK s).getD 0),iB (ZK s).isSome]) S:=by
 by_cases h1:1<s.size
 ·by_cases h2:(bl s)[0]? = some 45
  ·exact ZuE s hs h1 h2 lvl S
  ·exact ZuD s hs h1 h2 lvl S
 ·exact ZuC s hs h1 lvl S
theorem ZuG(w0:ByteArray)(ws:List ByteArray)(hs:∀ w∈ws,w.size<=2000000)(hl:ws.length<=3000000)(lvl:Nat)(S:Zc):Sem UbY ZcB lvl [tS (w0::ws)] S (.tu [.ow 1 (rI (JX ZK ws)) true,iB (YR ZK ws)]) S:=by
 refine ZA Ztd (by simp [low,men,Za]) ?_
 simp only[ZgC,Uab,Zb,↓reduceIte,Nat.reduceEqDiff,Nat.reduceMul,reduceCtorEq,Nat.reduceAdd,Nat.reduceSub,Nat.reduceLeDiff,Nat.reduceLT,Int.reduceToNat,Int.reduceLE,Int.reduceLT,Za,men]
 refine Z7 (α:=Unit) ws.length (fun j _=>[(4,.hd (lvl,256) [] 0 j none j),(5,iI ((j:Int)+1))]) (fun j _=>[(256,.ar 1 (rI (YZ ZK ws j)) true j 0)]) (fun j _=>∀ i (hi:i<ws.length),i<j->(ZK ws[i]).isSome=true) () (by simp only[Zb,↓reduceIte,Nat.reduceEqDiff,Nat.reduceMul,reduceCtorEq,Nat.reduceAdd,Nat.reduceSub,Nat.reduceLeDiff,Nat.reduceLT,Int.reduceToNat,Int.reduceLE,Int.reduceLT,Za,men]) (by (simp only[Zb,↓reduceIte,Nat.reduceEqDiff,Nat.reduceMul,reduceCtorEq,Nat.reduceAdd,Nat.reduceSub,Nat.reduceLeDiff,Nat.reduceLT,Int.reduceToNat,Int.reduceLE,Int.reduceLT,Za,men]) <;> rfl) (fun i _ h=>absurd h (UaE i)) ?_
 intro j _ hj hA
 simp only[Uab,List.length_cons,Zb,↓reduceIte,Nat.reduceEqDiff,Nat.reduceMul,reduceCtorEq,Nat.reduceAdd,Nat.reduceSub,Nat.reduceLeDiff,Nat.reduceLT,Int.reduceToNat,Int.reduceLE,Int.reduceLT,Za,men]
 have en:((ws.length+1:Nat):Int)=(ws.length:Int)+1:=by omega
 refine Zu (fun hlt=>?_) (fun hge=>?_)
 ·have hja:j<ws.length:=by omega
  have e1:((j:Int)+1).toNat=j+1:=by omega
  have p1:(0:Int)<=(j:Int)+1:=by omega
  have ga:=Jn (c:=fun n:ByteArray=>[ts n]) hja
  have hmx:max j (j+1)=j+1:=by omega
  have htl:=ZaQ (rd:=ZK) (ws:=ws) (j:=j) (by omega)
  have st:rI (YZ ZK ws j)++[[tv ((ZK ws[j]).getD 0)]]=rI (YZ ZK ws (j+1)):=by rw[ZhS hja,WU];rfl
  simp only[e1,p1,ga,hja,Uab,List.length_cons,Zb,↓reduceIte,Nat.reduceEqDiff,Nat.reduceMul,reduceCtorEq,Nat.reduceAdd,Nat.reduceSub,Nat.reduceLeDiff,Nat.reduceLT,Int.reduceToNat,Int.reduceLE,Int.reduceLT,Za,men]
  refine Zi (ZuF ws[j] (hs _ (Ual hja))) ?_
  cases hb:(ZK ws[j]).isSome
  ·have hno:=ZhQ hja hb
   rw[JX,hno]
   simp only[Zb,↓reduceIte,Nat.reduceEqDiff,Nat.reduceMul,reduceCtorEq,Nat.reduceAdd,Nat.reduceSub,Nat.reduceLeDiff,Nat.reduceLT,Int.reduceToNat,Int.reduceLE,Int.reduceLT,Za,men]
   try rfl
  ·simp only[htl,hmx,st,Uab,Zb,↓reduceIte,Nat.reduceEqDiff,Nat.reduceMul,reduceCtorEq,Nat.reduceAdd,Nat.reduceSub,Nat.reduceLeDiff,Nat.reduceLT,Int.reduceToNat,Int.reduceLE,Int.reduceLT,Za,men]
   exact⟨by omega,by rw[Zl];omega,ZC () hja rfl fun i hi hij=>by
    by_cases e:i=j
    ·subst e;exact hb
    ·exact hA i hi (by omega)⟩
 ·have hj1:j=ws.length:=by omega
  subst hj1
  have hyes:YR ZK ws=true:=ZhR fun i hi=>hA i hi hi
  have ht:YZ ZK ws ws.length=JX ZK ws:=by unfold YZ JX;rw[if_pos hyes,UaC]
  have hln:(JX ZK ws).length=ws.length:=by rw[<-ht];exact ZaQ (Uag _)
  rw[ht,hyes]
  simp only[hln,Uab,Zb,↓reduceIte,Nat.reduceEqDiff,Nat.reduceMul,reduceCtorEq,Nat.reduceAdd,Nat.reduceSub,Nat.reduceLeDiff,Nat.reduceLT,Int.reduceToNat,Int.reduceLE,Int.reduceLT,Za,men]
  try rfl
def J7(s:ByteArray):ByteArray:=(Js s 32).headD ⟨#[]⟩
def ZL(s:ByteArray):List ByteArray:=(Js s 32).tail
theorem V8{s:ByteArray}:Js s 32=J7 s::ZL s:=by
 unfold J7 ZL
 cases h:Js s 32 with
 | nil=>exact absurd h ZaM
 | cons x r=>rfl
theorem ZdC{s:ByteArray}:(J7 s).size<=s.size:=ZaN (b:=32) (by rw[V8];simp)
theorem ZaT{s:ByteArray}:∀ w∈ZL s,w.size<=s.size:=fun w hw=>ZaN (b:=32) (by rw[V8];simp [hw])
theorem VJ{s:ByteArray}:(ZL s).length<=s.size:=by
 have:=Zdt (s:=s) (b:=32)
 rw[V8,List.length_cons] at this
 omega
theorem ZaU{s sep:ByteArray}:(JW s sep).1.size<=s.size/\(JW s sep).2.size<=s.size:=by
 rcases Lib.indexB_cases s sep with h | ⟨i,h,_⟩
 ·rw[ZhP h]
  exact⟨Uag _,Ubd _⟩
 ·rw[ZhO h]
  refine⟨?_,?_⟩ <;> (simp only[Ubj];omega)
theorem ZuH{x:ByteArray}{r:List ByteArray}{n:Nat}(h:n=r.length):cut (rS (x::r)) 1 n=rS r:=by
 subst h
 show List.take r.length (List.drop 1 ((x::r).map fun n=>[ts n]))=_
 rw[UaH,UbV,Ubi,Uas (by rw[Uab];exact Uag _)]
theorem ZuI{R:Ze}{j k:Nat}{e:List Tr}{t:Tr}(h:R[j]? = some e):ZJ R [] j k t=R.set j (e.set k t):=by
 simp only[ZJ,h]
def VK(x:ByteArray):ByteArray:=x.extract 1 x.size
def stp(r:List ByteArray)(j:Nat):List ByteArray:=(r.take j).map VK++r.drop j
theorem ZuJ{r:List ByteArray}{j:Nat}:(stp r j).length=r.length:=by
 unfold stp;rw[Uan,Uab,Uak,Ubh];omega
theorem ZhW{r:List ByteArray}{j:Nat}(h:j<r.length):(stp r j)[j]? = some r[j]:=by
 have hl:((r.take j).map VK).length=j:=by rw[Uab,Uak];omega
 unfold stp
 rw[Uao (by omega),hl,Ubw,UaG,Nat.add_zero,Uaf h]
theorem ZhX{r:List ByteArray}{j:Nat}(h:j<r.length):(stp r j).set j (VK r[j])=stp r (j+1):=by
 have hl:((r.take j).map VK).length=j:=by rw[Uab,Uak];omega
 unfold stp
 rw[UbR _ _ (by omega),hl,Ubw,ZaD h,List.set_cons_zero,Uah h,Uaz,Uaq]
 rfl
theorem ZuK{r:List ByteArray}:stp r r.length=r.map VK:=by
 unfold stp;rw[UaC,Ubr,Ubb]
theorem ZuL{x:ByteArray}(h:x.size=0):VK x=x:=VI (by
 have e:bl x=[]:=Uar (by rw[Z3];exact h)
 unfold VK
 rw[WZ,e]
 simp)
def V9(s:ByteArray):List ByteArray:=(Js s 59).headD ⟨#[]⟩::(Js s 59).tail.map VK
theorem ZuM(s:ByteArray)(hs:s.size<=2000000)(lvl:Nat)(S:Zc):Sem UbY Zcz lvl [iS s] S (.ow 1 (rS (V9 s)) true) S:=by
 refine ZA Zs7 trivial ?_
 obtain⟨p0,r,hsp⟩:∃ p0 r,Js s 59=p0::r:=by
  cases h:Js s 59 with
  | nil=>exact absurd h ZaM
  | cons x r=>exact⟨x,r,rfl⟩
 have hP:V9 s=p0::r.map VK:=by unfold V9;rw[hsp];rfl
 have hln:=Zdt (s:=s) (b:=59)
 rw[hsp,List.length_cons] at hln
 rw[hP]
 simp only[Zgw,Zb,↓reduceIte,Nat.reduceEqDiff,Nat.reduceMul,reduceCtorEq,Nat.reduceAdd,Nat.reduceSub,Nat.reduceLeDiff,Nat.reduceLT,Int.reduceToNat,Int.reduceLE,Int.reduceLT,Za,men]
 refine Zi (U1 s 59 hs) ?_
 rw[hsp]
 simp only[Uab,List.length_cons,Zb,↓reduceIte,Nat.reduceEqDiff,Nat.reduceMul,reduceCtorEq,Nat.reduceAdd,Nat.reduceSub,Nat.reduceLeDiff,Nat.reduceLT,Int.reduceToNat,Int.reduceLE,Int.reduceLT,Za,men]
 refine Z7 (α:=Unit) r.length (fun j _=>[(4,iI ((j:Int)+1))]) (fun j _=>[(192,.ar 1 (rS (p0::stp r j)) true (r.length+1) 0)]) (fun _ _=>True) () (by simp only[Zb,↓reduceIte,Nat.reduceEqDiff,Nat.reduceMul,reduceCtorEq,Nat.reduceAdd,Nat.reduceSub,Nat.reduceLeDiff,Nat.reduceLT,Int.reduceToNat,Int.reduceLE,Int.reduceLT,Za,men]) (by (simp only[Zb,↓reduceIte,Nat.reduceEqDiff,Nat.reduceMul,reduceCtorEq,Nat.reduceAdd,Nat.reduceSub,Nat.reduceLeDiff,Nat.reduceLT,Int.reduceToNat,Int.reduceLE,Int.reduceLT,Za,men]) <;> rfl) trivial ?_
 intro j _ hj _
 simp only[Uab,List.length_cons,Zb,↓reduceIte,Nat.reduceEqDiff,Nat.reduceMul,reduceCtorEq,Nat.reduceAdd,Nat.reduceSub,Nat.reduceLeDiff,Nat.reduceLT,Int.reduceToNat,Int.reduceLE,Int.reduceLT,Za,men]
 have en:((r.length+1:Nat):Int)=(r.length:Int)+1:=by omega
 refine Zu (fun hlt=>?_) (fun hge=>?_)
 ·have hja:j<r.length:=by omega
  have e1:((j:Int)+1).toNat=j+1:=by omega
  have p1:(0:Int)<=(j:Int)+1:=by omega
  have gs:(List.map (fun n:ByteArray=>[ts n]) (stp r j))[j]? = some [ts r[j]]:=by rw[Uax,ZhW hja];rfl
  have hl:=ZuJ (r:=r) (j:=j)
  by_cases hz:0<r[j].size
  ·have f1:=eq_true (show (0:Int)<(r[j].size:Int) by omega)
   have hst:ZJ ([Tr.v (Value.string p0)]::List.map (fun n=>[ts n]) (stp r j)) [] (j+1) 0 (Tr.v (Value.string (r[j].extract 1 r[j].size)))=[Tr.v (Value.string p0)]::List.map (fun n=>[ts n]) (stp r (j+1)):=by
    rw[ZuI (e:=[ts r[j]]) (by rw[List.getElem?_cons_succ];exact gs),List.set_cons_succ,<-ZhX hja,List.map_set]
    rfl
   simp only[e1,p1,gs,f1,hja,hl,hst,Uab,List.length_cons,Zb,↓reduceIte,Nat.reduceEqDiff,Nat.reduceMul,reduceCtorEq,Nat.reduceAdd,Nat.reduceSub,Nat.reduceLeDiff,Nat.reduceLT,Int.reduceToNat,Int.reduceLE,Int.reduceLT,Za,men]
   exact⟨by omega,by omega,by omega,by omega,by rw[Zl];omega,ZC () hja rfl trivial⟩
  ·have f1:=eq_false (show ¬ (0:Int)<(r[j].size:Int) by omega)
   have hst:stp r (j+1)=stp r j:=by
    rw[<-ZhX hja,ZuL (by omega)]
    refine Ubo fun i=>?_
    rw[Ubf]
    split
    ·rename_i e
     subst e
     rw[ZhW hja,if_pos (by omega)]
    ·rfl
   simp only[e1,p1,gs,f1,hja,hl,Uab,List.length_cons,Zb,↓reduceIte,Nat.reduceEqDiff,Nat.reduceMul,reduceCtorEq,Nat.reduceAdd,Nat.reduceSub,Nat.reduceLeDiff,Nat.reduceLT,Int.reduceToNat,Int.reduceLE,Int.reduceLT,Za,men]
   exact⟨by omega,by rw[Zl];omega,ZC () hja (by rw[hst];rfl) trivial⟩
 ·have hj1:j=r.length:=by omega
  subst hj1
  rw[ZuK]
  simp only[Uab,List.length_cons,Zb,↓reduceIte,Nat.reduceEqDiff,Nat.reduceMul,reduceCtorEq,Nat.reduceAdd,Nat.reduceSub,Nat.reduceLeDiff,Nat.reduceLT,Int.reduceToNat,Int.reduceLE,Int.reduceLT,Za,men]
  try rfl
end Go.Fd

namespace Go.Fd
set_option maxRecDepth 20000
def Qa(c:UInt8):Prop:=c.toNat=45\/(48<=c.toNat/\c.toNat<=57)\/(97<=c.toNat/\c.toNat<=122)
def sf(x:ByteArray):Prop:=∀ c∈bl x,Qa c
theorem XI{x:ByteArray}{b:UInt8}(h:sf x)(hb:¬ Qa b):b ∉ bl x:=fun hm=>hb (h b hm)
theorem ZdD{x:ByteArray}(h:Qz x):sf x:=fun c hc=>.inr (.inr (h.1 c hc))
theorem ZaV{u:Nat}(h:u<100):(∃ a:Fin 10,u=a.val/\Lib.decDigits u=[UInt8.ofNat (48+a.val)])\/∃ a b:Fin 10,u=10*a.val+b.val/\Lib.decDigits u=[UInt8.ofNat (48+a.val),UInt8.ofNat (48+b.val)]:=by
 by_cases h1:u<10
 ·exact .inl ⟨⟨u,h1⟩,rfl,WV h1⟩
 ·exact .inr ⟨⟨u / 10,by omega⟩,⟨u % 10,by omega⟩,by simp only;omega,dd2 (by omega) h⟩
theorem ZdE{n:Int}(h:WY n):(∃ u:Nat,u<100/\n=u/\bl (Jo n)=Lib.decDigits u)\/∃ u:Nat,0<u/\u<100/\n = -(u:Int)/\bl (Jo n)=45::Lib.decDigits u:=by
 obtain⟨h1,h2⟩:=h
 by_cases h0:0<=n
 ·obtain⟨u,rfl⟩:=UaN h0
  refine .inl ⟨u,by omega,rfl,?_⟩
  rw[WX h0,ZP,YQ,Int.toNat_natCast]
 ·obtain⟨u,hu⟩:=UaN (show 0 <= -n by omega)
  refine .inr ⟨u,by omega,by omega,by omega,?_⟩
  rw[Zhy (by omega),JL,hu,ZP,YQ,Int.toNat_natCast]
  rfl
theorem ZdF:∀ a:Fin 10,48<=(UInt8.ofNat (48+a.val)).toNat/\(UInt8.ofNat (48+a.val)).toNat<=57:=by decide
theorem ZaW{u:Nat}(h:u<100):∀ c∈Lib.decDigits u,48<=c.toNat/\c.toNat<=57:=by
 intro c hc
 rcases ZaV h with ⟨a,_,e⟩ | ⟨a,b,_,e⟩
 ·rw[e,UaP] at hc
  subst hc
  exact ZdF a
 ·rw[e] at hc
  simp only[UaF,Ua9,or_false] at hc
  rcases hc with rfl | rfl
  ·exact ZdF a
  ·exact ZdF b
theorem ZuN{n:Int}(h:WY n):sf (Jo n):=by
 rcases ZdE h with ⟨u,hu,_,e⟩ | ⟨u,_,hu,_,e⟩
 ·intro c hc
  rw[e] at hc
  exact .inr (.inl (ZaW hu c hc))
 ·intro c hc
  rw[e] at hc
  rcases UaF.1 hc with rfl | hc
  ·exact .inl rfl
  ·exact .inr (.inl (ZaW hu c hc))
def RD(rd:ByteArray->Option Int):Prop:=∀ n,WY n->rd (Jo n)=some n
theorem YE:∀ a:Fin 10,Lib.atoiAll [UInt8.ofNat (48+a.val)] = .ok (a.val:Int):=by decide +kernel
theorem at2:∀ a b:Fin 10,Lib.atoiAll [UInt8.ofNat (48+a.val),UInt8.ofNat (48+b.val)] = .ok ((10*a.val+b.val:Nat):Int):=by decide +kernel
theorem at3:∀ a:Fin 10,Lib.atoiAll [45,UInt8.ofNat (48+a.val)] = .ok (-(a.val:Int)):=by decide +kernel
theorem at4:∀ a b:Fin 10,Lib.atoiAll [45,UInt8.ofNat (48+a.val),UInt8.ofNat (48+b.val)] = .ok (-((10*a.val+b.val:Nat):Int)):=by decide +kernel
theorem ZdG:RD Jp:=fun n h=>by
 have key:Lib.atoiAll (bl (Jo n)) = .ok n:=by
  rcases ZdE h with ⟨u,hu,hn,e⟩ | ⟨u,_,hu,hn,e⟩
  ·rw[e,hn]
   rcases ZaV hu with ⟨a,ha,e2⟩ | ⟨a,b,hab,e2⟩
   ·rw[e2,ha];exact YE a
   ·rw[e2,hab];exact at2 a b
  ·rw[e,hn]
   rcases ZaV hu with ⟨a,ha,e2⟩ | ⟨a,b,hab,e2⟩
   ·rw[e2,ha];exact at3 a
   ·rw[e2,hab];exact at4 a b
 unfold Jp
 rw[key]
 exact if_pos rfl
theorem vd1:∀ a:Fin 10,JM [UInt8.ofNat (48+a.val)]=a.val:=by decide +kernel
theorem vd2:∀ a b:Fin 10,JM [UInt8.ofNat (48+a.val),UInt8.ofNat (48+b.val)]=10*a.val+b.val:=by decide +kernel
theorem ZhY{u:Nat}(h:u<100):1<=(Lib.decDigits u).length/\(Lib.decDigits u).length<=2/\JM (Lib.decDigits u)=u:=by
 rcases ZaV h with ⟨a,ha,e2⟩ | ⟨a,b,hab,e2⟩
 ·rw[e2,vd1,ha];simp
 ·rw[e2,vd2,hab];simp
theorem ZuO:RD ZK:=fun n h=>by
 have hz:=Z3 (Jo n)
 rcases ZdE h with ⟨u,hu,hn,e⟩ | ⟨u,_,hu,hn,e⟩
 ·obtain⟨d1,d2,d3⟩:=ZhY hu
  have hdd:=ZaW hu
  rw[e] at hz
  have h0:(bl (Jo n))[0]? ≠ some 45:=fun q=>by
   rw[e] at q
   have:=hdd _ (Uae q)
   revert this
   decide
  have ht:tR (Jo n)=Jo n:=if_neg fun g=>h0 g.2
  have hnum:Ys (Jo n)=n:=by
   unfold Ys
   rw[ht,if_neg (Ua1 _),e,d3,hn]
  unfold ZK
  rw[hnum,ht]
  exact if_pos ⟨⟨by omega,by omega⟩,fun c hc=>by rw[e] at hc;exact hdd c hc,rfl⟩
 ·obtain⟨d1,d2,d3⟩:=ZhY hu
  have hdd:=ZaW hu
  rw[e,List.length_cons] at hz
  have ht:tR (Jo n)=(Jo n).extract 1 (Jo n).size:=if_pos ⟨by omega,by rw[e];rfl⟩
  have hsz:=ZhV (s:=Jo n) (by omega)
  have hb:bl ((Jo n).extract 1 (Jo n).size)=Lib.decDigits u:=by
   rw[WZ,Uas (by rw[Z3];exact Uag _),e]
   rfl
  have hnum:Ys (Jo n)=n:=by
   unfold Ys
   rw[ht,if_pos (by omega),hb,d3,hn]
  unfold ZK
  rw[hnum,ht]
  exact if_pos ⟨⟨by omega,by omega⟩,fun c hc=>by rw[hb] at hc;exact hdd c hc,rfl⟩
theorem ZhZ{α:Type}{f:α->Bool}:∀{l:List α} {i:Nat} {j:Int} (hi:i<l.length),f l[i]=true->(∀ k (hk:k<i),f (l[k]'(by omega))=false)->YO f l j=j+i
 | x::r,0,j,hi,h,_=>by
  rw[List.getElem_cons_zero] at h
  rw[WT,if_pos h]
  omega
 | x::r,i+1,j,hi,h,hn=>by
  have e:=hn 0 (by omega)
  rw[List.getElem_cons_zero] at e
  rw[WT,if_neg (by rw[e];exact Bool.false_ne_true),ZhZ (i:=i) (by simp at hi;omega) (by rw[List.getElem_cons_succ] at h;exact h) fun k hk=>by
   have:=hn (k+1) (by omega)
   rw[List.getElem_cons_succ] at this
   exact this]
  omega
theorem ZuP{sig:List TControl}(hs:JC sig){k:Int}(h0:0<=k)(h1:k<sig.length):JA sig (JV sig k)=k:=by
 obtain⟨m,rfl⟩:=UaN h0
 have hm:m<sig.length:=by omega
 rw[Zdm hm]
 unfold JA
 rw[ZhZ hm (by simp) fun q hq=>by
  have:=(hs.1 m hm).2 q hq
  simp [this]]
 omega
theorem ZdH{sig:List TControl}(hs:JC sig){k:Int}(h0:0<=k)(h1:k<sig.length):Qz (JV sig k):=by
 obtain⟨m,rfl⟩:=UaN h0
 have hm:m<sig.length:=by omega
 rw[Zdm hm]
 exact(hs.1 m hm).1.1
end Go.Fd

namespace Go.Fd
open Go.Proofs.Tryz renaming prog->UbY
open Go.RowKit
set_option maxRecDepth 20000
abbrev COL:ByteArray:=⟨#[58]⟩
abbrev DASH:ByteArray:=⟨#[45]⟩
abbrev SEMI:ByteArray:=⟨#[59,32]⟩
abbrev TOPS:ByteArray:=⟨#[116,111,112,115]⟩
abbrev MOST:ByteArray:=⟨#[109,111,115,116]⟩
abbrev APART:ByteArray:=⟨#[97,112,97,114,116]⟩
def Jq(l:List (List Int))(k:Nat):List Int:=l[k]?.getD []
theorem Xe{l:List (List Int)}{k:Nat}(h:k<l.length):Jq l k=l[k]:=by simp [Jq,h]
def J0(sig:List TControl)(s:TSorting):ByteArray:=ZZ (J5 sig) TOPS s.tops
def Vw(sig:List TControl)(s:TSorting)(k:Nat):ByteArray:=(JV sig k++COL)++ZZ ZP ⟨#[]⟩ (Jq s.sorts k)
def Qb(sig:List TControl)(s:TSorting)(k:Nat):ByteArray:=ZZ (J5 sig) (Vw sig s k) (Jq s.nest k)
def JN(sig:List TControl)(s:TSorting):List ByteArray:=(List.range sig.length).map (Qb sig s)
def VL(s:TSorting):ByteArray:=ZZ Yh MOST s.most
def YF(p:A2):ByteArray:=((SP++ZP p.1)++DASH)++ZP p.2
def VM(s:TSorting):ByteArray:=Yr YF APART s.apart
def Yt(sig:List TControl)(s:TSorting):List ByteArray:=(J0 sig s::JN sig s)++[VL s,VM s]
def Vh(sig:List TControl)(s:TSorting):ByteArray:=Xd (Yt sig s) SEMI
theorem YS{sig:List TControl}{s:TSorting}:(JN sig s).length=sig.length:=by simp [JN]
theorem ZuQ{sig:List TControl}{s:TSorting}{j:Nat}(h:j<sig.length):((JN sig s).take j).map (fun n=>[ts n])++[[ts (Qb sig s j)]]=((JN sig s).take (j+1)).map fun n=>[ts n]:=by
 rw[Uah (by rw[YS];exact h)]
 simp [JN]
structure FitT (sig:List TControl) (s:TSorting):Prop where
 tops:Wc sig.length s.tops
 topsL:s.tops.length<=6
 nest:∀ k,k<sig.length->Wc sig.length (Jq s.nest k)/\(Jq s.nest k).length<=6
 sorts:∀ k,k<sig.length->UZ (Jq s.sorts k)/\(Jq s.sorts k).length<=3
 most:UZ s.most
 mostL:s.most.length<=4
 apart:∀ p∈s.apart,(0<=p.1/\p.1<100)/\0<=p.2/\p.2<100
 apartL:s.apart.length<=16
theorem Zh0{l:List A2}{m:Nat}(hm:m<=4)(h:∀ i,XH l m i):∀ i (hi:i<l.length),(i:Int)<=4*l[i].1+l[i].2
 | 0,hi=>by have:=h 0 hi;omega
 | i+1,hi=>by
  have ih:=Zh0 hm h i (by omega)
  have h1:=h i (by omega)
  have h2:=h (i+1) hi
  have h3:=h2.2.2.2 (by omega)
  simp only[UbX,Xb] at h3
  omega
theorem U2{sig:List TControl}{s:TSorting}(h:sortOK sig s):FitT sig s:=by
 have hn:=h.sg.2.2
 have ris6:∀ l,J4 0 ((sig.length:Int)-1) l->l.length<=6:=fun l hl=>by
  rcases Zug hl with h1 | h1
  ·omega
  ·rw[h1];simp
 have hm:=h.many
 refine⟨Zhv h.tops,ris6 _ h.tops,fun k hk=>?_,fun k hk=>?_,fun k hk=>by have:=h.most k hk;omega,hm.2,fun p hp=>?_,?_⟩
 ·have:=h.nest k (by rw[h.nestL];exact hk) hk
  rw[Xe (by rw[h.nestL];exact hk)]
  exact⟨Zhv this.1,ris6 _ this.1⟩
 ·have:=h.sorts k (by rw[h.sortsL];exact hk) hk
  rw[Xe (by rw[h.sortsL];exact hk)]
  have hp:=(h.sg.1 k hk).1.2.1
  exact⟨fun n hn=>by have:=this.2 n hn;omega,by omega⟩
 ·obtain⟨i,hi,rfl⟩:=UaR hp
  have:=h.apart i hi
  omega
 ·cases e:s.apart.length with
  | zero=>omega
  | succ n =>
   have h1:=Zh0 hm.2 h.apart n (by omega)
   have h2:=h.apart n (by omega)
   omega
theorem ZdI{sig:List TControl}{s:TSorting}(hs:JC sig)(f:FitT sig s):(J0 sig s).size<=34:=by
 have:=Vg (f:=J5 sig) (B:=5) s.tops TOPS fun k _=>Wd hs k
 have h:=f.topsL
 unfold J0
 have:TOPS.size=4:=rfl
 omega
theorem Zh1{sig:List TControl}{s:TSorting}(hs:JC sig)(f:FitT sig s){k:Nat}(hk:k<sig.length):(Vw sig s k).size<=11:=by
 have h1:=ZaG hs k
 have h2:=f.sorts k hk
 have h3:=Vg (f:=ZP) (B:=2) (Jq s.sorts k) ⟨#[]⟩ fun n hn=>YD (h2.1 n hn).1 (h2.1 n hn).2
 have e0:(⟨#[]⟩:ByteArray).size=0:=rfl
 have e1:COL.size=1:=rfl
 unfold Vw
 rw[Uai,Uai]
 omega
theorem Zh2{sig:List TControl}{s:TSorting}(hs:JC sig)(f:FitT sig s){k:Nat}(hk:k<sig.length):(Qb sig s k).size<=200:=by
 have h1:=Zh1 hs f hk
 have h2:=(f.nest k hk).2
 have h3:=Vg (f:=J5 sig) (B:=5) (Jq s.nest k) (Vw sig s k) fun k _=>Wd hs k
 unfold Qb
 omega
theorem ZuR{s:TSorting}{sig:List TControl}(f:FitT sig s):(VL s).size<=16:=by
 have h3:=Vg (f:=Yh) (B:=3) s.most MOST fun n hn=>ZaK (f.most n hn).1 (f.most n hn).2
 have:=f.mostL
 have e1:MOST.size=4:=rfl
 unfold VL
 omega
theorem ZdJ{p:A2}(h:(0<=p.1/\p.1<100)/\0<=p.2/\p.2<100):(YF p).size<=6:=by
 have h1:=YD h.1.1 h.1.2
 have h2:=YD h.2.1 h.2.2
 unfold YF
 rw[Uai,Uai,Uai,Vu,show DASH.size=1 from rfl]
 omega
theorem ZuS{s:TSorting}{sig:List TControl}(f:FitT sig s):(VM s).size<=101:=by
 have h3:=ZaH (f:=YF) (B:=6) s.apart APART fun n hn=>ZdJ (f.apart n hn)
 have:=f.apartL
 have e1:APART.size=5:=rfl
 unfold VM
 omega
theorem ZdK{B:Nat}{sep:ByteArray}:∀{r:List ByteArray},(∀ x∈r,x.size<=B)->(r.flatMap fun y=>bl sep++bl y).length<=r.length*(B+sep.size)
 | [],_=>by simp
 | x::r,h=>by
  have ih:=ZdK (r:=r) (sep:=sep) fun y hy=>h y (by simp [hy])
  have h1:=h x (by simp)
  rw[UaJ,Uan,Uan,Z3,Z3,List.length_cons,Nat.succ_mul]
  omega
theorem ZuT{B:Nat}{sep x:ByteArray}{r:List ByteArray}(h0:x.size<=B)(h:∀ x∈r,x.size<=B):(Xd (x::r) sep).size<=B+r.length*(B+sep.size):=by
 rw[<-Z3,Zdo,Uan,Z3]
 have:=ZdK (sep:=sep) h
 omega
theorem ZuU{sig:List TControl}{s:TSorting}(hs:JC sig)(f:FitT sig s):(Vh sig s).size<=100000:=by
 unfold Vh Yt
 rw[List.cons_append]
 have h:=ZuT (B:=200) (sep:=SEMI) (x:=J0 sig s) (r:=JN sig s++[VL s,VM s]) (by have:=ZdI hs f;omega) fun x hx=>by
  rcases Uav.1 hx with h | h
  ·obtain⟨k,hk,rfl⟩:=UaL.1 h
   exact Zh2 hs f (UbP.1 hk)
  ·have h1:=ZuR f
   have h2:=ZuS f
   simp only[UaF,Ua9,or_false] at h
   rcases h with rfl | rfl <;> omega
 rw[Uan,YS,show SEMI.size=2 from rfl] at h
 have:=hs.2.2
 simp only[List.length_cons,List.length_nil] at h
 omega
theorem Zh3{sig:List TControl}{j:Nat}(h:j<sig.length):sig[j].name=JV sig (j:Int):=(Zdm h).symm
theorem ZuV(sig:List TControl)(s:TSorting)(hok:sortOK sig s)(lvl:Nat)(S:Zc):Sem UbY ZcI lvl [.tr (.sl (sig.map Zp)),.ag ((Zw s).map .tr)] S (iS (Vh sig s)) S:=by
 have hs:=hok.sg
 have f:=U2 hok
 have hn6:=hs.2.2
 refine ZA Ztm trivial ?_
 simp only[ZgL,Uab,Zw,Zb,↓reduceIte,Nat.reduceEqDiff,Nat.reduceMul,reduceCtorEq,Nat.reduceAdd,Nat.reduceSub,Nat.reduceLeDiff,Nat.reduceLT,Int.reduceToNat,Int.reduceLE,Int.reduceLT,Za,men]
 refine Zi (Zhw sig TOPS s.tops hs f.tops (by decide) (by have:=f.topsL;omega)) ?_
 simp only[Uab,Zw,Zb,↓reduceIte,Nat.reduceEqDiff,Nat.reduceMul,reduceCtorEq,Nat.reduceAdd,Nat.reduceSub,Nat.reduceLeDiff,Nat.reduceLT,Int.reduceToNat,Int.reduceLE,Int.reduceLT,Za,men]
 refine Z7 (α:=Unit) sig.length (fun j _=>[(5,.hd (lvl,480) [] 0 (j+1) none (j+1)),(18,iI j)]) (fun j _=>[(480,.ar 1 (rS (J0 sig s::(JN sig s).take j)) true (j+1) 0)]) (fun _ _=>True) () (by simp only[Zb,↓reduceIte,Nat.reduceEqDiff,Nat.reduceMul,reduceCtorEq,Nat.reduceAdd,Nat.reduceSub,Nat.reduceLeDiff,Nat.reduceLT,Int.reduceToNat,Int.reduceLE,Int.reduceLT,Za,men]) (by (simp only[Zb,↓reduceIte,Nat.reduceEqDiff,Nat.reduceMul,reduceCtorEq,Nat.reduceAdd,Nat.reduceSub,Nat.reduceLeDiff,Nat.reduceLT,Int.reduceToNat,Int.reduceLE,Int.reduceLT,Za,men]) <;> rfl) trivial ?_
 intro j _ hj _
 simp only[Uab,Zw,Zb,↓reduceIte,Nat.reduceEqDiff,Nat.reduceMul,reduceCtorEq,Nat.reduceAdd,Nat.reduceSub,Nat.reduceLeDiff,Nat.reduceLT,Int.reduceToNat,Int.reduceLE,Int.reduceLT,Za,men]
 refine Zu (fun hlt=>?_) (fun hge=>?_)
 ·have hja:j<sig.length:=by omega
  have ga:=Jn (c:=Zp) hja
  have gs:=Jn (c:=QE) (l:=s.sorts) (j:=j) (by rw[hok.sortsL];exact hja)
  have gn:=Jn (c:=QE) (l:=s.nest) (j:=j) (by rw[hok.nestL];exact hja)
  rw[<-Xe] at gs gn
  have fs:=f.sorts j hja
  have fn:=f.nest j hja
  have hl1:(rS (J0 sig s::(JN sig s).take j)).length=j+1:=by
   rw[Uab,List.length_cons,Uak,YS];omega
  have z0:=ZaG hs (j:Int)
  have z1:=Zh1 hs f hja
  have z2:(ZZ ZP ⟨#[]⟩ (Jq s.sorts j)).size<=6:=by
   have h3:=Vg (f:=ZP) (B:=2) (Jq s.sorts j) ⟨#[]⟩ fun n hn=>YD (fs.1 n hn).1 (fs.1 n hn).2
   have e0:(⟨#[]⟩:ByteArray).size=0:=rfl
   omega
  have zc:(⟨#[58]⟩:ByteArray).size=1:=rfl
  have hlm:(((JN sig s).take j).map fun n=>[ts n]).length=j:=by
   rw[Uab,Uak,YS];omega
  have st:=ZuQ (s:=s) hja
  simp only[ga,gs,gn,Zh3 hja,Zp,Uab,Zw,Zb,↓reduceIte,Nat.reduceEqDiff,Nat.reduceMul,reduceCtorEq,Nat.reduceAdd,Nat.reduceSub,Nat.reduceLeDiff,Nat.reduceLT,Int.reduceToNat,Int.reduceLE,Int.reduceLT,Za,men]
  refine⟨by omega,Zi (Zuk (Jq s.sorts j) fs.1 (by omega)) ?_⟩
  simp only[gs,gn,Uai,Uab,Zw,Zb,↓reduceIte,Nat.reduceEqDiff,Nat.reduceMul,reduceCtorEq,Nat.reduceAdd,Nat.reduceSub,Nat.reduceLeDiff,Nat.reduceLT,Int.reduceToNat,Int.reduceLE,Int.reduceLT,Za,men]
  refine⟨by omega,Zi (Zhw sig (Vw sig s j) (Jq s.nest j) hs fn.1 (by omega) (by omega)) ?_⟩
  simp only[Uab,Zw,hlm,Zb,↓reduceIte,Nat.reduceEqDiff,Nat.reduceMul,reduceCtorEq,Nat.reduceAdd,Nat.reduceSub,Nat.reduceLeDiff,Nat.reduceLT,Int.reduceToNat,Int.reduceLE,Int.reduceLT,Za,men]
  exact⟨by omega,by rw[Zl];omega,ZC () hja (by rw[<-st];rfl) trivial⟩
 ·have:j=sig.length:=by omega
  subst this
  rw[Uas (by rw[YS];omega)]
  refine Z7 (α:=Unit) s.apart.length (fun i _=>[(8,iS (Yr YF APART (s.apart.take i))),(47,iI i)]) (fun _ _=>[]) (fun _ _=>True) () (by simp only[Zb,↓reduceIte,Nat.reduceEqDiff,Nat.reduceMul,reduceCtorEq,Nat.reduceAdd,Nat.reduceSub,Nat.reduceLeDiff,Nat.reduceLT,Int.reduceToNat,Int.reduceLE,Int.reduceLT,Za,men]) (by (simp only[Zb,↓reduceIte,Nat.reduceEqDiff,Nat.reduceMul,reduceCtorEq,Nat.reduceAdd,Nat.reduceSub,Nat.reduceLeDiff,Nat.reduceLT,Int.reduceToNat,Int.reduceLE,Int.reduceLT,Za,men]) <;> rfl) trivial ?_
  intro i _ hi _
  simp only[Uab,Zw,Zb,↓reduceIte,Nat.reduceEqDiff,Nat.reduceMul,reduceCtorEq,Nat.reduceAdd,Nat.reduceSub,Nat.reduceLeDiff,Nat.reduceLT,Int.reduceToNat,Int.reduceLE,Int.reduceLT,Za,men]
  refine Zu (fun hlt2=>?_) (fun hge2=>?_)
  ·have hia:i<s.apart.length:=by omega
   have gp:=Jn (c:=ZE) hia
   have hp:=f.apart _ (Ual hia)
   have z1:=ZaH (f:=YF) (B:=6) (s.apart.take i) APART fun n hn=>ZdJ (f.apart n (Uau hn))
   have z2:(s.apart.take i).length=i:=by rw[Uak];omega
   have e1:APART.size=5:=rfl
   have e2:(⟨#[45]⟩:ByteArray).size=1:=rfl
   have z3:=YD hp.1.1 hp.1.2
   have z4:=YD hp.2.1 hp.2.2
   have aL:=f.apartL
   rw[z2] at z1
   simp only[gp,ZE,Uab,Zw,Zb,↓reduceIte,Nat.reduceEqDiff,Nat.reduceMul,reduceCtorEq,Nat.reduceAdd,Nat.reduceSub,Nat.reduceLeDiff,Nat.reduceLT,Int.reduceToNat,Int.reduceLE,Int.reduceLT,Za,men]
   refine Zi (ZaI hp.1.1 hp.1.2) ?_
   simp only[gp,ZE,Vu,e2,Uai,Zb,↓reduceIte,Nat.reduceEqDiff,Nat.reduceMul,reduceCtorEq,Nat.reduceAdd,Nat.reduceSub,Nat.reduceLeDiff,Nat.reduceLT,Int.reduceToNat,Int.reduceLE,Int.reduceLT,Za,men]
   refine⟨by omega,by omega,Zi (ZaI hp.2.1 hp.2.2) ?_⟩
   simp only[Vu,e2,Uai,Zb,↓reduceIte,Nat.reduceEqDiff,Nat.reduceMul,reduceCtorEq,Nat.reduceAdd,Nat.reduceSub,Nat.reduceLeDiff,Nat.reduceLT,Int.reduceToNat,Int.reduceLE,Int.reduceLT,Za,men]
   exact⟨by omega,by omega,by rw[Zl];omega,ZC () hia (by rw[Zht hia];rfl) trivial⟩
  ·have:i=s.apart.length:=by omega
   subst this
   rw[UaC]
   refine Zi (Zul MOST s.most f.most (by decide) (by have:=f.mostL;omega)) ?_
   have hl2:((JN sig s).map fun n=>[ts n]).length=sig.length:=by rw[Uab,YS]
   have hrep:cut (((List.replicate 2 [Tr.v (Value.string ⟨#[]⟩)]).set 0 [Tr.v (Value.string (ZZ Yh MOST s.most))]).set 1 [Tr.v (Value.string (Yr YF APART s.apart))]) 0 2=[[ts (ZZ Yh MOST s.most)],[ts (Yr YF APART s.apart)]]:=rfl
   have hcut:cut ([ts (J0 sig s)]::(((JN sig s).map fun n=>[ts n])++[[ts (ZZ Yh MOST s.most)],[ts (Yr YF APART s.apart)]])) 0 (sig.length+1+2)=rS (Yt sig s):=by
    rw[Xc (by simp [YS])]
    simp [Yt,VL,VM]
   have hsc:ScR [[ts (ZZ Yh MOST s.most)],[ts (Yr YF APART s.apart)]]:=fun e he t ht=>by
    simp only[UaF,Ua9,or_false] at he
    rcases he with rfl | rfl <;> (simp only[UaF,Ua9,or_false] at ht;subst ht;rfl)
   have hun:Zs 1 [[ts (ZZ Yh MOST s.most)],[ts (Yr YF APART s.apart)]]:=fun e he=>by
    simp only[UaF,Ua9,or_false] at he
    rcases he with rfl | rfl <;> rfl
   have hz:(Xd (Yt sig s) SEMI).size<=100000:=ZuU hs f
   have hwl:(Yt sig s).length<=4294967296:=by
    unfold Yt
    rw[Uan,List.length_cons,YS]
    simp only[List.length_cons,List.length_nil]
    omega
   simp only[Uab,Zw,hl2,YS,hrep,hcut,hsc,hun,Ua6,Uan,List.length_cons,List.length_nil,Zb,↓reduceIte,Nat.reduceEqDiff,Nat.reduceMul,reduceCtorEq,Nat.reduceAdd,Nat.reduceSub,Nat.reduceLeDiff,Nat.reduceLT,Int.reduceToNat,Int.reduceLE,Int.reduceLT,Za,men]
   refine⟨by omega,Zi (Zui (Yt sig s) SEMI hwl (by omega)) ?_⟩
   simp only[Zb,↓reduceIte,Nat.reduceEqDiff,Nat.reduceMul,reduceCtorEq,Nat.reduceAdd,Nat.reduceSub,Nat.reduceLeDiff,Nat.reduceLT,Int.reduceToNat,Int.reduceLE,Int.reduceLT,Za,men]
   rfl
theorem ZuW{sig:List TControl}{s:TSorting}{k:Nat}{x:ByteArray}:bl (ZZ ZP (((x++SEMI)++JV sig k)++COL) (Jq s.sorts k)++ZZ (J5 sig) ⟨#[]⟩ (Jq s.nest k))=bl x++(bl SEMI++bl (Qb sig s k)):=by
 unfold Qb Vw
 simp only[JL,QF,Uaq]
 rfl
theorem Zh4{sig:List TControl}{s:TSorting}(hs:JC sig)(f:FitT sig s){x:ByteArray}{j:Nat}(h:bl x=bl (J0 sig s)++((JN sig s).take j).flatMap fun y=>bl SEMI++bl y):x.size<=2000:=by
 have h1:=ZdI hs f
 have h2:=ZdK (B:=200) (sep:=SEMI) (r:=(JN sig s).take j) fun y hy=>by
  obtain⟨k,hk,rfl⟩:=UaL.1 (Uau hy)
  exact Zh2 hs f (UbP.1 hk)
 have h3:((JN sig s).take j).length<=6:=by
  have:=hs.2.2
  rw[Uak,YS]
  omega
 have h4:=congrArg List.length h
 rw[Uan,Z3,Z3] at h4
 rw[show SEMI.size=2 from rfl] at h2
 omega
theorem ZuX{sig:List TControl}{s:TSorting}{x:ByteArray}{j:Nat}(hj:j<sig.length)(h:bl x=bl (J0 sig s)++((JN sig s).take j).flatMap fun y=>bl SEMI++bl y):bl x++(bl SEMI++bl (Qb sig s j))=bl (J0 sig s)++((JN sig s).take (j+1)).flatMap fun y=>bl SEMI++bl y:=by
 rw[h,Uah (by rw[YS];exact hj),UbW,Uaq]
 simp [JN]
theorem ZuY(sig:List TControl)(s:TSorting)(hok:sortOK sig s)(lvl:Nat)(S:Zc):Sem UbY ZcD lvl [.tr (.sl (sig.map Zp)),.ag ((Zw s).map .tr)] S (iS (Vh sig s)) S:=by
 have hs:=hok.sg
 have f:=U2 hok
 have hn6:=hs.2.2
 have c2:(⟨#[59,32]⟩:ByteArray).size=2:=rfl
 have c1:(⟨#[58]⟩:ByteArray).size=1:=rfl
 have c4:(⟨#[116,111,112,115]⟩:ByteArray).size=4:=rfl
 refine ZA Ztf trivial ?_
 simp only[ZgE,Uab,Zw,Zb,↓reduceIte,Nat.reduceEqDiff,Nat.reduceMul,reduceCtorEq,Nat.reduceAdd,Nat.reduceSub,Nat.reduceLeDiff,Nat.reduceLT,Int.reduceToNat,Int.reduceLE,Int.reduceLT,Za,men]
 refine Zi (Zhx sig s.tops hs f.tops (by have:=f.topsL;omega)) ?_
 have hT:TOPS++ZZ (J5 sig) ⟨#[]⟩ s.tops=J0 sig s:=VI (by
  unfold J0
  simp only[JL,QF]
  rfl)
 have hTs:=congrArg ByteArray.size hT
 rw[Uai] at hTs
 have hH:=ZdI hs f
 simp only[Uab,Zw,Zb,↓reduceIte,Nat.reduceEqDiff,Nat.reduceMul,reduceCtorEq,Nat.reduceAdd,Nat.reduceSub,Nat.reduceLeDiff,Nat.reduceLT,Int.reduceToNat,Int.reduceLE,Int.reduceLT,Za,men]
 refine⟨by omega,?_⟩
 refine Z7 (α:=ByteArray) sig.length (fun j x=>[(5,iS x),(6,iI j)]) (fun _ _=>[]) (fun j x=>bl x=bl (J0 sig s)++((JN sig s).take j).flatMap fun y=>bl SEMI++bl y) (TOPS++ZZ (J5 sig) ⟨#[]⟩ s.tops) (by simp only[Zb,↓reduceIte,Nat.reduceEqDiff,Nat.reduceMul,reduceCtorEq,Nat.reduceAdd,Nat.reduceSub,Nat.reduceLeDiff,Nat.reduceLT,Int.reduceToNat,Int.reduceLE,Int.reduceLT,Za,men]) (by (simp only[Zb,↓reduceIte,Nat.reduceEqDiff,Nat.reduceMul,reduceCtorEq,Nat.reduceAdd,Nat.reduceSub,Nat.reduceLeDiff,Nat.reduceLT,Int.reduceToNat,Int.reduceLE,Int.reduceLT,Za,men]) <;> rfl) (by rw[hT];simp) ?_
 intro j x hj hA
 simp only[Uab,Zw,Zb,↓reduceIte,Nat.reduceEqDiff,Nat.reduceMul,reduceCtorEq,Nat.reduceAdd,Nat.reduceSub,Nat.reduceLeDiff,Nat.reduceLT,Int.reduceToNat,Int.reduceLE,Int.reduceLT,Za,men]
 refine Zu (fun hlt=>?_) (fun hge=>?_)
 ·have hja:j<sig.length:=by omega
  have hx:=Zh4 hs f hA
  have ga:=Jn (c:=Zp) hja
  have gs:=Jn (c:=QE) (l:=s.sorts) (j:=j) (by rw[hok.sortsL];exact hja)
  have gn:=Jn (c:=QE) (l:=s.nest) (j:=j) (by rw[hok.nestL];exact hja)
  rw[<-Xe] at gs gn
  have fs:=f.sorts j hja
  have fn:=f.nest j hja
  have z0:=ZaG hs (j:Int)
  simp only[ga,gs,gn,c1,c2,Uai,Zh3 hja,Zp,Uab,Zw,Zb,↓reduceIte,Nat.reduceEqDiff,Nat.reduceMul,reduceCtorEq,Nat.reduceAdd,Nat.reduceSub,Nat.reduceLeDiff,Nat.reduceLT,Int.reduceToNat,Int.reduceLE,Int.reduceLT,Za,men]
  refine⟨by omega,by omega,by omega,?_⟩
  refine Z7 (α:=Unit) (Jq s.sorts j).length (fun i _=>[(5,iS (ZZ ZP (((x++SEMI)++JV sig j)++COL) ((Jq s.sorts j).take i))),(7,iI i)]) (fun _ _=>[]) (fun _ _=>True) () (by simp only[Zb,↓reduceIte,Nat.reduceEqDiff,Nat.reduceMul,reduceCtorEq,Nat.reduceAdd,Nat.reduceSub,Nat.reduceLeDiff,Nat.reduceLT,Int.reduceToNat,Int.reduceLE,Int.reduceLT,Za,men]) (by (simp only[Zb,↓reduceIte,Nat.reduceEqDiff,Nat.reduceMul,reduceCtorEq,Nat.reduceAdd,Nat.reduceSub,Nat.reduceLeDiff,Nat.reduceLT,Int.reduceToNat,Int.reduceLE,Int.reduceLT,Za,men]) <;> rfl) trivial ?_
  intro i _ hi _
  have d1:=Vg (f:=ZP) (B:=2) ((Jq s.sorts j).take i) (((x++SEMI)++JV sig j)++COL) fun n hn=>YD (fs.1 n (Uau hn)).1 (fs.1 n (Uau hn)).2
  have d2:((Jq s.sorts j).take i).length=i:=by rw[Uak];omega
  rw[d2,Uai,Uai,Uai,c1,c2] at d1
  simp only[gs,Uab,Zw,Zb,↓reduceIte,Nat.reduceEqDiff,Nat.reduceMul,reduceCtorEq,Nat.reduceAdd,Nat.reduceSub,Nat.reduceLeDiff,Nat.reduceLT,Int.reduceToNat,Int.reduceLE,Int.reduceLT,Za,men]
  refine Zu (fun hlt2=>?_) (fun hge2=>?_)
  ·have hia:i<(Jq s.sorts j).length:=by omega
   have gi:=YP hia
   have e:g0 (Jq s.sorts j) i=(Jq s.sorts j)[i]:=by simp [hia]
   have hk:=fs.1 _ (Ual hia)
   rw[<-e] at hk
   have d3:=YD hk.1 hk.2
   simp only[gs,gi,Uab,Zw,Zb,↓reduceIte,Nat.reduceEqDiff,Nat.reduceMul,reduceCtorEq,Nat.reduceAdd,Nat.reduceSub,Nat.reduceLeDiff,Nat.reduceLT,Int.reduceToNat,Int.reduceLE,Int.reduceLT,Za,men]
   refine Zi (ZaJ hk.1 hk.2) ?_
   simp only[Zb,↓reduceIte,Nat.reduceEqDiff,Nat.reduceMul,reduceCtorEq,Nat.reduceAdd,Nat.reduceSub,Nat.reduceLeDiff,Nat.reduceLT,Int.reduceToNat,Int.reduceLE,Int.reduceLT,Za,men]
   exact⟨by omega,by rw[Zl];omega,ZC () hia (by rw[WW hia];rfl) trivial⟩
  ·have:i=(Jq s.sorts j).length:=by omega
   subst this
   rw[UaC] at d1 ⊢
   simp only[gn,Uab,Zw,Zb,↓reduceIte,Nat.reduceEqDiff,Nat.reduceMul,reduceCtorEq,Nat.reduceAdd,Nat.reduceSub,Nat.reduceLeDiff,Nat.reduceLT,Int.reduceToNat,Int.reduceLE,Int.reduceLT,Za,men]
   refine Zi (Zhx sig (Jq s.nest j) hs fn.1 (by omega)) ?_
   have d4:=Vg (f:=J5 sig) (B:=5) (Jq s.nest j) ⟨#[]⟩ fun k _=>Wd hs k
   rw[show (⟨#[]⟩:ByteArray).size=0 from rfl] at d4
   simp only[Zb,↓reduceIte,Nat.reduceEqDiff,Nat.reduceMul,reduceCtorEq,Nat.reduceAdd,Nat.reduceSub,Nat.reduceLeDiff,Nat.reduceLT,Int.reduceToNat,Int.reduceLE,Int.reduceLT,Za,men]
   refine⟨by omega,by rw[Zl];omega,ZC (ZZ ZP (((x++SEMI)++JV sig j)++COL) (Jq s.sorts j)++ZZ (J5 sig) ⟨#[]⟩ (Jq s.nest j)) hja rfl ?_⟩
   rw[ZuW]
   exact ZuX hja hA
 ·have:j=sig.length:=by omega
  subst this
  have hx:=Zh4 hs f hA
  rw[Uas (by rw[YS];omega)] at hA
  have m1:=Vg (f:=Yh) (B:=3) s.most ⟨#[]⟩ fun n hn=>ZaK (f.most n hn).1 (f.most n hn).2
  have m2:=f.mostL
  have c6:(⟨#[59,32,109,111,115,116]⟩:ByteArray).size=6:=rfl
  have c7:(⟨#[59,32,97,112,97,114,116]⟩:ByteArray).size=7:=rfl
  have cd:(⟨#[45]⟩:ByteArray).size=1:=rfl
  rw[show (⟨#[]⟩:ByteArray).size=0 from rfl] at m1
  simp only[c6,Uai,Uab,Zw,Zb,↓reduceIte,Nat.reduceEqDiff,Nat.reduceMul,reduceCtorEq,Nat.reduceAdd,Nat.reduceSub,Nat.reduceLeDiff,Nat.reduceLT,Int.reduceToNat,Int.reduceLE,Int.reduceLT,Za,men]
  refine⟨by omega,Zi (Zum s.most f.most (by omega)) ?_⟩
  simp only[c6,c7,Uai,Uab,Zw,Zb,↓reduceIte,Nat.reduceEqDiff,Nat.reduceMul,reduceCtorEq,Nat.reduceAdd,Nat.reduceSub,Nat.reduceLeDiff,Nat.reduceLT,Int.reduceToNat,Int.reduceLE,Int.reduceLT,Za,men]
  refine⟨by omega,by omega,?_⟩
  refine Z7 (α:=Unit) s.apart.length (fun i _=>[(5,iS (Yr YF (((x++⟨#[59,32,109,111,115,116]⟩)++ZZ Yh ⟨#[]⟩ s.most)++⟨#[59,32,97,112,97,114,116]⟩) (s.apart.take i))),(8,iI i)]) (fun _ _=>[]) (fun _ _=>True) () (by simp only[Zb,↓reduceIte,Nat.reduceEqDiff,Nat.reduceMul,reduceCtorEq,Nat.reduceAdd,Nat.reduceSub,Nat.reduceLeDiff,Nat.reduceLT,Int.reduceToNat,Int.reduceLE,Int.reduceLT,Za,men]) (by (simp only[Zb,↓reduceIte,Nat.reduceEqDiff,Nat.reduceMul,reduceCtorEq,Nat.reduceAdd,Nat.reduceSub,Nat.reduceLeDiff,Nat.reduceLT,Int.reduceToNat,Int.reduceLE,Int.reduceLT,Za,men]) <;> rfl) trivial ?_
  intro i _ hi _
  simp only[Uab,Zw,Zb,↓reduceIte,Nat.reduceEqDiff,Nat.reduceMul,reduceCtorEq,Nat.reduceAdd,Nat.reduceSub,Nat.reduceLeDiff,Nat.reduceLT,Int.reduceToNat,Int.reduceLE,Int.reduceLT,Za,men]
  refine Zu (fun hlt2=>?_) (fun hge2=>?_)
  ·have hia:i<s.apart.length:=by omega
   have gp:=Jn (c:=ZE) hia
   have hp:=f.apart _ (Ual hia)
   have z1:=ZaH (f:=YF) (B:=6) (s.apart.take i) (((x++⟨#[59,32,109,111,115,116]⟩)++ZZ Yh ⟨#[]⟩ s.most)++⟨#[59,32,97,112,97,114,116]⟩) fun n hn=>ZdJ (f.apart n (Uau hn))
   have z2:(s.apart.take i).length=i:=by rw[Uak];omega
   have z3:=YD hp.1.1 hp.1.2
   have z4:=YD hp.2.1 hp.2.2
   have aL:=f.apartL
   rw[z2,Uai,Uai,Uai,c6,c7] at z1
   simp only[gp,ZE,Vu,cd,Uai,Uab,Zw,Zb,↓reduceIte,Nat.reduceEqDiff,Nat.reduceMul,reduceCtorEq,Nat.reduceAdd,Nat.reduceSub,Nat.reduceLeDiff,Nat.reduceLT,Int.reduceToNat,Int.reduceLE,Int.reduceLT,Za,men]
   refine⟨by omega,Zi (ZaJ hp.1.1 hp.1.2) ?_⟩
   simp only[gp,ZE,Vu,cd,Uai,Zb,↓reduceIte,Nat.reduceEqDiff,Nat.reduceMul,reduceCtorEq,Nat.reduceAdd,Nat.reduceSub,Nat.reduceLeDiff,Nat.reduceLT,Int.reduceToNat,Int.reduceLE,Int.reduceLT,Za,men]
   refine⟨by omega,by omega,Zi (ZaJ hp.2.1 hp.2.2) ?_⟩
   simp only[Vu,cd,Uai,Zb,↓reduceIte,Nat.reduceEqDiff,Nat.reduceMul,reduceCtorEq,Nat.reduceAdd,Nat.reduceSub,Nat.reduceLeDiff,Nat.reduceLT,Int.reduceToNat,Int.reduceLE,Int.reduceLT,Za,men]
   exact⟨by omega,by rw[Zl];omega,ZC () hia (by rw[Zht hia,YF,<-ByteArray.append_assoc,<-ByteArray.append_assoc,<-ByteArray.append_assoc];rfl) trivial⟩
  ·have:i=s.apart.length:=by omega
   subst this
   rw[UaC]
   have hfin:Yr YF (((x++⟨#[59,32,109,111,115,116]⟩)++ZZ Yh ⟨#[]⟩ s.most)++⟨#[59,32,97,112,97,114,116]⟩) s.apart=Vh sig s:=VI (by
    unfold Vh Yt
    rw[List.cons_append,Zdo,UbW,<-Uaq,<-hA]
    unfold VL VM
    simp only[JL,Zdn,QF,UaJ,Ubt,Uaq,Ubb]
    rfl)
   rw[hfin]
theorem ZaX{α:Type}{g:α->ByteArray}{w s:ByteArray}{l:List α}(h:bl s=bl w++l.flatMap fun k=>32::bl (g k))(hw:(32:UInt8) ∉ bl w)(hg:∀ k∈l,(32:UInt8) ∉ bl (g k)):J7 s=w/\ZL s=l.map g:=by
 have e:Js s 32=w::l.map g:=ZhF (by rw[h,List.flatMap_map]) hw fun p hp=>by
  obtain⟨n,hn,rfl⟩:=UaL.1 hp
  exact hg n hn
 unfold J7 ZL
 rw[e]
 exact⟨rfl,rfl⟩
theorem ZaY{α:Type}{g:α->ByteArray}{w s:ByteArray}{l:List α}{b:UInt8}(h:bl s=bl w++l.flatMap fun k=>32::bl (g k))(hb:b≠32)(hw:b ∉ bl w)(hg:∀ k∈l,b ∉ bl (g k)):b ∉ bl s:=by
 rw[h]
 intro hm
 rcases Uav.1 hm with hm | hm
 ·exact hw hm
 ·obtain⟨k,hk,hm⟩:=List.mem_flatMap.1 hm
  rcases UaF.1 hm with e | hm
  ·exact hb e
  ·exact hg k hk hm
theorem ZaZ(x:ByteArray):bl (SP++x)=32::bl x:=by rw[JL];rfl
theorem U3{n:Int}(h0:0<=n)(h1:n<100):sf (ZP n):=by
 rw[<-WX h0]
 exact ZuN ⟨by omega,h1⟩
def one(n:Int):Prop:=0<=n/\n<10
theorem dgA:∀ a:Fin 10,Lib.decDigits a.val=[UInt8.ofNat (48+a.val)]:=by decide +kernel
theorem dgB:∀ a:Fin 10,(UInt8.ofNat (48+a.val)).toNat=48+a.val:=by decide
theorem W1{n:Int}(h:one n):∃ c:UInt8,bl (ZP n)=[c]/\(c.toNat:Int)=48+n:=by
 obtain⟨u,rfl⟩:=UaN h.1
 have hu:u<10:=by have:=h.2;omega
 refine⟨UInt8.ofNat (48+u),?_,?_⟩
 ·unfold ZP
  rw[YQ,Int.toNat_natCast]
  exact dgA ⟨u,hu⟩
 ·rw[dgB ⟨u,hu⟩]
  show ((48+u:Nat):Int)=48+(u:Int)
  omega
def Yi(s:ByteArray):List Int:=(bl s).map fun c=>(c.toNat:Int)-48
def Xf(c:UInt8):Int:=if 48<=c.toNat/\c.toNat<=57 then (c.toNat:Int)-48 else -1
def JD(s:ByteArray):List Int:=(bl s).map Xf
theorem ZdL{f:UInt8->Int}(hf:∀(c:UInt8) (n:Int),one n->(c.toNat:Int)=48+n->f c=n):∀{l:List Int},(∀ n∈l,one n)->(l.flatMap fun k=>bl (ZP k)).map f=l
 | [],_=>rfl
 | n::r,h=>by
  obtain⟨c,e1,e2⟩:=W1 (h n (by simp))
  rw[UaJ,e1,Uaz,ZdL hf fun m hm=>h m (by simp [hm])]
  simp only[UaH,UaT,List.cons_append,List.nil_append]
  rw[hf c n (h n (by simp)) e2]
theorem ZuZ(c:UInt8)(n:Int)(_h:one n)(e:(c.toNat:Int)=48+n):(c.toNat:Int)-48=n:=by omega
theorem ZdM(c:UInt8)(n:Int)(h:one n)(e:(c.toNat:Int)=48+n):Xf c=n:=by
 obtain⟨h1,h2⟩:=h
 unfold Xf
 rw[if_pos (by omega)]
 omega
theorem Zu0{l:List Int}(h:∀ n∈l,one n):Yi (ZZ ZP ⟨#[]⟩ l)=l:=by
 unfold Yi
 rw[QF]
 exact ZdL ZuZ h
theorem Zu1{l:List Int}(h:∀ n∈l,one n):JD (ZZ ZP ⟨#[]⟩ l)=l:=by
 unfold JD
 rw[QF]
 exact ZdL ZdM h
def Vi(p:A2):ByteArray:=(ZP p.1++DASH)++ZP p.2
theorem Zu2(p:A2):bl (YF p)=32::bl (Vi p):=by
 unfold YF Vi
 simp only[JL,Uaq]
 rfl
def QG(w:ByteArray):A2:=((Jp (JW w DASH).1).getD 0,(Jp (JW w DASH).2).getD 0)
noncomputable def QH(w:ByteArray):A2:=(g0 (JD w) 0,g0 (JD w) 2)
def Wf(p:A2):Prop:=one p.1/\one p.2
theorem Zu3{p:A2}(h:Wf p):(Vi p).size=3:=by
 obtain⟨c,e1,_⟩:=W1 h.1
 obtain⟨d,e2,_⟩:=W1 h.2
 rw[<-Z3]
 unfold Vi
 rw[JL,JL,e1,e2]
 rfl
theorem Zu4{p:A2}(h:Wf p):QG (Vi p)=p:=by
 obtain⟨c,e1,e2⟩:=W1 h.1
 have e:JW (Vi p) DASH=(ZP p.1,ZP p.2):=ZhH (p:=[]) (q:=[]) (c:=45) (by unfold Vi;rw[JL,JL,Uaq]) rfl (by
  rw[e1,UaP]
  intro g
  have:=h.1.1
  rw[<-g] at e2
  have:((45:UInt8).toNat:Int)=45:=rfl
  omega) (by simp)
 have s1:WY p.1:=⟨by have:=h.1.1;omega,by have:=h.1.2;omega⟩
 have s2:WY p.2:=⟨by have:=h.2.1;omega,by have:=h.2.2;omega⟩
 unfold QG
 rw[e,<-WX h.1.1,<-WX h.2.1,ZdG _ s1,ZdG _ s2]
 rfl
theorem Zu5{p:A2}(h:Wf p):QH (Vi p)=p:=by
 obtain⟨c,e1,e2⟩:=W1 h.1
 obtain⟨d,e3,e4⟩:=W1 h.2
 unfold QH JD Vi
 rw[JL,JL,e1,e3]
 show (Xf c,Xf d)=p
 rw[ZdM c _ h.1 e2,ZdM d _ h.2 e4]
theorem Zh5{rd:ByteArray->Option Int}(hr:RD rd){l:List Int}(h:smL l):YR rd (l.map Jo)=true:=by
 unfold YR
 rw[UaZ]
 intro w hw
 obtain⟨n,hn,rfl⟩:=UaL.1 hw
 rw[hr n (h n hn)]
 rfl
theorem Zu6{rd:ByteArray->Option Int}(hr:RD rd){l:List Int}(h:smL l):JX rd (l.map Jo)=l:=by
 unfold JX
 rw[if_pos (Zh5 hr h),Ubc]
 conv=>rhs;rw[<-List.map_id l]
 refine Uba fun n hn=>?_
 simp only[Function.comp,hr n (h n hn),Option.getD_some,id]
theorem Zh6{sig:List TControl}{t:TSorting}(h:sortOK sig t){k:Nat}(hk:k<sig.length):∀ n∈Jq t.sorts k,one n:=by
 rw[Xe (by rw[h.sortsL];exact hk)]
 intro n hn
 have:=(h.sorts k (by rw[h.sortsL];exact hk) hk).2 n hn
 have:=h.many
 exact⟨by omega,by omega⟩
theorem Za0{sig:List TControl}{t:TSorting}(h:sortOK sig t):∀ p∈t.apart,Wf p:=fun p hp=>by
 obtain⟨i,hi,rfl⟩:=UaR hp
 have:=h.apart i hi
 have:=h.many
 exact⟨⟨by omega,by omega⟩,by omega,by omega⟩
theorem Za1{sig:List TControl}(hs:JC sig){l:List Int}(hl:Wc sig.length l){b:UInt8}(hb:¬ Qa b):∀ k∈l,b ∉ bl (JV sig k):=fun k hk=>XI (ZdD (ZdH hs (hl k hk).1 (hl k hk).2)) hb
theorem Zh7{sig:List TControl}{t:TSorting}:bl (J0 sig t)=bl TOPS++t.tops.flatMap fun k=>32::bl (JV sig k):=by
 unfold J0
 rw[QF]
 exact congrArg (fun f=>bl TOPS++List.flatMap f t.tops) (funext fun k=>ZaZ _)
theorem Zh8{sig:List TControl}{t:TSorting}{k:Nat}:bl (Qb sig t k)=bl (Vw sig t k)++(Jq t.nest k).flatMap fun k=>32::bl (JV sig k):=by
 unfold Qb
 rw[QF]
 exact congrArg (fun f=>bl (Vw sig t k)++List.flatMap f (Jq t.nest k)) (funext fun k=>ZaZ _)
theorem Zh9{t:TSorting}:bl (VL t)=bl MOST++t.most.flatMap fun k=>32::bl (ZP k):=by
 unfold VL
 rw[QF]
 exact congrArg (fun f=>bl MOST++List.flatMap f t.most) (funext fun k=>ZaZ _)
theorem Zia{t:TSorting}:bl (VM t)=bl APART++t.apart.flatMap fun p=>32::bl (Vi p):=by
 unfold VM
 rw[Zdn]
 exact congrArg (fun f=>bl APART++List.flatMap f t.apart) (funext fun p=>Zu2 p)
theorem Zu7{l:List Int}(h:∀ n∈l,one n){b:UInt8}(hb:¬ Qa b):b ∉ bl (ZZ ZP ⟨#[]⟩ l):=by
 rw[QF]
 intro hm
 rcases Uav.1 hm with hm | hm
 ·cases hm
 ·obtain⟨k,hk,hm⟩:=List.mem_flatMap.1 hm
  exact XI (U3 (h k hk).1 (by have:=(h k hk).2;omega)) hb hm
theorem Zib{sig:List TControl}{t:TSorting}(h:sortOK sig t){k:Nat}(hk:k<sig.length){b:UInt8}(hb:¬ Qa b)(h58:b≠58):b ∉ bl (Vw sig t k):=by
 unfold Vw
 rw[JL,JL]
 intro hm
 rcases Uav.1 hm with hm | hm
 ·rcases Uav.1 hm with hm | hm
  ·exact XI (ZdD (ZdH h.sg (by omega) (by omega))) hb hm
  ·rw[show bl COL=[58] from rfl,UaP] at hm
   exact h58 hm
 ·exact Zu7 (Zh6 h hk) hb hm
theorem Zu8{sig:List TControl}{t:TSorting}(h:sortOK sig t){k:Nat}(hk:k<sig.length):JW (Vw sig t k) (Vv 58)=(JV sig k,ZZ ZP ⟨#[]⟩ (Jq t.sorts k)) :=
 ZhH (p:=[]) (q:=[]) (c:=58) (by unfold Vw;rw[JL,JL,Uaq]) rfl (XI (ZdD (ZdH h.sg (by omega) (by omega))) (by unfold Qa;decide)) (by simp)
theorem Zic{p:A2}(h:Wf p){b:UInt8}(hb:¬ Qa b):b ∉ bl (Vi p):=by
 unfold Vi
 rw[JL,JL]
 intro hm
 rcases Uav.1 hm with hm | hm
 ·rcases Uav.1 hm with hm | hm
  ·exact XI (U3 h.1.1 (by have:=h.1.2;omega)) hb hm
  ·rw[show bl DASH=[45] from rfl,UaP] at hm
   exact hb (by rw[hm];exact .inl rfl)
 ·exact XI (U3 h.2.1 (by have:=h.2.2;omega)) hb hm
def XJ(sig:List TControl)(t:TSorting):List ByteArray:=JN sig t++[VL t,VM t]
theorem Za2{sig:List TControl}{t:TSorting}:Yt sig t=J0 sig t::XJ sig t:=by unfold Yt XJ;rw[List.cons_append]
theorem ZdN{sig:List TControl}{t:TSorting}(h:sortOK sig t):(59:UInt8) ∉ bl (J0 sig t)/\∀ p∈XJ sig t,(59:UInt8) ∉ bl p:=by
 have f:=U2 h
 have hb:¬ Qa 59:=by unfold Qa;decide
 refine⟨ZaY Zh7 (by decide) (by decide) (Za1 h.sg f.tops hb),fun p hp=>?_⟩
 rcases Uav.1 hp with hp | hp
 ·obtain⟨k,hk,rfl⟩:=UaL.1 hp
  have hk:=UbP.1 hk
  exact ZaY Zh8 (by decide) (Zib h hk hb (by decide)) (Za1 h.sg (f.nest k hk).1 hb)
 ·simp only[UaF,Ua9,or_false] at hp
  rcases hp with rfl | rfl
  ·exact ZaY Zh9 (by decide) (by decide) fun k hk=>XI (U3 (f.most k hk).1 (f.most k hk).2) hb
  ·exact ZaY Zia (by decide) (by decide) fun p hp=>Zic (Za0 h p hp) hb
theorem Zid{sig:List TControl}{t:TSorting}:bl (Vh sig t)=bl (J0 sig t)++(XJ sig t).flatMap fun p=>bl SEMI++bl p:=by
 unfold Vh
 rw[Za2,Zdo]
theorem Zu9{sig:List TControl}{t:TSorting}(h:sortOK sig t):J6 (Vh sig t) SEMI=Yt sig t:=by
 rw[Za2]
 exact Zup (c:=59) (q:=[32]) rfl Zid (ZdN h).1 (ZdN h).2
theorem Zva{x:ByteArray}:VK (SP++x)=x:=VI (by
 unfold VK
 rw[WZ,Uas (by rw[Z3];exact Uag _),JL]
 rfl)
theorem Zvb{sig:List TControl}{t:TSorting}(h:sortOK sig t):V9 (Vh sig t)=Yt sig t:=by
 obtain⟨f1,f2⟩:=ZdN h
 have e:Js (Vh sig t) 59=J0 sig t::(XJ sig t).map fun p=>SP++p:=ZhF (by
  rw[Zid,List.flatMap_map]
  refine congrArg (fun f=>_++List.flatMap f (XJ sig t)) (funext fun p=>?_)
  rw[JL]
  rfl) f1 fun p hp=>by
  obtain⟨q,hq,rfl⟩:=UaL.1 hp
  rw[ZaZ]
  intro hm
  rcases UaF.1 hm with hm | hm
  ·revert hm;decide
  ·exact f2 q hq hm
 unfold V9
 rw[e,Za2]
 simp only[List.headD_cons,List.tail_cons,Ubc]
 congr 1
 conv=>rhs;rw[<-List.map_id (XJ sig t)]
 exact Uba fun p _=>Zva
def YG(sig:List TControl)(s:ByteArray):List Int:=(ZL s).map (JA sig)
def Vj(f:ByteArray->List Int)(s:ByteArray):List Int:=f (JW (J7 s) (Vv 58)).2
def XK(rd:ByteArray->Option Int)(f:ByteArray->List Int)(ap:ByteArray->A2)(sig:List TControl)(p0:ByteArray)(Q:List ByteArray)(a b:ByteArray):TSorting:=⟨YG sig p0,Q.map (YG sig),Q.map (Vj f),JX rd (ZL a),(ZL b).map ap⟩
theorem Zie{sig:List TControl}(hs:JC sig){l:List Int}(hl:Wc sig.length l):(l.map (JV sig)).map (JA sig)=l:=by
 rw[Ubc]
 conv=>rhs;rw[<-List.map_id l]
 exact Uba fun k hk=>ZuP hs (hl k hk).1 (hl k hk).2
theorem Zvc{rd:ByteArray->Option Int}(hr:RD rd){f:ByteArray->List Int}(hf:∀ l:List Int,(∀ n∈l,one n)->f (ZZ ZP ⟨#[]⟩ l)=l){ap:ByteArray->A2}(hap:∀ p:A2,Wf p->ap (Vi p)=p){sig:List TControl}{t:TSorting}(h:sortOK sig t) :
  XK rd f ap sig (J0 sig t) (JN sig t) (VL t) (VM t)=t/\YR rd (ZL (VL t))=true/\∀ w∈ZL (VM t),w.size=3:=by
 have ft:=U2 h
 have hb:¬ Qa 32:=by unfold Qa;decide
 have e1:=(ZaX Zh7 (by decide) (Za1 h.sg ft.tops hb)).2
 have ep:∀ k,k<sig.length->J7 (Qb sig t k)=Vw sig t k/\ZL (Qb sig t k)=(Jq t.nest k).map (JV sig):=fun k hk=>ZaX Zh8 (Zib h hk hb (by decide)) (Za1 h.sg (ft.nest k hk).1 hb)
 have em:=(ZaX (Zh9 (t:=t)) (by decide) fun k hk=>XI (U3 (ft.most k hk).1 (ft.most k hk).2) hb).2
 have ea:=(ZaX (Zia (t:=t)) (by decide) fun p hp=>Zic (Za0 h p hp) hb).2
 have hit:t.most.map ZP=t.most.map Jo:=Uba fun k hk=>(WX (ft.most k hk).1).symm
 have hsm:smL t.most:=fun k hk=>⟨by have:=(ft.most k hk).1;omega,(ft.most k hk).2⟩
 rw[hit] at em
 have c1:YG sig (J0 sig t)=t.tops:=by
  unfold YG
  rw[e1,Zie h.sg ft.tops]
 have c2:(JN sig t).map (YG sig)=t.nest:=by
  refine List.ext_getElem (by rw[Uab,YS,h.nestL]) fun k h1 h2=>?_
  have hk:k<sig.length:=by rw[<-h.nestL];exact h2
  simp only[JN,List.getElem_map,List.getElem_range]
  unfold YG
  rw[(ep k hk).2,Zie h.sg (ft.nest k hk).1,Xe h2]
 have c3:(JN sig t).map (Vj f)=t.sorts:=by
  refine List.ext_getElem (by rw[Uab,YS,h.sortsL]) fun k h1 h2=>?_
  have hk:k<sig.length:=by rw[<-h.sortsL];exact h2
  simp only[JN,List.getElem_map,List.getElem_range]
  unfold Vj
  rw[(ep k hk).1,Zu8 h hk,hf _ (Zh6 h hk),Xe h2]
 have c4:JX rd (ZL (VL t))=t.most:=by rw[em,Zu6 hr hsm]
 have c5:(ZL (VM t)).map ap=t.apart:=by
  rw[ea,Ubc]
  conv=>rhs;rw[<-List.map_id t.apart]
  exact Uba fun p hp=>hap p (Za0 h p hp)
 refine⟨?_,by rw[em];exact Zh5 hr hsm,fun w hw=>?_⟩
 ·unfold XK
  rw[c1,c2,c3,c4,c5]
 ·rw[ea] at hw
  obtain⟨p,hp,rfl⟩:=UaL.1 hw
  exact Zu3 (Za0 h p hp)
def VN(sig:List TControl)(s:ByteArray)(t:TSorting):Prop:=sortOK sig t/\Vh sig t=s
theorem Zif{rd:ByteArray->Option Int}(hr:RD rd){f:ByteArray->List Int}(hf:∀ l:List Int,(∀ n∈l,one n)->f (ZZ ZP ⟨#[]⟩ l)=l){ap:ByteArray->A2}(hap:∀ p:A2,Wf p->ap (Vi p)=p){sig:List TControl}{s p0:ByteArray}{Q:List ByteArray}{a b:ByteArray}{t:TSorting}(h:VN sig s t)(hw:Yt sig t=p0::(Q++[a,b])) :
  XK rd f ap sig p0 Q a b=t/\YR rd (ZL a)=true/\∀ w∈ZL b,w.size=3:=by
 rw[Za2] at hw
 injection hw with h1 h2
 unfold XJ at h2
 obtain⟨h3,h4⟩:=List.append_inj' h2 rfl
 injection h4 with h5 h6
 injection h6 with h7 _
 rw[<-h1,<-h3,<-h5,<-h7]
 exact Zvc hr hf hap h.1
def Yj:TSorting:=⟨[],[],[],[],[]⟩
open Classical in
noncomputable def Yk(sig:List TControl)(s:ByteArray):TSorting:=if h:∃ t,VN sig s t then h.choose else Yj
noncomputable def Za3(sig:List TControl)(s:ByteArray):Bool:=dc (∃ t,VN sig s t)
theorem QI{sig:List TControl}{s:ByteArray}(h:∀ t,¬ VN sig s t):Yk sig s=Yj/\Za3 sig s=false:=by
 have hn:¬ ∃ t,VN sig s t:=fun⟨t,ht⟩=>h t ht
 exact⟨dif_neg hn,ZT hn⟩
theorem Zig{sig:List TControl}{s:ByteArray}{t:TSorting}(h:VN sig s t)(hu:∀ t',VN sig s t'->t=t'):Yk sig s=t/\Za3 sig s=true:=by
 have hy:∃ t,VN sig s t:=⟨t,h⟩
 refine⟨?_,Yg hy⟩
 unfold Yk
 rw[dif_pos hy]
 exact(hu _ hy.choose_spec).symm
theorem Zih{rd:ByteArray->Option Int}{f:ByteArray->List Int}(hf:∀ s,(f s).length=s.size){ap:ByteArray->A2}{sig:List TControl}{p0:ByteArray}{Q:List ByteArray}{a b:ByteArray}{n:Nat}(h0:p0.size<=n)(hQ:Q.length<=n)(hq:∀ q∈Q,q.size<=n)(ha:a.size<=n)(hb:b.size<=n):YC n (XK rd f ap sig p0 Q a b):=by
 have l0:=VJ (s:=p0)
 have la:=VJ (s:=a)
 have lb:=VJ (s:=b)
 have ln:=Zdz (rd:=rd) (ws:=ZL a)
 refine⟨?_,?_,fun y hy=>?_,?_,fun y hy=>?_,?_,?_⟩
 ·show ((ZL p0).map (JA sig)).length<=n
  rw[Uab];omega
 ·show (Q.map (YG sig)).length<=n
  rw[Uab];exact hQ
 ·obtain⟨q,hq',rfl⟩:=UaL.1 (show y∈Q.map (YG sig) from hy)
  have:=VJ (s:=q)
  have:=hq q hq'
  unfold YG
  rw[Uab];omega
 ·show (Q.map (Vj f)).length<=n
  rw[Uab];exact hQ
 ·obtain⟨q,hq',rfl⟩:=UaL.1 (show y∈Q.map (Vj f) from hy)
  have h1:=(ZaU (s:=J7 q) (sep:=Vv 58)).2
  have h2:=ZdC (s:=q)
  have:=hq q hq'
  unfold Vj
  rw[hf];omega
 ·show (JX rd (ZL a)).length<=n
  omega
 ·show ((ZL b).map ap).length<=n
  rw[Uab];omega
theorem Zii(sep:ByteArray):∀(k:Nat) (s p:ByteArray),p∈Lib.splitB sep 0 k s->p.size<=s.size
 | 0,s,p,h=>by
  rw[Lib.splitB_zero,UaP] at h
  rw[h]
  exact Uag _
 | k+1,s,p,h=>by
  rcases Lib.indexB_cases s sep with hi | ⟨i,hi,_⟩
  ·rw[Lib.splitB_miss _ _ _ _ hi,UaP] at h
   rw[h]
   exact Uag _
  ·rw[Lib.splitB_hit _ _ _ _ _ hi] at h
   rcases UaF.1 h with rfl | h
   ·simp only[Ubj];omega
   ·have:=Zii sep k _ p h
    simp only[Ubj] at this
    omega
theorem Zvd{s sep:ByteArray}:∀ p∈J6 s sep,p.size<=s.size:=fun p hp=>Zii sep _ s p hp
theorem Zve{s sep:ByteArray}(h1:1<=sep.size):(J6 s sep).length<=s.size+1:=by
 have:=Lib.splitB_all sep h1 0 _ s rfl
 have h2:=Lib.countB_le sep h1 s.size s (Uag _)
 unfold J6
 omega
theorem Zvf{s:ByteArray}:(V9 s).length<=s.size+1:=by
 have h:=Zdt (s:=s) (b:=59)
 unfold V9
 simp only[List.length_cons,Uab,List.length_tail]
 have:=List.length_pos_iff.2 (ZaM (s:=s) (b:=59))
 omega
theorem Zvg{s:ByteArray}:∀ p∈V9 s,p.size<=s.size:=by
 intro p hp
 obtain⟨x,r,h⟩:∃ x r,Js s 59=x::r:=by
  cases h:Js s 59 with
  | nil=>exact absurd h ZaM
  | cons x r=>exact⟨x,r,rfl⟩
 unfold V9 at hp
 rw[h] at hp
 rcases UaF.1 hp with rfl | hp
 ·exact ZaN (b:=59) (by rw[h];simp)
 ·obtain⟨q,hq,rfl⟩:=UaL.1 hp
  have h1:=ZaN (s:=s) (b:=59) (p:=q) (by rw[h];exact UbI _ hq)
  unfold VK
  simp only[Ubj]
  omega
theorem Zij{P:List ByteArray}(h:3<=P.length):∃ p0 Q a b,P=p0::(Q++[a,b]):=by
 cases P with
 | nil=>simp at h
 | cons p0 R =>
  have hl:(R.drop (R.length-2)).length=2:=by rw[Ubh];simp at h;omega
  match hd:R.drop (R.length-2),hl with
  | [a,b],_=>exact⟨p0,R.take (R.length-2),a,b,by rw[<-hd,Ubl]⟩
theorem Zik(sig:List TControl)(ws:List ByteArray)(hn:sig.length<=4294967296)(hl:ws.length<=3000000)(lvl:Nat)(S:Zc):Sem UbY Zaq lvl [.tr (.sl (sig.map Zp)),tS ws] S (.ow 1 (rI (ws.map (JA sig))) true) S:=by
 refine ZA Zth trivial ?_
 simp only[ZgG,Uab,Zb,seval,Za,men]
 refine Z7 (α:=Unit) ws.length (fun j _=>[(5,.hd (lvl,256) [] 0 j none j),(11,iI j)]) (fun j _=>[(256,.ar 1 (rI ((ws.take j).map (JA sig))) true j 0)]) (fun _ _=>True) () (by simp only[Zb,seval,Za,men]) (by (simp only[Zb,seval,Za,men]) <;> rfl) trivial ?_
 intro j _ hj _
 simp only[Uab,Zb,seval,Za,men]
 refine Zu (fun hlt=>?_) (fun hge=>?_)
 ·have hja:j<ws.length:=by omega
  have ga:=Jn (c:=fun n:ByteArray=>[ts n]) hja
  have hmx:max j (j+1)=j+1:=by omega
  have ht:(ws.take j).length=j:=by rw[Uak];omega
  have htl:((ws.take j).map (JA sig)).length=j:=by rw[Uab];exact ht
  have st:rI ((ws.take j).map (JA sig))++[[tv (JA sig ws[j])]]=rI ((ws.take (j+1)).map (JA sig)):=by rw[Uah hja,Uaz,WU];rfl
  simp only[ga,Uab,Zb,seval,Za,men]
  refine Zi (Zuy sig ws[j] hn) ?_
  simp only[ht,htl,hmx,st,Uab,Zb,seval,Za,men]
  exact⟨by omega,by rw[Zl];omega,ZC () hja rfl trivial⟩
 ·have hj1:j=ws.length:=by omega
  subst hj1
  rw[UaC]
  simp only[Uab,Zb,seval,Za,men]
  try rfl
theorem Zil(sig:List TControl)(w0:ByteArray)(ws:List ByteArray)(hn:sig.length<=4294967296)(hl:ws.length<=3000000)(lvl:Nat)(S:Zc):Sem UbY Zan lvl [.tr (.sl (sig.map Zp)),tS (w0::ws)] S (.ow 1 (rI (ws.map (JA sig))) true) S:=by
 refine ZA Zs9 trivial ?_
 simp only[Zgy,Uab,Zb,seval,Za,men]
 refine Z7 (α:=Unit) ws.length (fun j _=>[(5,.hd (lvl,224) [] 0 j none j),(6,iI ((j:Int)+1))]) (fun j _=>[(224,.ar 1 (rI ((ws.take j).map (JA sig))) true j 0)]) (fun _ _=>True) () (by simp only[Zb,seval,Za,men]) (by (simp only[Zb,seval,Za,men]) <;> rfl) trivial ?_
 intro j _ hj _
 simp only[Uab,List.length_cons,Zb,seval,Za,men]
 have en:((ws.length+1:Nat):Int)=(ws.length:Int)+1:=by omega
 refine Zu (fun hlt=>?_) (fun hge=>?_)
 ·have hja:j<ws.length:=by omega
  have e1:((j:Int)+1).toNat=j+1:=by omega
  have p1:(0:Int)<=(j:Int)+1:=by omega
  have ga:=Jn (c:=fun n:ByteArray=>[ts n]) hja
  have hmx:max j (j+1)=j+1:=by omega
  have ht:(ws.take j).length=j:=by rw[Uak];omega
  have htl:((ws.take j).map (JA sig)).length=j:=by rw[Uab];exact ht
  have st:rI ((ws.take j).map (JA sig))++[[tv (JA sig ws[j])]]=rI ((ws.take (j+1)).map (JA sig)):=by rw[Uah hja,Uaz,WU];rfl
  simp only[e1,p1,ga,hja,Uab,List.length_cons,Zb,seval,Za,men]
  refine Zi (ZuA sig ws[j] hn) ?_
  simp only[ht,htl,hmx,st,Uab,Zb,seval,Za,men]
  exact⟨by omega,by rw[Zl];omega,ZC () hja rfl trivial⟩
 ·have hj1:j=ws.length:=by omega
  subst hj1
  rw[UaC]
  simp only[Uab,Zb,seval,Za,men]
  try rfl
theorem W2{s:ByteArray}:(JD s).length=s.size:=by unfold JD;rw[Uab,Z3]
theorem Za4{s:ByteArray}:(Yi s).length=s.size:=by unfold Yi;rw[Uab,Z3]
theorem Zvh{s:ByteArray}{j:Nat}(h:j<(bl s).length):rI ((JD s).take j)++[[tv (Xf (bl s)[j])]]=rI ((JD s).take (j+1)):=by
 rw[Uah (by unfold JD;rw[Uab];exact h),WU]
 congr 1
 unfold JD
 rw[List.getElem_map]
 rfl
theorem Zvi{s:ByteArray}{j:Nat}(h:j<(bl s).length):rI ((Yi s).take j)++[[tv (((bl s)[j].toNat:Int)-48)]]=rI ((Yi s).take (j+1)):=by
 rw[Uah (by unfold Yi;rw[Uab];exact h),WU]
 congr 1
 unfold Yi
 rw[List.getElem_map]
 rfl
theorem Zim(s:ByteArray)(hs:s.size<=2000000)(lvl:Nat)(S:Zc):Sem UbY Zao lvl [iS s] S (.ow 1 (rI (JD s)) true) S:=by
 refine ZA Ztc trivial ?_
 simp only[ZgB,Zb,seval,Za,men]
 refine Z7 (α:=Unit) s.size (fun j _=>[(3,.hd (lvl,160) [] 0 j none j),(4,iI j)]) (fun j _=>[(160,.ar 1 (rI ((JD s).take j)) true j 0)]) (fun _ _=>True) () (by simp only[Zb,seval,Za,men]) (by (simp only[Zb,seval,Za,men]) <;> rfl) trivial ?_
 intro j _ hj _
 simp only[Zb,seval,Za,men]
 refine Zu (fun hlt=>?_) (fun hge=>?_)
 ·have hja:j<s.size:=by omega
  have hjl:j<(bl s).length:=by rw[Z3];exact hja
  obtain⟨c,hc⟩:∃ c,c=(bl s)[j]:=⟨_,rfl⟩
  have gb:s.data.toList[j]? = some c:=by rw[hc];exact Uaf hjl
  have hmx:max j (j+1)=j+1:=by omega
  have ht:((JD s).take j).length=j:=by rw[Uak,W2];omega
  have st:=Zvh hjl
  rw[<-hc] at st
  by_cases c1:48<=c.toNat
  ·have e1:=eq_true (show (48:Int)<=(c.toNat:Int) by omega)
   by_cases c2:c.toNat<=57
   ·have e2:=eq_true (show (c.toNat:Int)<=57 by omega)
    have hd:Xf c=(c.toNat:Int)-48:=if_pos ⟨c1,c2⟩
    have hw:IntKind.u8.wrap ((c.toNat:Int)-48)=(c.toNat:Int)-48:=by
     rw[Vn (by constructor <;> simp [IntKind.min,IntKind.max,IntKind.signed,IntKind.bits] <;> omega)]
    rw[hd] at st
    simp only[gb,e1,e2,hw,ht,hmx,st,Uab,Int.toNat_natCast,Zb,seval,Za,men]
    exact⟨by rw[Zl];omega,by omega,by rw[Zl];omega,ZC () hja rfl trivial⟩
   ·have e2:=eq_false (show ¬ (c.toNat:Int)<=57 by omega)
    have hd:Xf c = -1:=if_neg fun g=>c2 g.2
    rw[hd] at st
    simp only[gb,e1,e2,ht,hmx,st,Uab,Int.toNat_natCast,Zb,seval,Za,men]
    exact⟨by omega,by rw[Zl];omega,ZC () hja rfl trivial⟩
  ·have e1:=eq_false (show ¬ (48:Int)<=(c.toNat:Int) by omega)
   have hd:Xf c = -1:=if_neg fun g=>c1 g.1
   rw[hd] at st
   simp only[gb,e1,ht,hmx,st,Uab,Int.toNat_natCast,Zb,seval,Za,men]
   exact⟨by omega,by rw[Zl];omega,ZC () hja rfl trivial⟩
 ·have hj1:j=s.size:=by omega
  subst hj1
  have ht:(JD s).take s.size=JD s:=Uas (by rw[W2];exact Uag _)
  rw[ht]
  have hl:=W2 (s:=s)
  simp only[hl,Uab,Zb,seval,Za,men]
  try rfl
abbrev eR(l:List Int):List Tr:=[Tr.sl (rI l)]
theorem Zvj{s:ByteArray}{i:Nat}(h:i<(bl s).length):(Vx s)[i]? = some [Tr.v (.int .u8 (((bl s)[i]).toNat:Int))]:=by
 unfold Vx
 rw[Uax]
 show Option.map _ (bl s)[i]? = _
 rw[Uaf h]
 rfl
theorem Zvk{s:ByteArray}:(Vx s).length=s.size:=by
 unfold Vx
 rw[Uab]
 exact Z3 s
set_option maxHeartbeats 4000000 in
theorem Zin(sig:List TControl)(s:ByteArray)(hn:sig.length<=4294967296)(hbs:∀ y∈sig,JU 4294967296 y)(hs:s.size<=1048576)(lvl:Nat)(S:Zc):Sem UbY Zaj lvl [.tr (.sl (sig.map Zp)),iS s] S (.tu [Jm (Yk sig s),iB (Za3 sig s)]) S:=by
 refine ZA Zs6 (by simp [Jm,low,men,Za]) ?_
 have hl:=Zve (s:=s) (sep:=SEMI) (by decide)
 have hz:=Zvd (s:=s) (sep:=SEMI)
 have hbs2:∀ y∈sig,JU 9223372036854775807 y:=fun y hy=>UaV (hbs y hy) (by omega)
 have hw:∀ t,VN sig s t->J6 s SEMI=Yt sig t:=fun t ht=>by rw[<-ht.2];exact Zu9 ht.1
 simp only[Zgv,Uab,Zb,↓reduceIte,Nat.reduceEqDiff,Nat.reduceMul,reduceCtorEq,Nat.reduceAdd,Nat.reduceSub,Nat.reduceLeDiff,Nat.reduceLT,Int.reduceToNat,Int.reduceLE,Int.reduceLT,Za,men]
 refine Zi (Zuq s SEMI (by omega) (by decide)) ?_
 generalize J6 s SEMI=P at hl hz hw
 simp only[Uab,Zb,↓reduceIte,Nat.reduceEqDiff,Nat.reduceMul,reduceCtorEq,Nat.reduceAdd,Nat.reduceSub,Nat.reduceLeDiff,Nat.reduceLT,Int.reduceToNat,Int.reduceLE,Int.reduceLT,Za,men]
 refine Zi (Zhn sig (by omega) hbs2) ?_
 by_cases hsg:JC sig
 rotate_left
 ·obtain⟨v1,v2⟩:=QI (sig:=sig) (s:=s) fun t ht=>hsg ht.1.sg
  rw[v1,v2,ZT hsg]
  simp only[Jm,Yj,zfill,zobs,Jk,Jl,List.set_cons_zero,List.set_cons_succ,UaT,Zb,↓reduceIte,Nat.reduceEqDiff,Nat.reduceMul,reduceCtorEq,Nat.reduceAdd,Nat.reduceSub,Nat.reduceLeDiff,Nat.reduceLT,Int.reduceToNat,Int.reduceLE,Int.reduceLT,Za,men]
  try rfl
 rw[Yg hsg]
 have hn6:=hsg.2.2
 by_cases h3:P.length=sig.length+3
 rotate_left
 ·obtain⟨v1,v2⟩:=QI (sig:=sig) (s:=s) fun t ht=>h3 (by rw[hw t ht];simp [Yt,YS])
  rw[v1,v2]
  have e3:=eq_false (show ¬ (P.length:Int)=(sig.length:Int)+3 by omega)
  simp only[e3,ne_eq,not_false_eq_true,Jm,Yj,zfill,zobs,Jk,Jl,List.set_cons_zero,List.set_cons_succ,Uab,UaT,Zb,↓reduceIte,Nat.reduceEqDiff,Nat.reduceMul,reduceCtorEq,Nat.reduceAdd,Nat.reduceSub,Nat.reduceLeDiff,Nat.reduceLT,Int.reduceToNat,Int.reduceLE,Int.reduceLT,Za,men]
  first | rfl | (rw[Zl];omega)
 have e3:=eq_true (show (P.length:Int)=(sig.length:Int)+3 by omega)
 obtain⟨p0,Q,a,b,rfl⟩:=Zij (P:=P) (by omega)
 have hQ:Q.length=sig.length:=by simp at h3;omega
 obtain⟨R,hR⟩:∃ R,R=Q++[a,b]:=⟨_,rfl⟩
 have hRl:R.length=Q.length+2:=by rw[hR];simp
 have hrt:∀ t,VN sig s t->XK Jp Yi QG sig p0 Q a b=t:=fun t ht=>(Zif ZdG (fun l h=>Zu0 h) (fun p h=>Zu4 h) ht (hw t ht).symm).1
 rw[<-hR] at hl hz e3 ⊢
 simp only[List.length_cons] at hl e3
 have z0:=hz p0 (by simp)
 have za:=hz a (by rw[hR];simp)
 have zb:=hz b (by rw[hR];simp)
 have hzQ:∀ q∈Q,q.size<=s.size:=fun q hq=>hz q (by rw[hR];simp [hq])
 have l0:=VJ (s:=p0)
 have la:=VJ (s:=a)
 have lb:=VJ (s:=b)
 have hun2:∀ x:ByteArray,Zs 1 ([ts (J7 x)]::List.map (fun n=>[ts n]) (ZL x)):=fun x=>Zce (fun n:ByteArray=>[ts n]) (fun _=>rfl) (J7 x::ZL x)
 have hct:∀ x:ByteArray,cut ([ts (J7 x)]::List.map (fun n=>[ts n]) (ZL x)) 1 ((ZL x).length+1-1)=rS (ZL x):=fun x=>ZuH (by omega)
 have hun:Zs 1 ([ts p0]::List.map (fun n=>[ts n]) R):=Zce (fun n:ByteArray=>[ts n]) (fun _=>rfl) (p0::R)
 simp only[e3,ne_eq,not_true_eq_false,zfill,zobs,Jk,Jl,List.set_cons_zero,List.set_cons_succ,Uab,List.length_cons,Zb,↓reduceIte,Nat.reduceEqDiff,Nat.reduceMul,reduceCtorEq,Nat.reduceAdd,Nat.reduceSub,Nat.reduceLeDiff,Nat.reduceLT,Int.reduceToNat,Int.reduceLE,Int.reduceLT,Za,men]
 refine⟨by rw[Zl];omega,Zi (ZaP p0 32 (by omega)) ?_⟩
 rw[V8]
 simp only[zfill,zobs,Jk,Jl,List.set_cons_zero,List.set_cons_succ,Uab,List.length_cons,Zb,↓reduceIte,Nat.reduceEqDiff,Nat.reduceMul,reduceCtorEq,Nat.reduceAdd,Nat.reduceSub,Nat.reduceLeDiff,Nat.reduceLT,Int.reduceToNat,Int.reduceLE,Int.reduceLT,Za,men]
 rw[hct]
 refine⟨fun _=>hun2 p0,Zi (Zik sig (ZL p0) hn (by omega)) ?_⟩
 have e40:(1+(sig.length:Int)).toNat=Q.length+1:=by omega
 have e41:(0:Int)<=1+(sig.length:Int):=by omega
 have hcq:cut ([ts p0]::List.map (fun n=>[ts n]) R) 1 (Q.length+1-1)=rS Q:=by
  show List.take (Q.length+1-1) (List.drop 1 ([ts p0]::List.map (fun n=>[ts n]) R))=_
  rw[UbV,Ubi,UbX,<-List.map_take,hR,List.take_left]
 simp only[zfill,zobs,Jk,Jl,List.set_cons_zero,List.set_cons_succ,Uab,List.length_cons,Zb,↓reduceIte,Nat.reduceEqDiff,Nat.reduceMul,reduceCtorEq,Nat.reduceAdd,Nat.reduceSub,Nat.reduceLeDiff,Nat.reduceLT,Int.reduceToNat,Int.reduceLE,Int.reduceLT,Za,men]
 rw[e40,hcq]
 refine⟨by rw[Zl];omega,fun _=>hun,e41,by omega,by omega,?_⟩
 refine Z7 (α:=Unit) Q.length (fun j _=>[(54,iI j)]) (fun j _=>[(224,.bx [.hd (lvl,1472) [] 0 (ZL p0).length none (ZL p0).length,.hd (lvl,1504) [] 0 j none j,.hd (lvl,1505) [] 0 j none j,.cs [],.hd (lvl,1506) [] 0 0 none 0]),(1504,.ar 1 (((Q.take j).map (YG sig)).map eR) true j 0),(1505,.ar 1 (((Q.take j).map (Vj Yi)).map eR) true j 0)]) (fun _ _=>True) () (by simp only[Zb,↓reduceIte,Nat.reduceEqDiff,Nat.reduceMul,reduceCtorEq,Nat.reduceAdd,Nat.reduceSub,Nat.reduceLeDiff,Nat.reduceLT,Int.reduceToNat,Int.reduceLE,Int.reduceLT,Za,men]) (by (simp only[Zb,↓reduceIte,Nat.reduceEqDiff,Nat.reduceMul,reduceCtorEq,Nat.reduceAdd,Nat.reduceSub,Nat.reduceLeDiff,Nat.reduceLT,Int.reduceToNat,Int.reduceLE,Int.reduceLT,Za,men]) <;> rfl) trivial ?_
 intro j _ hj _
 simp only[Uab,Zb,↓reduceIte,Nat.reduceEqDiff,Nat.reduceMul,reduceCtorEq,Nat.reduceAdd,Nat.reduceSub,Nat.reduceLeDiff,Nat.reduceLT,Int.reduceToNat,Int.reduceLE,Int.reduceLT,Za,men]
 refine Zu (fun hlt=>?_) (fun hge=>?_)
 ·have hja:j<Q.length:=by omega
  have gq:=Jn (c:=fun n:ByteArray=>[ts n]) hja
  have zq:=hzQ _ (Ual hja)
  have y1:=ZdC (s:=Q[j])
  have y2:=(ZaU (s:=J7 Q[j]) (sep:=Vv 58)).2
  have y3:=VJ (s:=Q[j])
  simp only[gq,Uab,Zb,↓reduceIte,Nat.reduceEqDiff,Nat.reduceMul,reduceCtorEq,Nat.reduceAdd,Nat.reduceSub,Nat.reduceLeDiff,Nat.reduceLT,Int.reduceToNat,Int.reduceLE,Int.reduceLT,Za,men]
  refine Zi (ZaP Q[j] 32 (by omega)) ?_
  rw[V8]
  simp only[Uab,List.length_cons,Zb,↓reduceIte,Nat.reduceEqDiff,Nat.reduceMul,reduceCtorEq,Nat.reduceAdd,Nat.reduceSub,Nat.reduceLeDiff,Nat.reduceLT,Int.reduceToNat,Int.reduceLE,Int.reduceLT,Za,men]
  refine Zi (ZhM (J7 Q[j]) (Vv 58) (by omega)) ?_
  obtain⟨pt,hpt⟩:∃ pt,pt=(JW (J7 Q[j]) (Vv 58)).2:=⟨_,rfl⟩
  rw[<-hpt] at y2 ⊢
  have bl1:=Zvk (s:=pt)
  simp only[bl1,Uab,Zb,↓reduceIte,Nat.reduceEqDiff,Nat.reduceMul,reduceCtorEq,Nat.reduceAdd,Nat.reduceSub,Nat.reduceLeDiff,Nat.reduceLT,Int.reduceToNat,Int.reduceLE,Int.reduceLT,Za,men]
  refine Z7 (α:=Unit) pt.size (fun i _=>[(14,.hd (lvl,2176) [] 0 i none i),(72,iI i)]) (fun i _=>[(2176,.ar 1 (rI ((Yi pt).take i)) true i 0)]) (fun _ _=>True) () (by simp only[Zb,↓reduceIte,Nat.reduceEqDiff,Nat.reduceMul,reduceCtorEq,Nat.reduceAdd,Nat.reduceSub,Nat.reduceLeDiff,Nat.reduceLT,Int.reduceToNat,Int.reduceLE,Int.reduceLT,Za,men]) (by (simp only[Zb,↓reduceIte,Nat.reduceEqDiff,Nat.reduceMul,reduceCtorEq,Nat.reduceAdd,Nat.reduceSub,Nat.reduceLeDiff,Nat.reduceLT,Int.reduceToNat,Int.reduceLE,Int.reduceLT,Za,men]) <;> rfl) trivial ?_
  intro i _ hi _
  simp only[bl1,Uab,Zb,↓reduceIte,Nat.reduceEqDiff,Nat.reduceMul,reduceCtorEq,Nat.reduceAdd,Nat.reduceSub,Nat.reduceLeDiff,Nat.reduceLT,Int.reduceToNat,Int.reduceLE,Int.reduceLT,Za,men]
  refine Zu (fun hlt2=>?_) (fun hge2=>?_)
  ·have hia:i<pt.size:=by omega
   have hil:i<(bl pt).length:=by rw[Z3];exact hia
   have gb:=Zvj hil
   have hmx:max i (i+1)=i+1:=by omega
   have ht:((Yi pt).take i).length=i:=by rw[Uak,Za4];omega
   have st:=Zvi hil
   have hu:(bl pt)[i].toNat<256:=(bl pt)[i].toNat_lt
   simp only[gb,ht,hmx,st,Uab,Zb,↓reduceIte,Nat.reduceEqDiff,Nat.reduceMul,reduceCtorEq,Nat.reduceAdd,Nat.reduceSub,Nat.reduceLeDiff,Nat.reduceLT,Int.reduceToNat,Int.reduceLE,Int.reduceLT,Za,men]
   exact⟨by rw[Zl];omega,by rw[Zl];omega,by omega,by rw[Zl];omega,ZC () hia rfl trivial⟩
  ·have hi1:i=pt.size:=by omega
   subst hi1
   rw[show (Yi pt).take pt.size=Yi pt from Uas (by rw[Za4];exact Uag _)]
   have hmx:max j (j+1)=j+1:=by omega
   have htq:(Q.take j).length=j:=by rw[Uak];omega
   have hpl:=Za4 (s:=pt)
   have st1:((Q.take j).map (YG sig)).map eR++[[Tr.sl (rI ((ZL Q[j]).map (JA sig)))]]=((Q.take (j+1)).map (YG sig)).map eR:=by
    rw[Uah hja,Uaz,Uaz]
    rfl
   have st2:((Q.take j).map (Vj Yi)).map eR++[[Tr.sl (rI (Yi pt))]]=((Q.take (j+1)).map (Vj Yi)).map eR:=by
    rw[Uah hja,Uaz,Uaz,hpt]
    rfl
   rw[hct]
   refine⟨fun _=>hun2 _,Zi (Zik sig (ZL Q[j]) hn (by omega)) ?_⟩
   simp only[htq,hmx,hpl,st1,st2,zfill,zobs,Jk,Jl,List.set_cons_zero,List.set_cons_succ,Uab,Zb,↓reduceIte,Nat.reduceEqDiff,Nat.reduceMul,reduceCtorEq,Nat.reduceAdd,Nat.reduceSub,Nat.reduceLeDiff,Nat.reduceLT,Int.reduceToNat,Int.reduceLE,Int.reduceLT,Za,men]
   exact⟨by omega,by omega,by rw[Zl];omega,ZC () hja rfl trivial⟩
 ·have hj1:j=Q.length:=by omega
  subst hj1
  rw[show Q.take Q.length=Q from UaC]
  have gk:∀ k x,[a,b][k]? = some x->(List.map (fun n:ByteArray=>[ts n]) R)[Q.length+k]? = some [ts x]:=fun k x h=>by
   rw[Uax,hR,Uao (by omega),UaY,h];rfl
  have ga:=gk 0 a rfl
  have gb:=gk 1 b rfl
  rw[Nat.add_zero] at ga
  have i1:((sig.length:Int)+1).toNat=Q.length+1:=by omega
  have i2:((sig.length:Int)+2).toNat=Q.length+2:=by omega
  have q1:(0:Int)<=(sig.length:Int)+1:=by omega
  have q2:(0:Int)<=(sig.length:Int)+2:=by omega
  have a0:=ZaT (s:=a)
  have b0:=ZaT (s:=b)
  have hnl:=Zdz (rd:=Jp) (ws:=ZL a)
  simp only[ga,i1,q1,Uab,List.length_cons,Zb,↓reduceIte,Nat.reduceEqDiff,Nat.reduceMul,reduceCtorEq,Nat.reduceAdd,Nat.reduceSub,Nat.reduceLeDiff,Nat.reduceLT,Int.reduceToNat,Int.reduceLE,Int.reduceLT,Za,men]
  refine⟨by rw[Zl];omega,Zi (ZaP a 32 (by omega)) ?_⟩
  rw[V8]
  simp only[zfill,zobs,Jk,Jl,List.set_cons_zero,List.set_cons_succ,Uab,List.length_cons,Zb,↓reduceIte,Nat.reduceEqDiff,Nat.reduceMul,reduceCtorEq,Nat.reduceAdd,Nat.reduceSub,Nat.reduceLeDiff,Nat.reduceLT,Int.reduceToNat,Int.reduceLE,Int.reduceLT,Za,men]
  rw[hct]
  refine⟨fun _=>hun2 a,Zi (ZuB (ZL a) (fun w hw=>by have:=a0 w hw;omega) (by omega)) ?_⟩
  simp only[gb,i2,q2,zfill,zobs,Jk,Jl,List.set_cons_zero,List.set_cons_succ,Uab,List.length_cons,Zb,↓reduceIte,Nat.reduceEqDiff,Nat.reduceMul,reduceCtorEq,Nat.reduceAdd,Nat.reduceSub,Nat.reduceLeDiff,Nat.reduceLT,Int.reduceToNat,Int.reduceLE,Int.reduceLT,Za,men]
  refine⟨by rw[Zl];omega,Zi (ZaP b 32 (by omega)) ?_⟩
  rw[V8]
  simp only[zfill,zobs,Jk,Jl,List.set_cons_zero,List.set_cons_succ,Uab,List.length_cons,Zb,↓reduceIte,Nat.reduceEqDiff,Nat.reduceMul,reduceCtorEq,Nat.reduceAdd,Nat.reduceSub,Nat.reduceLeDiff,Nat.reduceLT,Int.reduceToNat,Int.reduceLE,Int.reduceLT,Za,men]
  rw[hct]
  refine⟨fun _=>hun2 b,?_⟩
  obtain⟨W,hW⟩:∃ W,W=ZL b:=⟨_,rfl⟩
  rw[<-hW] at lb b0 ⊢
  simp only[Uab,Zb,↓reduceIte,Nat.reduceEqDiff,Nat.reduceMul,reduceCtorEq,Nat.reduceAdd,Nat.reduceSub,Nat.reduceLeDiff,Nat.reduceLT,Int.reduceToNat,Int.reduceLE,Int.reduceLT,Za,men]
  refine Z7 (α:=Unit) W.length (fun i _=>[(121,iI i)]) (fun i _=>[(224,.bx [.hd (lvl,1472) [] 0 (ZL p0).length none (ZL p0).length,.hd (lvl,1504) [] 0 Q.length none Q.length,.hd (lvl,1505) [] 0 Q.length none Q.length,.hd (lvl,3456) [] 0 (JX Jp (ZL a)).length none (JX Jp (ZL a)).length,.hd (lvl,1506) [] 0 i none i]),(1506,.ar 2 (((W.take i).map QG).map ZE) true i 0)]) (fun _ _=>True) () (by simp only[Zb,↓reduceIte,Nat.reduceEqDiff,Nat.reduceMul,reduceCtorEq,Nat.reduceAdd,Nat.reduceSub,Nat.reduceLeDiff,Nat.reduceLT,Int.reduceToNat,Int.reduceLE,Int.reduceLT,Za,men]) (by (simp only[Zb,↓reduceIte,Nat.reduceEqDiff,Nat.reduceMul,reduceCtorEq,Nat.reduceAdd,Nat.reduceSub,Nat.reduceLeDiff,Nat.reduceLT,Int.reduceToNat,Int.reduceLE,Int.reduceLT,Za,men]) <;> rfl) trivial ?_
  intro i _ hi _
  simp only[Uab,Zb,↓reduceIte,Nat.reduceEqDiff,Nat.reduceMul,reduceCtorEq,Nat.reduceAdd,Nat.reduceSub,Nat.reduceLeDiff,Nat.reduceLT,Int.reduceToNat,Int.reduceLE,Int.reduceLT,Za,men]
  refine Zu (fun hlt2=>?_) (fun hge2=>?_)
  ·have hia:i<W.length:=by omega
   have gw:=Jn (c:=fun n:ByteArray=>[ts n]) hia
   have zw:=b0 _ (Ual hia)
   have zc:=ZaU (s:=W[i]) (sep:=DASH)
   have hmx:max i (i+1)=i+1:=by omega
   have htw:(W.take i).length=i:=by rw[Uak];omega
   have st1:((W.take i).map QG).map ZE++[[Tr.v (Value.int .i64 ((Jp (JW W[i] DASH).1).getD 0)),Tr.v (Value.int .i64 ((Jp (JW W[i] DASH).2).getD 0))]]=((W.take (i+1)).map QG).map ZE:=by
    rw[Uah hia,Uaz,Uaz]
    rfl
   simp only[gw,Uab,Zb,↓reduceIte,Nat.reduceEqDiff,Nat.reduceMul,reduceCtorEq,Nat.reduceAdd,Nat.reduceSub,Nat.reduceLeDiff,Nat.reduceLT,Int.reduceToNat,Int.reduceLE,Int.reduceLT,Za,men]
   refine Zi (ZhM W[i] DASH (by omega)) ?_
   simp only[Uab,Zb,↓reduceIte,Nat.reduceEqDiff,Nat.reduceMul,reduceCtorEq,Nat.reduceAdd,Nat.reduceSub,Nat.reduceLeDiff,Nat.reduceLT,Int.reduceToNat,Int.reduceLE,Int.reduceLT,Za,men]
   refine Zi (Zdy (JW W[i] DASH).1 (by omega)) ?_
   simp only[Uab,Zb,↓reduceIte,Nat.reduceEqDiff,Nat.reduceMul,reduceCtorEq,Nat.reduceAdd,Nat.reduceSub,Nat.reduceLeDiff,Nat.reduceLT,Int.reduceToNat,Int.reduceLE,Int.reduceLT,Za,men]
   refine Zi (Zdy (JW W[i] DASH).2 (by omega)) ?_
   simp only[htw,hmx,st1,zfill,zobs,Jk,Jl,List.set_cons_zero,List.set_cons_succ,Uab,Zb,↓reduceIte,Nat.reduceEqDiff,Nat.reduceMul,reduceCtorEq,Nat.reduceAdd,Nat.reduceSub,Nat.reduceLeDiff,Nat.reduceLT,Int.reduceToNat,Int.reduceLE,Int.reduceLT,Za,men]
   exact⟨by omega,by rw[Zl];omega,ZC () hia rfl trivial⟩
  ·have hi1:i=W.length:=by omega
   subst hi1
   rw[show W.take W.length=W from UaC]
   have hcs:∀ l:List Int,cut (rI l) 0 l.length=rI l:=fun l=>Xc (by rw[Uab])
   have hcr:∀ f:ByteArray->List Int,cut ((Q.map f).map eR) 0 Q.length=(Q.map f).map eR:=fun f=>Xc (by rw[Uab,Uab])
   have hcp:cut ((W.map QG).map ZE) 0 W.length=(W.map QG).map ZE:=Xc (by rw[Uab,Uab])
   have hct0:cut (rI ((ZL p0).map (JA sig))) 0 (ZL p0).length=rI ((ZL p0).map (JA sig)):=Xc (by rw[Uab,Uab])
   obtain⟨V,hV⟩:∃ V,V=XK Jp Yi QG sig p0 Q a b:=⟨_,rfl⟩
   have v1:V.tops=(ZL p0).map (JA sig):=by rw[hV];rfl
   have v2:V.nest=Q.map (YG sig):=by rw[hV];rfl
   have v3:V.sorts=Q.map (Vj Yi):=by rw[hV];rfl
   have v4:V.most=JX Jp (ZL a):=by rw[hV];rfl
   have v5:V.apart=W.map QG:=by rw[hV,hW];rfl
   rw[<-hV] at hrt
   have hbd:YC 4294967296 V:=by
    rw[hV]
    exact Zih (fun s=>Za4) (by omega) (by omega) (fun q hq=>by have:=hzQ q hq;omega) (by omega) (by omega)
   have qB:=Zud sig V hn hbs hbd
   have qT:=fun h=>ZuV sig V h
   simp only[Zw,v1,v2,v3,v4,v5,UaH,UaT] at qB qT
   simp only[hcs,hcr,hcp,hct0,zfill,zobs,Jk,Jl,List.set_cons_zero,List.set_cons_succ,Uab,Zb,↓reduceIte,Nat.reduceEqDiff,Nat.reduceMul,reduceCtorEq,Nat.reduceAdd,Nat.reduceSub,Nat.reduceLeDiff,Nat.reduceLT,Int.reduceToNat,Int.reduceLE,Int.reduceLT,Za,men]
   refine Zi qB ?_
   by_cases hB:sortOK sig V
   rotate_left
   ·obtain⟨w1,w2⟩:=QI (sig:=sig) (s:=s) fun t ht=>hB (by rw[hrt t ht];exact ht.1)
    rw[w1,w2,ZT hB]
    simp only[Jm,Yj,zfill,zobs,Jk,Jl,List.set_cons_zero,List.set_cons_succ,Uab,UaT,Zb,↓reduceIte,Nat.reduceEqDiff,Nat.reduceMul,reduceCtorEq,Nat.reduceAdd,Nat.reduceSub,Nat.reduceLeDiff,Nat.reduceLT,Int.reduceToNat,Int.reduceLE,Int.reduceLT,Za,men]
    try rfl
   rw[Yg hB]
   simp only[hcs,hcr,hcp,hct0,zfill,zobs,Jk,Jl,List.set_cons_zero,List.set_cons_succ,Uab,Zb,↓reduceIte,Nat.reduceEqDiff,Nat.reduceMul,reduceCtorEq,Nat.reduceAdd,Nat.reduceSub,Nat.reduceLeDiff,Nat.reduceLT,Int.reduceToNat,Int.reduceLE,Int.reduceLT,Za,men]
   refine Zi (qT hB) ?_
   by_cases hT:Vh sig V=s
   rotate_left
   ·have eT:=eq_false hT
    obtain⟨w1,w2⟩:=QI (sig:=sig) (s:=s) fun t ht=>hT (by rw[hrt t ht];exact ht.2)
    rw[w1,w2]
    simp only[eT,ne_eq,not_false_eq_true,Jm,Yj,zfill,zobs,Jk,Jl,List.set_cons_zero,List.set_cons_succ,Uab,UaT,Zb,↓reduceIte,Nat.reduceEqDiff,Nat.reduceMul,reduceCtorEq,Nat.reduceAdd,Nat.reduceSub,Nat.reduceLeDiff,Nat.reduceLT,Int.reduceToNat,Int.reduceLE,Int.reduceLT,Za,men]
    try rfl
   have eT:=eq_true hT
   obtain⟨w1,w2⟩:=Zig (sig:=sig) (s:=s) ⟨hB,hT⟩ hrt
   rw[w1,w2]
   simp only[eT,ne_eq,not_true_eq_false,Jm,v1,v2,v3,v4,v5,hcs,hcr,hcp,hct0,zfill,zobs,Jk,Jl,List.set_cons_zero,List.set_cons_succ,Uab,Zb,↓reduceIte,Nat.reduceEqDiff,Nat.reduceMul,reduceCtorEq,Nat.reduceAdd,Nat.reduceSub,Nat.reduceLeDiff,Nat.reduceLT,Int.reduceToNat,Int.reduceLE,Int.reduceLT,Za,men]
   try rfl
set_option maxHeartbeats 4000000 in
theorem Zvl(sig:List TControl)(s:ByteArray)(hn:sig.length<=4294967296)(hbs:∀ y∈sig,JU 4294967296 y)(hs:s.size<=1048576)(lvl:Nat)(S:Zc):Sem UbY Zcv lvl [.tr (.sl (sig.map Zp)),iS s] S (.tu [Jm (Yk sig s),iB (Za3 sig s)]) S:=by
 refine ZA Zs5 (by simp [Jm,low,men,Za]) ?_
 have hl:=Zvf (s:=s)
 have hz:=Zvg (s:=s)
 have hbs2:∀ y∈sig,JU 9223372036854775807 y:=fun y hy=>UaV (hbs y hy) (by omega)
 have hw:∀ t,VN sig s t->V9 s=Yt sig t:=fun t ht=>by rw[<-ht.2];exact Zvb ht.1
 simp only[Zgu,Uab,Zb,↓reduceIte,Nat.reduceEqDiff,Nat.reduceMul,reduceCtorEq,Nat.reduceAdd,Nat.reduceSub,Nat.reduceLeDiff,Nat.reduceLT,Int.reduceToNat,Int.reduceLE,Int.reduceLT,Za,men]
 refine Zi (ZuM s (by omega)) ?_
 generalize V9 s=P at hl hz hw
 simp only[Uab,Zb,↓reduceIte,Nat.reduceEqDiff,Nat.reduceMul,reduceCtorEq,Nat.reduceAdd,Nat.reduceSub,Nat.reduceLeDiff,Nat.reduceLT,Int.reduceToNat,Int.reduceLE,Int.reduceLT,Za,men]
 refine Zi (Zhm sig (by omega) hbs2) ?_
 by_cases hsg:JC sig
 rotate_left
 ·obtain⟨v1,v2⟩:=QI (sig:=sig) (s:=s) fun t ht=>hsg ht.1.sg
  rw[v1,v2,ZT hsg]
  simp only[Jm,Yj,zfill,zobs,Jk,Jl,List.set_cons_zero,List.set_cons_succ,UaT,Zb,↓reduceIte,Nat.reduceEqDiff,Nat.reduceMul,reduceCtorEq,Nat.reduceAdd,Nat.reduceSub,Nat.reduceLeDiff,Nat.reduceLT,Int.reduceToNat,Int.reduceLE,Int.reduceLT,Za,men]
  try rfl
 rw[Yg hsg]
 have hn6:=hsg.2.2
 by_cases h3:P.length=sig.length+3
 rotate_left
 ·obtain⟨v1,v2⟩:=QI (sig:=sig) (s:=s) fun t ht=>h3 (by rw[hw t ht];simp [Yt,YS])
  rw[v1,v2]
  have e3:=eq_false (show ¬ (P.length:Int)=(sig.length:Int)+3 by omega)
  simp only[e3,ne_eq,not_false_eq_true,Jm,Yj,zfill,zobs,Jk,Jl,List.set_cons_zero,List.set_cons_succ,Uab,UaT,Zb,↓reduceIte,Nat.reduceEqDiff,Nat.reduceMul,reduceCtorEq,Nat.reduceAdd,Nat.reduceSub,Nat.reduceLeDiff,Nat.reduceLT,Int.reduceToNat,Int.reduceLE,Int.reduceLT,Za,men]
  first | rfl | (rw[Zl];omega)
 have e3:=eq_true (show (P.length:Int)=(sig.length:Int)+3 by omega)
 obtain⟨p0,Q,a,b,rfl⟩:=Zij (P:=P) (by omega)
 have hQ:Q.length=sig.length:=by simp at h3;omega
 obtain⟨R,hR⟩:∃ R,R=Q++[a,b]:=⟨_,rfl⟩
 have hRl:R.length=Q.length+2:=by rw[hR];simp
 have hrt:∀ t,VN sig s t->XK ZK JD QH sig p0 Q a b=t/\YR ZK (ZL a)=true/\∀ w∈ZL b,w.size=3:=fun t ht=>Zif ZuO (fun l h=>Zu1 h) (fun p h=>Zu5 h) ht (hw t ht).symm
 rw[<-hR] at hl hz e3 ⊢
 simp only[List.length_cons] at hl e3
 have z0:=hz p0 (by simp)
 have za:=hz a (by rw[hR];simp)
 have zb:=hz b (by rw[hR];simp)
 have hzQ:∀ q∈Q,q.size<=s.size:=fun q hq=>hz q (by rw[hR];simp [hq])
 have l0:=VJ (s:=p0)
 have la:=VJ (s:=a)
 have lb:=VJ (s:=b)
 simp only[e3,ne_eq,not_true_eq_false,zfill,zobs,Jk,Jl,List.set_cons_zero,List.set_cons_succ,Uab,List.length_cons,Zb,↓reduceIte,Nat.reduceEqDiff,Nat.reduceMul,reduceCtorEq,Nat.reduceAdd,Nat.reduceSub,Nat.reduceLeDiff,Nat.reduceLT,Int.reduceToNat,Int.reduceLE,Int.reduceLT,Za,men]
 refine⟨by rw[Zl];omega,Zi (U1 p0 32 (by omega)) ?_⟩
 rw[V8]
 simp only[zfill,zobs,Jk,Jl,List.set_cons_zero,List.set_cons_succ,Uab,List.length_cons,Zb,↓reduceIte,Nat.reduceEqDiff,Nat.reduceMul,reduceCtorEq,Nat.reduceAdd,Nat.reduceSub,Nat.reduceLeDiff,Nat.reduceLT,Int.reduceToNat,Int.reduceLE,Int.reduceLT,Za,men]
 refine Zi (Zil sig (J7 p0) (ZL p0) hn (by omega)) ?_
 simp only[zfill,zobs,Jk,Jl,List.set_cons_zero,List.set_cons_succ,Uab,List.length_cons,Zb,↓reduceIte,Nat.reduceEqDiff,Nat.reduceMul,reduceCtorEq,Nat.reduceAdd,Nat.reduceSub,Nat.reduceLeDiff,Nat.reduceLT,Int.reduceToNat,Int.reduceLE,Int.reduceLT,Za,men]
 refine Z7 (α:=Unit) Q.length (fun j _=>[(8,iI j)]) (fun j _=>[(224,.bx [.hd (lvl,1152) [] 0 (ZL p0).length none (ZL p0).length,.hd (lvl,1184) [] 0 j none j,.hd (lvl,1185) [] 0 j none j,.cs [],.hd (lvl,1186) [] 0 0 none 0]),(1184,.ar 1 (((Q.take j).map (YG sig)).map eR) true j 0),(1185,.ar 1 (((Q.take j).map (Vj JD)).map eR) true j 0)]) (fun _ _=>True) () (by simp only[Zb,↓reduceIte,Nat.reduceEqDiff,Nat.reduceMul,reduceCtorEq,Nat.reduceAdd,Nat.reduceSub,Nat.reduceLeDiff,Nat.reduceLT,Int.reduceToNat,Int.reduceLE,Int.reduceLT,Za,men]) (by (simp only[Zb,↓reduceIte,Nat.reduceEqDiff,Nat.reduceMul,reduceCtorEq,Nat.reduceAdd,Nat.reduceSub,Nat.reduceLeDiff,Nat.reduceLT,Int.reduceToNat,Int.reduceLE,Int.reduceLT,Za,men]) <;> rfl) trivial ?_
 intro j _ hj _
 simp only[Uab,Zb,↓reduceIte,Nat.reduceEqDiff,Nat.reduceMul,reduceCtorEq,Nat.reduceAdd,Nat.reduceSub,Nat.reduceLeDiff,Nat.reduceLT,Int.reduceToNat,Int.reduceLE,Int.reduceLT,Za,men]
 refine Zu (fun hlt=>?_) (fun hge=>?_)
 ·have hja:j<Q.length:=by omega
  have gq:(List.map (fun n:ByteArray=>[ts n]) R)[j]? = some [ts Q[j]]:=by
   rw[Uax,hR,Uap hja,Uaf hja];rfl
  have f1:((j:Int)+1).toNat=j+1:=by omega
  have f2:(0:Int)<=(j:Int)+1:=by omega
  have zq:=hzQ _ (Ual hja)
  have y1:=ZdC (s:=Q[j])
  have y2:=(ZaU (s:=J7 Q[j]) (sep:=Vv 58)).2
  have y3:=VJ (s:=Q[j])
  simp only[gq,f1,f2,Uab,List.length_cons,Zb,↓reduceIte,Nat.reduceEqDiff,Nat.reduceMul,reduceCtorEq,Nat.reduceAdd,Nat.reduceSub,Nat.reduceLeDiff,Nat.reduceLT,Int.reduceToNat,Int.reduceLE,Int.reduceLT,Za,men]
  refine⟨by rw[Zl];omega,Zi (U1 Q[j] 32 (by omega)) ?_⟩
  rw[V8]
  simp only[Uab,List.length_cons,Zb,↓reduceIte,Nat.reduceEqDiff,Nat.reduceMul,reduceCtorEq,Nat.reduceAdd,Nat.reduceSub,Nat.reduceLeDiff,Nat.reduceLT,Int.reduceToNat,Int.reduceLE,Int.reduceLT,Za,men]
  refine Zi (Zuw (J7 Q[j]) 58 (by omega)) ?_
  obtain⟨pt,hpt⟩:∃ pt,pt=(JW (J7 Q[j]) (Vv 58)).2:=⟨_,rfl⟩
  rw[<-hpt] at y2 ⊢
  simp only[Uab,List.length_cons,Zb,↓reduceIte,Nat.reduceEqDiff,Nat.reduceMul,reduceCtorEq,Nat.reduceAdd,Nat.reduceSub,Nat.reduceLeDiff,Nat.reduceLT,Int.reduceToNat,Int.reduceLE,Int.reduceLT,Za,men]
  refine Zi (Zim pt (by omega)) ?_
  have hmx:max j (j+1)=j+1:=by omega
  have htq:(Q.take j).length=j:=by rw[Uak];omega
  have hpl:=W2 (s:=pt)
  have st1:((Q.take j).map (YG sig)).map eR++[[Tr.sl (rI ((ZL Q[j]).map (JA sig)))]]=((Q.take (j+1)).map (YG sig)).map eR:=by
   rw[Uah hja,Uaz,Uaz]
   rfl
  have st2:((Q.take j).map (Vj JD)).map eR++[[Tr.sl (rI (JD pt))]]=((Q.take (j+1)).map (Vj JD)).map eR:=by
   rw[Uah hja,Uaz,Uaz,hpt]
   rfl
  simp only[htq,hmx,hpl,st1,st2,zfill,zobs,Jk,Jl,List.set_cons_zero,List.set_cons_succ,Uab,List.length_cons,Zb,↓reduceIte,Nat.reduceEqDiff,Nat.reduceMul,reduceCtorEq,Nat.reduceAdd,Nat.reduceSub,Nat.reduceLeDiff,Nat.reduceLT,Int.reduceToNat,Int.reduceLE,Int.reduceLT,Za,men]
  refine⟨by omega,Zi (Zil sig (J7 Q[j]) (ZL Q[j]) hn (by omega)) ?_⟩
  simp only[htq,hmx,hpl,st1,st2,zfill,zobs,Jk,Jl,List.set_cons_zero,List.set_cons_succ,Uab,List.length_cons,Zb,↓reduceIte,Nat.reduceEqDiff,Nat.reduceMul,reduceCtorEq,Nat.reduceAdd,Nat.reduceSub,Nat.reduceLeDiff,Nat.reduceLT,Int.reduceToNat,Int.reduceLE,Int.reduceLT,Za,men]
  exact⟨by omega,by rw[Zl];omega,ZC () hja rfl trivial⟩
 ·have hj1:j=Q.length:=by omega
  subst hj1
  rw[show Q.take Q.length=Q from UaC]
  have gk:∀ k x,[a,b][k]? = some x->(List.map (fun n:ByteArray=>[ts n]) R)[Q.length+k]? = some [ts x]:=fun k x h=>by
   rw[Uax,hR,Uao (by omega),UaY,h];rfl
  have ga:=gk 0 a rfl
  have gb:=gk 1 b rfl
  rw[Nat.add_zero] at ga
  have i1:((sig.length:Int)+1).toNat=Q.length+1:=by omega
  have i2:((sig.length:Int)+2).toNat=Q.length+2:=by omega
  have q1:(0:Int)<=(sig.length:Int)+1:=by omega
  have q2:(0:Int)<=(sig.length:Int)+2:=by omega
  have a0:=ZaT (s:=a)
  have b0:=ZaT (s:=b)
  have hnl:=Zdz (rd:=ZK) (ws:=ZL a)
  simp only[ga,i1,q1,Uab,List.length_cons,Zb,↓reduceIte,Nat.reduceEqDiff,Nat.reduceMul,reduceCtorEq,Nat.reduceAdd,Nat.reduceSub,Nat.reduceLeDiff,Nat.reduceLT,Int.reduceToNat,Int.reduceLE,Int.reduceLT,Za,men]
  refine⟨by rw[Zl];omega,Zi (U1 a 32 (by omega)) ?_⟩
  rw[V8]
  simp only[zfill,zobs,Jk,Jl,List.set_cons_zero,List.set_cons_succ,Uab,List.length_cons,Zb,↓reduceIte,Nat.reduceEqDiff,Nat.reduceMul,reduceCtorEq,Nat.reduceAdd,Nat.reduceSub,Nat.reduceLeDiff,Nat.reduceLT,Int.reduceToNat,Int.reduceLE,Int.reduceLT,Za,men]
  refine Zi (ZuG (J7 a) (ZL a) (fun w hw=>by have:=a0 w hw;omega) (by omega)) ?_
  simp only[gb,i2,q2,zfill,zobs,Jk,Jl,List.set_cons_zero,List.set_cons_succ,Uab,List.length_cons,Zb,↓reduceIte,Nat.reduceEqDiff,Nat.reduceMul,reduceCtorEq,Nat.reduceAdd,Nat.reduceSub,Nat.reduceLeDiff,Nat.reduceLT,Int.reduceToNat,Int.reduceLE,Int.reduceLT,Za,men]
  refine⟨by rw[Zl];omega,Zi (U1 b 32 (by omega)) ?_⟩
  rw[V8]
  obtain⟨W,hW⟩:∃ W,W=ZL b:=⟨_,rfl⟩
  rw[<-hW] at lb b0 hrt ⊢
  simp only[zfill,zobs,Jk,Jl,List.set_cons_zero,List.set_cons_succ,Uab,List.length_cons,Zb,↓reduceIte,Nat.reduceEqDiff,Nat.reduceMul,reduceCtorEq,Nat.reduceAdd,Nat.reduceSub,Nat.reduceLeDiff,Nat.reduceLT,Int.reduceToNat,Int.reduceLE,Int.reduceLT,Za,men]
  refine Z7 (α:=Unit) W.length (fun i _=>[(15,iI ((i:Int)+1))]) (fun i _=>[(224,.bx [.hd (lvl,1152) [] 0 (ZL p0).length none (ZL p0).length,.hd (lvl,1184) [] 0 Q.length none Q.length,.hd (lvl,1185) [] 0 Q.length none Q.length,.hd (lvl,2560) [] 0 (JX ZK (ZL a)).length none (JX ZK (ZL a)).length,.hd (lvl,1186) [] 0 i none i]),(1186,.ar 2 (((W.take i).map QH).map ZE) true i 0)]) (fun i _=>∀ k (hk:k<W.length),k<i->W[k].size=3) () (by simp only[Zb,↓reduceIte,Nat.reduceEqDiff,Nat.reduceMul,reduceCtorEq,Nat.reduceAdd,Nat.reduceSub,Nat.reduceLeDiff,Nat.reduceLT,Int.reduceToNat,Int.reduceLE,Int.reduceLT,Za,men]) (by (simp only[Zb,↓reduceIte,Nat.reduceEqDiff,Nat.reduceMul,reduceCtorEq,Nat.reduceAdd,Nat.reduceSub,Nat.reduceLeDiff,Nat.reduceLT,Int.reduceToNat,Int.reduceLE,Int.reduceLT,Za,men]) <;> rfl) (fun k _ h=>absurd h (UaE k)) ?_
  intro i _ hi hA
  simp only[Uab,List.length_cons,Zb,↓reduceIte,Nat.reduceEqDiff,Nat.reduceMul,reduceCtorEq,Nat.reduceAdd,Nat.reduceSub,Nat.reduceLeDiff,Nat.reduceLT,Int.reduceToNat,Int.reduceLE,Int.reduceLT,Za,men]
  refine Zu (fun hlt2=>?_) (fun hge2=>?_)
  ·have hia:i<W.length:=by omega
   have gw:=Jn (c:=fun n:ByteArray=>[ts n]) hia
   have zw:=b0 _ (Ual hia)
   have k1:((i:Int)+1).toNat=i+1:=by omega
   have k2:(0:Int)<=(i:Int)+1:=by omega
   have hmx:max i (i+1)=i+1:=by omega
   have htw:(W.take i).length=i:=by rw[Uak];omega
   by_cases hs3:W[i].size=3
   rotate_left
   ·obtain⟨w1,w2⟩:=QI (sig:=sig) (s:=s) fun t ht=>hs3 ((hrt t ht).2.2 _ (Ual hia))
    have e5:=eq_false (show ¬ (W[i].size:Int)=3 by omega)
    rw[w1,w2]
    simp only[gw,k1,k2,e5,hia,ne_eq,not_false_eq_true,Jm,Yj,zfill,zobs,Jk,Jl,List.set_cons_zero,List.set_cons_succ,Uab,List.length_cons,UaT,Zb,↓reduceIte,Nat.reduceEqDiff,Nat.reduceMul,reduceCtorEq,Nat.reduceAdd,Nat.reduceSub,Nat.reduceLeDiff,Nat.reduceLT,Int.reduceToNat,Int.reduceLE,Int.reduceLT,Za,men]
    try rfl
   have e5:=eq_true (show (W[i].size:Int)=3 by omega)
   have hdl:=W2 (s:=W[i])
   have d0:=YP (l:=JD W[i]) (i:=0) (by omega)
   have d2:=YP (l:=JD W[i]) (i:=2) (by omega)
   have st1:((W.take i).map QH).map ZE++[[Tr.v (Value.int .i64 (g0 (JD W[i]) 0)),Tr.v (Value.int .i64 (g0 (JD W[i]) 2))]]=((W.take (i+1)).map QH).map ZE:=by
    rw[Uah hia,Uaz,Uaz]
    rfl
   simp only[gw,k1,k2,e5,hia,ne_eq,not_true_eq_false,Uab,List.length_cons,Zb,↓reduceIte,Nat.reduceEqDiff,Nat.reduceMul,reduceCtorEq,Nat.reduceAdd,Nat.reduceSub,Nat.reduceLeDiff,Nat.reduceLT,Int.reduceToNat,Int.reduceLE,Int.reduceLT,Za,men]
   refine Zi (Zim W[i] (by omega)) ?_
   simp only[d0,d2,htw,hmx,st1,zfill,zobs,Jk,Jl,List.set_cons_zero,List.set_cons_succ,Uab,List.length_cons,Zb,↓reduceIte,Nat.reduceEqDiff,Nat.reduceMul,reduceCtorEq,Nat.reduceAdd,Nat.reduceSub,Nat.reduceLeDiff,Nat.reduceLT,Int.reduceToNat,Int.reduceLE,Int.reduceLT,Za,men]
   exact⟨by omega,by rw[Zl];omega,ZC () hia rfl fun k hk hki=>by
    by_cases e:k=i
    ·subst e;exact hs3
    ·exact hA k hk (by omega)⟩
  ·have hi1:i=W.length:=by omega
   subst hi1
   rw[show W.take W.length=W from UaC]
   have hcs:∀ l:List Int,cut (rI l) 0 l.length=rI l:=fun l=>Xc (by rw[Uab])
   have hcr:∀ f:ByteArray->List Int,cut ((Q.map f).map eR) 0 Q.length=(Q.map f).map eR:=fun f=>Xc (by rw[Uab,Uab])
   have hcp:cut ((W.map QH).map ZE) 0 W.length=(W.map QH).map ZE:=Xc (by rw[Uab,Uab])
   have hct0:cut (rI ((ZL p0).map (JA sig))) 0 (ZL p0).length=rI ((ZL p0).map (JA sig)):=Xc (by rw[Uab,Uab])
   obtain⟨V,hV⟩:∃ V,V=XK ZK JD QH sig p0 Q a b:=⟨_,rfl⟩
   have v1:V.tops=(ZL p0).map (JA sig):=by rw[hV];rfl
   have v2:V.nest=Q.map (YG sig):=by rw[hV];rfl
   have v3:V.sorts=Q.map (Vj JD):=by rw[hV];rfl
   have v4:V.most=JX ZK (ZL a):=by rw[hV];rfl
   have v5:V.apart=W.map QH:=by rw[hV,hW];rfl
   rw[<-hV] at hrt
   have hbd:YC 4294967296 V:=by
    rw[hV]
    exact Zih (fun s=>W2) (by omega) (by omega) (fun q hq=>by have:=hzQ q hq;omega) (by omega) (by omega)
   have qB:=Zt9 sig V hn hbs hbd
   have qT:=fun h=>ZuY sig V h
   simp only[Zw,v1,v2,v3,v4,v5,UaH,UaT] at qB qT
   cases hno:YR ZK (ZL a)
   ·obtain⟨w1,w2⟩:=QI (sig:=sig) (s:=s) fun t ht=>by
     have:=(hrt t ht).2.1
     rw[hno] at this
     cases this
    rw[w1,w2]
    simp only[Jm,Yj,zfill,zobs,Jk,Jl,List.set_cons_zero,List.set_cons_succ,Uab,UaT,Zb,↓reduceIte,Nat.reduceEqDiff,Nat.reduceMul,reduceCtorEq,Nat.reduceAdd,Nat.reduceSub,Nat.reduceLeDiff,Nat.reduceLT,Int.reduceToNat,Int.reduceLE,Int.reduceLT,Za,men]
    try rfl
   simp only[hcs,hcr,hcp,hct0,zfill,zobs,Jk,Jl,List.set_cons_zero,List.set_cons_succ,Uab,Zb,↓reduceIte,Nat.reduceEqDiff,Nat.reduceMul,reduceCtorEq,Nat.reduceAdd,Nat.reduceSub,Nat.reduceLeDiff,Nat.reduceLT,Int.reduceToNat,Int.reduceLE,Int.reduceLT,Za,men]
   refine Zi qB ?_
   by_cases hB:sortOK sig V
   rotate_left
   ·obtain⟨w1,w2⟩:=QI (sig:=sig) (s:=s) fun t ht=>hB (by rw[(hrt t ht).1];exact ht.1)
    rw[w1,w2,ZT hB]
    simp only[Jm,Yj,zfill,zobs,Jk,Jl,List.set_cons_zero,List.set_cons_succ,Uab,UaT,Zb,↓reduceIte,Nat.reduceEqDiff,Nat.reduceMul,reduceCtorEq,Nat.reduceAdd,Nat.reduceSub,Nat.reduceLeDiff,Nat.reduceLT,Int.reduceToNat,Int.reduceLE,Int.reduceLT,Za,men]
    try rfl
   rw[Yg hB]
   simp only[hcs,hcr,hcp,hct0,zfill,zobs,Jk,Jl,List.set_cons_zero,List.set_cons_succ,Uab,Zb,↓reduceIte,Nat.reduceEqDiff,Nat.reduceMul,reduceCtorEq,Nat.reduceAdd,Nat.reduceSub,Nat.reduceLeDiff,Nat.reduceLT,Int.reduceToNat,Int.reduceLE,Int.reduceLT,Za,men]
   refine Zi (qT hB) ?_
   by_cases hT:Vh sig V=s
   rotate_left
   ·have eT:=eq_false hT
    obtain⟨w1,w2⟩:=QI (sig:=sig) (s:=s) fun t ht=>hT (by rw[(hrt t ht).1];exact ht.2)
    rw[w1,w2]
    simp only[eT,ne_eq,not_false_eq_true,Jm,Yj,zfill,zobs,Jk,Jl,List.set_cons_zero,List.set_cons_succ,Uab,UaT,Zb,↓reduceIte,Nat.reduceEqDiff,Nat.reduceMul,reduceCtorEq,Nat.reduceAdd,Nat.reduceSub,Nat.reduceLeDiff,Nat.reduceLT,Int.reduceToNat,Int.reduceLE,Int.reduceLT,Za,men]
    try rfl
   have eT:=eq_true hT
   obtain⟨w1,w2⟩:=Zig (sig:=sig) (s:=s) ⟨hB,hT⟩ fun t ht=>(hrt t ht).1
   rw[w1,w2]
   simp only[eT,ne_eq,not_true_eq_false,Jm,v1,v2,v3,v4,v5,hcs,hcr,hcp,hct0,zfill,zobs,Jk,Jl,List.set_cons_zero,List.set_cons_succ,Uab,Zb,↓reduceIte,Nat.reduceEqDiff,Nat.reduceMul,reduceCtorEq,Nat.reduceAdd,Nat.reduceSub,Nat.reduceLeDiff,Nat.reduceLT,Int.reduceToNat,Int.reduceLE,Int.reduceLT,Za,men]
   try rfl
end Go.Fd

namespace Go.Fd
open Go.Proofs.Tryz renaming prog->UbY
theorem U4{P:Program}{x:String×DataW Unit}{rest:List (String×DataW Unit)}{w:World}(h:laidMet P (x::rest) w):laidMet P rest w:=by
 obtain⟨n,d⟩:=x
 obtain⟨ps,⟨g,t,cs,fuel,p,q,_,_,_,_,hr,rfl⟩,hn,hc⟩:=h
 exact⟨q,hr,(List.nodup_append.1 hn).2.1,fun b off hb=>hc b off (List.mem_append_right _ hb)⟩
theorem Zio : "*" ++ ("errors.errorString")=("*errors.errorString"):=by decide
theorem Zip(u:TypeId) (h:UbY.typeName? 3 u=some ("*errors.errorString")):u=150 :=
 typeName_ptr_named (nm:=("errors.errorString")) (by rw[Zio];kernel_rfl) (by kernel_rfl) (by decide) u (by rw[Zio];exact h)
theorem Zvm{a b c:String×DataW Unit}{R S:List UInt8}{rest:List (String×DataW Unit)}{w:World}
  (h:laidMet UbY (a::b::("internal/strconv.uint64pow10",Lib.tabData .u64 Lib.pow10Tab)::c::("strconv.ErrRange",.iface ("*errors.errorString") (.ptr (.agg [.lit (.string R)])))::("strconv.ErrSyntax",.iface ("*errors.errorString") (.ptr (.agg [.lit (.string S)])))::rest) w)
  (hs:w.ShapedOpen UbY):Tabs.good w:=by
 have h2:=U4 (U4 h)
 have h4:=U4 (U4 h2)
 have h5:=U4 h4
 have t1:=Lib.tabIs_of_head (g:=5) (t:=160) (e:=132) (n:=20) (by kernel_rfl) (by kernel_rfl) Proofs.Tryz.underlying160 Proofs.Tryz.underlying132 (by kernel_rfl) (by kernel_rfl) h2
 have t2:=Go.Proofs.cell_of_shapedOpen_int (g:=0) (k:=.i64) (t:=3) (zero:=#[.int .i64 0]) hs (of_decide_eq_true (by kernel_rfl)) (by kernel_rfl) rfl (by kernel_rfl) (by kernel_rfl) Proofs.Tryz.underlying3
 obtain⟨a1,_,e1,_⟩:=laid_sentinel h4 (g:=2) (ti:=83) (tp:=150) (te:=152) (by kernel_rfl) (by kernel_rfl) Proofs.Tryz.underlying83 Zip Proofs.Tryz.underlying150 Proofs.Tryz.underlying152 rfl rfl Proofs.Tryz.underlying9 (by kernel_rfl) (by kernel_rfl)
 obtain⟨a2,_,e2,_⟩:=laid_sentinel h5 (g:=1) (ti:=83) (tp:=150) (te:=152) (by kernel_rfl) (by kernel_rfl) Proofs.Tryz.underlying83 Zip Proofs.Tryz.underlying150 Proofs.Tryz.underlying152 rfl rfl Proofs.Tryz.underlying9 (by kernel_rfl) (by kernel_rfl)
 exact⟨t1,t2,⟨_,_,e2⟩,⟨_,_,e1⟩⟩
section
variable {H:Type} {enc:TypeId×Value->H}
theorem Zvn{a:Assume}{C:Checked}{os:Os}{f:FuncId}{fn:Func}{s:ChangeSpec}{conds:List PathCond}{apart fresh handsOn again:Bool}{X:World->Array Value->Prop}
  (hX:∀(w w':World) (args:Array Value),w.heap=w'.heap->X w args->X w' args)
  (own:ownKnob C.prog.godebug=none) (started:os.Started) (noInit:C.prog.inits.idxOf? f=none) (hfn:C.prog.funcs[f]? = some fn)
  (witness:∃(w:World) (tape:Tape) (i:Input),w.os=os/\(w.forCall tape i).Shaped C.prog/\i.vars=[]/\Input.okWide C.prog (w.forCall tape i) .any w.heap.size f i /\
   ((s.pre enc C.prog fn conds apart (w.forCall tape i).memory i.args/\X (w.forCall tape i).memory i.args)/\sizedMet enc C.prog fn (OpenSpec.ofChange s) apart (w.forCall tape i).memory i.args)/\a.holds C.prog (lone (Frame.enter C.prog f i.args .normal) [] (w.forCall tape i)))
  (contract:∀(W:World) (base:Nat) (args:Array Value) (ds gs:List (DataW H)) (before:List MemPlace),
   (∀(j:Nat) t v,fn.params[j]? = some t->args[j]? = some v->Value.okWide C.prog W .any base t v) ->
   DataW.Whole enc C.prog fn.params.toList s.vars apart W args.toList ds gs before->X W args->W.ShapedOpen C.prog ->
   Calls C.prog f args W fun e W' => ∃ v,e = .returned v/\s.post enc C.prog fn apart fresh handsOn again W args v W') :
  ReturnsInHanded a C os f .any (fun w args=>(s.pre enc C.prog fn conds apart w args/\X w args)/\sizedMet enc C.prog fn (OpenSpec.ofChange s) apart w args) (s.post enc C.prog fn apart fresh handsOn again):=by
 refine returnsInHanded_of_calls own started noInit witness ?_
 intro w tape i _ hsh _ hok hpre _
 obtain⟨_,_,_,fn',hfn',_,_,_,_,hval⟩:=hok
 have e:fn'=fn:=UaM (hfn'.symm.trans hfn)
 subst e
 obtain⟨⟨⟨ds,gs,before,hw,_⟩,hx⟩,_⟩:=hpre
 have hw':=DataW.Whole.of_heap (w':=w.forCall tape i) (by rfl) hw
 refine(contract (w.forCall tape i) w.heap.size i.args ds gs before hval hw' (hX _ _ _ (by rfl) hx) hsh).mono fun e W' ⟨v,he,hp⟩=>?_
 subst he
 exact ChangeSpec.post_blind hp
end
def Ziq:F2 :=
 { nt:=104,res:=[.t 4 [0]],body:=(.sq (rg [om 4 (.k (.bool false))]) (.sq (.sq (rg [qM 16 1,oo 17 (.lg (.t 16)),oo 18 (.bi .gtr 0 (.t 17) (i6 1048576))]) (.cd (.t 18) (.sq (rg [om 4 (.k (.bool true))]) (.rt)) (.sk))) (.sq (rg [om 5 (i6 1048576)]) (.sq (rg [qM 19 0,qM 20 5,oo 21 (.ca .pure false (.f Zcu) [.t 19,.t 20]),qM 5 21]) (.sq (.sq (rg [qM 22 5,oo 23 (.bi .lss 0 (.t 22) (i6 0))]) (.cd (.t 23) (.sq (rg [om 4 (.k (.bool true))]) (.rt)) (.sk))) (.sq (rg [qM 25 0,oo 26 (.ca .pure false (.f WP) [.t 25]),qM 27 1,oo 28 (.ca .pure false (.f Zcv) [.t 26,.t 27]),qM 24 28,qE 29 0 24,qE 30 1 24,oo 6 (.al [.slice none 0 0,.slice none 0 0,.slice none 0 0,.slice none 0 0,.slice none 0 0] []),
 Jf (.st 5 (.t 6) (.t 29)),qM 7 30]) (.sq (rg [qM 31 0,oo 32 (.ca .pure true (.f WP) [.t 31]),qM 8 32]) (.sq (rg [qM 34 8,qM 35 1,oo 36 (.ca .pure true (.f Zaj) [.t 34,.t 35]),qM 33 36,qE 37 0 33,qE 38 1 33,oo 9 (.al [.slice none 0 0,.slice none 0 0,.slice none 0 0,.slice none 0 0,.slice none 0 0] []),
 Jf (.st 5 (.t 9) (.t 37)),qM 10 38]) (.sq (.sq (rg [qS 39 5 9,qS 40 5 6,oo 41 (.ca .pure false (.f UO) [.t 39,.t 40]),oo 42 (.nt (.t 41)),qM 43 42,og 44 43 false (.mv (.t 10) none),og 45 43 false (.mv (.t 7) none),og 46 43 false (.bi .neq 2 (.t 44) (.t 45)),oo 47 (.pk (.t 43) (.k (.bool true)) (.t 46))]) (.cd (.t 47) (.sq (rg [om 4 (.k (.bool false))]) (.rt)) (.sk))) (.sq (.sq (rg [qM 48 8,qM 49 0,oo 50 (.ca .pure false (.f WP) [.t 49]),oo 51 (.ca .pure false (.f Zcw) [.t 48,.t 50]),oo 52 (.nt (.t 51))]) (.cd (.t 52) (.sq (rg [om 4 (.k (.bool false))]) (.rt)) (.sk))) (.sq (rg [om 11 (i6 1)]) (.sq (rg [qM 53 8,qM 54 11,oo 55 (.ca .any true (.f Zcx) [.t 53,.t 54]),qM 11 55]) (.sq (.sq (rg [qM 56 11,oo 57 (.bi .lss 0 (.t 56) (i6 0)),qM 58 57,og 59 58 false (.ld (some 5) (.t 9)),og 60 58 false (.ld (some 5) (.t 6)),og 61 58 false (.ca .pure false (.f UO) [.t 59,.t 60]),og 62 58 false (.nt (.t 61)),oo 63 (.pk (.t 58) (.k (.bool true)) (.t 62)),qM 64 63,og 65 64 false (.mv (.t 10) none),og 66 64 false (.mv (.t 7) none),og 67 64 false (.bi .neq 2 (.t 65) (.t 66)),oo 68 (.pk (.t 64) (.k (.bool true)) (.t 67))]) (.cd (.t 68) (.sq (rg [om 4 (.k (.bool false))]) (.rt)) (.sk))) (.sq (rg [om 12 (i6 1)]) (.sq (rg [qS 69 5 9,qM 70 12,oo 71 (.ca .any true (.f Zak) [.t 69,.t 70]),qM 12 71]) (.sq (rg [om 13 (i6 1)]) (.sq (rg [qS 72 5 9,qM 73 13,oo 74 (.ca .pure false (.f Zal) [.t 72,.t 73]),qM 13 74]) (.sq (.sq (rg [qM 75 13,oo 76 (.bi .lss 0 (.t 75) (i6 0))]) (.cd (.t 76) (.sq (rg [om 4 (.k (.bool false))]) (.rt)) (.sk))) (.sq (.sq (rg [qM 77 13,qM 78 12,qB 79 .neq 77 78]) (.cd (.t 79) (.sq (rg [om 4 (.k (.bool false))]) (.rt)) (.sk))) (.sq (rg [qM 81 0,oo 82 (.ca .pure false (.f WP) [.t 81]),qM 83 1,oo 84 (.ca .pure false (.f Zaj) [.t 82,.t 83]),qM 80 84,qE 85 0 80,qE 86 1 80,oo 14 (.al [.slice none 0 0,.slice none 0 0,.slice none 0 0,.slice none 0 0,.slice none 0 0] []),
 Jf (.st 5 (.t 14) (.t 85)),qM 15 86]) (.sq (.sq (rg [qS 87 5 14,qS 88 5 6,oo 89 (.ca .pure false (.f UO) [.t 87,.t 88]),oo 90 (.nt (.t 89)),qM 91 90,og 92 91 false (.mv (.t 15) none),og 93 91 false (.mv (.t 7) none),og 94 91 false (.bi .neq 2 (.t 92) (.t 93)),oo 95 (.pk (.t 91) (.k (.bool true)) (.t 94))]) (.cd (.t 95) (.sq (rg [om 4 (.k (.bool false))]) (.rt)) (.sk))) (.sq (rg [om 13 (i6 1)]) (.sq (rg [qS 96 5 9,qM 97 13,oo 98 (.ca .pure false (.f Zal) [.t 96,.t 97]),qM 13 98]) (.sq (.sq (rg [qM 99 13,oo 100 (.bi .lss 0 (.t 99) (i6 0))]) (.cd (.t 100) (.sq (rg [om 4 (.k (.bool false))]) (.rt)) (.sk))) (.sq (.sq (rg [qM 101 13,qM 102 12,qB 103 .neq 101 102]) (.cd (.t 103) (.sq (rg [om 4 (.k (.bool false))]) (.rt)) (.sk))) (.sq (rg [om 4 (.k (.bool true))]) (.rt))))))))))))))))))))))))))) }
theorem Zvo:Zv UbY Zgp Ziq=true:=by kernel_rfl
def Zir:F2 :=
 { nt:=35,res:=[.t 4 [0]],body:=(.sq (rg [om 4 (i6 0)]) (.sq (.sq (rg [om 5 (i6 0)]) (.bl 0 (.lp [0,1,5] [] (.sq (.sq (rg [qM 6 5,qM 7 0,qN 8 7,qB 9 .lss 6 8]) (.cd (.t 9) (.sk) (.ex 0))) (.sq (.bl 1 (.sq (rg [qM 12 0,qM 13 5,qM 14 1,oo 15 (.ca .pure false (.f ZcL) [.t 14]),qI 16 3 12 13,qF 17 0 16,
 Jf (.st 1 (.t 17) (.t 15))]) (.sq (rg [qM 18 1,oo 19 (.bi .add 0 (.t 18) (i6 1)),qM 1 19]) (.sq (rg [qM 20 0,qM 21 5,qM 22 1,qI 23 3 20 21,qF 24 1 23,
 Jf (.st 1 (.t 24) (.t 22))]) (.sq (rg [qM 25 1,oo 26 (.bi .add 0 (.t 25) (i6 1)),qM 1 26]) (.sq (rg [qM 27 0,qM 28 5,qM 29 1,qI 30 3 27 28,qF 31 2 30,
 Jf (.st 1 (.t 31) (.t 29))])
 (rg [qM 32 1,oo 33 (.bi .add 0 (.t 32) (i6 1)),qM 1 33])))))))
 (rg [qM 10 5,oo 11 (.bi .add 0 (.t 10) (i6 1)),qM 5 11])))))) (.sq (rg [qM 34 1,qM 4 34]) (.rt)))) }
theorem Zvp:Zv UbY Zcx Zir=true:=by kernel_rfl
def Zis:F2 :=
 { nt:=26,res:=[.t 4 [0]],body:=(.sq (rg [oo 2 (.bx (.t 0)),om 4 (i6 0)]) (.sq (rg [qF 5 0 2,qL 6 5,qM 7 1,oo 8 (.ca .any true (.f UR) [.t 6,.t 7]),qM 1 8]) (.sq (rg [qF 9 1 2,qL 10 9,qM 11 1,oo 12 (.ca .any true (.f Zas) [.t 10,.t 11]),qM 1 12]) (.sq (rg [qF 13 2 2,qL 14 13,qM 15 1,oo 16 (.ca .any true (.f Zas) [.t 14,.t 15]),qM 1 16]) (.sq (rg [qF 17 3 2,qL 18 17,qM 19 1,oo 20 (.ca .any true (.f UR) [.t 18,.t 19]),qM 1 20]) (.sq (rg [qF 21 4 2,qL 22 21,qM 23 1,oo 24 (.ca .any true (.f ZcM) [.t 22,.t 23]),qM 1 24]) (.sq (rg [qM 25 1,qM 4 25]) (.rt)))))))) }
theorem Zvq:Zv UbY Zak Zis=true:=by kernel_rfl
def Zit:F2 :=
 { nt:=36,res:=[.t 4 [0]],body:=(.sq (rg [oo 2 (.bt (.t 0)),om 4 (i6 0)]) (.sq (rg [qF 5 0 2,qL 6 5,qM 7 1,oo 8 (.ca .pure false (.f US) [.t 6,.t 7]),qM 1 8]) (.sq (.sq (rg [qM 9 1,oo 10 (.bi .lss 0 (.t 9) (i6 0))]) (.cd (.t 10) (.sq (rg [om 4 (i6 (-1))]) (.rt)) (.sk))) (.sq (rg [qF 11 1 2,qL 12 11,qM 13 1,oo 14 (.ca .pure false (.f Zat) [.t 12,.t 13]),qM 1 14]) (.sq (.sq (rg [qM 15 1,oo 16 (.bi .lss 0 (.t 15) (i6 0))]) (.cd (.t 16) (.sq (rg [om 4 (i6 (-1))]) (.rt)) (.sk))) (.sq (rg [qF 17 2 2,qL 18 17,qM 19 1,oo 20 (.ca .pure false (.f Zat) [.t 18,.t 19]),qM 1 20]) (.sq (.sq (rg [qM 21 1,oo 22 (.bi .lss 0 (.t 21) (i6 0))]) (.cd (.t 22) (.sq (rg [om 4 (i6 (-1))]) (.rt)) (.sk))) (.sq (rg [qF 23 3 2,qL 24 23,qM 25 1,oo 26 (.ca .pure false (.f US) [.t 24,.t 25]),qM 1 26]) (.sq (.sq (rg [qM 27 1,oo 28 (.bi .lss 0 (.t 27) (i6 0))]) (.cd (.t 28) (.sq (rg [om 4 (i6 (-1))]) (.rt)) (.sk))) (.sq (rg [qF 29 4 2,qL 30 29,qM 31 1,oo 32 (.ca .pure false (.f ZcN) [.t 30,.t 31]),qM 1 32]) (.sq (.sq (rg [qM 33 1,oo 34 (.bi .lss 0 (.t 33) (i6 0))]) (.cd (.t 34) (.sq (rg [om 4 (i6 (-1))]) (.rt)) (.sk))) (.sq (rg [qM 35 1,qM 4 35]) (.rt))))))))))))) }
theorem Zvr:Zv UbY Zal Zit=true:=by kernel_rfl
def Ziu:F2 :=
 { nt:=20,res:=[.t 2 [0]],body:=(.sq (rg [om 2 (.k (.string ⟨#[]⟩))]) (.sq (.sq (rg [qM 4 0,oo 5 (.bi .leq 0 (.t 4) (i6 0))]) (.cd (.t 5) (.sq (rg [om 2 (.k (.string ⟨#[109,48]⟩))]) (.rt)) (.sk))) (.sq (rg [om 3 (.k (.string ⟨#[]⟩))]) (.sq (.bl 0 (.lp [0,3] [] (.sq (.sq (rg [qM 6 0,oo 7 (.bi .gtr 0 (.t 6) (i6 0))]) (.cd (.t 7) (.sk) (.ex 0))) (.bl 1 (.sq (rg [qM 8 0,oo 9 (.bi .rem 0 (.t 8) (i6 10)),oo 10 (.bi .add 0 (i6 48) (.t 9)),oo 11 (.cv (.int .u8) (.t 10)),oo 12 (.bs 1 1 [.int .u8 0] [(0,.t 11)]),oo 13 (.sb (.t 12)),qM 14 3,qB 15 .add 13 14,qM 3 15])
 (rg [qM 16 0,oo 17 (.bi .quo 0 (.t 16) (i6 10)),qM 0 17])))))) (.sq (rg [qM 18 3,oo 19 (.bi .add 0 (.k (.string ⟨#[109]⟩)) (.t 18)),qM 2 19]) (.rt)))))) }
theorem Zvs:Zv UbY ZcL Ziu=true:=by kernel_rfl
def Ziv:F2 :=
 { nt:=19,res:=[.t 4 [0]],body:=(.sq (rg [om 4 (i6 0)]) (.sq (.sq (rg [om 5 (i6 0)]) (.bl 0 (.lp [0,1,5] [] (.sq (.sq (rg [qM 6 5,qM 7 0,qN 8 7,qB 9 .lss 6 8]) (.cd (.t 9) (.sk) (.ex 0))) (.sq (.bl 1 (.sq (rg [qM 12 0,qM 13 5,qM 14 1,qI 15 1 12 13,
 Jf (.st 1 (.t 15) (.t 14))])
 (rg [qM 16 1,oo 17 (.bi .add 0 (.t 16) (i6 1)),qM 1 17])))
 (rg [qM 10 5,oo 11 (.bi .add 0 (.t 10) (i6 1)),qM 5 11])))))) (.sq (rg [qM 18 1,qM 4 18]) (.rt)))) }
theorem Zvt:Zv UbY UR Ziv=true:=by kernel_rfl
def Ziw:F2 :=
 { nt:=19,res:=[.t 4 [0]],body:=(.sq (rg [om 4 (i6 0)]) (.sq (.sq (rg [om 5 (i6 0)]) (.bl 0 (.lp [0,1,5] [] (.sq (.sq (rg [qM 6 5,qM 7 0,qN 8 7,qB 9 .lss 6 8]) (.cd (.t 9) (.sk) (.ex 0))) (.sq (.bl 1 (rg [qM 12 0,qM 13 5,qI 14 1 12 13,qL 15 14,qM 16 1,oo 17 (.ca .any true (.f UR) [.t 15,.t 16]),qM 1 17]))
 (rg [qM 10 5,oo 11 (.bi .add 0 (.t 10) (i6 1)),qM 5 11])))))) (.sq (rg [qM 18 1,qM 4 18]) (.rt)))) }
theorem Zvu:Zv UbY Zas Ziw=true:=by kernel_rfl
def Zix:F2 :=
 { nt:=26,res:=[.t 4 [0]],body:=(.sq (rg [om 4 (i6 0)]) (.sq (.sq (rg [om 5 (i6 0)]) (.bl 0 (.lp [0,1,5] [] (.sq (.sq (rg [qM 7 5,qM 8 0,qN 9 8,qB 10 .lss 7 9]) (.cd (.t 10) (.sk) (.ex 0))) (.sq (.bl 1 (.sq (rg [om 6 (i6 0)]) (.bl 2 (.lp [0,1,5,6] [] (.sq (.sq (rg [qM 13 6,oo 14 (.bi .lss 0 (.t 13) (i6 2))]) (.cd (.t 14) (.sk) (.ex 2))) (.sq (.bl 3 (.sq (rg [qM 17 0,qM 18 5,qM 19 6,qM 20 1,qI 21 2 17 18,oo 22 (.ja 1 2 (.t 21) (.t 19)),
 Jf (.st 1 (.t 22) (.t 20))])
 (rg [qM 23 1,oo 24 (.bi .add 0 (.t 23) (i6 1)),qM 1 24])))
 (rg [qM 15 6,oo 16 (.bi .add 0 (.t 15) (i6 1)),qM 6 16])))))))
 (rg [qM 11 5,oo 12 (.bi .add 0 (.t 11) (i6 1)),qM 5 12])))))) (.sq (rg [qM 25 1,qM 4 25]) (.rt)))) }
theorem Zvv:Zv UbY ZcM Zix=true:=by kernel_rfl
def Ziy:F2 :=
 { nt:=21,res:=[.t 4 [0]],body:=(.sq (rg [om 4 (i6 0)]) (.sq (.sq (rg [om 5 (i6 0)]) (.bl 0 (.lp [0,1,5] [] (.sq (.sq (rg [qM 6 5,qM 7 0,qN 8 7,qB 9 .lss 6 8]) (.cd (.t 9) (.sk) (.ex 0))) (.sq (.bl 1 (.sq (.sq (rg [qM 12 0,qM 13 5,qI 14 1 12 13,qL 15 14,qM 16 1,qB 17 .neq 15 16]) (.cd (.t 17) (.sq (rg [om 4 (i6 (-1))]) (.rt)) (.sk)))
 (rg [qM 18 1,oo 19 (.bi .add 0 (.t 18) (i6 1)),qM 1 19])))
 (rg [qM 10 5,oo 11 (.bi .add 0 (.t 10) (i6 1)),qM 5 11])))))) (.sq (rg [qM 20 1,qM 4 20]) (.rt)))) }
theorem Zvw:Zv UbY US Ziy=true:=by kernel_rfl
def Ziz:F2 :=
 { nt:=21,res:=[.t 4 [0]],body:=(.sq (rg [om 4 (i6 0)]) (.sq (.sq (rg [om 5 (i6 0)]) (.bl 0 (.lp [0,1,5] [] (.sq (.sq (rg [qM 6 5,qM 7 0,qN 8 7,qB 9 .lss 6 8]) (.cd (.t 9) (.sk) (.ex 0))) (.sq (.bl 1 (.sq (rg [qM 12 0,qM 13 5,qI 14 1 12 13,qL 15 14,qM 16 1,oo 17 (.ca .pure false (.f US) [.t 15,.t 16]),qM 1 17]) (.sq (rg [qM 18 1,oo 19 (.bi .lss 0 (.t 18) (i6 0))]) (.cd (.t 19) (.sq (rg [om 4 (i6 (-1))]) (.rt)) (.sk)))))
 (rg [qM 10 5,oo 11 (.bi .add 0 (.t 10) (i6 1)),qM 5 11])))))) (.sq (rg [qM 20 1,qM 4 20]) (.rt)))) }
theorem Zvx:Zv UbY Zat Ziz=true:=by kernel_rfl
def ZiA:F2 :=
 { nt:=28,res:=[.t 4 [0]],body:=(.sq (rg [om 4 (i6 0)]) (.sq (.sq (rg [om 5 (i6 0)]) (.bl 0 (.lp [0,1,5] [] (.sq (.sq (rg [qM 7 5,qM 8 0,qN 9 8,qB 10 .lss 7 9]) (.cd (.t 10) (.sk) (.ex 0))) (.sq (.bl 1 (.sq (rg [om 6 (i6 0)]) (.bl 2 (.lp [0,1,5,6] [] (.sq (.sq (rg [qM 13 6,oo 14 (.bi .lss 0 (.t 13) (i6 2))]) (.cd (.t 14) (.sk) (.ex 2))) (.sq (.bl 3 (.sq (.sq (rg [qM 17 0,qM 18 5,qM 19 6,qI 20 2 17 18,oo 21 (.ja 1 2 (.t 20) (.t 19)),qL 22 21,qM 23 1,qB 24 .neq 22 23]) (.cd (.t 24) (.sq (rg [om 4 (i6 (-1))]) (.rt)) (.sk)))
 (rg [qM 25 1,oo 26 (.bi .add 0 (.t 25) (i6 1)),qM 1 26])))
 (rg [qM 15 6,oo 16 (.bi .add 0 (.t 15) (i6 1)),qM 6 16])))))))
 (rg [qM 11 5,oo 12 (.bi .add 0 (.t 11) (i6 1)),qM 5 12])))))) (.sq (rg [qM 27 1,qM 4 27]) (.rt)))) }
theorem Zvy:Zv UbY ZcN ZiA=true:=by kernel_rfl
set_option maxRecDepth 20000
abbrev Yl(_:Int)(k:Int):Int:=k
abbrev ZG(_:Int):Nat:=1
def mt(q:Nat)(o:ByteArray):ByteArray:=if q=0 then o else mt (q / 10) (⟨#[UInt8.ofNat (48+q % 10)]⟩++o)
 termination_by q
 decreasing_by omega
theorem Zvz{q:Nat}{o:ByteArray}(h:0<q):mt q o=mt (q / 10) (⟨#[UInt8.ofNat (48+q % 10)]⟩++o):=by
 rw[mt,if_neg (by omega)]
theorem ZvA{o:ByteArray}:mt 0 o=o:=by rw[mt,if_pos rfl]
def Za5(k:Int):ByteArray:=if k<=0 then ⟨#[109,48]⟩ else ⟨#[109]⟩++mt k.toNat ⟨#[]⟩
theorem ZvB(k:Int)(h:k<=4611686018427387904)(lvl:Nat)(S:Zc):Sem UbY ZcL lvl [iI k] S (iS (Za5 k)) S:=by
 refine ZA Zvs trivial ?_
 simp only[Ziu,Zb,seval,Za,men]
 unfold Za5
 refine Zu (fun h0=>?_) (fun h0=>?_)
 ·rw[if_pos h0]
 ·rw[if_neg h0]
  obtain⟨K,hK⟩:∃ K:Nat,k=K:=⟨k.toNat,by omega⟩
  subst hK
  rw[Int.toNat_natCast]
  refine J3 (α:=Nat×ByteArray) K (fun j y=>⟨lvl,[(0,iI y.1),(3,iS y.2)],[],S⟩) (fun j y=>y.1+j<=K/\mt y.1 y.2=mt K ⟨#[]⟩/\y.1*10 ^ y.2.size<=K/\y.2.size<=19) (K,⟨#[]⟩) ⟨by simp only[Zb,seval,Za,men],by simp only[Zb,seval,Za,men]⟩ ⟨Uag _,rfl,Nat.le_of_eq (Nat.mul_one K),(by decide:(0:Nat)<=19)⟩ ?_
  intro j y hj hA
  obtain⟨q,o⟩:=y
  obtain⟨h1,h2,h3,h4⟩:=hA
  simp only at h1 h2 h3 h4
  simp only[Zb,seval,Za,men]
  refine Zu (fun hq=>?_) (fun hq=>?_)
  ·have hq0:0<q:=by omega
   have hby:Yx [[Tr.v (Value.int IntKind.u8 (48+(q:Int) % 10))]]=some [UInt8.ofNat (48+q % 10)]:=by
    have e:(48+(q:Int) % 10).toNat=48+q % 10:=by omega
    simp only[cut,List.replicate_one,List.set_cons_zero,Ubi,List.take_succ_cons,List.take_zero,Yx,Option.map_some,e]
   have h5:o.size<19:=by
    apply Classical.byContradiction
    intro hc
    have e:o.size=19:=by omega
    rw[e] at h3
    have:1*10 ^ 19<=q*10 ^ 19:=UaD _ hq0
    omega
   have h6:q / 10*10 ^ (o.size+1)<=K:=by
    refine UaV ?_ h3
    rw[Nat.pow_succ,UbF (10 ^ o.size) 10,<-Nat.mul_assoc]
    exact UaD _ (by omega)
   rw[hby]
   simp only[Zb,seval,Za,men]
   have hs:(ByteArray.mk #[UInt8.ofNat (48+q % 10)]++o).size=o.size+1:=by
    rw[Uai,Ubm];rfl
   have e8:JO .u8 (48+(q:Int) % 10):=by
    constructor
    ·show (0:Int)<=_;omega
    ·show _<=(255:Int);omega
   refine⟨by rw[Zl];omega,e8,?_,by rw[Zl];omega,ZC (q / 10,ByteArray.mk #[UInt8.ofNat (48+q % 10)]++o) (by omega) ?_ ⟨by simp only;omega,?_,?_,?_⟩⟩
   ·show 1+o.size<=4294967296
    omega
   ·rfl
   ·rw[<-h2,Zvz hq0]
   ·simp only[hs];exact h6
   ·simp only[hs];omega
  ·have:q=0:=by omega
   subst this
   rw[<-h2,ZvA]
   refine⟨?_,rfl⟩
   show 1+o.size<=4294967296
   omega
abbrev ZdO(_:ByteArray)(k:Int):ByteArray:=Za5 k
theorem ZdP:MarkS UbY UR (fun n:Int=>[tv n]) Yl ZG (fun _=>True):=by
 intro a k lvl S id p es r0 kk hw ver st cap hid hv hst h0 hk hl hB
 have hne:id.1≠lvl:=by omega
 have hgp:∀ r,getp (Jc es p r) p=some r:=fun r=>WN hv
 refine ZA Zvt trivial ?_
 simp only[Ziv,Zb,seval,Za,men]
 refine J3 (α:=Unit) a.length (fun j _=>⟨lvl,[(0,.hd id p 0 a.length cap st),(1,iI (kJ ZG a k j)),(5,iI j)],[],Zh S id (.ar kk (Jc es p ((lJ Yl ZG a k j).map (fun n:Int=>[tv n]))) true hw ver)⟩) (fun _ _=>True) () ⟨by simp only[Z2 hne,Zb,seval,Za,men],by (simp only[X5,Zaf,Zb,seval,Za,men]) <;> rfl⟩ trivial ?_
 intro j _ hj _
 simp only[Uab,Zb,seval,Za,men]
 refine Zu (fun hlt=>?_) (fun hge=>?_)
 ·have hja:j<a.length:=by omega
  obtain⟨R,hjR,hR,hR'⟩:=Zah Yl ZG (fun n:Int=>[tv n]) (k:=k) hja
  have hge2:=X7 ZG (a:=a) (k:=k) (j:=j+1)
  rw[Ve ZG hja] at hge2
  have hge3:=X8 ZG (a:=a) (k:=k) (j:=j)
  rw[hR]
  try simp only[ZG] at hge2
  try simp only[V2 hne,Q8 hne,Q9,Qs,hst,hgp,Qw hjR,Xa hv hjR,Uay,hja,Z2 hne,Uab,tv,Zb,seval,Za,men]
  refine⟨by rw[Zl];omega,⟨by rw[Zl];omega,ZC () hja ?_ trivial⟩⟩
  rw[Ve ZG hja,hR']
  simp only[ZG,Yl,tv,Int.natCast_add,Int.natCast_one,UbA]
  try rfl
 ·have:j=a.length:=by omega
  subst this
  rw[X6,Zag]
  exact⟨rfl,rfl⟩
def YH(x:(List Int))(k:Int):(List Int):=mL Yl ZG x (k)
def ZH(x:(List Int)):Nat:=nL ZG x
theorem ZiB:MarkS UbY Zas (fun l=>[Tr.sl (rI l)]) YH ZH (fun x=>x.length<=4294967296):=by
 intro a k lvl S id p es r0 kk hw ver st cap hid hv hst h0 hk hl hB
 have hne:id.1≠lvl:=by omega
 have hgp:∀ r,getp (Jc es p r) p=some r:=fun r=>WN hv
 refine ZA Zvu trivial ?_
 simp only[Ziw,Zb,seval,Za,men]
 refine J3 (α:=Unit) a.length (fun j _=>⟨lvl,[(0,.hd id p 0 a.length cap st),(1,iI (kJ ZH a k j)),(5,iI j)],[],Zh S id (.ar kk (Jc es p ((lJ YH ZH a k j).map (fun l=>[Tr.sl (rI l)]))) true hw ver)⟩) (fun _ _=>True) () ⟨by simp only[Z2 hne,Zb,seval,Za,men],by (simp only[X5,Zaf,Zb,seval,Za,men]) <;> rfl⟩ trivial ?_
 intro j _ hj _
 simp only[Uab,Zb,seval,Za,men]
 refine Zu (fun hlt=>?_) (fun hge=>?_)
 ·have hja:j<a.length:=by omega
  obtain⟨R,hjR,hR,hR'⟩:=Zah YH ZH (fun l=>[Tr.sl (rI l)]) (k:=k) hja
  have hge2:=X7 ZH (a:=a) (k:=k) (j:=j+1)
  rw[Ve ZH hja] at hge2
  have hge3:=X8 ZH (a:=a) (k:=k) (j:=j)
  rw[hR]
  try simp only[ZH] at hge2
  have hb:=hB _ (Ual hja)
  have b0:(a[j]).length<=4294967296:=hb
  try simp only[V2 hne,Q8 hne,Q9,Qs,hst,hgp,Qw hjR,Xa hv hjR,Uay,hja,Z2 hne,Uab,tv,Zb,seval,Za,men]
  simp only[Yw]
  refine ZsZ ZdP hid hv (by omega) (by omega) b0 (fun _ _=>trivial) hjR rfl (by simp only[Uab]) ?_
  simp only[List.set_cons_succ,List.set_cons_zero,V2 hne,Q8 hne,Q9,Qs,hst,hgp,Qw hjR,Xa hv hjR,Uay,hja,Z2 hne,Uab,tv,Zb,seval,Za,men]
  refine⟨by rw[Zl];omega,ZC () hja ?_ trivial⟩
  rw[Ve ZH hja,hR']
  simp only[ZH,YH,tv,Int.natCast_add,Int.natCast_one,UbA]
  try rfl
 ·have:j=a.length:=by omega
  subst this
  rw[X6,Zag]
  exact⟨rfl,rfl⟩
def Vk(x:(Int×Int))(k:Int):(Int×Int):=(k,k+1)
def Z8(x:(Int×Int)):Nat:=1+1
theorem ZvC:MarkS UbY ZcM ZE Vk Z8 (fun _=>True):=by
 intro a k lvl S id p es r0 kk hw ver st cap hid hv hst h0 hk hl hB
 have hne:id.1≠lvl:=by omega
 have hgp:∀ r,getp (Jc es p r) p=some r:=fun r=>WN hv
 refine ZA Zvv trivial ?_
 simp only[Zix,Zb,seval,Za,men]
 refine J3 (α:=Unit) a.length (fun j _=>⟨lvl,[(0,.hd id p 0 a.length cap st),(1,iI (kJ Z8 a k j)),(5,iI j)],[],Zh S id (.ar kk (Jc es p ((lJ Vk Z8 a k j).map ZE)) true hw ver)⟩) (fun _ _=>True) () ⟨by simp only[Z2 hne,Zb,seval,Za,men],by (simp only[X5,Zaf,Zb,seval,Za,men]) <;> rfl⟩ trivial ?_
 intro j _ hj _
 simp only[Uab,Zb,seval,Za,men]
 refine Zu (fun hlt=>?_) (fun hge=>?_)
 ·have hja:j<a.length:=by omega
  obtain⟨R,hjR,hR,hR'⟩:=Zah Vk Z8 ZE (k:=k) hja
  have hge2:=X7 Z8 (a:=a) (k:=k) (j:=j+1)
  rw[Ve Z8 hja] at hge2
  have hge3:=X8 Z8 (a:=a) (k:=k) (j:=j)
  rw[hR]
  try simp only[Z8] at hge2
  simp only[V2 hne,Q8 hne,Q9,Qs,hst,hgp,Qw hjR,Xa hv hjR,Uay,hja,Z2 hne,Uab,ZE,Zb,seval,Za,men]
  refine J3 (α:=Unit) 2 (fun i _=>⟨lvl,[(0,.hd id p 0 a.length cap st),(1,iI (kJ Z8 a k j+i)),(5,iI j),(6,iI i)],[],Zh S id (.ar kk (Jc es p (R.set j [if 0<i then tv (kJ Z8 a k j) else tv a[j].1,if 1<i then tv (kJ Z8 a k j+1) else tv a[j].2])) true hw ver)⟩) (fun _ _=>True) () ⟨by simp only[Z2 hne,Zb,seval,Za,men],by simp only[Int.natCast_zero,Int.add_zero,Ua1,UaE,Zb,seval,Za,men];try rfl⟩ trivial ?_
  intro i _ hi _
  have hc:i=0\/i=1\/i=2:=by omega
  rcases hc with rfl | rfl | rfl
  ·simp only[V2 hne,Q8 hne,Q9,Qs,hst,hgp,Qw hjR,Xa hv hjR,Uay,hja,Z2 hne,Uab,ZE,Int.cast_ofNat_Int,Int.natCast_zero,Nat.zero_mul,Ube,Nat.mul_one,Int.add_zero,Int.natCast_one,Int.reduceAdd,Ua1,UaE,Nat.zero_lt_one,Nat.reduceAdd,Zb,↓reduceIte,Nat.reduceEqDiff,Nat.reduceMul,reduceCtorEq,Nat.reduceSub,Nat.reduceLeDiff,Nat.reduceLT,Int.reduceToNat,Int.reduceLE,Int.reduceLT,Za,men]
   refine⟨by rw[Zl];omega,by rw[Zl];omega,ZC (N:=2) (k:=0) () (by omega) ?_ trivial⟩
   rw[show kJ Z8 a k j+1=kJ Z8 a k j+((1:Nat):Int) from by omega]
   rfl
  ·simp only[V2 hne,Q8 hne,Q9,Qs,hst,hgp,Qw hjR,Xa hv hjR,Uay,hja,Z2 hne,Uab,ZE,Int.cast_ofNat_Int,Int.natCast_zero,Nat.zero_mul,Ube,Nat.mul_one,Int.add_zero,Int.natCast_one,Int.reduceAdd,Ua1,UaE,Nat.zero_lt_one,Nat.reduceAdd,Zb,↓reduceIte,Nat.reduceEqDiff,Nat.reduceMul,reduceCtorEq,Nat.reduceSub,Nat.reduceLeDiff,Nat.reduceLT,Int.reduceToNat,Int.reduceLE,Int.reduceLT,Za,men]
   refine⟨by rw[Zl];omega,by rw[Zl];omega,ZC (N:=2) (k:=1) () (by omega) ?_ trivial⟩
   rw[show kJ Z8 a k j+1+1=kJ Z8 a k j+((2:Nat):Int) from by omega]
   rfl
  ·simp only[V2 hne,Q8 hne,Q9,Qs,hst,hgp,Qw hjR,Xa hv hjR,Uay,hja,Z2 hne,Uab,ZE,Int.cast_ofNat_Int,Int.natCast_zero,Nat.zero_mul,Ube,Nat.mul_one,Int.add_zero,Int.natCast_one,Int.reduceAdd,Ua1,UaE,Nat.zero_lt_one,Nat.reduceAdd,Zb,↓reduceIte,Nat.reduceEqDiff,Nat.reduceMul,reduceCtorEq,Nat.reduceSub,Nat.reduceLeDiff,Nat.reduceLT,Int.reduceToNat,Int.reduceLE,Int.reduceLT,Za,men]
   refine⟨by rw[Zl];omega,ZC () hja ?_ trivial⟩
   rw[Ve Z8 hja,hR']
   rfl
 ·have:j=a.length:=by omega
  subst this
  rw[X6,Zag]
  exact⟨rfl,rfl⟩
def Za6(x:TControl)(k:Int):TControl:={ name:=Za5 (k),ports:=k+1,kind_:=k+1+1 }
def Y0(x:TControl):Nat:=1+1+1
theorem ZvD:MarkS UbY Zcx Zp Za6 Y0 (JU 4294967296):=by
 intro a k lvl S id p es r0 kk hw ver st cap hid hv hst h0 hk hl hB
 have hne:id.1≠lvl:=by omega
 have hgp:∀ r,getp (Jc es p r) p=some r:=fun r=>WN hv
 refine ZA Zvp trivial ?_
 simp only[Zir,Zb,seval,Za,men]
 refine J3 (α:=Unit) a.length (fun j _=>⟨lvl,[(0,.hd id p 0 a.length cap st),(1,iI (kJ Y0 a k j)),(5,iI j)],[],Zh S id (.ar kk (Jc es p ((lJ Za6 Y0 a k j).map Zp)) true hw ver)⟩) (fun _ _=>True) () ⟨by simp only[Z2 hne,Zb,seval,Za,men],by (simp only[X5,Zaf,Zb,seval,Za,men]) <;> rfl⟩ trivial ?_
 intro j _ hj _
 simp only[Uab,Zb,seval,Za,men]
 refine Zu (fun hlt=>?_) (fun hge=>?_)
 ·have hja:j<a.length:=by omega
  obtain⟨R,hjR,hR,hR'⟩:=Zah Za6 Y0 Zp (k:=k) hja
  have hge2:=X7 Y0 (a:=a) (k:=k) (j:=j+1)
  rw[Ve Y0 hja] at hge2
  have hge3:=X8 Y0 (a:=a) (k:=k) (j:=j)
  rw[hR]
  try simp only[Y0] at hge2
  have hb:=hB _ (Ual hja)
  have b0:(a[j]).name.size<=4294967296:=hb
  try simp only[V2 hne,Q8 hne,Q9,Qs,hst,hgp,Qw hjR,Xa hv hjR,Uay,hja,Z2 hne,Uab,Zp,Zb,seval,Za,men]
  refine Zi (ZvB (kJ Y0 a k j) (by omega)) ?_
  simp only[V2 hne,Q8 hne,Q9,Qs,hst,hgp,Qw hjR,Xa hv hjR,Uay,hja,Z2 hne,Uab,Zp,Zb,seval,Za,men]
  refine⟨by rw[Zl];omega,⟨by rw[Zl];omega,⟨by rw[Zl];omega,⟨by rw[Zl];omega,ZC () hja ?_ trivial⟩⟩⟩⟩
  rw[Ve Y0 hja,hR']
  simp only[Y0,Za6,Zp,Int.natCast_add,Int.natCast_one,UbA]
  try rfl
 ·have:j=a.length:=by omega
  subst this
  rw[X6,Zag]
  exact⟨rfl,rfl⟩
def ZiC:F2 :=
 { nt:=23,res:=[.t 2 [4]],body:=(.sq (rg [om 2 (.k (.slice none 0 0))]) (.sq (rg [qM 5 0,qN 6 5,oo 7 (.ms 3 [.string ⟨#[]⟩,.int .i64 0,.int .i64 0] (.t 6)),qM 3 7]) (.sq (.sq (rg [om 4 (i6 0)]) (.bl 0 (.lp [0,3,4] [224] (.sq (.sq (rg [qM 8 4,qM 9 0,qN 10 9,qB 11 .lss 8 10]) (.cd (.t 11) (.sk) (.ex 0))) (.sq (.bl 1 (rg [qM 14 3,qM 15 4,qM 16 0,qM 17 4,qI 18 3 16 17,qS 19 3 18,oo 20 (.ca .pure true (.f ZcE) [.t 19]),qI 21 3 14 15,
 Jf (.st 3 (.t 21) (.t 20))]))
 (rg [qM 12 4,oo 13 (.bi .add 0 (.t 12) (i6 1)),qM 4 13])))))) (.sq (rg [qM 22 3,qM 2 22]) (.rt))))) }
theorem ZvE:Zv UbY WP ZiC=true:=by kernel_rfl
def ZiD:F2 :=
 { nt:=35,res:=[.t 4 [0]],body:=(.sq (rg [oo 2 (.bt (.t 0)),oo 3 (.bt (.t 1)),om 4 (.k (.bool false))]) (.sq (.sq (rg [qF 5 0 2,qL 6 5,qF 7 0 3,qL 8 7,oo 9 (.ca .pure false (.f UQ) [.t 6,.t 8]),oo 10 (.nt (.t 9))]) (.cd (.t 10) (.sq (rg [om 4 (.k (.bool false))]) (.rt)) (.sk))) (.sq (.sq (rg [qF 11 1 2,qL 12 11,qF 13 1 3,qL 14 13,oo 15 (.ca .pure false (.f Zar) [.t 12,.t 14]),oo 16 (.nt (.t 15))]) (.cd (.t 16) (.sq (rg [om 4 (.k (.bool false))]) (.rt)) (.sk))) (.sq (.sq (rg [qF 17 2 2,qL 18 17,qF 19 2 3,qL 20 19,oo 21 (.ca .pure false (.f Zar) [.t 18,.t 20]),oo 22 (.nt (.t 21))]) (.cd (.t 22) (.sq (rg [om 4 (.k (.bool false))]) (.rt)) (.sk))) (.sq (.sq (rg [qF 23 3 2,qL 24 23,qF 25 3 3,qL 26 25,oo 27 (.ca .pure false (.f UQ) [.t 24,.t 26]),oo 28 (.nt (.t 27))]) (.cd (.t 28) (.sq (rg [om 4 (.k (.bool false))]) (.rt)) (.sk))) (.sq (.sq (rg [qF 29 4 2,qL 30 29,qF 31 4 3,qL 32 31,oo 33 (.ca .pure false (.f ZcJ) [.t 30,.t 32]),oo 34 (.nt (.t 33))]) (.cd (.t 34) (.sq (rg [om 4 (.k (.bool false))]) (.rt)) (.sk))) (.sq (rg [om 4 (.k (.bool true))]) (.rt)))))))) }
theorem ZvF:Zv UbY UO ZiD=true:=by kernel_rfl
def ZiE:F2 :=
 { nt:=13,res:=[.t 4 [0]],body:=(.sq (rg [oo 2 (.bt (.t 0)),om 4 (i6 0)]) (.sq (rg [qM 5 1,qF 6 0 2,qL 7 6,oo 8 (.lg (.t 7)),qB 9 .sub 5 8,qM 1 9]) (.sq (.sq (rg [qM 10 1,oo 11 (.bi .lss 0 (.t 10) (i6 0))]) (.cd (.t 11) (.sq (rg [om 4 (i6 (-1))]) (.rt)) (.sk))) (.sq (rg [qM 12 1,qM 4 12]) (.rt))))) }
theorem ZvG:Zv UbY Zcy ZiE=true:=by kernel_rfl
def ZiF:F2 :=
 { nt:=14,res:=[.c 2 (some 3) [0,0,0]],body:=(.sq (rg [oo 1 (.bt (.t 0)),oo 2 (.al [.string ⟨#[]⟩,.int .i64 0,.int .i64 0] [])]) (.sq (rg [oo 3 (.al [.string ⟨#[]⟩,.int .i64 0,.int .i64 0] [])]) (.sq (rg [qF 4 0 1,qL 5 4,qF 6 0 3,
 Jf (.st 1 (.t 6) (.t 5))]) (.sq (rg [qF 7 1 1,qL 8 7,qF 9 1 3,
 Jf (.st 1 (.t 9) (.t 8))]) (.sq (rg [qF 10 2 1,qL 11 10,qF 12 2 3,
 Jf (.st 1 (.t 12) (.t 11))]) (.sq (rg [qS 13 3 3,
 Jf (.st 3 (.t 2) (.t 13))]) (.rt))))))) }
theorem ZvH:Zv UbY ZcE ZiF=true:=by kernel_rfl
def ZiG:F2 :=
 { nt:=20,res:=[.t 4 [0]],body:=(.sq (rg [oo 2 (.bt (.t 0)),oo 3 (.bt (.t 1)),om 4 (.k (.bool false))]) (.sq (.sq (rg [qF 5 0 2,qL 6 5,qF 7 0 3,qL 8 7,qB 9 .neq 6 8]) (.cd (.t 9) (.sq (rg [om 4 (.k (.bool false))]) (.rt)) (.sk))) (.sq (.sq (rg [qF 10 1 2,qL 11 10,qF 12 1 3,qL 13 12,qB 14 .neq 11 13]) (.cd (.t 14) (.sq (rg [om 4 (.k (.bool false))]) (.rt)) (.sk))) (.sq (.sq (rg [qF 15 2 2,qL 16 15,qF 17 2 3,qL 18 17,qB 19 .neq 16 18]) (.cd (.t 19) (.sq (rg [om 4 (.k (.bool false))]) (.rt)) (.sk))) (.sq (rg [om 4 (.k (.bool true))]) (.rt)))))) }
theorem ZvI:Zv UbY ZcK ZiG=true:=by kernel_rfl
def ZiH:F2 :=
 { nt:=17,res:=[.t 4 [0]],body:=(.sq (rg [oo 2 (.bt (.t 0)),oo 3 (.bt (.t 1)),om 4 (.k (.bool false))]) (.sq (.sq (rg [om 5 (i6 0)]) (.bl 0 (.lp [2,3,5] [] (.sq (.sq (rg [qM 6 5,oo 7 (.bi .lss 0 (.t 6) (i6 2))]) (.cd (.t 7) (.sk) (.ex 0))) (.sq (.bl 1 (.sq (.rg (some 0) [qM 10 5,oo 11 (.ja 1 2 (.t 2) (.t 10)),qL 12 11,qM 13 5,oo 14 (.ja 1 2 (.t 3) (.t 13)),qL 15 14,qB 16 .neq 12 15]) (.cd (.t 16) (.sq (rg [om 4 (.k (.bool false))]) (.rt)) (.sk))))
 (rg [qM 8 5,oo 9 (.bi .add 0 (.t 8) (i6 1)),qM 5 9])))))) (.sq (rg [om 4 (.k (.bool true))]) (.rt)))) }
theorem ZvJ:Zv UbY Zc4 ZiH=true:=by kernel_rfl
theorem QJ{S:Zc}{id i:Zd}{ob:Ob}(h:i≠id):Zh S id ob i=S i:=if_neg h
theorem ZiI{α:Type}{m:α->Int->α}{n:α->Nat}:∀{a:List α} {k:Int} {j:Nat} (h:j<a.length),(mL m n a k)[j]? = some (m a[j] (kJ n a k j))
 | [],_,_,h=>by cases h
 | x::r,k,0,_=>by simp [mL,kJ,nL]
 | x::r,k,j+1,h=>by
  simp only[mL,List.getElem?_cons_succ,List.getElem_cons_succ]
  rw[ZiI (by simpa using h)]
  simp only[kJ,List.take_succ_cons,nL]
  congr 2
  omega
theorem ZdQ{α:Type}{c:α->List Tr}{m:α->Int->α}{n:α->Nat}{a:List α}{k:Int}{j:Nat}(h:j<a.length):((mL m n a k).map c)[j]? = some (c (m a[j] (kJ n a k j))):=by
 rw[Uax,ZiI h];rfl
theorem Yu{α:Type}{c:α->List Tr}{m:α->Int->α}{n:α->Nat}{a:List α}{k:Int}:cut ((mL m n a k).map c) 0 a.length=(mL m n a k).map c:=by
 simp only[cut,Ubi]
 exact Uas (by rw[Uab,JF];exact Uag _)
theorem Yv{α:Type}{c:α->List Tr}{a:List α}:cut (a.map c) 0 a.length=a.map c:=by
 simp only[cut,Ubi]
 exact Uas (by rw[Uab];exact Uag _)
def YT(x:TSorting):Nat:=nL ZG x.tops+nL ZH x.nest+nL ZH x.sorts+nL ZG x.most+nL Z8 x.apart
theorem ZvK(x:TSorting)(k:Int)(lvl:Nat)(S:Zc)(i1 i2 i3 i4 i5:Zd)(k1 h1 v1 k2 h2 v2 k3 h3 v3 k4 h4 v4 k5 h5 v5:Nat)(c1 c2 c3 c4 c5:Option Nat)(l1:i1.1<lvl)(l2:i2.1<lvl)(l3:i3.1<lvl)(l4:i4.1<lvl)(l5:i5.1<lvl)(n2_1:i2≠i1)(n3_1:i3≠i1)(n3_2:i3≠i2)(n4_1:i4≠i1)(n4_2:i4≠i2)(n4_3:i4≠i3)(n5_1:i5≠i1)(n5_2:i5≠i2)(n5_3:i5≠i3)(n5_4:i5≠i4)(s1:S i1=some (.ar k1 (rI x.tops) true h1 v1))(s2:S i2=some (.ar k2 (x.nest.map (fun l=>[Tr.sl (rI l)])) true h2 v2))(s3:S i3=some (.ar k3 (x.sorts.map (fun l=>[Tr.sl (rI l)])) true h3 v3))(s4:S i4=some (.ar k4 (rI x.most) true h4 v4))(s5:S i5=some (.ar k5 (x.apart.map ZE) true h5 v5))(h0:0<=k)(hk:k+YT x<=4611686018427387904)(hb:YC 4294967296 x) :
  Sem UbY Zak lvl [.ag [.hd i1 [] 0 x.tops.length c1 h1,.hd i2 [] 0 x.nest.length c2 h2,.hd i3 [] 0 x.sorts.length c3 h3,.hd i4 [] 0 x.most.length c4 h4,.hd i5 [] 0 x.apart.length c5 h5],iI k] S (iI (k+YT x)) (Zh (Zh (Zh (Zh (Zh S i1 (.ar k1 (rI (mL Yl ZG x.tops (k))) true h1 v1)) i2 (.ar k2 (((mL YH ZH x.nest (k+(nL ZG x.tops:Nat)))).map (fun l=>[Tr.sl (rI l)])) true h2 v2)) i3 (.ar k3 (((mL YH ZH x.sorts (k+(nL ZG x.tops:Nat)+(nL ZH x.nest:Nat)))).map (fun l=>[Tr.sl (rI l)])) true h3 v3)) i4 (.ar k4 (rI (mL Yl ZG x.most (k+(nL ZG x.tops:Nat)+(nL ZH x.nest:Nat)+(nL ZH x.sorts:Nat)))) true h4 v4)) i5 (.ar k5 (((mL Vk Z8 x.apart (k+(nL ZG x.tops:Nat)+(nL ZH x.nest:Nat)+(nL ZH x.sorts:Nat)+(nL ZG x.most:Nat)))).map ZE) true h5 v5)):=by
 obtain⟨b0,b1,b2,b3,b4,b5,b6⟩:=hb
 have e1:i1.1≠lvl:=by omega
 have e2:i2.1≠lvl:=by omega
 have e3:i3.1≠lvl:=by omega
 have e4:i4.1≠lvl:=by omega
 have e5:i5.1≠lvl:=by omega
 simp only[YT] at hk
 refine ZA Zvq trivial ?_
 simp only[Zis,Z2 e1,Z2 e2,Z2 e3,Z2 e4,Z2 e5,Zb,seval,Za,men]
 simp only[Yw]
 refine UN ZdP l1 s1 (by omega) (by omega) b0 (fun _ _=>trivial) ?_
 simp only[Z2 e1,Z2 e2,Z2 e3,Z2 e4,Z2 e5,Zb,seval,Za,men]
 simp only[Yw]
 refine UN ZiB l2 (by rw[QJ n2_1];exact s2) (by omega) (by omega) b1 b2 ?_
 simp only[Z2 e1,Z2 e2,Z2 e3,Z2 e4,Z2 e5,Zb,seval,Za,men]
 simp only[Yw]
 refine UN ZiB l3 (by rw[QJ n3_2,QJ n3_1];exact s3) (by omega) (by omega) b3 b4 ?_
 simp only[Z2 e1,Z2 e2,Z2 e3,Z2 e4,Z2 e5,Zb,seval,Za,men]
 simp only[Yw]
 refine UN ZdP l4 (by rw[QJ n4_3,QJ n4_2,QJ n4_1];exact s4) (by omega) (by omega) b5 (fun _ _=>trivial) ?_
 simp only[Z2 e1,Z2 e2,Z2 e3,Z2 e4,Z2 e5,Zb,seval,Za,men]
 simp only[Yw]
 refine UN ZvC l5 (by rw[QJ n5_4,QJ n5_3,QJ n5_2,QJ n5_1];exact s5) (by omega) (by omega) b6 (fun _ _=>trivial) ?_
 simp only[Z2 e1,Z2 e2,Z2 e3,Z2 e4,Z2 e5,Zb,seval,Za,men]
 simp only[YT,Int.natCast_add,<-UbA]
 try exact⟨rfl,rfl⟩
theorem ZvL{x:TSorting}{k:Int}{lvl a1 a2 a3 a4 a5:Nat}{out:Zc}{k1 h1 v1 k2 h2 v2 k3 h3 v3 k4 h4 v4 k5 h5 v5:Nat}{c1 c2 c3 c4 c5:Option Nat}{env:List (Nat×IV)}{loc:List (Nat×Ob)}{d:Option Nat}{K:St->Prop}(n2_1:a2≠a1)(n3_1:a3≠a1)(n3_2:a3≠a2)(n4_1:a4≠a1)(n4_2:a4≠a2)(n4_3:a4≠a3)(n5_1:a5≠a1)(n5_2:a5≠a2)(n5_3:a5≠a3)(n5_4:a5≠a4)(s1:lkO a1 loc=some (.ar k1 (rI x.tops) true h1 v1))(s2:lkO a2 loc=some (.ar k2 (x.nest.map (fun l=>[Tr.sl (rI l)])) true h2 v2))(s3:lkO a3 loc=some (.ar k3 (x.sorts.map (fun l=>[Tr.sl (rI l)])) true h3 v3))(s4:lkO a4 loc=some (.ar k4 (rI x.most) true h4 v4))(s5:lkO a5 loc=some (.ar k5 (x.apart.map ZE) true h5 v5))(h0:0<=k)(hk:k+YT x<=4611686018427387904)(hb:YC 4294967296 x)
  (hK:K ⟨lvl,ptd d (iI (k+YT x)) env,(ptO a5 (.ar k5 (((mL Vk Z8 x.apart (k+(nL ZG x.tops:Nat)+(nL ZH x.nest:Nat)+(nL ZH x.sorts:Nat)+(nL ZG x.most:Nat)))).map ZE) true h5 v5) (ptO a4 (.ar k4 (rI (mL Yl ZG x.most (k+(nL ZG x.tops:Nat)+(nL ZH x.nest:Nat)+(nL ZH x.sorts:Nat)))) true h4 v4) (ptO a3 (.ar k3 (((mL YH ZH x.sorts (k+(nL ZG x.tops:Nat)+(nL ZH x.nest:Nat)))).map (fun l=>[Tr.sl (rI l)])) true h3 v3) (ptO a2 (.ar k2 (((mL YH ZH x.nest (k+(nL ZG x.tops:Nat)))).map (fun l=>[Tr.sl (rI l)])) true h2 v2) (ptO a1 (.ar k1 (rI (mL Yl ZG x.tops (k))) true h1 v1) loc))))),out⟩) :
  XZ (Sem UbY) Zak true lvl env loc out d K [.ag [.hd (lvl,a1) [] 0 x.tops.length c1 h1,.hd (lvl,a2) [] 0 x.nest.length c2 h2,.hd (lvl,a3) [] 0 x.sorts.length c3 h3,.hd (lvl,a4) [] 0 x.most.length c4 h4,.hd (lvl,a5) [] 0 x.apart.length c5 h5],iI k]:=by
 refine D0 (r:=iI (k+YT x)) (ptO a5 (.ar k5 (((mL Vk Z8 x.apart (k+(nL ZG x.tops:Nat)+(nL ZH x.nest:Nat)+(nL ZH x.sorts:Nat)+(nL ZG x.most:Nat)))).map ZE) true h5 v5) (ptO a4 (.ar k4 (rI (mL Yl ZG x.most (k+(nL ZG x.tops:Nat)+(nL ZH x.nest:Nat)+(nL ZH x.sorts:Nat)))) true h4 v4) (ptO a3 (.ar k3 (((mL YH ZH x.sorts (k+(nL ZG x.tops:Nat)+(nL ZH x.nest:Nat)))).map (fun l=>[Tr.sl (rI l)])) true h3 v3) (ptO a2 (.ar k2 (((mL YH ZH x.nest (k+(nL ZG x.tops:Nat)))).map (fun l=>[Tr.sl (rI l)])) true h2 v2) (ptO a1 (.ar k1 (rI (mL Yl ZG x.tops (k))) true h1 v1) loc))))) out (fun _ _=>rfl) ?_ ⟨trivial,hK⟩
 rw[WO,WO,WO,WO,WO]
 exact ZvK x k (lvl+1) _ (lvl,a1) (lvl,a2) (lvl,a3) (lvl,a4) (lvl,a5) k1 h1 v1 k2 h2 v2 k3 h3 v3 k4 h4 v4 k5 h5 v5 c1 c2 c3 c4 c5 (UaX _) (UaX _) (UaX _) (UaX _) (UaX _) (fun e=>n2_1 (congrArg Prod.snd e)) (fun e=>n3_1 (congrArg Prod.snd e)) (fun e=>n3_2 (congrArg Prod.snd e)) (fun e=>n4_1 (congrArg Prod.snd e)) (fun e=>n4_2 (congrArg Prod.snd e)) (fun e=>n4_3 (congrArg Prod.snd e)) (fun e=>n5_1 (congrArg Prod.snd e)) (fun e=>n5_2 (congrArg Prod.snd e)) (fun e=>n5_3 (congrArg Prod.snd e)) (fun e=>n5_4 (congrArg Prod.snd e)) (by rw[J2];exact s1) (by rw[J2];exact s2) (by rw[J2];exact s3) (by rw[J2];exact s4) (by rw[J2];exact s5) h0 hk hb
def Wg(x:TSorting)(k:Int):TSorting:={ x with tops:=mL Yl ZG x.tops (k),nest:=mL YH ZH x.nest (k+(nL ZG x.tops:Nat)),sorts:=mL YH ZH x.sorts (k+(nL ZG x.tops:Nat)+(nL ZH x.nest:Nat)),most:=mL Yl ZG x.most (k+(nL ZG x.tops:Nat)+(nL ZH x.nest:Nat)+(nL ZH x.sorts:Nat)),apart:=mL Vk Z8 x.apart (k+(nL ZG x.tops:Nat)+(nL ZH x.nest:Nat)+(nL ZH x.sorts:Nat)+(nL ZG x.most:Nat)) }
theorem ZdR(a:List Int)(k:Int)(hl:a.length<=4294967296)(h0:0<=k)(hk:k+nL ZG a<=4611686018427387904)(lvl:Nat)(S:Zc):Sem UbY US lvl [.tr (.sl (rI (mL Yl ZG a k))),iI k] S (iI (k+nL ZG a)) S:=by
 refine ZA Zvw trivial ?_
 simp only[Ziy,Zb,seval,Za,men]
 refine J3 (α:=Unit) a.length (fun j _=>⟨lvl,[(0,.tr (.sl (rI (mL Yl ZG a k)))),(1,iI (kJ ZG a k j)),(5,iI j)],[],S⟩) (fun _ _=>True) () ⟨by simp only[Zb,seval,Za,men],by (simp only[X5,Zb,seval,Za,men]) <;> rfl⟩ trivial ?_
 intro j _ hj _
 simp only[Uab,JF,Zb,seval,Za,men]
 refine Zu (fun hlt=>?_) (fun hge=>?_)
 ·have hja:j<a.length:=by omega
  have ga:=ZdQ (c:=(fun n:Int=>[tv n])) (m:=Yl) (n:=ZG) (k:=k) hja
  have hge2:=X7 ZG (a:=a) (k:=k) (j:=j+1)
  rw[Ve ZG hja] at hge2
  have hge3:=X8 ZG (a:=a) (k:=k) (j:=j)
  try simp only[ZG] at hge2
  simp only[ga,Yl,ZdO,Uay,hja,ne_eq,not_true_eq_false,Zb,seval,Za,men]
  refine⟨by rw[Zl];omega,⟨by rw[Zl];omega,ZC () hja ?_ trivial⟩⟩
  rw[Ve ZG hja]
  simp only[ZG,Int.natCast_add,Int.natCast_one,UbA]
  try rfl
 ·have:j=a.length:=by omega
  subst this
  rw[X6]
theorem ZiJ(a:List (List Int))(k:Int)(hl:a.length<=4294967296)(hB:∀ x∈a,(fun x=>x.length<=4294967296) x)(h0:0<=k)(hk:k+nL ZH a<=4611686018427387904)(lvl:Nat)(S:Zc):Sem UbY Zat lvl [.tr (.sl (((mL YH ZH a k)).map (fun l=>[Tr.sl (rI l)]))),iI k] S (iI (k+nL ZH a)) S:=by
 refine ZA Zvx trivial ?_
 simp only[Ziz,Zb,seval,Za,men]
 refine J3 (α:=Unit) a.length (fun j _=>⟨lvl,[(0,.tr (.sl (((mL YH ZH a k)).map (fun l=>[Tr.sl (rI l)])))),(1,iI (kJ ZH a k j)),(5,iI j)],[],S⟩) (fun _ _=>True) () ⟨by simp only[Zb,seval,Za,men],by (simp only[X5,Zb,seval,Za,men]) <;> rfl⟩ trivial ?_
 intro j _ hj _
 simp only[Uab,JF,Zb,seval,Za,men]
 refine Zu (fun hlt=>?_) (fun hge=>?_)
 ·have hja:j<a.length:=by omega
  have ga:=ZdQ (c:=(fun l=>[Tr.sl (rI l)])) (m:=YH) (n:=ZH) (k:=k) hja
  have hge2:=X7 ZH (a:=a) (k:=k) (j:=j+1)
  rw[Ve ZH hja] at hge2
  have hge3:=X8 ZH (a:=a) (k:=k) (j:=j)
  try simp only[ZH] at hge2
  have hb:=hB _ (Ual hja)
  simp only[ga,YH,Yl,ZdO,Uay,hja,ne_eq,not_true_eq_false,Zb,seval,Za,men]
  refine Zi (ZdR (a[j]) (kJ ZH a k j) hb (by omega) (by omega)) ?_
  have hz0:¬ (kJ ZH a k j+(nL ZG (a[j]):Nat)<0):=by omega
  simp only[ga,YH,Yl,ZdO,Uay,hja,ne_eq,not_true_eq_false,hz0,Zb,seval,Za,men]
  refine⟨by rw[Zl];omega,ZC () hja ?_ trivial⟩
  rw[Ve ZH hja]
  simp only[ZH,Int.natCast_add,Int.natCast_one,UbA]
  try rfl
 ·have:j=a.length:=by omega
  subst this
  rw[X6]
theorem ZvM(a:List (Int×Int))(k:Int)(hl:a.length<=4294967296)(h0:0<=k)(hk:k+nL Z8 a<=4611686018427387904)(lvl:Nat)(S:Zc):Sem UbY ZcN lvl [.tr (.sl (((mL Vk Z8 a k)).map ZE)),iI k] S (iI (k+nL Z8 a)) S:=by
 refine ZA Zvy trivial ?_
 simp only[ZiA,Zb,seval,Za,men]
 refine J3 (α:=Unit) a.length (fun j _=>⟨lvl,[(0,.tr (.sl (((mL Vk Z8 a k)).map ZE))),(1,iI (kJ Z8 a k j)),(5,iI j)],[],S⟩) (fun _ _=>True) () ⟨by simp only[Zb,seval,Za,men],by (simp only[X5,Zb,seval,Za,men]) <;> rfl⟩ trivial ?_
 intro j _ hj _
 simp only[Uab,JF,Zb,seval,Za,men]
 refine Zu (fun hlt=>?_) (fun hge=>?_)
 ·have hja:j<a.length:=by omega
  have ga:=ZdQ (c:=ZE) (m:=Vk) (n:=Z8) (k:=k) hja
  have hge2:=X7 Z8 (a:=a) (k:=k) (j:=j+1)
  rw[Ve Z8 hja] at hge2
  have hge3:=X8 Z8 (a:=a) (k:=k) (j:=j)
  try simp only[Z8] at hge2
  try simp only[ga,Uay,hja,Zb,seval,Za,men]
  refine J3 (α:=Unit) 2 (fun i _=>⟨lvl,[(0,.tr (.sl (((mL Vk Z8 a k)).map ZE))),(1,iI (kJ Z8 a k j+i)),(5,iI j),(6,iI i)],[],S⟩) (fun _ _=>True) () ⟨by simp only[Zb,seval,Za,men],by (simp only[Int.natCast_zero,Int.add_zero,Zb,seval,Za,men]) <;> rfl⟩ trivial ?_
  intro i _ hi _
  have hc:i=0\/i=1\/i=2:=by omega
  rcases hc with rfl | rfl | rfl
  ·simp only[ga,ZE,Vk,Uay,hja,Int.cast_ofNat_Int,Int.natCast_zero,Nat.zero_mul,Ube,Nat.mul_one,Int.add_zero,Int.natCast_one,Int.reduceAdd,Ua1,UaE,Nat.zero_lt_one,Nat.reduceAdd,ne_eq,not_true_eq_false,Zb,↓reduceIte,Nat.reduceEqDiff,Nat.reduceMul,reduceCtorEq,Nat.reduceSub,Nat.reduceLeDiff,Nat.reduceLT,Int.reduceToNat,Int.reduceLE,Int.reduceLT,Za,men]
   refine⟨by rw[Zl];omega,by rw[Zl];omega,ZC (N:=2) (k:=0) () (by omega) ?_ trivial⟩
   rw[show kJ Z8 a k j+1=kJ Z8 a k j+((1:Nat):Int) from by omega]
   rfl
  ·simp only[ga,ZE,Vk,Uay,hja,Int.cast_ofNat_Int,Int.natCast_zero,Nat.zero_mul,Ube,Nat.mul_one,Int.add_zero,Int.natCast_one,Int.reduceAdd,Ua1,UaE,Nat.zero_lt_one,Nat.reduceAdd,ne_eq,not_true_eq_false,Zb,↓reduceIte,Nat.reduceEqDiff,Nat.reduceMul,reduceCtorEq,Nat.reduceSub,Nat.reduceLeDiff,Nat.reduceLT,Int.reduceToNat,Int.reduceLE,Int.reduceLT,Za,men]
   refine⟨by rw[Zl];omega,by rw[Zl];omega,ZC (N:=2) (k:=1) () (by omega) ?_ trivial⟩
   rw[show kJ Z8 a k j+1+1=kJ Z8 a k j+((2:Nat):Int) from by omega]
   rfl
  ·simp only[ga,ZE,Vk,Uay,hja,Int.cast_ofNat_Int,Int.natCast_zero,Nat.zero_mul,Ube,Nat.mul_one,Int.add_zero,Int.natCast_one,Int.reduceAdd,Ua1,UaE,Nat.zero_lt_one,Nat.reduceAdd,ne_eq,not_true_eq_false,Zb,↓reduceIte,Nat.reduceEqDiff,Nat.reduceMul,reduceCtorEq,Nat.reduceSub,Nat.reduceLeDiff,Nat.reduceLT,Int.reduceToNat,Int.reduceLE,Int.reduceLT,Za,men]
   refine⟨by rw[Zl];omega,ZC () hja ?_ trivial⟩
   rw[Ve Z8 hja]
   rfl
 ·have:j=a.length:=by omega
  subst this
  rw[X6]
theorem ZiK(x:TSorting)(k:Int)(hb:YC 4294967296 x)(h0:0<=k)(hk:k+YT x<=4611686018427387904)(lvl:Nat)(S:Zc):Sem UbY Zal lvl [.ag ((Zw (Wg x k)).map .tr),iI k] S (iI (k+YT x)) S:=by
 obtain⟨b0,b1,b2,b3,b4,b5,b6⟩:=hb
 simp only[YT] at hk
 refine ZA Zvr trivial ?_
 simp only[Zit,Zw,Wg,Zb,seval,Za,men]
 refine Zi (ZdR x.tops (k) b0 (by omega) (by omega)) ?_
 have hz0:¬ (k+(nL ZG x.tops:Nat)<0):=by omega
 simp only[Zw,Wg,hz0,Zb,seval,Za,men]
 refine Zi (ZiJ x.nest (k+(nL ZG x.tops:Nat)) b1 b2 (by omega) (by omega)) ?_
 have hz1:¬ (k+(nL ZG x.tops:Nat)+(nL ZH x.nest:Nat)<0):=by omega
 simp only[Zw,Wg,hz1,Zb,seval,Za,men]
 refine Zi (ZiJ x.sorts (k+(nL ZG x.tops:Nat)+(nL ZH x.nest:Nat)) b3 b4 (by omega) (by omega)) ?_
 have hz2:¬ (k+(nL ZG x.tops:Nat)+(nL ZH x.nest:Nat)+(nL ZH x.sorts:Nat)<0):=by omega
 simp only[Zw,Wg,hz2,Zb,seval,Za,men]
 refine Zi (ZdR x.most (k+(nL ZG x.tops:Nat)+(nL ZH x.nest:Nat)+(nL ZH x.sorts:Nat)) b5 (by omega) (by omega)) ?_
 have hz3:¬ (k+(nL ZG x.tops:Nat)+(nL ZH x.nest:Nat)+(nL ZH x.sorts:Nat)+(nL ZG x.most:Nat)<0):=by omega
 simp only[Zw,Wg,hz3,Zb,seval,Za,men]
 refine Zi (ZvM x.apart (k+(nL ZG x.tops:Nat)+(nL ZH x.nest:Nat)+(nL ZH x.sorts:Nat)+(nL ZG x.most:Nat)) b6 (by omega) (by omega)) ?_
 have hz4:¬ (k+(nL ZG x.tops:Nat)+(nL ZH x.nest:Nat)+(nL ZH x.sorts:Nat)+(nL ZG x.most:Nat)+(nL Z8 x.apart:Nat)<0):=by omega
 simp only[Zw,Wg,hz4,Zb,seval,Za,men]
 simp only[YT,Int.natCast_add,<-UbA]
theorem ZdS:∀(l:List Int),nL ZG l=l.length
 | []=>rfl
 | x::r=>by simp only[nL,List.length_cons,ZdS r,ZG];omega
theorem ZiL{α:Type}{n:α->Nat}{B:Nat}:∀(l:List α),(∀ x∈l,n x<=B)->nL n l<=l.length*B
 | [],_=>Ubd _
 | x::r,h=>by
  have h1:=h x (by simp)
  have h2:=ZiL r (fun y hy=>h y (by simp [hy]))
  simp only[nL,List.length_cons,UaI]
  omega
theorem ZiM{B:Nat}(l:List (List Int))(h:∀ x∈l,x.length<=B):nL ZH l<=l.length*B:=ZiL l fun x hx=>by simp only[ZH,ZdS];exact h x hx
theorem ZvN(x:TControl):Zq 256 (fun l=>VG x l) (Y0 x):=Zgn (Zs2 (by omega) (by omega) (Zs3 x.name.size) Zs1) (by simp only[Y0];omega)
theorem ZiN{α:Type}{f:α->Int->Int}:∀(a:List α) (l:Int),(∀ x∈a,∀ l:Int,0<=l->l<=1048576->f x l<=l)->0<=l->l<=1048576->Vc f a l<=l
 | [],l,_,_,_=>Ubv l
 | x::r,l,hf,h0,h1=>by
  simp only[Vc]
  have:=hf x (by simp) l h0 h1
  split
  ·omega
  ·have h2:=ZiN r (f x l) (fun y hy=>hf y (by simp [hy])) (by omega) (by omega)
   omega
theorem ZvO{α:Type}{f:α->Int->Int}(a:List α){l:Int}(hf:∀ x∈a,∀ l:Int,0<=l->l<=1048576->f x l<=l)(h0:0<=l)(h1:l<=1048576):Qu f a l<=l:=by
 unfold Qu
 split
 ·omega
 ·have:=ZiN a (l-a.length) hf (by omega) (by omega)
  omega
theorem ZvP{l m:Int}{g:Int->Int}(h0:0<=l)(h:m<=l)(hg:0<=m->g m<=m):V4 m g<=l:=by
 unfold V4
 split
 ·omega
 ·have:=hg (by omega)
  omega
theorem ZiO(x:TControl)(hb:JU 9223372036854775807 x)(l:Int)(h0:0<=l)(h1:l<=1048576):VG x l<=l/\∀ lvl S,Sem UbY Zcy lvl [.ag ((Zp x).map .tr),iI l] S (iI (VG x l)) S:=by
 have b0:x.name.size<=9223372036854775807:=hb
 refine⟨?_,fun lvl S=>?_⟩
 ·unfold VG
  refine ZvP h0 (m:=l-x.name.size) (by omega) (fun p0=>?_)
  have r0:_<=(1048576:Int):=Int.le_trans (show l-x.name.size<=l by omega) h1
  exact Ubv _
 ·refine ZA ZvG trivial ?_
  simp only[ZiE,Zp,UaH,UaT,Zb,seval,Za,men]
  unfold VG
  refine⟨by rw[Zl];omega,?_⟩
  obtain⟨l1,hl1⟩:∃ m:Int,m=l-x.name.size:=⟨_,rfl⟩
  have u1:l1<=l:=by omega
  rw[<-hl1]
  split
  ·rename_i hn;rw[V4,if_pos hn]
  rename_i hn0
  rw[V4,if_neg hn0]
theorem ZvQ:Zv UbY Zcu (Zck 3 (some 3) Zcy)=true:=by kernel_rfl
theorem ZvR(a:List TControl)(hl:a.length<=9223372036854775807)(hb:∀ y∈a,JU 9223372036854775807 y)(l:Int)(h0:0<=l)(h1:l<=1048576):Qu VG a l<=l/\∀ lvl S,Sem UbY Zcu lvl [.tr (.sl (a.map Zp)),iI l] S (iI (Qu VG a l)) S :=
 ⟨ZvO a (fun x hx l h0 h1=>(ZiO x (hb x hx) l h0 h1).1) h0 h1,fun lvl S=>ZsN ZvQ Zp VG Zct a l hl h0 h1 (fun x hx l h0 h1=>ZiO x (hb x hx) l h0 h1) lvl S⟩
theorem ZvS(x y:TControl)(hb:JU 9223372036854775807 x)(lvl:Nat)(S:Zc):Sem UbY ZcK lvl [.ag ((Zp x).map .tr),.ag ((Zp y).map .tr)] S (iB (decide (x=y))) S:=by
 have b0:x.name.size<=9223372036854775807:=hb
 refine ZA ZvI trivial ?_
 simp only[ZiG,Zp,UaH,UaT,Zb,seval,Za,men]
 refine Zu (fun hne=>?_) (fun heq0=>?_)
 ·have:¬ x=y:=fun e=>(by rw[e] at hne;simp at hne)
  simp [this]
 refine Zu (fun hne=>?_) (fun heq1=>?_)
 ·have:¬ x=y:=fun e=>(by rw[e] at hne;simp at hne)
  simp [this]
 refine Zu (fun hne=>?_) (fun heq2=>?_)
 ·have:¬ x=y:=fun e=>(by rw[e] at hne;simp at hne)
  simp [this]
 have:x=y:=by
  cases x;cases y;simp_all
 simp [this]
theorem ZvT:Zv UbY Zcw (X4 3 (some 3) ZcK)=true:=by kernel_rfl
theorem ZvU(a b:(List TControl))(ha:a.length<=9223372036854775807)(ha2:∀ y∈a,JU 9223372036854775807 y)(lvl:Nat)(S:Zc):Sem UbY Zcw lvl [.tr (.sl (a.map Zp)),.tr (.sl (b.map Zp))] S (iB (decide (a=b))) S :=
 Zge ZvT Zp (fun _=>rfl) a b ha (fun x hx y _ lvl S=>ZvS x y (ha2 x hx) lvl S) lvl S
theorem ZvV:Zv UbY UQ Zco=true:=by kernel_rfl
theorem ZdT(a b:(List Int))(ha:a.length<=9223372036854775807)(lvl:Nat)(S:Zc):Sem UbY UQ lvl [.tr (.sl (rI a)),.tr (.sl (rI b))] S (iB (decide (a=b))) S:=ZsO ZvV a b ha lvl S
theorem ZvW:Zv UbY Zar (X4 1 none UQ)=true:=by kernel_rfl
theorem ZiP(a b:(List (List Int)))(ha:a.length<=9223372036854775807)(ha2:∀ y∈a,y.length<=9223372036854775807)(lvl:Nat)(S:Zc):Sem UbY Zar lvl [.tr (.sl (a.map (fun l=>[Tr.sl (rI l)]))),.tr (.sl (b.map (fun l=>[Tr.sl (rI l)])))] S (iB (decide (a=b))) S :=
 ZsU ZvW (fun l=>Tr.sl (rI l)) a b ha (fun x hx y _ lvl S=>ZdT x y (ha2 x hx) lvl S) lvl S
theorem ZvX(x y:(Int×Int))(lvl:Nat)(S:Zc):Sem UbY Zc4 lvl [.ag ((ZE x).map .tr),.ag ((ZE y).map .tr)] S (iB (decide (x=y))) S:=by
 refine ZA ZvJ trivial ?_
 simp only[ZiH,ZE,Zb,seval,Za,men]
 refine J3 (α:=Unit) 2 (fun j _=>⟨lvl,[(2,.ta (ZE x)),(3,.ta (ZE y)),(5,iI j)],[],S⟩) (fun j _=>(ZE x).take j=(ZE y).take j) () ⟨by simp only[Zb,seval,Za,men],by (simp only[Zb,seval,Za,men]) <;> rfl⟩ rfl ?_
 intro j _ hj hA
 have hc:j=0\/j=1\/j=2:=by omega
 rcases hc with rfl | rfl | rfl
 ·simp only[ZE,Int.cast_ofNat_Int,Int.natCast_zero,Nat.zero_mul,Ube,Nat.mul_one,Zb,seval,Za,men]
  refine Zu (fun hne=>?_) (fun heq=>?_)
  ·have:¬ x=y:=fun e=>hne (by rw[e])
   simp [this]
  ·refine⟨by rw[Zl];omega,ZC (N:=2) (k:=0) () (by omega) rfl ?_⟩
   simp [ZE] at hA ⊢
   simp_all
 ·simp only[ZE,Int.cast_ofNat_Int,Int.natCast_zero,Nat.zero_mul,Ube,Nat.mul_one,Zb,seval,Za,men]
  refine Zu (fun hne=>?_) (fun heq=>?_)
  ·have:¬ x=y:=fun e=>hne (by rw[e])
   simp [this]
  ·refine⟨by rw[Zl];omega,ZC (N:=2) (k:=1) () (by omega) rfl ?_⟩
   simp [ZE] at hA ⊢
   simp_all
 ·simp only[ZE,Int.cast_ofNat_Int,Zb,seval,Za,men]
  have:x=y:=by
   simp [ZE] at hA
   obtain⟨x0,x1⟩:=x;obtain⟨y0,y1⟩:=y
   simp_all
  simp [this]
theorem ZvY:Zv UbY ZcJ (X4 2 (some 2) Zc4)=true:=by kernel_rfl
theorem ZvZ(a b:(List (Int×Int)))(ha:a.length<=9223372036854775807)(lvl:Nat)(S:Zc):Sem UbY ZcJ lvl [.tr (.sl (a.map ZE)),.tr (.sl (b.map ZE))] S (iB (decide (a=b))) S :=
 Zge ZvY ZE (fun _=>rfl) a b ha (fun x hx y _ lvl S=>ZvX x y lvl S) lvl S
theorem ZdU(x y:TSorting)(hb:YC 9223372036854775807 x)(lvl:Nat)(S:Zc):Sem UbY UO lvl [.ag ((Zw x).map .tr),.ag ((Zw y).map .tr)] S (iB (decide (x=y))) S:=by
 obtain⟨b0,b1,b2,b3,b4,b5,b6⟩:=hb
 refine ZA ZvF trivial ?_
 simp only[ZiD,Zw,UaH,UaT,Zb,seval,Za,men]
 refine Zi (ZdT x.tops y.tops b0) ?_
 simp only[Uaw,Zb,seval,Za,men]
 refine Zu (fun hne=>?_) (fun heq0=>?_)
 ·have:¬ x=y:=fun e=>(by rw[e] at hne;simp at hne)
  simp [this]
 refine Zi (ZiP x.nest y.nest b1 b2) ?_
 simp only[Uaw,Zb,seval,Za,men]
 refine Zu (fun hne=>?_) (fun heq1=>?_)
 ·have:¬ x=y:=fun e=>(by rw[e] at hne;simp at hne)
  simp [this]
 refine Zi (ZiP x.sorts y.sorts b3 b4) ?_
 simp only[Uaw,Zb,seval,Za,men]
 refine Zu (fun hne=>?_) (fun heq2=>?_)
 ·have:¬ x=y:=fun e=>(by rw[e] at hne;simp at hne)
  simp [this]
 refine Zi (ZdT x.most y.most b5) ?_
 simp only[Uaw,Zb,seval,Za,men]
 refine Zu (fun hne=>?_) (fun heq3=>?_)
 ·have:¬ x=y:=fun e=>(by rw[e] at hne;simp at hne)
  simp [this]
 refine Zi (ZvZ x.apart y.apart b6) ?_
 simp only[Uaw,Zb,seval,Za,men]
 refine Zu (fun hne=>?_) (fun heq4=>?_)
 ·have:¬ x=y:=fun e=>(by rw[e] at hne;simp at hne)
  simp [this]
 have:x=y:=by
  cases x;cases y;simp_all
 simp [this]
theorem Zv0(x:TControl)(hb:JU 4294967296 x)(lvl:Nat)(S:Zc):Sem UbY ZcE lvl [.ag ((Zp x).map .tr)] S (Zai x) S:=by
 have b0:x.name.size<=4294967296:=hb
 refine ZA ZvH (by simp [Zai,low,men,Za]) ?_
 simp only[ZiF,Zp,zfill,zobs,UaH,UaT,Jk,Jl,List.set_cons_zero,List.set_cons_succ,Zb,seval,Za,men]
 rfl
theorem Za7(a:(List TControl))(ha:a.length<=4294967296)(hb:∀ y∈a,JU 4294967296 y)(lvl:Nat)(S:Zc):Sem UbY WP lvl [.tr (.sl (a.map Zp))] S (.ow 3 (a.map Zp) true) S:=by
 refine ZA ZvE trivial ?_
 simp only[ZiC,Uab,bigN,Ua8,Zb,seval,Za,men]
 refine⟨by omega,?_⟩
 refine J3 (α:=Unit) a.length (fun j _=>⟨lvl,[(0,.tr (.sl (a.map Zp))),(3,.hd (lvl,224) [] 0 a.length none a.length),(4,iI j)],[(224,.ar 3 (Vd Zp [ts ⟨#[]⟩,tv 0,tv 0] a j) true a.length (j*0))],S⟩) (fun _ _=>True) () ⟨by simp only[Zb,seval,Za,men],by (simp only[ZsP,Zb,seval,Za,men]) <;> rfl⟩ trivial ?_
 intro j _ hj _
 simp only[Uab,Zb,seval,Za,men]
 refine Zu (fun hlt=>?_) (fun hge=>?_)
 ·have hja:j<a.length:=by omega
  have ga:(a.map Zp)[j]? = some (Zp a[j]):=by simp [hja]
  have gz:(Vd Zp [ts ⟨#[]⟩,tv 0,tv 0] a j)[j]? = some [ts ⟨#[]⟩,tv 0,tv 0]:=ZsS hja
  have hfl:(Vd Zp [ts ⟨#[]⟩,tv 0,tv 0] a j).length=a.length:=ZsR hj
  have hsem:=fun lvl S=>Zv0 a[j] (hb a[j] (Ual hja)) lvl S
  simp only[ga,gz,Ua8,Uag,hja,Zp,Zai,Nat.reduceLeDiff,Zb,↓reduceIte,Nat.reduceEqDiff,Nat.reduceMul,reduceCtorEq,Nat.reduceAdd,Nat.reduceSub,Nat.reduceLT,Int.reduceToNat,Int.reduceLE,Int.reduceLT,Za,men]
  refine Zi hsem ?_
  simp only[Zai,gz,Ua8,Uag,hja,hfl,ZJ,UbB,UbE,Ua6,List.set_cons_zero,List.set_cons_succ,UbJ,ne_eq,not_false_eq_true,Zb,seval,Za,men]
  refine⟨by rw[Zl];omega,ZC () hja ?_ trivial⟩
  have hse:=ZsT (c:=Zp) (z:=[ts ⟨#[]⟩,tv 0,tv 0]) (e:=[ts a[j].name,tv a[j].ports,tv a[j].kind_]) hja rfl
  rw[hse,show (j+1)*0=j*0 from by omega]
  rfl
 ·have:j=a.length:=by omega
  subst this
  rw[ZsQ]
  simp
theorem ZiQ:∀ l:List A2,nL Z8 l=2*l.length
 | []=>rfl
 | x::r=>by
  simp only[nL,Z8,ZiQ r,List.length_cons]
  omega
theorem Zv1{sig:List TControl}{t:TSorting}(h:sortOK sig t):YC 16 t:=by
 have f:=U2 h
 have hn:=h.sg.2.2
 have htl:=f.topsL
 have hml:=f.mostL
 refine⟨by omega,by rw[h.nestL];omega,fun y hy=>?_,by rw[h.sortsL];omega,fun y hy=>?_,by omega,f.apartL⟩
 ·obtain⟨k,hk,rfl⟩:=UaR hy
  have:=(f.nest k (by rw[<-h.nestL];exact hk)).2
  rw[Xe hk] at this
  omega
 ·obtain⟨k,hk,rfl⟩:=UaR hy
  have:=(f.sorts k (by rw[<-h.sortsL];exact hk)).2
  rw[Xe hk] at this
  omega
theorem Zv2{a b:Nat}{x:TSorting}(hab:a<=b)(h:YC a x):YC b x :=
 ⟨UaV h.1 hab,UaV h.2.1 hab,fun y hy=>UaV (h.2.2.1 y hy) hab,UaV h.2.2.2.1 hab,fun y hy=>UaV (h.2.2.2.2.1 y hy) hab,UaV h.2.2.2.2.2.1 hab,UaV h.2.2.2.2.2.2 hab⟩
theorem Zv3{x:TSorting}(h:YC 16 x):YC 4294967296 x/\1+(YT x:Int)<=4611686018427387904:=by
 refine⟨Zv2 (by omega) h,?_⟩
 obtain⟨b1,b2,b3,b4,b5,b6,b7⟩:=h
 have n1:=ZiM (B:=16) x.nest b3
 have n2:=ZiM (B:=16) x.sorts b5
 simp only[YT,ZdS,ZiQ] at *
 omega
theorem Zv4(sig:List TControl)(s:ByteArray)(_hn:sig.length<=4294967296)(_hbs:∀ y∈sig,JU 4294967296 y)(_hs:s.size<=1048576):YC 4294967296 (Yk sig s)/\1+(YT (Yk sig s):Int)<=4611686018427387904:=by
 refine Zv3 ?_
 unfold Yk
 split
 ·rename_i h
  exact Zv1 h.choose_spec.1
 ·exact⟨by simp [Yj],by simp [Yj],by simp [Yj],by simp [Yj],by simp [Yj],by simp [Yj],by simp [Yj]⟩
theorem Zv5(x0:(List TControl))(x1:ByteArray)(hb0_0:x0.length<=9223372036854775807)(hb0_1:∀ y∈x0,JU 9223372036854775807 y)(hb1_0:x1.size<=9223372036854775807)(lvl:Nat)(S:Zc):Sem UbY Zgp lvl [.tr (.sl (x0.map Zp)),iS x1] S (iB true) S:=by
 refine ZA Zvo trivial ?_
 simp only[Ziq,Uab,Yv,Yu,JF,ne_eq,not_true_eq_false,bne_self_eq_false,Zw,Jm,Zb,seval,Za,men]
 refine Zu (fun _=>trivial) (fun hl1=>?_)
 have hs1_0:x1.size<=1048576:=by omega
 have ul:(1048576:Int)<=1048576:=Ubv _
 obtain⟨_,ha0⟩:=ZvR x0 hb0_0 hb0_1 (1048576) (by omega) (by omega)
 refine Zi ha0 ?_
 simp only[Uab,Yv,Yu,JF,ne_eq,not_true_eq_false,bne_self_eq_false,Zw,Jm,Zb,seval,Za,men]
 refine Zu (fun _=>trivial) (fun hz0=>?_)
 have zp0:=(Zt3 (f:=VG) (fun y=>(Zt5 y)) x0) (1048576) (by omega) (by omega)
 have zq0:=(Zs4 (f:=VG) (n:=Y0) (fun y=>Zgn (ZvN y) (by omega)) x0) (1048576) (by omega) (by omega)
 simp only at zp0 zq0
 have hp0:=zp0.2 (by omega)
 have hq0:=zq0.2 (by omega)
 obtain⟨hs0_0,hs0_1⟩:=hp0
 refine Zi (Za7 x0 hs0_0 hs0_1) ?_
 simp only[Uab,Yv,Yu,JF,ne_eq,not_true_eq_false,bne_self_eq_false,Zw,Jm,Zb,seval,Za,men]
 refine Zi (Zvl x0 x1 hs0_0 hs0_1 hs1_0) ?_
 simp only[Uab,Yv,Yu,JF,ne_eq,not_true_eq_false,bne_self_eq_false,Zw,Jm,Zb,seval,Za,men]
 refine Zi (Za7 x0 hs0_0 hs0_1) ?_
 simp only[Uab,Yv,Yu,JF,ne_eq,not_true_eq_false,bne_self_eq_false,Zw,Jm,Zb,seval,Za,men]
 refine Zi (Zin x0 x1 hs0_0 hs0_1 hs1_0) ?_
 simp only[Uab,Yv,Yu,JF,ne_eq,not_true_eq_false,bne_self_eq_false,Zw,Jm,Zb,seval,Za,men]
 obtain⟨hr0_0,hrn⟩:=Zv4 x0 x1 hs0_0 hs0_1 hs1_0
 refine Zi (ZdU (Yk x0 x1) (Yk x0 x1) (Zdl hr0_0)) ?_
 simp only[Uab,Yv,Yu,JF,ne_eq,not_true_eq_false,bne_self_eq_false,Zw,Jm,Zb,seval,Za,men]
 refine Zi (Za7 x0 hs0_0 hs0_1) ?_
 simp only[Uab,Yv,Yu,JF,ne_eq,not_true_eq_false,bne_self_eq_false,Zw,Jm,Zb,seval,Za,men]
 refine Zi (ZvU x0 x0 hb0_0 hb0_1) ?_
 simp only[Uab,Yv,Yu,JF,ne_eq,not_true_eq_false,bne_self_eq_false,Zw,Jm,Zb,seval,Za,men]
 simp only[Yw]
 refine Zs0 ZvD (a:=x0) rfl (by omega) (by omega) hs0_0 hs0_1 ?_
 simp only[Uab,Yv,Yu,JF,ne_eq,not_true_eq_false,bne_self_eq_false,Zw,Jm,Zb,seval,Za,men]
 have hk0:¬ (1+(nL Y0 x0:Nat)<(0:Int)):=by omega
 simp only[hk0,Uab,Yv,Yu,JF,ne_eq,not_true_eq_false,bne_self_eq_false,Zw,Jm,Zb,seval,Za,men]
 refine Zi (ZdU (Yk x0 x1) (Yk x0 x1) (Zdl hr0_0)) ?_
 simp only[Uab,Yv,Yu,JF,ne_eq,not_true_eq_false,bne_self_eq_false,Zw,Jm,Zb,seval,Za,men]
 simp only[Yw]
 refine ZvL (x:=(Yk x0 x1)) (by decide) (by decide) (by decide) (by decide) (by decide) (by decide) (by decide) (by decide) (by decide) (by decide) rfl rfl rfl rfl rfl (by omega) (by omega) hr0_0 ?_
 simp only[Uab,Yv,Yu,JF,ne_eq,not_true_eq_false,bne_self_eq_false,Zw,Jm,Zb,seval,Za,men]
 refine Zi (ZiK (Yk x0 x1) (1) hr0_0 (by omega) (by omega)) ?_
 have hh0:¬ (1+(YT (Yk x0 x1):Nat)<(0:Int)):=by omega
 simp only[hh0,Uab,Yv,Yu,JF,ne_eq,not_true_eq_false,bne_self_eq_false,Zw,Jm,Zb,seval,Za,men]
 refine Zi (Za7 x0 hs0_0 hs0_1) ?_
 simp only[Uab,Yv,Yu,JF,ne_eq,not_true_eq_false,bne_self_eq_false,Zw,Jm,Zb,seval,Za,men]
 refine Zi (Zin x0 x1 hs0_0 hs0_1 hs1_0) ?_
 simp only[Uab,Yv,Yu,JF,ne_eq,not_true_eq_false,bne_self_eq_false,Zw,Jm,Zb,seval,Za,men]
 refine Zi (ZdU (Yk x0 x1) (Yk x0 x1) (Zdl hr0_0)) ?_
 simp only[Uab,Yv,Yu,JF,ne_eq,not_true_eq_false,bne_self_eq_false,Zw,Jm,Zb,seval,Za,men]
 refine Zi (ZiK (Yk x0 x1) (1) hr0_0 (by omega) (by omega)) ?_
 have hh0:¬ (1+(YT (Yk x0 x1):Nat)<(0:Int)):=by omega
 simp only[hh0,Uab,Yv,Yu,JF,ne_eq,not_true_eq_false,bne_self_eq_false,Zw,Jm,Zb,seval,Za,men]
theorem Zv6:YY UbY 9 (fun n:ByteArray=>[ts n]) (fun n=>n.size<=9223372036854775807):=Zr6 Proofs.Tryz.underlying9
theorem ZiR:YY UbY 3 (fun n:Int=>[tv n]) (JO .i64):=Zr5 Proofs.Tryz.underlying3
theorem Zv7:YY UbY 40 Zp (fun x=>JU 9223372036854775807 x/\Zgo x):=Zsd (Zsb Proofs.Tryz.underlying40 (show UK UbY 0 [(0,9),(1,3),(2,3)] _ _ from (Zcg (k:=1) (by kernel_rfl) (fun _=>rfl) Zv6 (Zcg (k:=1) (by kernel_rfl) (fun _=>rfl) ZiR (Zcg (k:=1) (by kernel_rfl) (fun _=>rfl) ZiR Zsa))))) (fun p=>TControl.mk p.1 p.2.1 p.2.2.1) (fun _=>rfl) (fun x h=>⟨h.1,⟨h.2.1,h.2.2.1⟩⟩)
theorem Zv8:YY UbY 22 (fun l:List TControl=>[Tr.sl (l.map Zp)]) (fun l=>l.length<=9223372036854775807/\∀ x∈l,(fun x=>JU 9223372036854775807 x/\Zgo x) x):=Zr9 (k:=2) Proofs.Tryz.underlying22 (by kernel_rfl) (fun _=>rfl) Zv7
end Go.Fd
