/-
  AN AXIOM, THE REFERENCE'S SIDE. Own work.
-/
import Derived.Test.YtcpcocfmpcmbpaaGreatDoorT10
import Derived.KernelRfl
import Derived.Test.YtcpcocfmpcmbpaaGreatDoorProg
set_option linter.all false
namespace Go.Fd
open Go.Proofs.Tryz renaming prog->Ucb
theorem ZGB(sig:List TControl)(t:List TTermStep)(hn:sig.length<=4294967296)(hbs:∀ y∈sig,Z9 4294967296 y)(hbt:∀ y∈t,Jm 4294967296 y)(hs:Jj sig)(hl:t.length<=60){y:Jz}(hr:Z3 sig t=some y)(j:Nat)(hj:j<t.length)(n:Int)(lvl:Nat)(S:Zb) :
  Sem Ucb ZaX lvl [.tr (.sl (sig.map Zx)),.tr (.sl (t.map Zg)),tI (ZI t t.length).1,iI n,iI j] S (.tu [.tr (.sl ((Qx t n j).map Zg)),iB (dc (okT sig t n (ZL t j) (ZL t (j-1)) j))]) S:=by
 by_cases h:ZE (Zi t j).kind_=2
 ·exact ZGA sig t hn hbs hbt hs hl hr j hj n h lvl S
 ·exact ZGz sig t hn hbs hbt hs hl hr j hj n h lvl S
set_option maxRecDepth 20000
theorem Zh7{t:List TTermStep}{k:Nat}(h:k<t.length):Zi t k∈t:=by rw[JF h];exact Uaj h
theorem Uo{t:List TTermStep}{a e:Nat}{y:TTermStep}(h:y∈Zr t a e):y∈t:=UaS (Ubd h)
theorem Zef{t:List TTermStep}{a e:Nat}:(Zr t a e).length<=t.length:=by unfold Zr;rw[UaL,Uai];omega
theorem ZGC{t:List TTermStep}{n:Int}{f b j:Nat}(hj:j<t.length)(hb:b<=j):∀ y∈YD t n f b j,y∈t:=by
 intro y hy;have m1:=Zh7 hj;have m2:=Zh7 (t:=t) (k:=j-1) (by omega);have m3:=Zh7 (t:=t) (k:=b-1) (by omega);unfold YD at hy;split at hy
 ·simp only[Uaq,UaF,Ubp,or_false] at hy;rcases hy with (h | h) | rfl
  ·exact Uo h
  ·exact Uo h
  ·exact m1
 split at hy
 ·simp only[Uaq,UaF,Ubp,or_false] at hy;rcases hy with (h | h) | rfl | rfl
  ·exact Uo h
  ·exact Uo h
  ·exact m1
  ·exact m1
 split at hy
 ·exact Uo hy
 split at hy
 ·simp only[Uaq,UaF,Ubp,or_false] at hy;rcases hy with h | rfl | rfl
  ·exact Uo h
  ·exact m1
  ·exact m2
 ·simp only[Uaq,UaF,Ubp,or_false] at hy;rcases hy with (h | h) | rfl | rfl
  ·exact Uo h
  ·exact Uo h
  ·exact m1
  ·exact m3
theorem Zh8{t:List TTermStep}{n:Int}{f b j:Nat}:(YD t n f b j).length<=2*t.length+2:=by
 have h1:=Zef (t:=t) (a:=b) (e:=j);have h2:=Zef (t:=t) (a:=f) (e:=b);have h3:=Zef (t:=t) (a:=f) (e:=b-1);have h4:=Zef (t:=t) (a:=f) (e:=j-1);unfold YD;split
 ·simp only[Uac,List.length_cons,List.length_nil];omega
 split
 ·simp only[Uac,List.length_cons,List.length_nil];omega
 split
 ·omega
 split
 ·simp only[Uac,List.length_cons,List.length_nil];omega
 ·simp only[Uac,List.length_cons,List.length_nil];omega
theorem Zh9{sig:List TControl}{t:List TTermStep}{z:Jz}(hr:Z3 sig t=some z){n:Int}{j:Nat}(hj:j<t.length):∀ y∈Yp t n j,y∈t:=by
 intro y hy;obtain⟨b,hb,hbj⟩:=WI hr (show j-1<t.length by omega);have hbA:ZL t (j-1)=b:=by unfold ZL;rw[hb];rfl
 unfold Yp at hy;rw[Uaq,Uaq,hbA] at hy;rcases hy with (h | h) | h
 ·exact UaS h
 ·exact ZGC hj (by omega) y h
 ·exact Ubd h
theorem Zia{t:List TTermStep}{n:Int}{j:Nat}:(Yp t n j).length<=4*t.length+2:=by have h1:=Zh8 (t:=t) (n:=n) (f:=ZL t j) (b:=ZL t (j-1)) (j:=j);unfold Yp;rw[Uac,Uac,Uai,UaL];omega
theorem Zeg{n a b:Int}:JW n a b=dc (a<=n/\n<=b):=by unfold JW dc;by_cases h:a<=n<;>by_cases h2:n<=b<;>simp [h,h2]
theorem ZpC{t:List TTermStep}{f:Nat}:cut (t.map Zg) 0 (f-0)=(t.take f).map Zg:=by rw[QO];unfold Zr;rw[Ubl]
theorem ZpD{t:List TTermStep}{f:Nat}:cut (t.map Zg) f (t.length-f)=(t.drop f).map Zg:=by rw[QO];unfold Zr;rw[Uap]
set_option maxHeartbeats 4000000 in
theorem ZpE(sig:List TControl)(t:List TTermStep)(n a:Int)(hn:sig.length<=4294967296)(hbs:∀ y∈sig,Z9 4294967296 y)(hlt:t.length<=4294967296)(hbt:∀ y∈t,Jm 4294967296 y)(lvl:Nat)(S:Zb):Sem Ucb ZcD lvl [.tr (.sl (sig.map Zx)),.tr (.sl (t.map Zg)),iI n,iI a] S (.tu [.ow 4 ((Yy sig t n a).map Zg) true,iB (Um sig t n a)]) S:=by
 have hno:¬ axOK sig t n a->(IV.tu [.ow 4 [] true,iB false])=IV.tu [.ow 4 ((Yy sig t n a).map Zg) true,iB (Um sig t n a)]:=fun h=>by unfold Yy Um;rw[if_neg h,Zt h];rfl
 have q:=Zpo sig t hn hbs hlt hbt;obtain⟨V,hV⟩:∃ V,V=XW sig t:=⟨_,rfl⟩;rw[<-hV] at q;refine Zl ZA1 (by simp [low,men,Zc]) ?_;simp only[Zla,Za,seval,Zc,men];refine Zf q ?_;cases hv:JX sig t with
 | none =>
  have h0:¬ axOK sig t n a:=fun h=>by have:=h.val;rw[hv] at this;cases this
  rw[<-hno h0];simp only[ZA,Option.isSome_none,Uaa,Za,seval];try rfl
 | some v =>
  obtain⟨hs,hl,z,hr⟩:=Zd7 hv;have hg:=Zpq hv;simp only[ZA,Option.isSome_some,Uaa,Za,seval,Zc,men];refine⟨by rw[Ze];omega,?_⟩;refine Zf (QJ a 0 ((t.length:Int)-1)) ?_;cases hin:JW a 0 ((t.length:Int)-1)
  ·have h0:¬ axOK sig t n a:=fun h=>by rw[Zeg,ZU h.at_] at hin;cases hin
   rw[<-hno h0];simp only[Za,seval];try rfl
  have ha:0<=a/\a<=(t.length:Int)-1:=by rw[Zeg] at hin;exact dc_iff.1 hin
  obtain⟨j,hja⟩:∃ j:Nat,a=j:=⟨a.toNat,by omega⟩;subst hja;have hj:j<t.length:=by omega
  simp only[Za,seval,Zc,men];refine Zf (ZGy sig t hn hbs hbt hs hl hg hr j hj n) ?_;cases hok:dc (okT sig t n (ZL t j) (ZL t (j-1)) j)
  ·have h0:¬ axOK sig t n (j:Int):=fun h=>dc_not.1 hok h.ok;rw[<-hno h0];simp only[Za,seval];try rfl
  have hok1:=dc_iff.1 hok;have hL:WH sig t n j=YD t n (ZL t j) (ZL t (j-1)) j:=by unfold WH;rw[if_pos ⟨hok1.want,.inl hok1⟩]
  rw[hL];obtain⟨f,hf,hfj⟩:=WI hr hj;have hfA:ZL t j=f:=by unfold ZL;rw[hf];rfl
  have hSl:(ZI t t.length).1.length=t.length:=stS_one;have gs:=JC (l:=(ZI t t.length).1) (i:=j) (by omega);rw[VQ hj,hf] at gs;have q0:((j:Int)+1)=((j+1:Nat):Int):=by omega
  have unr0:ZC 4 (t.map Zg):=VD Zg (fun _=>rfl) t;have c1:=ZpC (t:=t) (f:=f);have c2:=ZpD (t:=t) (f:=j+1);have rep3:List.replicate 3 [Tr.sl []]=[[Tr.sl []],[Tr.sl []],[Tr.sl []]]:=rfl;have hrl:=Zh8 (t:=t) (n:=n) (f:=ZL t j) (b:=ZL t (j-1)) (j:=j);obtain⟨raw,hraw⟩:∃ raw,raw=YD t n (ZL t j) (ZL t (j-1)) j:=⟨_,rfl⟩;rw[<-hraw] at hrl ⊢;have hout:t.take f++raw++t.drop (j+1)=Yp t n j:=by unfold Yp;rw[hraw,hfA]
  simp only[Za,seval,Zc,men];refine Zf (Zps t hg) ?_;simp only[gs,q0,c1,c2,rep3,List.set_cons_zero,List.set_cons_succ,Uaa,List.length_cons,List.length_nil,Int.toNat_natCast,Za,seval,Zc,men];repeat (refine⟨(by first | (rw[Ze];omega) | omega | (intro _;exact unr0) | (intro _;trivial) | trivial | decide | (simp;done)),?_⟩)
  refine Zf (Zec (t.take f) raw (t.drop (j+1)) (by rw[Uai,UaL];omega)) ?_;rw[hout];have hom:=Zh9 (n:=n) hr hj;have hol:=Zia (t:=t) (n:=n) (j:=j);have q2:=Zpo sig (Yp t n j) hn hbs (by omega) (fun y hy=>hbt y (hom y hy));obtain⟨V2,hV2⟩:∃ V2,V2=XW sig (Yp t n j):=⟨_,rfl⟩;rw[<-hV2] at q2;simp only[Un,Za,seval,Zc,men];refine Zf q2 ?_;cases hv2:JX sig (Yp t n j) with
  | none =>
   have h0:¬ axOK sig t n (j:Int):=fun h=>by have h1:(JX sig (Yp t n j)).isSome=true:=h.out;rw[hv2] at h1;cases h1
   rw[<-hno h0];simp only[ZA,Option.isSome_none,Uaa,Za,seval];try rfl
  | some v2 =>
   have hyes:axOK sig t n (j:Int):=⟨by rw[hv];rfl,ha,hok1,by show (JX sig (Yp t n j)).isSome=true;rw[hv2];rfl⟩;simp only[Un,ZA,Option.isSome_some,Uaa,Za,seval,Zc,men];refine Zf (ZGu (Yp t n j) (by omega) (fun y hy=>hbt y (hom y hy))) ?_;unfold Yy Um;rw[if_pos hyes,ZU hyes];simp only[Uaa,Za,seval];try rfl
set_option maxHeartbeats 4000000 in
theorem ZGD(sig:List TControl)(t:List TTermStep)(n a:Int)(hn:sig.length<=4294967296)(hbs:∀ y∈sig,Z9 4294967296 y)(hlt:t.length<=4294967296)(hbt:∀ y∈t,Jm 4294967296 y)(lvl:Nat)(S:Zb):Sem Ucb ZfY lvl [.tr (.sl (sig.map Zx)),.tr (.sl (t.map Zg)),iI n,iI a] S (.tu [.ow 4 ((Yy sig t n a).map Zg) true,iB (Um sig t n a)]) S:=by
 have hno:¬ axOK sig t n a->(IV.tu [.ow 4 [] true,iB false])=IV.tu [.ow 4 ((Yy sig t n a).map Zg) true,iB (Um sig t n a)]:=fun h=>by unfold Yy Um;rw[if_neg h,Zt h];rfl
 have q:=Zpp sig t hn hbs hlt hbt;obtain⟨V,hV⟩:∃ V,V=XW sig t:=⟨_,rfl⟩;rw[<-hV] at q;refine Zl ZA0 (by simp [low,men,Zc]) ?_;simp only[Zk9,Za,seval,Zc,men];refine Zf q ?_;cases hv:JX sig t with
 | none =>
  have h0:¬ axOK sig t n a:=fun h=>by have:=h.val;rw[hv] at this;cases this
  rw[<-hno h0];simp only[ZA,Option.isSome_none,Uaa,Za,seval];try rfl
 | some v =>
  obtain⟨hs,hl,z,hr⟩:=Zd7 hv;have hg:=Zpq hv;simp only[ZA,Option.isSome_some,Uaa,Za,seval,Zc,men];refine⟨by rw[Ze];omega,?_⟩;refine Zf (Qp a 0 ((t.length:Int)-1)) ?_;cases hin:JW a 0 ((t.length:Int)-1)
  ·have h0:¬ axOK sig t n a:=fun h=>by rw[Zeg,ZU h.at_] at hin;cases hin
   rw[<-hno h0];simp only[Za,seval];try rfl
  have ha:0<=a/\a<=(t.length:Int)-1:=by rw[Zeg] at hin;exact dc_iff.1 hin
  obtain⟨j,hja⟩:∃ j:Nat,a=j:=⟨a.toNat,by omega⟩;subst hja;have hj:j<t.length:=by omega
  simp only[Za,seval,Zc,men];refine Zf (ZGm t hg) ?_;simp only[Za,seval,Zc,men];refine Zf (ZGB sig t hn hbs hbt hs hl hr j hj n) ?_;cases hok:dc (okT sig t n (ZL t j) (ZL t (j-1)) j)
  ·have h0:¬ axOK sig t n (j:Int):=fun h=>dc_not.1 hok h.ok;rw[<-hno h0];simp only[Za,seval];try rfl
  have hok1:=dc_iff.1 hok;have hL:Qx t n j=YD t n (ZL t j) (ZL t (j-1)) j:=by unfold Qx;rw[if_pos hok1.want]
  rw[hL];obtain⟨f,hf,hfj⟩:=WI hr hj;have hfA:ZL t j=f:=by unfold ZL;rw[hf];rfl
  have hSl:(ZI t t.length).1.length=t.length:=stS_one;have gs:=JC (l:=(ZI t t.length).1) (i:=j) (by omega);rw[VQ hj,hf] at gs;have q0:((j:Int)+1)=((j+1:Nat):Int):=by omega
  have unr0:ZC 4 (t.map Zg):=VD Zg (fun _=>rfl) t;have c1:=ZpC (t:=t) (f:=f);have c2:=ZpD (t:=t) (f:=j+1);have rep3:List.replicate 3 [Tr.sl []]=[[Tr.sl []],[Tr.sl []],[Tr.sl []]]:=rfl;have hrl:=Zh8 (t:=t) (n:=n) (f:=ZL t j) (b:=ZL t (j-1)) (j:=j);obtain⟨raw,hraw⟩:∃ raw,raw=YD t n (ZL t j) (ZL t (j-1)) j:=⟨_,rfl⟩;rw[<-hraw] at hrl ⊢;have hout:t.take f++raw++t.drop (j+1)=Yp t n j:=by unfold Yp;rw[hraw,hfA]
  simp only[gs,q0,c1,c2,rep3,List.set_cons_zero,List.set_cons_succ,Uaa,List.length_cons,List.length_nil,Int.toNat_natCast,Za,seval,Zc,men];repeat (refine⟨(by first | (rw[Ze];omega) | omega | (intro _;exact unr0) | (intro _;trivial) | trivial | decide | (simp;done)),?_⟩)
  refine Zf (Zed (t.take f) raw (t.drop (j+1)) (by rw[Uai,UaL];omega)) ?_;rw[hout];have hom:=Zh9 (n:=n) hr hj;have hol:=Zia (t:=t) (n:=n) (j:=j);have q2:=Zpp sig (Yp t n j) hn hbs (by omega) (fun y hy=>hbt y (hom y hy));obtain⟨V2,hV2⟩:∃ V2,V2=XW sig (Yp t n j):=⟨_,rfl⟩;rw[<-hV2] at q2;simp only[Za,seval,Zc,men];refine Zf (ZGv (Yp t n j) (by omega) (fun y hy=>hbt y (hom y hy))) ?_;simp only[Un,Uaa,Za,seval,Zc,men];refine Zf q2 ?_;cases hv2:JX sig (Yp t n j) with
  | none =>
   have h0:¬ axOK sig t n (j:Int):=fun h=>by have h1:(JX sig (Yp t n j)).isSome=true:=h.out;rw[hv2] at h1;cases h1
   rw[<-hno h0];simp only[ZA,Option.isSome_none,Uaa,Za,seval];try rfl
  | some v2 =>
   have hyes:axOK sig t n (j:Int):=⟨by rw[hv];rfl,ha,hok1,by show (JX sig (Yp t n j)).isSome=true;rw[hv2];rfl⟩;unfold Yy Um;rw[if_pos hyes,ZU hyes];simp only[ZA,Option.isSome_some,Uaa,Za,seval];try rfl
def ZpF:F2 :=
 { nt:=129,res:=[.t 8 [0]],body:=(.sq (rg [om 8 (.k (.bool false))]) (.sq (rg [om 9 (i6 1048576)]) (.sq (rg [qM 21 0,qM 22 9,oo 23 (.ca .pure false (.f ZfW) [.t 21,.t 22]),qM 9 23]) (.sq (.sq (rg [qM 24 9,oo 25 (.bi .lss 0 (.t 24) (i6 0))]) (.cd (.t 25) (.sq (rg [om 8 (.k (.bool true))]) (.rt)) (.sk))) (.sq (rg [qM 26 1,qM 27 9,oo 28 (.ca .pure false (.f ZfX) [.t 26,.t 27]),qM 9 28]) (.sq (.sq (rg [qM 29 9,oo 30 (.bi .lss 0 (.t 29) (i6 0))]) (.cd (.t 30) (.sq (rg [om 8 (.k (.bool true))]) (.rt)) (.sk))) (.sq (rg [qM 32 0,oo 33 (.ca .pure false (.f DC) [.t 32]),qM 34 1,oo 35 (.ca .pure false (.f DD) [.t 34]),qM 36 2,qM 37 3,oo 38 (.ca .pure false (.f ZfY) [.t 33,.t 35,.t 36,.t 37]),qM 31 38,qE 39 0 31,qE 40 1 31,qM 10 39,qM 11 40]) (.sq (rg [qM 41 0,oo 42 (.ca .pure true (.f DC) [.t 41]),qM 12 42]) (.sq (rg [qM 43 1,oo 44 (.ca .pure true (.f DD) [.t 43]),qM 13 44]) (.sq (rg [qM 46 12,qM 47 13,qM 48 2,qM 49 3,oo 50 (.ca .pure true (.f ZcD) [.t 46,.t 47,.t 48,.t 49]),qM 45 50,qE 51 0 45,qE 52 1 45,qM 14 51,qM 15 52]) (.sq (.sq (rg [qM 53 14,qM 54 10,oo 55 (.ca .pure false (.f DE) [.t 53,.t 54]),oo 56 (.nt (.t 55)),qM 57 56,og 58 57 false (.mv (.t 15) none),og 59 57 false (.mv (.t 11) none),og 60 57 false (.bi .neq 2 (.t 58) (.t 59)),oo 61 (.pk (.t 57) (.k (.bool true)) (.t 60))]) (.cd (.t 61) (.sq (rg [om 8 (.k (.bool false))]) (.rt)) (.sk))) (.sq (.sq (rg [qM 62 12,qM 63 0,oo 64 (.ca .pure false (.f DC) [.t 63]),oo 65 (.ca .pure false (.f ZfZ) [.t 62,.t 64]),oo 66 (.nt (.t 65))]) (.cd (.t 66) (.sq (rg [om 8 (.k (.bool false))]) (.rt)) (.sk))) (.sq (.sq (rg [qM 67 13,qM 68 1,oo 69 (.ca .pure false (.f DD) [.t 68]),oo 70 (.ca .pure false (.f DE) [.t 67,.t 69]),oo 71 (.nt (.t 70))]) (.cd (.t 71) (.sq (rg [om 8 (.k (.bool false))]) (.rt)) (.sk))) (.sq (rg [om 16 (i6 1)]) (.sq (rg [qM 72 12,qM 73 16,oo 74 (.ca .any true (.f Zf0) [.t 72,.t 73]),qM 16 74]) (.sq (rg [qM 75 13,qM 76 16,oo 77 (.ca .any true (.f ZcE) [.t 75,.t 76]),qM 16 77]) (.sq (.sq (rg [qM 78 16,oo 79 (.bi .lss 0 (.t 78) (i6 0)),qM 80 79,og 81 80 false (.mv (.t 14) none),og 82 80 false (.mv (.t 10) none),og 83 80 false (.ca .pure false (.f DE) [.t 81,.t 82]),og 84 80 false (.nt (.t 83)),oo 85 (.pk (.t 80) (.k (.bool true)) (.t 84)),qM 86 85,og 87 86 false (.mv (.t 15) none),og 88 86 false (.mv (.t 11) none),og 89 86 false (.bi .neq 2 (.t 87) (.t 88)),oo 90 (.pk (.t 86) (.k (.bool true)) (.t 89))]) (.cd (.t 90) (.sq (rg [om 8 (.k (.bool false))]) (.rt)) (.sk))) (.sq (rg [om 17 (i6 1)]) (.sq (rg [qM 91 14,qM 92 17,oo 93 (.ca .any true (.f ZcE) [.t 91,.t 92]),qM 17 93]) (.sq (rg [om 18 (i6 1)]) (.sq (rg [qM 94 14,qM 95 18,oo 96 (.ca .pure false (.f ZcF) [.t 94,.t 95]),qM 18 96]) (.sq (.sq (rg [qM 97 18,oo 98 (.bi .lss 0 (.t 97) (i6 0))]) (.cd (.t 98) (.sq (rg [om 8 (.k (.bool false))]) (.rt)) (.sk))) (.sq (.sq (rg [qM 99 18,qM 100 17,qB 101 .neq 99 100]) (.cd (.t 101) (.sq (rg [om 8 (.k (.bool false))]) (.rt)) (.sk))) (.sq (rg [qM 103 0,oo 104 (.ca .pure false (.f DC) [.t 103]),qM 105 1,oo 106 (.ca .pure false (.f DD) [.t 105]),qM 107 2,qM 108 3,oo 109 (.ca .pure false (.f ZcD) [.t 104,.t 106,.t 107,.t 108]),qM 102 109,qE 110 0 102,qE 111 1 102,qM 19 110,qM 20 111]) (.sq (.sq (rg [qM 112 19,qM 113 10,oo 114 (.ca .pure false (.f DE) [.t 112,.t 113]),oo 115 (.nt (.t 114)),qM 116 115,og 117 116 false (.mv (.t 20) none),og 118 116 false (.mv (.t 11) none),og 119 116 false (.bi .neq 2 (.t 117) (.t 118)),oo 120 (.pk (.t 116) (.k (.bool true)) (.t 119))]) (.cd (.t 120) (.sq (rg [om 8 (.k (.bool false))]) (.rt)) (.sk))) (.sq (rg [om 18 (i6 1)]) (.sq (rg [qM 121 14,qM 122 18,oo 123 (.ca .pure false (.f ZcF) [.t 121,.t 122]),qM 18 123]) (.sq (.sq (rg [qM 124 18,oo 125 (.bi .lss 0 (.t 124) (i6 0))]) (.cd (.t 125) (.sq (rg [om 8 (.k (.bool false))]) (.rt)) (.sk))) (.sq (.sq (rg [qM 126 18,qM 127 17,qB 128 .neq 126 127]) (.cd (.t 128) (.sq (rg [om 8 (.k (.bool false))]) (.rt)) (.sk))) (.sq (rg [om 8 (.k (.bool true))]) (.rt))))))))))))))))))))))))))))))) }
theorem ZGE:Zk Ucb Zk2 ZpF=true:=by kernel_rfl
def ZpG:F2 :=
 { nt:=35,res:=[.t 4 [0]],body:=(.sq (rg [om 4 (i6 0)]) (.sq (.sq (rg [om 5 (i6 0)]) (.bl 0 (.lp [0,1,5] [] (.sq (.sq (rg [qM 6 5,qM 7 0,qN 8 7,qB 9 .lss 6 8]) (.cd (.t 9) (.sk) (.ex 0))) (.sq (.bl 1 (.sq (rg [qM 12 0,qM 13 5,qM 14 1,oo 15 (.ca .pure false (.f ZaY) [.t 14]),qI 16 3 12 13,qF 17 0 16,
 Zj (.st 1 (.t 17) (.t 15))]) (.sq (rg [qM 18 1,oo 19 (.bi .add 0 (.t 18) (i6 1)),qM 1 19]) (.sq (rg [qM 20 0,qM 21 5,qM 22 1,qI 23 3 20 21,qF 24 1 23,
 Zj (.st 1 (.t 24) (.t 22))]) (.sq (rg [qM 25 1,oo 26 (.bi .add 0 (.t 25) (i6 1)),qM 1 26]) (.sq (rg [qM 27 0,qM 28 5,qM 29 1,qI 30 3 27 28,qF 31 2 30,
 Zj (.st 1 (.t 31) (.t 29))])
 (rg [qM 32 1,oo 33 (.bi .add 0 (.t 32) (i6 1)),qM 1 33])))))))
 (rg [qM 10 5,oo 11 (.bi .add 0 (.t 10) (i6 1)),qM 5 11])))))) (.sq (rg [qM 34 1,qM 4 34]) (.rt)))) }
theorem ZGF:Zk Ucb Zf0 ZpG=true:=by kernel_rfl
def ZpH:F2 :=
 { nt:=41,res:=[.t 4 [0]],body:=(.sq (rg [om 4 (i6 0)]) (.sq (.sq (rg [om 5 (i6 0)]) (.bl 0 (.lp [0,1,5] [] (.sq (.sq (rg [qM 6 5,qM 7 0,qN 8 7,qB 9 .lss 6 8]) (.cd (.t 9) (.sk) (.ex 0))) (.sq (.bl 1 (.sq (rg [qM 12 0,qM 13 5,qM 14 1,qI 15 4 12 13,qF 16 0 15,
 Zj (.st 1 (.t 16) (.t 14))]) (.sq (rg [qM 17 1,oo 18 (.bi .add 0 (.t 17) (i6 1)),qM 1 18]) (.sq (rg [qM 19 0,qM 20 5,qM 21 1,qI 22 4 19 20,qF 23 1 22,
 Zj (.st 1 (.t 23) (.t 21))]) (.sq (rg [qM 24 1,oo 25 (.bi .add 0 (.t 24) (i6 1)),qM 1 25]) (.sq (rg [qM 26 0,qM 27 5,qM 28 1,qI 29 4 26 27,qF 30 2 29,
 Zj (.st 1 (.t 30) (.t 28))]) (.sq (rg [qM 31 1,oo 32 (.bi .add 0 (.t 31) (i6 1)),qM 1 32])
 (rg [qM 33 0,qM 34 5,qI 35 4 33 34,qF 36 3 35,qL 37 36,qM 38 1,oo 39 (.ca .any true (.f Zgb) [.t 37,.t 38]),qM 1 39]))))))))
 (rg [qM 10 5,oo 11 (.bi .add 0 (.t 10) (i6 1)),qM 5 11])))))) (.sq (rg [qM 40 1,qM 4 40]) (.rt)))) }
theorem ZGG:Zk Ucb ZcE ZpH=true:=by kernel_rfl
def ZpI:F2 :=
 { nt:=49,res:=[.t 4 [0]],body:=(.sq (rg [om 4 (i6 0)]) (.sq (.sq (rg [om 5 (i6 0)]) (.bl 0 (.lp [0,1,5] [] (.sq (.sq (rg [qM 6 5,qM 7 0,qN 8 7,qB 9 .lss 6 8]) (.cd (.t 9) (.sk) (.ex 0))) (.sq (.bl 1 (.sq (.sq (rg [qM 12 0,qM 13 5,qI 14 4 12 13,qF 15 0 14,qL 16 15,qM 17 1,qB 18 .neq 16 17]) (.cd (.t 18) (.sq (rg [om 4 (i6 (-1))]) (.rt)) (.sk))) (.sq (rg [qM 19 1,oo 20 (.bi .add 0 (.t 19) (i6 1)),qM 1 20]) (.sq (.sq (rg [qM 21 0,qM 22 5,qI 23 4 21 22,qF 24 1 23,qL 25 24,qM 26 1,qB 27 .neq 25 26]) (.cd (.t 27) (.sq (rg [om 4 (i6 (-1))]) (.rt)) (.sk))) (.sq (rg [qM 28 1,oo 29 (.bi .add 0 (.t 28) (i6 1)),qM 1 29]) (.sq (.sq (rg [qM 30 0,qM 31 5,qI 32 4 30 31,qF 33 2 32,qL 34 33,qM 35 1,qB 36 .neq 34 35]) (.cd (.t 36) (.sq (rg [om 4 (i6 (-1))]) (.rt)) (.sk))) (.sq (rg [qM 37 1,oo 38 (.bi .add 0 (.t 37) (i6 1)),qM 1 38]) (.sq (rg [qM 39 0,qM 40 5,qI 41 4 39 40,qF 42 3 41,qL 43 42,qM 44 1,oo 45 (.ca .pure false (.f Zgc) [.t 43,.t 44]),qM 1 45]) (.sq (rg [qM 46 1,oo 47 (.bi .lss 0 (.t 46) (i6 0))]) (.cd (.t 47) (.sq (rg [om 4 (i6 (-1))]) (.rt)) (.sk)))))))))))
 (rg [qM 10 5,oo 11 (.bi .add 0 (.t 10) (i6 1)),qM 5 11])))))) (.sq (rg [qM 48 1,qM 4 48]) (.rt)))) }
theorem ZGH:Zk Ucb ZcF ZpI=true:=by kernel_rfl
def ZpJ:F2 :=
 { nt:=20,res:=[.t 2 [0]],body:=(.sq (rg [om 2 (.k (.string ⟨#[]⟩))]) (.sq (.sq (rg [qM 4 0,oo 5 (.bi .leq 0 (.t 4) (i6 0))]) (.cd (.t 5) (.sq (rg [om 2 (.k (.string ⟨#[109,48]⟩))]) (.rt)) (.sk))) (.sq (rg [om 3 (.k (.string ⟨#[]⟩))]) (.sq (.bl 0 (.lp [0,3] [] (.sq (.sq (rg [qM 6 0,oo 7 (.bi .gtr 0 (.t 6) (i6 0))]) (.cd (.t 7) (.sk) (.ex 0))) (.bl 1 (.sq (rg [qM 8 0,oo 9 (.bi .rem 0 (.t 8) (i6 10)),oo 10 (.bi .add 0 (i6 48) (.t 9)),oo 11 (.cv (.int .u8) (.t 10)),oo 12 (.bs 1 1 [.int .u8 0] [(0,.t 11)]),oo 13 (.sb (.t 12)),qM 14 3,qB 15 .add 13 14,qM 3 15])
 (rg [qM 16 0,oo 17 (.bi .quo 0 (.t 16) (i6 10)),qM 0 17])))))) (.sq (rg [qM 18 3,oo 19 (.bi .add 0 (.k (.string ⟨#[109]⟩)) (.t 18)),qM 2 19]) (.rt)))))) }
theorem ZGI:Zk Ucb ZaY ZpJ=true:=by kernel_rfl
def ZpK:F2 :=
 { nt:=20,res:=[.t 4 [0]],body:=(.sq (rg [om 4 (i6 0)]) (.sq (.sq (rg [om 5 (i6 0)]) (.bl 0 (.lp [0,1,5] [] (.sq (.sq (rg [qM 6 5,qM 7 0,qN 8 7,qB 9 .lss 6 8]) (.cd (.t 9) (.sk) (.ex 0))) (.sq (.bl 1 (.sq (rg [qM 12 0,qM 13 5,qM 14 1,oo 15 (.ca .pure false (.f ZaY) [.t 14]),qI 16 1 12 13,
 Zj (.st 1 (.t 16) (.t 15))])
 (rg [qM 17 1,oo 18 (.bi .add 0 (.t 17) (i6 1)),qM 1 18])))
 (rg [qM 10 5,oo 11 (.bi .add 0 (.t 10) (i6 1)),qM 5 11])))))) (.sq (rg [qM 19 1,qM 4 19]) (.rt)))) }
theorem ZGJ:Zk Ucb Zgb ZpK=true:=by kernel_rfl
def ZpL:F2 :=
 { nt:=22,res:=[.t 4 [0]],body:=(.sq (rg [om 4 (i6 0)]) (.sq (.sq (rg [om 5 (i6 0)]) (.bl 0 (.lp [0,1,5] [] (.sq (.sq (rg [qM 6 5,qM 7 0,qN 8 7,qB 9 .lss 6 8]) (.cd (.t 9) (.sk) (.ex 0))) (.sq (.bl 1 (.sq (.sq (.rg (some 0) [qM 12 0,qM 13 5,qI 14 1 12 13,qL 15 14,qM 16 1,oo 17 (.ca .pure false (.f ZaY) [.t 16]),qB 18 .neq 15 17]) (.cd (.t 18) (.sq (rg [om 4 (i6 (-1))]) (.rt)) (.sk)))
 (rg [qM 19 1,oo 20 (.bi .add 0 (.t 19) (i6 1)),qM 1 20])))
 (rg [qM 10 5,oo 11 (.bi .add 0 (.t 10) (i6 1)),qM 5 11])))))) (.sq (rg [qM 21 1,qM 4 21]) (.rt)))) }
theorem ZGK:Zk Ucb Zgc ZpL=true:=by kernel_rfl
def mt(q:Nat)(o:ByteArray):ByteArray:=if q=0 then o else mt (q / 10) (⟨#[UInt8.ofNat (48+q % 10)]⟩++o)
 termination_by q
 decreasing_by omega
theorem ZGL{q:Nat}{o:ByteArray}(h:0<q):mt q o=mt (q / 10) (⟨#[UInt8.ofNat (48+q % 10)]⟩++o):=by rw[mt,if_neg (by omega)]
theorem ZGM{o:ByteArray}:mt 0 o=o:=by rw[mt,if_pos rfl]
def Zeh(k:Int):ByteArray:=if k<=0 then ⟨#[109,48]⟩ else ⟨#[109]⟩++mt k.toNat ⟨#[]⟩
theorem Zib(k:Int)(h:k<=4611686018427387904)(lvl:Nat)(S:Zb):Sem Ucb ZaY lvl [iI k] S (iS (Zeh k)) S:=by
 refine Zl ZGI trivial ?_;simp only[ZpJ,Za,seval];unfold Zeh;refine Zv (fun h0=>?_) (fun h0=>?_)
 ·rw[if_pos h0]
 ·rw[if_neg h0];obtain⟨K,hK⟩:∃ K:Nat,k=K:=⟨k.toNat,by omega⟩;subst hK;rw[Int.toNat_natCast];refine J9 (α:=Nat×ByteArray) K (fun j y=>⟨lvl,[(0,iI y.1),(3,iS y.2)],[],S⟩) (fun j y=>y.1+j<=K/\mt y.1 y.2=mt K ⟨#[]⟩/\y.1*10 ^ y.2.size<=K/\y.2.size<=19) (K,⟨#[]⟩) ⟨by simp only[Za,seval],by simp only[Za,seval]⟩ ⟨Ual _,rfl,Ub6 (Nat.mul_one K),(by decide:(0:Nat)<=19)⟩ ?_;intro j y hj hA;obtain⟨q,o⟩:=y;obtain⟨h1,h2,h3,h4⟩:=hA;simp only at h1 h2 h3 h4;simp only[Za,seval];refine Zv (fun hq=>?_) (fun hq=>?_)
  ·have hq0:0<q:=(by omega);have hby:Vb [[Tr.v (Value.int IntKind.u8 (48+(q:Int) % 10))]]=some [UInt8.ofNat (48+q % 10)]:=(by have e:(48+(q:Int) % 10).toNat=48+q % 10:=(by omega);simp only[Vb,Option.map_some,e]);have h5:o.size<19:=by
    apply Ubg;intro hc;have e:o.size=19:=by omega
    rw[e] at h3;have:1*10 ^ 19<=q*10 ^ 19:=Uaz _ hq0;omega
   have h6:q / 10*10 ^ (o.size+1)<=K:=(by refine UaG ?_ h3;rw[Nat.pow_succ,Ubx (10 ^ o.size) 10,<-Nat.mul_assoc];exact Uaz _ (by omega));rw[hby];simp only[Za,seval];have hs:(ByteArray.mk #[UInt8.ofNat (48+q % 10)]++o).size=o.size+1:=(by rw[ByteArray.size_append,Ubw];rfl);have e8:ZZ .u8 (48+(q:Int) % 10):=by
    constructor
    ·show (0:Int)<=_;omega
    ·show _<=(255:Int);omega
   refine⟨by rw[Ze];omega,e8,?_,by rw[Ze];omega,Zz (q / 10,ByteArray.mk #[UInt8.ofNat (48+q % 10)]++o) (by omega) ?_ ⟨by simp only;omega,?_,?_,?_⟩⟩
   ·show 1+o.size<=4294967296;omega
   ·rfl
   ·rw[<-h2,ZGL hq0]
   ·simp only[hs];exact h6
   ·simp only[hs];omega
  ·have:q=0:=(by omega);subst this;rw[<-h2,ZGM];refine⟨?_,rfl⟩;show 1+o.size<=4294967296;omega
abbrev WJ(_:ByteArray)(k:Int):ByteArray:=Zeh k
abbrev JY(_:ByteArray):Nat:=1
theorem ZGN:MarkS Ucb Zgb (fun n:ByteArray=>[ts n]) WJ JY (fun x=>x.size<=4294967296):=by
 intro a k lvl S id p es r0 kk hw ver st cap hid hv hst h0 hk hl hB;have hne:id.1≠lvl:=by omega
 have hgp:∀ r,getp (JH es p r) p=some r:=fun r=>ZaO hv;refine Zl ZGJ trivial ?_;simp only[ZpK,Za,seval];refine J9 (α:=Unit) a.length (fun j _=>⟨lvl,[(0,.hd id p 0 a.length cap st),(1,iI (kJ JY a k j)),(5,iI j)],[],Zo S id (.ar kk (JH es p ((lJ WJ JY a k j).map (fun n:ByteArray=>[ts n]))) true hw ver)⟩) (fun _ _=>True) () ⟨by simp only[J8 hne,Za,seval],by (simp only[ZaP,ZfG,Za,seval])<;>rfl⟩ trivial ?_;intro j _ hj _;simp only[Za,seval,Zc,men];refine Zv (fun hlt=>?_) (fun hge=>?_)
 ·have hja:j<a.length:=by omega
  obtain⟨R,hjR,hR,hR'⟩:=ZfI WJ JY (fun n:ByteArray=>[ts n]) (k:=k) hja;have hge2:=ZaR JY (a:=a) (k:=k) (j:=j+1);rw[Xv JY hja] at hge2;have hge3:=ZaS JY (a:=a) (k:=k) (j:=j);rw[hR];try simp only[JY] at hge2
  try simp only[J0 hne,Xr hne,Xu,YU,hst,hgp,ZaT hjR,Zcz hv hjR,Uax,hja,J8 hne,Uaa,tv,Za,seval,Zc,men]
  refine Zf (Zib (kJ JY a k j) (by omega)) ?_;simp only[J0 hne,Xr hne,Xu,YU,hst,hgp,ZaT hjR,Zcz hv hjR,Uax,hja,J8 hne,Za,seval];refine⟨by rw[Ze];omega,⟨by rw[Ze];omega,Zz () hja ?_ trivial⟩⟩;rw[Xv JY hja,hR'];simp only[JY,WJ,Int.natCast_add,Int.natCast_one];try rfl
 ·have:j=a.length:=by omega
  subst this;rw[ZaQ,ZfH];exact⟨rfl,rfl⟩
def Zei(x:TControl)(k:Int):TControl:={ name:=Zeh (k),ports:=k+1,kind_:=k+1+1 }
def VS(x:TControl):Nat:=1+1+1
theorem ZGO:MarkS Ucb Zf0 Zx Zei VS (Z9 4294967296):=by
 intro a k lvl S id p es r0 kk hw ver st cap hid hv hst h0 hk hl hB;have hne:id.1≠lvl:=by omega
 have hgp:∀ r,getp (JH es p r) p=some r:=fun r=>ZaO hv;refine Zl ZGF trivial ?_;simp only[ZpG,Za,seval];refine J9 (α:=Unit) a.length (fun j _=>⟨lvl,[(0,.hd id p 0 a.length cap st),(1,iI (kJ VS a k j)),(5,iI j)],[],Zo S id (.ar kk (JH es p ((lJ Zei VS a k j).map Zx)) true hw ver)⟩) (fun _ _=>True) () ⟨by simp only[J8 hne,Za,seval],by (simp only[ZaP,ZfG,Za,seval])<;>rfl⟩ trivial ?_;intro j _ hj _;simp only[Za,seval,Zc,men];refine Zv (fun hlt=>?_) (fun hge=>?_)
 ·have hja:j<a.length:=by omega
  obtain⟨R,hjR,hR,hR'⟩:=ZfI Zei VS Zx (k:=k) hja;have hge2:=ZaR VS (a:=a) (k:=k) (j:=j+1);rw[Xv VS hja] at hge2;have hge3:=ZaS VS (a:=a) (k:=k) (j:=j);rw[hR];try simp only[VS] at hge2
  have hb:=hB _ (Uaj hja);have b0:(a[j]).name.size<=4294967296:=hb;try simp only[Zx,seval]
  refine Zf (Zib (kJ VS a k j) (by omega)) ?_;simp only[J0 hne,Xr hne,Xu,YU,hst,hgp,ZaT hjR,Zcz hv hjR,Uax,hja,J8 hne,Za,seval];refine⟨by rw[Ze];omega,⟨by rw[Ze];omega,⟨by rw[Ze];omega,⟨by rw[Ze];omega,Zz () hja ?_ trivial⟩⟩⟩⟩;rw[Xv VS hja,hR'];simp only[VS,Zei,Zx,Int.natCast_add,Int.natCast_one,Int.add_assoc];try rfl
 ·have:j=a.length:=by omega
  subst this;rw[ZaQ,ZfH];exact⟨rfl,rfl⟩
def Up(x:TTermStep)(k:Int):TTermStep:={ kind_:=k,control:=k+1,site:=k+1+1,names:=mL WJ JY x.names (k+1+1+1) }
def JO(x:TTermStep):Nat:=1+1+1+nL JY x.names
theorem ZpM:MarkS Ucb ZcE Zg Up JO (Jm 4294967296):=by
 intro a k lvl S id p es r0 kk hw ver st cap hid hv hst h0 hk hl hB;have hne:id.1≠lvl:=by omega
 have hgp:∀ r,getp (JH es p r) p=some r:=fun r=>ZaO hv;refine Zl ZGG trivial ?_;simp only[ZpH,Za,seval];refine J9 (α:=Unit) a.length (fun j _=>⟨lvl,[(0,.hd id p 0 a.length cap st),(1,iI (kJ JO a k j)),(5,iI j)],[],Zo S id (.ar kk (JH es p ((lJ Up JO a k j).map Zg)) true hw ver)⟩) (fun _ _=>True) () ⟨by simp only[J8 hne,Za,seval],by (simp only[ZaP,ZfG,Za,seval])<;>rfl⟩ trivial ?_;intro j _ hj _;simp only[Za,seval];refine Zv (fun hlt=>?_) (fun hge=>?_)
 ·have hja:j<a.length:=by omega
  obtain⟨R,hjR,hR,hR'⟩:=ZfI Up JO Zg (k:=k) hja;have hge2:=ZaR JO (a:=a) (k:=k) (j:=j+1);rw[Xv JO hja] at hge2;have hge3:=ZaS JO (a:=a) (k:=k) (j:=j);rw[hR];try simp only[JO] at hge2
  have hb:=hB _ (Uaj hja);obtain⟨b0,b1⟩:=hb;try simp only[J0 hne,Xr hne,Xu,YU,hst,hgp,ZaT hjR,Zcz hv hjR,Uax,hja,Uaa,Zg,Za,seval]
  refine⟨by rw[Ze];omega,⟨by rw[Ze];omega,⟨by rw[Ze];omega,?_⟩⟩⟩;simp only[Va];refine ZzW ZGN hid hv (by omega) (by omega) b0 b1 hjR rfl (by simp only[Uaa]) ?_;simp only[List.set_cons_succ,List.set_cons_zero,J8 hne,Za,seval];refine⟨by rw[Ze];omega,Zz () hja ?_ trivial⟩;rw[Xv JO hja,hR'];simp only[JO,Up,Zg,Int.natCast_add,Int.natCast_one,Int.add_assoc];try rfl
 ·have:j=a.length:=by omega
  subst this;rw[ZaQ,ZfH];exact⟨rfl,rfl⟩
def ZpN:F2 :=
 { nt:=23,res:=[.t 2 [4]],body:=(.sq (rg [om 2 (.k (.slice none 0 0))]) (.sq (rg [qM 5 0,qN 6 5,oo 7 (.ms 3 [.string ⟨#[]⟩,.int .i64 0,.int .i64 0] (.t 6)),qM 3 7]) (.sq (.sq (rg [om 4 (i6 0)]) (.bl 0 (.lp [0,3,4] [224] (.sq (.sq (rg [qM 8 4,qM 9 0,qN 10 9,qB 11 .lss 8 10]) (.cd (.t 11) (.sk) (.ex 0))) (.sq (.bl 1 (rg [qM 14 3,qM 15 4,qM 16 0,qM 17 4,qI 18 3 16 17,qS 19 3 18,oo 20 (.ca .pure true (.f Zf5) [.t 19]),qI 21 3 14 15,
 Zj (.st 3 (.t 21) (.t 20))]))
 (rg [qM 12 4,oo 13 (.bi .add 0 (.t 12) (i6 1)),qM 4 13])))))) (.sq (rg [qM 22 3,qM 2 22]) (.rt))))) }
theorem ZGP:Zk Ucb DC ZpN=true:=by kernel_rfl
def ZpO:F2 :=
 { nt:=23,res:=[.t 2 [5]],body:=(.sq (rg [om 2 (.k (.slice none 0 0))]) (.sq (rg [qM 5 0,qN 6 5,oo 7 (.ms 4 [.int .i64 0,.int .i64 0,.int .i64 0,.slice none 0 0] (.t 6)),qM 3 7]) (.sq (.sq (rg [om 4 (i6 0)]) (.bl 0 (.lp [0,3,4] [224,640] (.sq (.sq (rg [qM 8 4,qM 9 0,qN 10 9,qB 11 .lss 8 10]) (.cd (.t 11) (.sk) (.ex 0))) (.sq (.bl 1 (rg [qM 14 3,qM 15 4,qM 16 0,qM 17 4,qI 18 4 16 17,qS 19 4 18,oo 20 (.ca .pure true (.f Zf6) [.t 19]),qI 21 4 14 15,
 Zj (.st 4 (.t 21) (.t 20))]))
 (rg [qM 12 4,oo 13 (.bi .add 0 (.t 12) (i6 1)),qM 4 13])))))) (.sq (rg [qM 22 3,qM 2 22]) (.rt))))) }
theorem ZGQ:Zk Ucb DD ZpO=true:=by kernel_rfl
def ZpP:F2 :=
 { nt:=13,res:=[.t 4 [0]],body:=(.sq (rg [oo 2 (.bt (.t 0)),om 4 (i6 0)]) (.sq (rg [qM 5 1,qF 6 0 2,qL 7 6,oo 8 (.lg (.t 7)),qB 9 .sub 5 8,qM 1 9]) (.sq (.sq (rg [qM 10 1,oo 11 (.bi .lss 0 (.t 10) (i6 0))]) (.cd (.t 11) (.sq (rg [om 4 (i6 (-1))]) (.rt)) (.sk))) (.sq (rg [qM 12 1,qM 4 12]) (.rt))))) }
theorem ZGR:Zk Ucb Zf1 ZpP=true:=by kernel_rfl
def ZpQ:F2 :=
 { nt:=12,res:=[.t 4 [0]],body:=(.sq (rg [oo 2 (.bt (.t 0)),om 4 (i6 0)]) (.sq (rg [qF 5 3 2,qL 6 5,qM 7 1,oo 8 (.ca .pure false (.f Zgd) [.t 6,.t 7]),qM 1 8]) (.sq (.sq (rg [qM 9 1,oo 10 (.bi .lss 0 (.t 9) (i6 0))]) (.cd (.t 10) (.sq (rg [om 4 (i6 (-1))]) (.rt)) (.sk))) (.sq (rg [qM 11 1,qM 4 11]) (.rt))))) }
theorem ZGS:Zk Ucb Zf2 ZpQ=true:=by kernel_rfl
def ZpR:F2 :=
 { nt:=14,res:=[.c 2 (some 3) [0,0,0]],body:=(.sq (rg [oo 1 (.bt (.t 0)),oo 2 (.al [.string ⟨#[]⟩,.int .i64 0,.int .i64 0] [])]) (.sq (rg [oo 3 (.al [.string ⟨#[]⟩,.int .i64 0,.int .i64 0] [])]) (.sq (rg [qF 4 0 1,qL 5 4,qF 6 0 3,
 Zj (.st 1 (.t 6) (.t 5))]) (.sq (rg [qF 7 1 1,qL 8 7,qF 9 1 3,
 Zj (.st 1 (.t 9) (.t 8))]) (.sq (rg [qF 10 2 1,qL 11 10,qF 12 2 3,
 Zj (.st 1 (.t 12) (.t 11))]) (.sq (rg [qS 13 3 3,
 Zj (.st 3 (.t 2) (.t 13))]) (.rt))))))) }
theorem ZGT:Zk Ucb Zf5 ZpR=true:=by kernel_rfl
def ZpS:F2 :=
 { nt:=18,res:=[.c 2 (some 4) [0,0,0,2]],body:=(.sq (rg [oo 1 (.bt (.t 0)),oo 2 (.al [.int .i64 0,.int .i64 0,.int .i64 0,.slice none 0 0] [])]) (.sq (rg [oo 3 (.al [.int .i64 0,.int .i64 0,.int .i64 0,.slice none 0 0] [])]) (.sq (rg [qF 4 0 1,qL 5 4,qF 6 0 3,
 Zj (.st 1 (.t 6) (.t 5))]) (.sq (rg [qF 7 1 1,qL 8 7,qF 9 1 3,
 Zj (.st 1 (.t 9) (.t 8))]) (.sq (rg [qF 10 2 1,qL 11 10,qF 12 2 3,
 Zj (.st 1 (.t 12) (.t 11))]) (.sq (rg [qF 13 3 1,qL 14 13,oo 15 (.ca .pure true (.f Zgg) [.t 14]),qF 16 3 3,
 Zj (.st 1 (.t 16) (.t 15))]) (.sq (rg [qS 17 4 3,
 Zj (.st 4 (.t 2) (.t 17))]) (.rt)))))))) }
theorem ZGU:Zk Ucb Zf6 ZpS=true:=by kernel_rfl
def ZpT:F2 :=
 { nt:=26,res:=[.t 4 [0]],body:=(.sq (rg [oo 2 (.bt (.t 0)),oo 3 (.bt (.t 1)),om 4 (.k (.bool false))]) (.sq (.sq (rg [qF 5 0 2,qL 6 5,qF 7 0 3,qL 8 7,qB 9 .neq 6 8]) (.cd (.t 9) (.sq (rg [om 4 (.k (.bool false))]) (.rt)) (.sk))) (.sq (.sq (rg [qF 10 1 2,qL 11 10,qF 12 1 3,qL 13 12,qB 14 .neq 11 13]) (.cd (.t 14) (.sq (rg [om 4 (.k (.bool false))]) (.rt)) (.sk))) (.sq (.sq (rg [qF 15 2 2,qL 16 15,qF 17 2 3,qL 18 17,qB 19 .neq 16 18]) (.cd (.t 19) (.sq (rg [om 4 (.k (.bool false))]) (.rt)) (.sk))) (.sq (.sq (rg [qF 20 3 2,qL 21 20,qF 22 3 3,qL 23 22,oo 24 (.ca .pure false (.f Zgk) [.t 21,.t 23]),oo 25 (.nt (.t 24))]) (.cd (.t 25) (.sq (rg [om 4 (.k (.bool false))]) (.rt)) (.sk))) (.sq (rg [om 4 (.k (.bool true))]) (.rt))))))) }
theorem ZGV:Zk Ucb Zf9 ZpT=true:=by kernel_rfl
def ZpU:F2 :=
 { nt:=20,res:=[.t 4 [0]],body:=(.sq (rg [oo 2 (.bt (.t 0)),oo 3 (.bt (.t 1)),om 4 (.k (.bool false))]) (.sq (.sq (rg [qF 5 0 2,qL 6 5,qF 7 0 3,qL 8 7,qB 9 .neq 6 8]) (.cd (.t 9) (.sq (rg [om 4 (.k (.bool false))]) (.rt)) (.sk))) (.sq (.sq (rg [qF 10 1 2,qL 11 10,qF 12 1 3,qL 13 12,qB 14 .neq 11 13]) (.cd (.t 14) (.sq (rg [om 4 (.k (.bool false))]) (.rt)) (.sk))) (.sq (.sq (rg [qF 15 2 2,qL 16 15,qF 17 2 3,qL 18 17,qB 19 .neq 16 18]) (.cd (.t 19) (.sq (rg [om 4 (.k (.bool false))]) (.rt)) (.sk))) (.sq (rg [om 4 (.k (.bool true))]) (.rt)))))) }
theorem ZGW:Zk Ucb Zga ZpU=true:=by kernel_rfl
theorem ZGX(a:List ByteArray)(k:Int)(hl:a.length<=4294967296)(hB:∀ x∈a,(fun x=>x.size<=4294967296) x)(h0:0<=k)(hk:k+nL JY a<=4611686018427387904)(lvl:Nat)(S:Zb):Sem Ucb Zgc lvl [.tr (.sl (rS (mL WJ JY a k))),iI k] S (iI (k+nL JY a)) S:=by
 refine Zl ZGK trivial ?_;simp only[ZpL,Za,seval];refine J9 (α:=Unit) a.length (fun j _=>⟨lvl,[(0,.tr (.sl (rS (mL WJ JY a k)))),(1,iI (kJ JY a k j)),(5,iI j)],[],S⟩) (fun _ _=>True) () ⟨by simp only[Za,seval],by (simp only[ZaP,Za,seval])<;>rfl⟩ trivial ?_;intro j _ hj _;simp only[Uaa,Wo,Za,seval];refine Zv (fun hlt=>?_) (fun hge=>?_)
 ·have hja:j<a.length:=by omega
  have ga:=ZoO (c:=(fun n:ByteArray=>[ts n])) (m:=WJ) (n:=JY) (k:=k) hja;have hge2:=ZaR JY (a:=a) (k:=k) (j:=j+1);rw[Xv JY hja] at hge2;have hge3:=ZaS JY (a:=a) (k:=k) (j:=j);try simp only[JY] at hge2
  have hb:=hB _ (Uaj hja);simp only[ga,WJ,Uax,Za,seval,Zc,men];refine Zf (Zib (kJ JY a k j) (by omega)) ?_;simp only[ne_eq,not_true_eq_false,Za,seval];refine⟨by rw[Ze];omega,⟨by rw[Ze];omega,Zz () hja ?_ trivial⟩⟩;rw[Xv JY hja];simp only[JY,Int.natCast_add,Int.natCast_one];try rfl
 ·have:j=a.length:=by omega
  subst this;rw[ZaQ]
theorem ZpV(a:List TTermStep)(k:Int)(hl:a.length<=4294967296)(hB:∀ x∈a,(Jm 4294967296) x)(h0:0<=k)(hk:k+nL JO a<=4611686018427387904)(lvl:Nat)(S:Zb):Sem Ucb ZcF lvl [.tr (.sl (((mL Up JO a k)).map Zg)),iI k] S (iI (k+nL JO a)) S:=by
 refine Zl ZGH trivial ?_;simp only[ZpI,Za,seval];refine J9 (α:=Unit) a.length (fun j _=>⟨lvl,[(0,.tr (.sl (((mL Up JO a k)).map Zg))),(1,iI (kJ JO a k j)),(5,iI j)],[],S⟩) (fun _ _=>True) () ⟨by simp only[Za,seval],by (simp only[ZaP,Za,seval])<;>rfl⟩ trivial ?_;intro j _ hj _;simp only[Uaa,Wo,Za,seval];refine Zv (fun hlt=>?_) (fun hge=>?_)
 ·have hja:j<a.length:=by omega
  have ga:=ZoO (c:=Zg) (m:=Up) (n:=JO) (k:=k) hja;have hge2:=ZaR JO (a:=a) (k:=k) (j:=j+1);rw[Xv JO hja] at hge2;have hge3:=ZaS JO (a:=a) (k:=k) (j:=j);try simp only[JO] at hge2
  have hb:=hB _ (Uaj hja);obtain⟨b0,b1⟩:=hb;simp only[ga,Zg,Up,Uax,ne_eq,not_true_eq_false,Za,seval,Zc,men];refine⟨by rw[Ze];omega,⟨by rw[Ze];omega,⟨by rw[Ze];omega,?_⟩⟩⟩;refine Zf (ZGX (a[j]).names (kJ JO a k j+1+1+1) b0 b1 (by omega) (by omega)) ?_;have hz3:¬ (kJ JO a k j+1+1+1+(nL JY (a[j]).names:Nat)<0):=by omega
  simp only[hz3,Za,seval];refine⟨by rw[Ze];omega,Zz () hja ?_ trivial⟩;rw[Xv JO hja];simp only[JO,Int.natCast_add,Int.natCast_one,Int.add_assoc];try rfl
 ·have:j=a.length:=by omega
  subst this;rw[ZaQ]
theorem ZpW:∀(l:List ByteArray),nL JY l=l.length
 | []=>rfl
 | x::r=>by simp only[nL,List.length_cons,ZpW r,JY];omega
theorem ZpX{α:Type}{n:α->Nat}{B:Nat}:∀(l:List α),(∀ x∈l,n x<=B)->nL n l<=l.length*B
 | [],_=>UbC _
 | x::r,h=>by have h1:=h x (by simp);have h2:=ZpX r (fun y hy=>h y (by simp [hy]));simp only[nL,List.length_cons,UaP];omega
theorem ZGY(x:TControl):Zq 256 (fun l=>VE x l) (VS x):=ZcC (ZkX (by omega) (by omega) (ZAz x.name.size) ZkW) (by simp only[VS];omega)
theorem ZGZ(x:TTermStep):Zq 256 (fun l=>QH x l) (JO x):=ZcC (ZkX (by omega) (by omega) (ZfT (n:=JY) (fun y=>ZAA y.size) x.names) ZkW) (by simp only[JO];omega)
theorem ZpY{α:Type}{f:α->Int->Int}:∀(a:List α) (l:Int),(∀ x∈a,∀ l:Int,0<=l->l<=1048576->f x l<=l)->0<=l->l<=1048576->YV f a l<=l
 | [],l,_,_,_=>Ubt l
 | x::r,l,hf,h0,h1=>by
  simp only[YV];have:=hf x (by simp) l h0 h1;split
  ·omega
  ·have h2:=ZpY r (f x l) (fun y hy=>hf y (by simp [hy])) (by omega) (by omega);omega
theorem Zic{α:Type}{f:α->Int->Int}(a:List α){l:Int}(hf:∀ x∈a,∀ l:Int,0<=l->l<=1048576->f x l<=l)(h0:0<=l)(h1:l<=1048576):YE f a l<=l:=by
 unfold YE;split
 ·omega
 ·have:=ZpY a (l-a.length) hf (by omega) (by omega);omega
theorem ZpZ{l m:Int}{g:Int->Int}(h0:0<=l)(h:m<=l)(hg:0<=m->g m<=m):V3 m g<=l:=by
 unfold V3;split
 ·omega
 ·have:=hg (by omega);omega
theorem Zp0(x:TControl)(hb:Z9 9223372036854775807 x)(l:Int)(h0:0<=l)(h1:l<=1048576):VE x l<=l/\∀ lvl S,Sem Ucb Zf1 lvl [.ag ((Zx x).map .tr),iI l] S (iI (VE x l)) S:=by
 have b0:x.name.size<=9223372036854775807:=hb;refine⟨?_,fun lvl S=>?_⟩
 ·unfold VE;refine ZpZ h0 (m:=l-x.name.size) (by omega) (fun p0=>?_);have r0:_<=(1048576:Int):=Int.le_trans (show l-x.name.size<=l by omega) h1;exact Ubt _
 ·refine Zl ZGR trivial ?_;simp only[ZpP,Zx,Uah,Uam,Za,seval];unfold VE;refine⟨by rw[Ze];omega,?_⟩;obtain⟨l1,hl1⟩:∃ m:Int,m=l-x.name.size:=⟨_,rfl⟩;have u1:l1<=l:=by omega
  rw[<-hl1];split
  ·rename_i hn;rw[V3,if_pos hn]
  rename_i hn0;rw[V3,if_neg hn0]
theorem ZG0:Zk Ucb ZfW (ZcA 3 (some 3) Zf1)=true:=by kernel_rfl
theorem ZG1(a:List TControl)(hl:a.length<=9223372036854775807)(hb:∀ y∈a,Z9 9223372036854775807 y)(l:Int)(h0:0<=l)(h1:l<=1048576):YE VE a l<=l/\∀ lvl S,Sem Ucb ZfW lvl [.tr (.sl (a.map Zx)),iI l] S (iI (YE VE a l)) S :=
 ⟨Zic a (fun x hx l h0 h1=>(Zp0 x (hb x hx) l h0 h1).1) h0 h1,fun lvl S=>ZkQ ZG0 Zx VE ZkZ a l hl h0 h1 (fun x hx l h0 h1=>Zp0 x (hb x hx) l h0 h1) lvl S⟩
theorem ZG2:Zk Ucb Zgd ZfM=true:=by kernel_rfl
theorem Zp1(a:List ByteArray)(hl:a.length<=9223372036854775807)(hb:∀ y∈a,y.size<=9223372036854775807)(l:Int)(h0:0<=l)(h1:l<=1048576):YE (fun x m=>m-x.size) a l<=l/\∀ lvl S,Sem Ucb Zgd lvl [tS a,iI l] S (iI (YE (fun x m=>m-x.size) a l)) S :=
 ⟨Zic a (fun x _ l _ _=>by omega) h0 h1,fun lvl S=>ZAw ZG2 a l hl h0 h1 hb lvl S⟩
theorem Zp2(x:TTermStep)(hb:Jm 9223372036854775807 x)(l:Int)(h0:0<=l)(h1:l<=1048576):QH x l<=l/\∀ lvl S,Sem Ucb Zf2 lvl [.ag ((Zg x).map .tr),iI l] S (iI (QH x l)) S:=by
 obtain⟨b0,b1⟩:=hb;refine⟨?_,fun lvl S=>?_⟩
 ·unfold QH;have q0:=Zp1 x.names b0 b1 _ h0 h1;refine ZpZ h0 q0.1 (fun p0=>?_);have r0:_<=(1048576:Int):=Int.le_trans q0.1 h1;exact Ubt _
 ·refine Zl ZGS trivial ?_;simp only[ZpQ,Zg,Uah,Uam,Za,seval,Zc,men];unfold QH;have q0:=Zp1 x.names b0 b1 l h0 h1;refine Zf q0.2 ?_;simp only[Za,seval];obtain⟨l1,hl1⟩:∃ m:Int,m=(YE (fun x m=>m-x.size) x.names l):=⟨_,rfl⟩;have u1:l1<=l:=by rw[hl1];exact q0.1
  rw[<-hl1];split
  ·rename_i hn;rw[V3,if_pos hn]
  rename_i hn0;rw[V3,if_neg hn0]
theorem ZG3:Zk Ucb ZfX (ZcA 4 (some 4) Zf2)=true:=by kernel_rfl
theorem ZG4(a:List TTermStep)(hl:a.length<=9223372036854775807)(hb:∀ y∈a,Jm 9223372036854775807 y)(l:Int)(h0:0<=l)(h1:l<=1048576):YE QH a l<=l/\∀ lvl S,Sem Ucb ZfX lvl [.tr (.sl (a.map Zg)),iI l] S (iI (YE QH a l)) S :=
 ⟨Zic a (fun x hx l h0 h1=>(Zp2 x (hb x hx) l h0 h1).1) h0 h1,fun lvl S=>ZkQ ZG3 Zg QH ZAD a l hl h0 h1 (fun x hx l h0 h1=>Zp2 x (hb x hx) l h0 h1) lvl S⟩
theorem ZG5(x y:TControl)(hb:Z9 9223372036854775807 x)(lvl:Nat)(S:Zb):Sem Ucb Zga lvl [.ag ((Zx x).map .tr),.ag ((Zx y).map .tr)] S (iB (decide (x=y))) S:=by
 have b0:x.name.size<=9223372036854775807:=hb;refine Zl ZGW trivial ?_;simp only[ZpU,Zx,Uah,Uam,Za,seval];refine Zv (fun hne=>?_) (fun heq0=>?_)
 ·have:¬ x=y:=fun e=>(by rw[e] at hne;simp at hne);simp [this]
 refine Zv (fun hne=>?_) (fun heq1=>?_)
 ·have:¬ x=y:=fun e=>(by rw[e] at hne;simp at hne);simp [this]
 refine Zv (fun hne=>?_) (fun heq2=>?_)
 ·have:¬ x=y:=fun e=>(by rw[e] at hne;simp at hne);simp [this]
 have:x=y:=by cases x;cases y;simp_all
 simp [this]
theorem ZG6:Zk Ucb ZfZ (ZcB 3 (some 3) Zga)=true:=by kernel_rfl
theorem ZG7(a b:(List TControl))(ha:a.length<=9223372036854775807)(ha2:∀ y∈a,Z9 9223372036854775807 y)(lvl:Nat)(S:Zb):Sem Ucb ZfZ lvl [.tr (.sl (a.map Zx)),.tr (.sl (b.map Zx))] S (iB (decide (a=b))) S :=
 ZkU ZG6 Zx (fun _=>rfl) a b ha (fun x hx y _ lvl S=>ZG5 x y (ha2 x hx) lvl S) lvl S
theorem ZG8:Zk Ucb Zgk ZfN=true:=by kernel_rfl
theorem ZG9(a b:(List ByteArray))(ha:a.length<=9223372036854775807)(lvl:Nat)(S:Zb):Sem Ucb Zgk lvl [.tr (.sl (rS a)),.tr (.sl (rS b))] S (iB (decide (a=b))) S:=ZAx ZG8 a b ha lvl S
theorem ZHa(x y:TTermStep)(hb:Jm 9223372036854775807 x)(lvl:Nat)(S:Zb):Sem Ucb Zf9 lvl [.ag ((Zg x).map .tr),.ag ((Zg y).map .tr)] S (iB (decide (x=y))) S:=by
 obtain⟨b0,b1⟩:=hb;refine Zl ZGV trivial ?_;simp only[ZpT,Zg,Uah,Uam,Za,seval,Zc,men];refine Zv (fun hne=>?_) (fun heq0=>?_)
 ·have:¬ x=y:=fun e=>(by rw[e] at hne;simp at hne);simp [this]
 refine Zv (fun hne=>?_) (fun heq1=>?_)
 ·have:¬ x=y:=fun e=>(by rw[e] at hne;simp at hne);simp [this]
 refine Zv (fun hne=>?_) (fun heq2=>?_)
 ·have:¬ x=y:=fun e=>(by rw[e] at hne;simp at hne);simp [this]
 refine Zf (ZG9 x.names y.names b0) ?_;simp only[UaN,Za,seval];refine Zv (fun hne=>?_) (fun heq3=>?_)
 ·have:¬ x=y:=fun e=>(by rw[e] at hne;simp at hne);simp [this]
 have:x=y:=by cases x;cases y;simp_all
 simp [this]
theorem ZHb:Zk Ucb DE (ZcB 4 (some 4) Zf9)=true:=by kernel_rfl
theorem Zej(a b:(List TTermStep))(ha:a.length<=9223372036854775807)(ha2:∀ y∈a,Jm 9223372036854775807 y)(lvl:Nat)(S:Zb):Sem Ucb DE lvl [.tr (.sl (a.map Zg)),.tr (.sl (b.map Zg))] S (iB (decide (a=b))) S :=
 ZkU ZHb Zg (fun _=>rfl) a b ha (fun x hx y _ lvl S=>ZHa x y (ha2 x hx) lvl S) lvl S
theorem ZHc(x:TControl)(hb:Z9 4294967296 x)(lvl:Nat)(S:Zb):Sem Ucb Zf5 lvl [.ag ((Zx x).map .tr)] S (ZfU x) S:=by have b0:x.name.size<=4294967296:=hb;refine Zl ZGT (by simp [ZfU,low,men,Zc]) ?_;simp only[ZpR,Zx,zfill,zobs,Uah,Uam,Zcu,Zcv,List.set_cons_zero,List.set_cons_succ,Za,seval];rfl
theorem Zek(a:(List TControl))(ha:a.length<=4294967296)(hb:∀ y∈a,Z9 4294967296 y)(lvl:Nat)(S:Zb):Sem Ucb DC lvl [.tr (.sl (a.map Zx))] S (.ow 3 (a.map Zx) true) S:=by
 refine Zl ZGP trivial ?_;simp only[ZpN,Uaa,bigN,Za,seval];refine⟨by omega,?_⟩;refine J9 (α:=Unit) a.length (fun j _=>⟨lvl,[(0,.tr (.sl (a.map Zx))),(3,.hd (lvl,224) [] 0 a.length none a.length),(4,iI j)],[(224,.ar 3 (YW Zx [ts ⟨#[]⟩,tv 0,tv 0] a j) true a.length (j*0))],S⟩) (fun _ _=>True) () ⟨by simp only[Za,seval],by (simp only[ZfO,Za,seval])<;>rfl⟩ trivial ?_;intro j _ hj _;simp only[Uaa,Za,seval];refine Zv (fun hlt=>?_) (fun hge=>?_)
 ·have hja:j<a.length:=by omega
  have ga:(a.map Zx)[j]? = some (Zx a[j]):=by simp [hja]
  have gz:(YW Zx [ts ⟨#[]⟩,tv 0,tv 0] a j)[j]? = some [ts ⟨#[]⟩,tv 0,tv 0]:=ZfQ hja;have hfl:(YW Zx [ts ⟨#[]⟩,tv 0,tv 0] a j).length=a.length:=ZkV hj;have hsem:=fun lvl S=>ZHc a[j] (hb a[j] (Uaj hja)) lvl S;simp only[ga,Zx,Za,seval,Zc,men];refine Zf hsem ?_;simp only[ZfU,gz,hja,hfl,ZK,Ua7,Ubk,List.set_cons_zero,List.set_cons_succ,Za,seval];refine⟨by rw[Ze];omega,Zz () hja ?_ trivial⟩;have hse:=ZfR (c:=Zx) (z:=[ts ⟨#[]⟩,tv 0,tv 0]) (e:=[ts a[j].name,tv a[j].ports,tv a[j].kind_]) hja rfl;rw[hse,show (j+1)*0=j*0 from by omega];rfl
 ·have:j=a.length:=by omega
  subst this;rw[ZfP];simp
theorem ZHd:Zk Ucb Zgg (ZfS (.string ⟨#[]⟩))=true:=by kernel_rfl
theorem ZHe(a:(List ByteArray))(ha:a.length<=4294967296)(lvl:Nat)(S:Zb):Sem Ucb Zgg lvl [.tr (.sl (rS a))] S (.ow 1 (rS a) true) S:=ZAy ZHd a ha lvl S
theorem ZHf(x:TTermStep)(hb:Jm 4294967296 x)(lvl:Nat)(S:Zb):Sem Ucb Zf6 lvl [.ag ((Zg x).map .tr)] S (ZfV x) S:=by obtain⟨b0,b1⟩:=hb;refine Zl ZGU (by simp [ZfV,low,men,Zc]) ?_;simp only[ZpS,Zg,zfill,zobs,Uah,Uam,Zcu,Zcv,List.set_cons_zero,List.set_cons_succ,Za,seval,Zc,men];refine Zf (ZHe x.names b0) ?_;simp only[Zcu,Zcv,List.set_cons_zero,List.set_cons_succ,UbJ,Za,seval];rfl
theorem Zel(a:(List TTermStep))(ha:a.length<=4294967296)(hb:∀ y∈a,Jm 4294967296 y)(lvl:Nat)(S:Zb):Sem Ucb DD lvl [.tr (.sl (a.map Zg))] S (.ow 4 (a.map Zg) true) S:=by
 refine Zl ZGQ trivial ?_;simp only[ZpO,Uaa,bigN,Za,seval];refine⟨by omega,?_⟩;refine J9 (α:=Unit) a.length (fun j _=>⟨lvl,[(0,.tr (.sl (a.map Zg))),(3,.hd (lvl,224) [] 0 a.length none a.length),(4,iI j)],[(224,.ar 4 (YW Zg [tv 0,tv 0,tv 0,.sl []] a j) true a.length (j*1))],S⟩) (fun _ _=>True) () ⟨by simp only[Za,seval],by (simp only[ZfO,Za,seval])<;>rfl⟩ trivial ?_;intro j _ hj _;simp only[Uaa,Za,seval];refine Zv (fun hlt=>?_) (fun hge=>?_)
 ·have hja:j<a.length:=by omega
  have ga:(a.map Zg)[j]? = some (Zg a[j]):=by simp [hja]
  have gz:(YW Zg [tv 0,tv 0,tv 0,.sl []] a j)[j]? = some [tv 0,tv 0,tv 0,.sl []]:=ZfQ hja;have hfl:(YW Zg [tv 0,tv 0,tv 0,.sl []] a j).length=a.length:=ZkV hj;have hsem:=fun lvl S=>ZHf a[j] (hb a[j] (Uaj hja)) lvl S;simp only[ga,Zg,Za,seval,Zc,men];refine Zf hsem ?_;simp only[ZfV,gz,hja,hfl,ZK,Ua7,Ubk,List.set_cons_zero,List.set_cons_succ,UbJ,ne_eq,not_false_eq_true,Za,seval];refine⟨by rw[Ze];omega,Zz () hja ?_ trivial⟩;have hse:=ZfR (c:=Zg) (z:=[tv 0,tv 0,tv 0,.sl []]) (e:=[tv a[j].kind_,tv a[j].control,tv a[j].site,.sl (rS a[j].names)]) hja rfl;rw[hse,show (j+1)*1=j*1+1 from by omega];rfl
 ·have:j=a.length:=by omega
  subst this;rw[ZfP];simp
theorem ZHg(sig:List TControl)(t:List TTermStep)(n a:Int)(_hn:sig.length<=4294967296)(_hbs:∀ y∈sig,Z9 4294967296 y)(_hl:t.length<=4294967296)(hb:∀ y∈t,Jm 4294967296 y):(Yy sig t n a).length<=4294967296/\(∀ y∈Yy sig t n a,Jm 4294967296 y)/\1+(nL JO (Yy sig t n a):Int)<=4611686018427387904:=by
 unfold Yy;split
 ·rename_i h;obtain⟨v,hv⟩:=Uan.1 h.val;obtain⟨hs,hl,z,hr⟩:=Zd7 hv;have hat:=h.at_
  have hj:a.toNat<t.length:=by omega
  have hm:=Zh9 (n:=n) hr hj;have ho:=Zia (t:=t) (n:=n) (j:=a.toNat);refine⟨by omega,fun y hy=>hb y (hm y hy),?_⟩;have hB:∀ y∈Yp t n a.toNat,JO y<=8589934592:=fun y hy=>by have h1:=hb y (hm y hy);unfold Jm at h1;have h2:=h1.1;unfold JO;rw[ZpW];omega
  have h3:=ZpX _ hB;have h60:(Yp t n a.toNat).length*8589934592<=242*8589934592:=Uaz _ (by omega);omega
 ·exact⟨by simp,by simp,by simp [nL]⟩
theorem ZHh(x0:(List TControl))(x1:(List TTermStep))(x2:Int)(x3:Int)(hb0_0:x0.length<=9223372036854775807)(hb0_1:∀ y∈x0,Z9 9223372036854775807 y)(hb1_0:x1.length<=9223372036854775807)(hb1_1:∀ y∈x1,Jm 9223372036854775807 y)(lvl:Nat)(S:Zb):Sem Ucb Zk2 lvl [.tr (.sl (x0.map Zx)),.tr (.sl (x1.map Zg)),iI x2,iI x3] S (iB true) S:=by
 refine Zl ZGE trivial ?_;simp only[ZpF,Za,seval,Zc,men];have ul:(1048576:Int)<=1048576:=Ubt _;obtain⟨_,ha0⟩:=ZG1 x0 hb0_0 hb0_1 (1048576) (by omega) (by omega);refine Zf ha0 ?_;simp only[Za,seval,Zc,men];refine Zv (fun _=>trivial) (fun hz0=>?_);have zp0:=(Zhh (f:=VE) (fun y=>(ZDg y)) x0) (1048576) (by omega) (by omega);have zq0:=(ZfT (f:=VE) (n:=VS) (fun y=>ZcC (ZGY y) (by omega)) x0) (1048576) (by omega) (by omega);simp only at zp0 zq0;have hp0:=zp0.2 (by omega);have hq0:=zq0.2 (by omega);obtain⟨hs0_0,hs0_1⟩:=hp0;obtain⟨_,ha1⟩:=ZG4 x1 hb1_0 hb1_1 (YE VE x0 (1048576)) (by omega) (by omega);refine Zf ha1 ?_;simp only[Za,seval,Zc,men];refine Zv (fun _=>trivial) (fun hz1=>?_);have zp1:=(Zhh (f:=QH) (fun y=>(ZDh y)) x1) (YE VE x0 (1048576)) (by omega) (by omega);have zq1:=(ZfT (f:=QH) (n:=JO) (fun y=>ZcC (ZGZ y) (by omega)) x1) (YE VE x0 (1048576)) (by omega) (by omega);simp only at zp1 zq1;have hp1:=zp1.2 (by omega);have hq1:=zq1.2 (by omega);obtain⟨hs1_0,hs1_1⟩:=hp1;refine Zf (Zek x0 hs0_0 hs0_1) ?_;simp only[Za,seval,Zc,men];refine Zf (Zel x1 hs1_0 hs1_1) ?_;simp only[Za,seval,Zc,men];refine Zf (ZGD x0 x1 x2 x3 hs0_0 hs0_1 hs1_0 hs1_1) ?_;simp only[Za,seval,Zc,men];refine Zf (Zek x0 hs0_0 hs0_1) ?_;simp only[Uaa,Za,seval,Zc,men];refine Zf (Zel x1 hs1_0 hs1_1) ?_;simp only[Uaa,VO,Za,seval,Zc,men];refine Zf (ZpE x0 x1 x2 x3 hs0_0 hs0_1 hs1_0 hs1_1) ?_;simp only[Uaa,VO,Za,seval,Zc,men];obtain⟨hr0_0,hr0_1,hrn⟩:=ZHg x0 x1 x2 x3 hs0_0 hs0_1 hs1_0 hs1_1;refine Zf (Zej (Yy x0 x1 x2 x3) (Yy x0 x1 x2 x3) (by omega) (fun y hy=>Zhj (hr0_1 y hy))) ?_;simp only[bne_self_eq_false,Za,seval,Zc,men];refine Zf (Zek x0 hs0_0 hs0_1) ?_;simp only[Uaa,VO,Za,seval,Zc,men];refine Zf (ZG7 x0 x0 hb0_0 hb0_1) ?_;simp only[Za,seval,Zc,men];refine Zf (Zel x1 hs1_0 hs1_1) ?_;simp only[Uaa,VO,Za,seval,Zc,men];refine Zf (Zej x1 x1 hb1_0 hb1_1) ?_;simp only[Za,seval];simp only[Va];refine ZfJ ZGO (a:=x0) rfl (by omega) (by omega) hs0_0 hs0_1 ?_;simp only[Za,seval];simp only[Va];refine ZfJ ZpM (a:=x1) rfl (by omega) (by omega) hs1_0 hs1_1 ?_;simp only[Uaa,VO,Za,seval,Zc,men];have hk0:¬ (1+(nL VS x0:Nat)+(nL JO x1:Nat)<(0:Int)):=by omega
 simp only[hk0,Za,seval];refine Zf (Zej (Yy x0 x1 x2 x3) (Yy x0 x1 x2 x3) (by omega) (fun y hy=>Zhj (hr0_1 y hy))) ?_;simp only[bne_self_eq_false,Za,seval];simp only[Va];refine ZfJ ZpM (a:=(Yy x0 x1 x2 x3)) rfl (by omega) (by omega) hr0_0 hr0_1 ?_;simp only[Uaa,ZoP,Wo,Za,seval,Zc,men];refine Zf (ZpV (Yy x0 x1 x2 x3) (1) hr0_0 hr0_1 (by omega) (by omega)) ?_;have hh0:¬ (1+(nL JO (Yy x0 x1 x2 x3):Nat)<(0:Int)):=by omega
 simp only[hh0,ne_eq,not_true_eq_false,Za,seval,Zc,men];refine Zf (Zek x0 hs0_0 hs0_1) ?_;simp only[Za,seval,Zc,men];refine Zf (Zel x1 hs1_0 hs1_1) ?_;simp only[Za,seval,Zc,men];refine Zf (ZpE x0 x1 x2 x3 hs0_0 hs0_1 hs1_0 hs1_1) ?_;simp only[Za,seval,Zc,men];refine Zf (Zej (Yy x0 x1 x2 x3) (Yy x0 x1 x2 x3) (by omega) (fun y hy=>Zhj (hr0_1 y hy))) ?_;simp only[Uaa,ZoP,Wo,bne_self_eq_false,Za,seval,Zc,men];refine Zf (ZpV (Yy x0 x1 x2 x3) (1) hr0_0 hr0_1 (by omega) (by omega)) ?_;have hh0:¬ (1+(nL JO (Yy x0 x1 x2 x3):Nat)<(0:Int)):=by omega
 simp only[hh0,ne_eq,not_true_eq_false,Za,seval]
theorem Zp3:Y7 Ucb 9 (fun n:ByteArray=>[ts n]) (fun n=>n.size<=9223372036854775807):=ZzH Proofs.Tryz.underlying9
theorem ZbH:Y7 Ucb 3 (fun n:Int=>[tv n]) (ZZ .i64):=ZzG Proofs.Tryz.underlying3
theorem ZHi:Y7 Ucb 39 Zx (fun x=>Z9 9223372036854775807 x/\Zk0 x):=ZkA (Zkz Proofs.Tryz.underlying39 (show Dw Ucb 0 [(0,9),(1,3),(2,3)] _ _ from (UK (k:=1) (by kernel_rfl) (fun _=>rfl) Zp3 (UK (k:=1) (by kernel_rfl) (fun _=>rfl) ZbH (UK (k:=1) (by kernel_rfl) (fun _=>rfl) ZbH Zky))))) (fun p=>TControl.mk p.1 p.2.1 p.2.2.1) (fun _=>rfl) (fun x h=>⟨h.1,⟨h.2.1,h.2.2.1⟩⟩)
theorem ZHj:Y7 Ucb 22 (fun l:List TControl=>[Tr.sl (l.map Zx)]) (fun l=>l.length<=9223372036854775807/\∀ x∈l,(fun x=>Z9 9223372036854775807 x/\Zk0 x) x):=ZfC (k:=2) Proofs.Tryz.underlying22 (by kernel_rfl) (fun _=>rfl) ZHi
theorem ZHk:Y7 Ucb 41 (fun l:List ByteArray=>[Tr.sl (l.map (fun n:ByteArray=>[ts n]))]) (fun l=>l.length<=9223372036854775807/\∀ x∈l,(fun n=>n.size<=9223372036854775807) x):=ZfC (k:=0) Proofs.Tryz.underlying41 (by kernel_rfl) (fun _=>rfl) Zp3
theorem ZHl:Y7 Ucb 43 Zg (fun x=>Jm 9223372036854775807 x/\Zk1 x):=ZkA (Zkz Proofs.Tryz.underlying43 (show Dw Ucb 0 [(0,3),(1,3),(2,3),(3,41)] _ _ from (UK (k:=1) (by kernel_rfl) (fun _=>rfl) ZbH (UK (k:=1) (by kernel_rfl) (fun _=>rfl) ZbH (UK (k:=1) (by kernel_rfl) (fun _=>rfl) ZbH (UK (k:=1) (by kernel_rfl) (fun _=>rfl) ZHk Zky)))))) (fun p=>TTermStep.mk p.1 p.2.1 p.2.2.1 p.2.2.2.1) (fun _=>rfl) (fun x h=>⟨⟨h.2.2.2.1.1,(fun y hy=>(h.2.2.2.1.2 y hy))⟩,⟨h.1,h.2.1,h.2.2.1⟩⟩)
theorem ZHm:Y7 Ucb 23 (fun l:List TTermStep=>[Tr.sl (l.map Zg)]) (fun l=>l.length<=9223372036854775807/\∀ x∈l,(fun x=>Jm 9223372036854775807 x/\Zk1 x) x):=ZfC (k:=3) Proofs.Tryz.underlying23 (by kernel_rfl) (fun _=>rfl) ZHl
end Go.Fd
