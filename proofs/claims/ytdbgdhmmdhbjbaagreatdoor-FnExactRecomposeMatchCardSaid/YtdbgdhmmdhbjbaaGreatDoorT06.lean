/-
  SORTING A FEW STRINGS: slices.Sort, slices.Compact ON ANOTHER'S ROW. Own work.
-/
import Derived.Test.YtdbgdhmmdhbjbaaGreatDoorT05
import Derived.Sort.Row
import Derived.Sort.Grow
import Derived.Shelf.Sort.Plain
import Derived.Shelf.GgSortFunc.InsertionK
import Derived.Shelf.SlSortCmp.WholeK
import Derived.Test.YtdbgdhmmdhbjbaaGreatDoorProg
set_option linter.all false
namespace Go.Fd
set_option maxRecDepth 20000
abbrev e0S:ByteArray:=⟨#[]⟩
abbrev gS(l:List ByteArray)(i:Nat):ByteArray:=gx e0S l i
theorem bl_irr:∀(x:List UInt8),Op.bytesLess x x=false
 | []=>rfl
 | a::x=>by
  have e:¬ a<a:=UInt8.lt_irrefl a
  simp [Op.bytesLess,e,bl_irr x]
theorem ZjX:∀(x y z:List UInt8),Op.bytesLess x y=true->Op.bytesLess y z=true->Op.bytesLess x z=true
 | [],[],_,h,_=>by simp [Op.bytesLess] at h
 | [],_::_,[],_,h=>by simp [Op.bytesLess] at h
 | [],_::_,_::_,_,_=>by simp [Op.bytesLess]
 | _::_,[],_,h,_=>by simp [Op.bytesLess] at h
 | _::_,_::_,[],_,h=>by simp [Op.bytesLess] at h
 | a::x,b::y,c::z,h1,h2=>by
  have ih:=ZjX x y z
  have irr:∀ a:UInt8,¬ a<a:=UInt8.lt_irrefl
  simp only[Op.bytesLess] at h1 h2 ⊢
  by_cases e1:a=b
  ·subst e1
   simp only[irr,decide_false,Bool.false_or,beq_self_eq_true,Bool.true_and,if_true,if_false] at h1
   by_cases e2:a=c
   ·subst e2
    simp [irr] at h1 h2 ⊢
    exact ih h1 h2
   ·by_cases l2:a<c
    ·simp [l2]
    ·simp [l2,e2] at h2
  ·by_cases l1:a<b
   ·by_cases e2:b=c
    ·subst e2;simp [l1]
    ·by_cases l2:b<c
     ·simp [UInt8.lt_trans l1 l2]
     ·simp [l2,e2] at h2
   ·simp [l1,e1] at h1
theorem ordsS:Ords ltS:=by
 refine⟨fun a h=>?_,fun a b c=>ZjX _ _ _,fun a b=>?_⟩
 ·unfold ltS at h
  rw[bl_irr] at h
  cases h
 ·have h:=Zl6 a.data.toList b.data.toList
  unfold ltS
  cases h1:Op.bytesLess a.data.toList b.data.toList with
  | true=>exact .inl rfl
  | false =>
   rw[h1] at h
   cases h2:Op.bytesLess b.data.toList a.data.toList with
   | true=>exact .inr (.inr rfl)
   | false =>
    rw[h2] at h
    refine .inr (.inl ?_)
    have:a.data.toList=b.data.toList:=by simpa using h
    cases a with | mk a=>cases b with | mk b=>exact congrArg ByteArray.mk (Array.toList_inj.1 this)
theorem Zn1(a b:ByteArray)(h:ltS a b):¬ ltS b a:=ordsS.asym a b h
theorem ltS_tr(a b c:ByteArray)(h1:¬ ltS b a)(h2:¬ ltS c b):¬ ltS c a:=fun h=>by
 rcases ordsS.tri b c with g | g | g
 ·exact h1 (ordsS.tr _ _ _ g h)
 ·subst g;exact h1 h
 ·exact h2 g
theorem Zn2{y:List ByteArray}{j:Nat}{v:ByteArray}(h:j<y.length):Y7 (rS y) [] j 0 (.v (.string v))=rS (y.set j v):=by
 simp only[Y7]
 rw[Zdt (e0:=e0S) (c:=fun n:ByteArray=>[ts n]) h]
 exact(List.map_set (f:=fun n:ByteArray=>[ts n]) (l:=y) (i:=j) (a:=v)).symm
theorem ZkA(a:ByteArray)(lvl:Nat)(S:Sto):Sem Proofs.Tryz.prog Yn lvl [iS a] S (iB false) S:=by
 refine Zc ZbH trivial ?_
 simp only[WQ,EVA,seval,Zd,men]
theorem Zmc(a b:ByteArray)(lvl:Nat)(S:Sto):Sem Proofs.Tryz.prog YG lvl [iS a,iS b] S (iB (dc (ltS a b))) S:=by
 refine Zc Zcy trivial ?_
 simp only[Up,EVA,seval,Zd,men]
 refine Zb (ZkA a) ?_
 simp only[EVA,seval,Zd,men]
 have:Op.bytesLess a.data.toList b.data.toList=dc (ltS a b):=by
  unfold ltS
  rw[YN,Bool.decide_eq_true]
 rw[this]
theorem Zn3(l:List ByteArray)(hl:l.length<=12)(lvl:Nat)(S:Sto)(id:Oid)(u:Bool)(hw ver:Nat)(hid:id.1<lvl)(hS:S id=some (.ar 1 (rS l) u hw ver))(srt:List ByteArray)(hsrt:∀ x:List ByteArray,x.Perm l->Zgw e0S ltS x l.length->x=srt) :
  Sem Proofs.Tryz.prog Z7 lvl [.hd id [] 0 l.length none hw,iI 0,iI l.length] S (.tu []) (ZM S id (.ar 1 (rS srt) u hw ver)):=by
 have hne:id.1≠lvl:=by omega
 refine Zc VV trivial ?_
 simp only[JY,EVA,seval,Zd,men]
 refine⟨by rw[Ze];omega,?_⟩
 refine ZY (α:=List ByteArray) l.length (fun k x=>⟨lvl,[(0,.hd id [] 0 l.length none hw),(1,iI 0),(2,iI l.length),(6,iI ((k+1:Nat):Int))],[],ZM S id (.ar 1 (rS x) u hw ver)⟩) (fun k x=>x.Perm l/\Zgw e0S ltS x (k+1)) l ⟨by simp only[ZR hne,EVA,seval,Zd,men],by (simp only[Qt hS,EVA,seval,Zd,men]) <;> rfl⟩ ⟨List.Perm.refl _,fun p q h1 h2=>by omega⟩ ?_
 intro k x hk ⟨hA1,hA2⟩
 have hxl:x.length=l.length:=hA1.length_eq
 simp only[EVA,seval,Zd,men]
 refine Zo (fun hlt=>?_) (fun hge=>?_)
 ·have hk1:k+1<l.length:=by omega
  refine ZY (α:=List ByteArray) (k+1) (fun m y=>⟨lvl,[(0,.hd id [] 0 l.length none hw),(1,iI 0),(2,iI l.length),(6,iI ((k+1:Nat):Int)),(7,iI ((k+1-m:Nat):Int))],[],ZM S id (.ar 1 (rS y) u hw ver)⟩) (fun m y=>y.Perm l/\ZhL e0S ltS y (k+1) (k+1-m)) x ⟨by simp only[ZR hne,EVA,seval,Zd,men],by (simp only[EVA,seval,Zd,men]) <;> rfl⟩ ⟨hA1,fun p q h1 h2 h3 h4=>hA2 p q h1 (by omega),fun q h1 h2=>by omega⟩ ?_
  intro m y hm ⟨hB1,hB2⟩
  have hyl:y.length=l.length:=hB1.length_eq
  generalize hj:k+1-m=j at hB2 ⊢
  by_cases hj0:j=0
  ·subst hj0
   simp only[EVA,seval,Zd,men]
   exact⟨by rw[Ze];omega,fun h=>absurd h hne,Zf y (by omega) rfl ⟨hB1,ZiP hB2⟩⟩
  ·have g1:(0:Int)<j:=by omega
   have e1:((j:Int)-1)=((j-1:Nat):Int):=by omega
   have gj:=Zdt (e0:=e0S) (c:=fun n:ByteArray=>[ts n]) (l:=y) (i:=j) (by omega)
   have gj1:=Zdt (e0:=e0S) (c:=fun n:ByteArray=>[ts n]) (l:=y) (i:=j-1) (by omega)
   have l1:j<l.length:=by omega
   have l2:j-1<l.length:=by omega
   simp only[g1,Z6 hne,Vx,e1,gj,gj1,l1,l2,Nat.zero_add,EVA,seval,Zd,men]
   refine⟨by rw[Ze];omega,Zb (Zmc (gS y j) (gS y (j-1))) ?_⟩
   by_cases hlt2:ltS (gS y j) (gS y (j-1))
   ·rw[ZK hlt2]
    have s1:=Zn2 (y:=y) (j:=j) (v:=gS y (j-1)) (by omega)
    have s2:=Zn2 (y:=y.set j (gS y (j-1))) (j:=j-1) (v:=gS y j) (by rw[List.length_set];omega)
    have gj2:=Zdt (e0:=e0S) (c:=fun n:ByteArray=>[ts n]) (l:=y.set j (gS y (j-1))) (i:=j-1) (by rw[List.length_set];omega)
    simp only[g1,Z6 hne,YW hne,JL,Vx,ZR hne,e1,gj,gj1,gj2,s1,s2,l1,l2,Nat.zero_add,EVA,seval,Zd,men]
    subst hj
    refine⟨by rw[Ze];omega,by rw[Ze];omega,by rw[Ze];omega,Zf (ZqK e0S y (k+1-m)) (by omega) (by rw[show k+1-(m+1)=k+1-m-1 from by omega];rfl) ⟨(Zl9 (by omega) (by omega)).trans hB1,?_⟩⟩
    rw[show k+1-(m+1)=k+1-m-1 from by omega]
    exact Zkz Zn1 hB2 (by omega) (by omega) (by omega) hlt2
   ·rw[Zh hlt2]
    simp only[EVA,seval,Zd,men]
    exact⟨by rw[Ze];omega,fun h=>absurd h hne,Zf y (by omega) rfl ⟨hB1,ZiQ ltS_tr hB2 (by omega) (by omega) hlt2⟩⟩
 ·have:k+1=l.length\/k=l.length:=by omega
  have hup:Zgw e0S ltS x l.length:=fun p q h1 h2=>hA2 p q h1 (by omega)
  have hx:=hsrt x hA1 hup
  rw[hx]
theorem Zn4(l:List ByteArray)(hl:l.length<=12)(r:Int)(lvl:Nat)(S:Sto)(id:Oid)(u:Bool)(hw ver:Nat)(hid:id.1<lvl)(hS:S id=some (.ar 1 (rS l) u hw ver))(srt:List ByteArray)(hsrt:∀ x:List ByteArray,x.Perm l->Zgw e0S ltS x l.length->x=srt) :
  Sem Proofs.Tryz.prog ZQ lvl [.hd id [] 0 l.length none hw,iI 0,iI l.length,iI r] S (.tu []) (ZM S id (.ar 1 (rS srt) u hw ver)):=by
 have hne:id.1≠lvl:=by omega
 refine Zc Xn trivial ?_
 simp only[Yv,EVA,seval,Zd,men]
 refine ZY (α:=Unit) 0 (fun _ _=>⟨lvl,[(0,.hd id [] 0 l.length none hw),(1,iI 0),(2,iI l.length),(3,iI r),(8,iB true),(9,iB true)],[],S⟩) (fun _ _=>True) () ⟨by simp only[ZR hne,EVA,seval,Zd,men],by (simp only[EVA,seval,Zd,men]) <;> rfl⟩ trivial ?_
 intro _ _ _ _
 have h12:(l.length:Int)-0<=12:=by omega
 simp only[h12,EVA,seval,Zd,men]
 refine⟨by rw[Ze];omega,?_⟩
 simp only[Zcd]
 refine Qs [] (ZM S id (.ar 1 (rS srt) u hw ver)) (fun i hi=>by unfold ZM;rw[if_neg (fun e=>hne (by rw[<-e];exact hi))]) (by
  rw[Uf hne]
  exact Zn3 l hl (lvl+1) (ZG lvl [] S) id u hw ver (by omega) (by rw[Z6 hne];exact hS) srt hsrt) ?_
 simp only[ZR hne,EVA,seval,Zd,men]
theorem Zmd{v:Int}(h0:0<=v)(h:v<=12):∃ r:Int,∀(lvl:Nat) (S:Sto),Sem Proofs.Tryz.prog V8 lvl [.tr (.v (.int .u64 v))] S (iI r) S:=by
 have:v=0\/v=1\/v=2\/v=3\/v=4\/v=5\/v=6\/v=7\/v=8\/v=9\/v=10\/v=11\/v=12:=by omega
 rcases this with rfl | rfl | rfl | rfl | rfl | rfl | rfl | rfl | rfl | rfl | rfl | rfl | rfl
 ·refine⟨0,fun lvl S=>Zc ZH trivial ?_⟩
  simp only[ZD,EVA,seval,Zd,men]
  simp [Xt,IntKind.min,IntKind.max,IntKind.signed,IntKind.bits]
 ·refine⟨1,fun lvl S=>Zc ZH trivial ?_⟩
  simp only[ZD,EVA,seval,Zd,men]
  simp [Xt,IntKind.min,IntKind.max,IntKind.signed,IntKind.bits]
 ·refine⟨2,fun lvl S=>Zc ZH trivial ?_⟩
  simp only[ZD,EVA,seval,Zd,men]
  simp [Xt,IntKind.min,IntKind.max,IntKind.signed,IntKind.bits]
 ·refine⟨2,fun lvl S=>Zc ZH trivial ?_⟩
  simp only[ZD,EVA,seval,Zd,men]
  simp [Xt,IntKind.min,IntKind.max,IntKind.signed,IntKind.bits]
 ·refine⟨3,fun lvl S=>Zc ZH trivial ?_⟩
  simp only[ZD,EVA,seval,Zd,men]
  simp [Xt,IntKind.min,IntKind.max,IntKind.signed,IntKind.bits]
 ·refine⟨3,fun lvl S=>Zc ZH trivial ?_⟩
  simp only[ZD,EVA,seval,Zd,men]
  simp [Xt,IntKind.min,IntKind.max,IntKind.signed,IntKind.bits]
 ·refine⟨3,fun lvl S=>Zc ZH trivial ?_⟩
  simp only[ZD,EVA,seval,Zd,men]
  simp [Xt,IntKind.min,IntKind.max,IntKind.signed,IntKind.bits]
 ·refine⟨3,fun lvl S=>Zc ZH trivial ?_⟩
  simp only[ZD,EVA,seval,Zd,men]
  simp [Xt,IntKind.min,IntKind.max,IntKind.signed,IntKind.bits]
 ·refine⟨4,fun lvl S=>Zc ZH trivial ?_⟩
  simp only[ZD,EVA,seval,Zd,men]
  simp [Xt,IntKind.min,IntKind.max,IntKind.signed,IntKind.bits]
 ·refine⟨4,fun lvl S=>Zc ZH trivial ?_⟩
  simp only[ZD,EVA,seval,Zd,men]
  simp [Xt,IntKind.min,IntKind.max,IntKind.signed,IntKind.bits]
 ·refine⟨4,fun lvl S=>Zc ZH trivial ?_⟩
  simp only[ZD,EVA,seval,Zd,men]
  simp [Xt,IntKind.min,IntKind.max,IntKind.signed,IntKind.bits]
 ·refine⟨4,fun lvl S=>Zc ZH trivial ?_⟩
  simp only[ZD,EVA,seval,Zd,men]
  simp [Xt,IntKind.min,IntKind.max,IntKind.signed,IntKind.bits]
 ·refine⟨4,fun lvl S=>Zc ZH trivial ?_⟩
  simp only[ZD,EVA,seval,Zd,men]
  simp [Xt,IntKind.min,IntKind.max,IntKind.signed,IntKind.bits]
theorem Zme{v:Int}(h0:0<=v)(h:v<=12):∃ r:Int,∀(lvl:Nat) (S:Sto),Sem Proofs.Tryz.prog Vt lvl [.tr (.v (.int .u64 v))] S (iI r) S:=by
 obtain⟨r,hr⟩:=Zmd h0 h
 refine⟨r,fun lvl S=>Zc Zeh trivial ?_⟩
 simp only[DN,EVA,seval,Zd,men]
 refine Zb hr ?_
 simp only[EVA,seval,Zd,men]
theorem Zmf(l:List ByteArray)(hl:l.length<=12)(lvl:Nat)(S:Sto)(id:Oid)(u:Bool)(hw ver:Nat)(hid:id.1<lvl)(hS:S id=some (.ar 1 (rS l) u hw ver))(srt:List ByteArray)(hsrt:∀ x:List ByteArray,x.Perm l->Zgw e0S ltS x l.length->x=srt) :
  Sem Proofs.Tryz.prog ZX lvl [.hd id [] 0 l.length none hw] S (.tu []) (ZM S id (.ar 1 (rS srt) u hw ver)):=by
 have hne:id.1≠lvl:=by omega
 obtain⟨r,hr⟩:=Zme (v:=(l.length:Int)) (by omega) (by omega)
 refine Zc Wu trivial ?_
 simp only[Vh,EVA,seval,Zd,men]
 refine⟨⟨by show (0:Int)<=l.length;omega,by show (l.length:Int)<=18446744073709551615;omega⟩,Zb hr ?_⟩
 simp only[EVA,seval,Zd,men]
 refine Qs [] (ZM S id (.ar 1 (rS srt) u hw ver)) (fun i hi=>by unfold ZM;rw[if_neg (fun e=>hne (by rw[<-e];exact hi))]) (by
  rw[Uf hne]
  exact Zn4 l hl r (lvl+1) (ZG lvl [] S) id u hw ver (by omega) (by rw[Z6 hne];exact hS) srt hsrt) ?_
 simp only[ZR hne,EVA,seval,Zd,men]
theorem ZhN(l:List ByteArray)(hl:l.length<=4294967290)(lvl:Nat)(S:Sto)(id:Oid)(u:Bool)(hw ver:Nat)(hid:id.1<lvl)(hS:S id=some (.ar 1 (rS l) u hw ver)) :
  ∃ v2,Sem Proofs.Tryz.prog Jv lvl [.hd id [] 0 l.length none hw] S (.hd id [] 0 (cz (gS l) l.length).length none hw) (ZM S id (.ar 1 (rS (cz (gS l) l.length)) u hw v2)):=by
 have hne:id.1≠lvl:=by omega
 by_cases hd:∀ m,0<m->m<l.length->gS l m≠gS l (m-1)
 ·refine⟨ver,?_⟩
  rw[Zgx (Nat.le_refl _) hd,List.take_length,Qt hS]
  refine Zc Yu hid ?_
  simp only[JG,EVA,seval,Zd,men]
  by_cases h2:(l.length:Int)<2
  ·rw[if_pos h2]
   simp only[ZdX hne,EVA,seval,Zd,men]
  rw[if_neg h2]
  refine ZY (α:=Unit) l.length (fun k _=>⟨lvl,[(0,.hd id [] 0 l.length none hw),(3,iI ((k+1:Nat):Int))],[],S⟩) (fun k _=>k+1<=l.length) () ⟨by simp only[ZR hne,EVA,seval,Zd,men],by (simp only[EVA,seval,Zd,men]) <;> rfl⟩ (by omega) ?_
  intro k _ hk hA
  simp only[EVA,seval,Zd,men]
  refine Zo (fun hlt=>?_) (fun hge=>?_)
  ·have gj:=Zdt (e0:=e0S) (c:=fun n:ByteArray=>[ts n]) (l:=l) (i:=k+1) (by omega)
   have gj1:=Zdt (e0:=e0S) (c:=fun n:ByteArray=>[ts n]) (l:=l) (i:=k) (by omega)
   have l1:k+1<l.length:=by omega
   have l2:k<l.length:=by omega
   have hx:=hd (k+1) (by omega) l1
   rw[Nat.add_sub_cancel] at hx
   have e1:(((k+1:Nat):Int)-1)=(k:Int):=by omega
   simp only[Z6 hne,hS,e1,gj,gj1,l1,l2,hx,Nat.zero_add,ZR hne,EVA,seval,Zd,men]
   exact⟨by rw[Ze];omega,by rw[Ze];omega,Zf () (by omega) rfl (by omega)⟩
  ·simp only[ZdX hne,EVA,seval,Zd,men]
 ·refine⟨ver+1,?_⟩
  refine Zc Yu hid ?_
  simp only[JG,EVA,seval,Zd,men]
  by_cases h2:(l.length:Int)<2
  ·exact absurd (fun m h0 h1=>by omega) hd
  rw[if_neg h2]
  refine ZY (α:=Unit) l.length (fun k _=>⟨lvl,[(0,.hd id [] 0 l.length none hw),(3,iI ((k+1:Nat):Int))],[],S⟩) (fun k _=>k+1<=l.length/\∀ m,0<m->m<k+1->gS l m≠gS l (m-1)) () ⟨by simp only[ZR hne,EVA,seval,Zd,men],by (simp only[EVA,seval,Zd,men]) <;> rfl⟩ ⟨by omega,fun m h0 h1=>by omega⟩ ?_
  intro k _ hk ⟨hA,hB⟩
  simp only[EVA,seval,Zd,men]
  refine Zo (fun hlt=>?_) (fun hge=>?_)
  ·have gj:=Zdt (e0:=e0S) (c:=fun n:ByteArray=>[ts n]) (l:=l) (i:=k+1) (by omega)
   have gj1:=Zdt (e0:=e0S) (c:=fun n:ByteArray=>[ts n]) (l:=l) (i:=k) (by omega)
   have l1:k+1<l.length:=by omega
   have l2:k<l.length:=by omega
   have e1:(((k+1:Nat):Int)-1)=(k:Int):=by omega
   by_cases hx:gS l (k+1)=gS l k
   ·have hc1:=Zgx (l:=l) (n:=k+1) (by omega) hB
    have hc2:cz (gS l) (k+1+1)=cz (gS l) (k+1):=Zql (by omega) (by rw[Nat.add_sub_cancel];exact hx)
    simp only[Z6 hne,hS,e1,gj,gj1,l1,l2,hx,Nat.zero_add,ZR hne,EVA,seval,Zd,men]
    refine⟨by rw[Ze];omega,by omega,Ztw hne hS,?_⟩
    refine ZY (α:=Nat×List ByteArray) l.length (fun m x=>⟨lvl,[(0,.hd id [] 0 l.length none hw),(3,iI (x.1:Int)),(4,.hd id [] (k+1) (l.length-(k+1)) none hw),(5,iI ((m+1:Nat):Int))],[],ZM S id (.ar 1 (rS x.2) u hw ver)⟩) (fun m x=>k+1+m+1<=l.length/\x.2.length=l.length/\x.1=(cz (gS l) (k+1+m+1)).length/\x.2.take x.1=cz (gS l) (k+1+m+1)/\x.1<=k+1+m/\∀ q,k+1+m<=q->gS x.2 q=gS l q) (k+1,l) ⟨by simp only[ZR hne,EVA,seval,Zd,men],by (simp only[Qt hS,EVA,seval,Zd,men]) <;> rfl⟩ ⟨by omega,rfl,by rw[Nat.add_zero,hc2,hc1,List.length_take];omega,by rw[Nat.add_zero,hc2,hc1],by omega,fun _ _=>rfl⟩ ?_
    intro m ⟨i,y⟩ hm ⟨hm1,hy,hi,ht,hle,hq⟩
    dsimp only at hy hi ht hle hq
    simp only[EVA,seval,Zd,men]
    refine Zo (fun hlt2=>?_) (fun hge2=>?_)
    ·have b1:k+1+(m+1)<l.length:=by omega
     have b2:m+1<l.length-(k+1):=by omega
     have b3:m<l.length-(k+1):=by omega
     have gy:=Zdt (e0:=e0S) (c:=fun n:ByteArray=>[ts n]) (l:=y) (i:=k+1+(m+1)) (by omega)
     have gy1:=Zdt (e0:=e0S) (c:=fun n:ByteArray=>[ts n]) (l:=y) (i:=k+1+m) (by omega)
     have q1:=hq (k+1+(m+1)) (by omega)
     have q2:=hq (k+1+m) (by omega)
     have e2:(((m+1:Nat):Int)-1)=(m:Int):=by omega
     have b4:i<l.length:=by omega
     by_cases hx2:gS l (k+1+(m+1))=gS l (k+1+m)
     ·have hc3:cz (gS l) (k+1+(m+1)+1)=cz (gS l) (k+1+m+1):=Zql (by omega) hx2
      simp only[Z6 hne,Vx,e2,gy,gy1,q1,q2,b2,b3,hx2,ZR hne,EVA,seval,Zd,men]
      exact⟨by rw[Ze];omega,by rw[Ze];omega,Zf (i,y) (by omega) rfl ⟨by omega,hy,by rw[show k+1+(m+1)+1=k+1+(m+1)+1 from rfl,hc3];exact hi,by rw[hc3];exact ht,by show i<=k+1+(m+1);omega,fun q hqq=>hq q (by omega)⟩⟩
     ·have hc3:cz (gS l) (k+1+(m+1)+1)=cz (gS l) (k+1+m+1)++[gS l (k+1+(m+1))]:=Zx3 hx2
      have s1:=Zn2 (y:=y) (j:=i) (v:=gS l (k+1+(m+1))) (by omega)
      have gy0:=Zdt (e0:=e0S) (c:=fun n:ByteArray=>[ts n]) (l:=y) (i:=i) (by omega)
      simp only[Z6 hne,YW hne,JL,Vx,e2,gy,gy0,gy1,q1,q2,b2,b3,b4,hx2,s1,Nat.zero_add,ZR hne,EVA,seval,Zd,men]
      exact⟨by rw[Ze];omega,by rw[Ze];omega,by rw[Ze];omega,Zf (i+1,y.set i (gS l (k+1+(m+1)))) (by omega) rfl ⟨by omega,by rw[List.length_set];exact hy,by rw[hc3,List.length_append,<-hi];rfl,by rw[ZbJ (by omega),ht,hc3],by show i+1<=k+1+(m+1);omega,fun q hqq=>by
       show gx e0S (y.set i (gS l (k+1+(m+1)))) q=_
       rw[ZjW (by omega),if_neg (by omega)]
       exact hq q (by omega)⟩⟩
    ·have en:k+1+m+1=l.length:=by omega
     rw[en] at hi ht
     refine⟨by omega,Ztw hne (Vx ..),?_⟩
     have tk:(rS y).take i=rS (cz (gS l) l.length):=by rw[<-ht];exact(List.map_take ..).symm
     simp only[Z6 hne,YW hne,JL,Vx,tk,List.length_map,hy,EVA,seval,Zd,men]
     refine⟨by omega,by omega,by omega,by omega,Ztw hne (Vx ..),?_⟩
     simp only[ZdX hne,Nat.sub_zero,hi,EVA,seval,Zd,men]
   ·simp only[Z6 hne,hS,e1,gj,gj1,l1,l2,hx,Nat.zero_add,ZR hne,EVA,seval,Zd,men]
    exact⟨by rw[Ze];omega,by rw[Ze];omega,Zf () (by omega) rfl ⟨by omega,fun m h0 h1=>by
     by_cases e:m=k+1
     ·subst e;exact hx
     ·exact hB m h0 (by omega)⟩⟩
  ·exact absurd (fun m h0 h1=>hB m h0 (by omega)) hd
end Go.Fd

/-
  FOUNDATION 55: a function of the library that orders a row of scalars in place, by the guide's contract. Own work.
-/
namespace Go.Fd
variable [Tabs]
open Go.Sort
section
variable {P:Program} {α:Type} [Inhabited α] {enc:α->Value}
abbrev Zm2(enc:α->Value)(l:List α):Row:=l.map fun x=>[.v (enc x)]
theorem ZbK{l:List α}{p:Pth}{es2:Row}(hp:p≠[]):getp (Zm2 enc l) p≠some es2:=fun h=>by
 cases p with
 | nil=>exact hp rfl
 | cons cd q =>
  obtain⟨c,d⟩:=cd
  obtain⟨e,x,h1,h2,_⟩:=JR h
  obtain⟨n,_,rfl⟩:=List.mem_map.1 (List.mem_of_getElem? h1)
  have:=List.mem_of_getElem? h2
  simp at this
theorem ZiT{l:List α}:UnR 1 (Zm2 enc l):=Zco (fun x=>[.v (enc x)]) (fun _=>rfl) l
theorem Zgz{d:Array α}{off:Nat}{c:Array Value}:(putCells enc off d c).size=c.size:=by simp [putCells]
theorem ZhO{d:List α}{c:Array Value}{i:Nat}(h:i<d.length)(hc:i<c.size):(putCells enc 0 d.toArray c)[i]? = some (enc d[i]):=by
 simp [putCells,hc,h]
theorem ZhP{f:FuncId}{lvl:Nat}{S:Sto}{id:Oid}{xs ys:List α}{u:Bool}{hw ver:Nat}(hc:UD P f)(hid:id.1<lvl)(hS:S id=some (.ar 1 (Zm2 enc xs) u hw ver))
  (hsc:∀ x:α,Dl (enc x)=true) (hl:ys.length=xs.length)
  (h0:xs=[]->∀(a:Option Addr) (cap:Nat) (w:World),Calls P f #[.slice a 0 cap] w fun e w' => e = .returned (.tuple #[])/\∃ n,w'=Sort.ahead w n)
  (h1:xs≠[]->∀(b cap:Nat) (w:World),Holds enc w b 0 xs.toArray->b<w.heap.size->Calls P f #[.slice (some ⟨b,0,none⟩) xs.length cap] w fun e w' => e = .returned (.tuple #[])/\∃ n os,w'=grow (putRow enc (Sort.ahead w n) b 0 ys.toArray) os) :
  Sem P f lvl [.hd id [] 0 xs.length none hw] S (.tu []) (ZM S id (.ar 1 (Zm2 enc ys) u hw ver)):=by
 refine⟨trivial,hc,fun hlow G w vs hok hv _=>?_⟩
 simp only[VRs] at hv
 obtain⟨v,vr,rfl,hv,rfl⟩:=hv
 simp only[VR] at hv
 obtain⟨⟨a0,c0,hv0,hlc0⟩,k2,es2,u2,hw2,ver2,hs2,_,hrel⟩:=hv
 rw[hS] at hs2;cases hs2
 obtain⟨es3,k',a,c,hg3,hk,hun,rfl,hlc,hcap,hcap2,hor⟩:=hrel rfl
 cases hg3
 have hk1:=hk rfl
 subst hk1
 by_cases hx:xs=[]
 ·subst hx
  have hy:ys=[]:=List.length_eq_zero_iff.1 (by simpa using hl)
  subst hy
  rw[Qt hS]
  refine(h0 rfl a c w).mono ?_
  rintro e w' ⟨rfl,n,rfl⟩
  have e:Ext w (Sort.ahead w n):=⟨Nat.le_refl _,fun _ _=>rfl,rfl,rfl,rfl⟩
  exact⟨_,G,rfl,hok.ext e,by simp [impv,impvs,VR,VRs],hlow,Frm.of_ext e⟩
 ·have hpos:0<xs.length:=List.length_pos_iff.2 hx
  rcases hor with hz | ⟨hz,_⟩ | ⟨b,cc,hG,rfl,hoc⟩
  ·omega
  ·exact absurd rfl hz
  ·obtain⟨o1,o2,o3,o4,o5⟩:=hok.obs _ _ hS
   have hr:=o4 [] _ (.inl rfl) rfl
   unfold Xr at hr
   rw[hG] at hr
   obtain⟨k3,cells,ty,g1,g2,g3,g4,g5,g6⟩:=hr
   have hk3:=g1 rfl
   subst hk3
   have hbs:b<w.heap.size:=by
    rcases Nat.lt_or_ge b w.heap.size with h | h
    ·exact h
    ·rw[Array.getElem?_eq_none h] at g3;cases g3
   have hH:Holds enc w b 0 xs.toArray:=fun j hj=>by
    have hj:j<xs.length:=by simpa using hj
    obtain⟨x,hx1,hx2⟩:=g6 j [.v (enc xs[j])] 0 (.v (enc xs[j])) (by simp [hj]) rfl
    simp only[Yl] at hx2
    obtain⟨rfl,_⟩:=hx2
    refine⟨?_,by simp [World.frozen?,g3]⟩
    have:(xs.toArray)[j]! = xs[j]:=by simp [hj]
    rw[this,cell_of_row w b (0+j) cells ty (0,0) g3]
    simpa using hx1
   refine(h1 hx b c w hH hbs).mono ?_
   rintro e w' ⟨rfl,n,os,rfl⟩
   have hsz:w.heap.size<=(grow (putRow enc (Sort.ahead w n) b 0 ys.toArray) os).heap.size:=by simp [grow,putRow,mapBlock,Sort.ahead]
   have hheap:∀ b2,b2<w.heap.size->b2≠b->(grow (putRow enc (Sort.ahead w n) b 0 ys.toArray) os).heap[b2]? = w.heap[b2]?:=fun b2 h2 hne=>by
    simp only[grow,putRow,mapBlock,Sort.ahead]
    rw[Array.getElem?_append_left (by simpa using h2),Array.getElem?_modify,if_neg (fun e=>hne e.symm)]
   have hrow:(grow (putRow enc (Sort.ahead w n) b 0 ys.toArray) os).heap[b]? = some (.cells (putCells enc 0 ys.toArray cells) ty (0,0)):=by
    simp only[grow,putRow,mapBlock,Sort.ahead]
    rw[Array.getElem?_append_left (by simpa using hbs),Array.getElem?_modify,if_pos rfl,g3]
    rfl
   have hown:∀ ob b2,ob=(.ar 1 (Zm2 enc ys) u hw ver:Ob)->YU G id ob b2->b2=b:=fun ob b2 ho h=>by
    subst ho
    obtain⟨p,c2,hp,hq,hg⟩:=h
    by_cases hp0:p=[]
    ·subst hp0
     rw[hG] at hg
     cases hg
     rfl
    ·obtain⟨e2,he2⟩:=Option.isSome_iff_exists.1 hq
     exact absurd he2 (ZbK hp0)
   have hbown:YU G id (.ar 1 (Zm2 enc xs) u hw ver) b:=⟨[],cc,.inl rfl,rfl,hG⟩
   have t:Trn G G S (ZM S id (.ar 1 (Zm2 enc ys) u hw ver)) w (grow (putRow enc (Sort.ahead w n) b 0 ys.toArray) os) (· = id) (fun _=>False):=by
    refine⟨fun _ _=>rfl,fun i ob hi _ hs=>⟨ob,by unfold ZM;rw[if_neg hi];exact hs,Wk.refl ob⟩,fun i ob hi hs=>⟨fun h=>h,ob,by unfold ZM at hs;rw[if_neg hi] at hs;exact hs,Wk.refl ob⟩,hsz,fun b2 h2 hn=>hheap b2 h2 fun e=>hn id _ rfl hS (e ▸ hbown),fun i ob b2 hi hs ho=>?_,fun i ob hi _ hs=>?_⟩
    ·subst hi
     unfold ZM at hs;rw[if_pos rfl] at hs;cases hs
     have:=hown _ b2 rfl ho
     subst this
     exact .inl ⟨i,_,.inl rfl,hS,hbown⟩
    ·subst hi
     rw[hS] at hs;cases hs
     refine⟨.ar 1 (Zm2 enc ys) u hw ver,by unfold ZM;rw[if_pos rfl],rfl,Nat.le_refl _,Nat.le_refl _,fun p st _ hst=>⟨hst,fun es' he=>?_⟩⟩
     by_cases hp0:p=[]
     ·subst hp0
      exact⟨rfl,_,rfl,fun k' hkk _=>by rw[hkk rfl];exact ZiT⟩
     ·exact absurd he (ZbK hp0)
   refine⟨_,G,rfl,t.ok hok (fun i ob hi hs=>?_) (fun i ob j ob' b hi hj _ _ _ _=>hi.trans hj.symm) (fun i cells hi hs=>?_),by simp [impv,impvs,VR,VRs],fun i ob hs=>?_,t.frm (fun _ h=>h.elim) rfl rfl rfl⟩
   ·subst hi
    simp only[impv,impvs,VL,ZM,if_true] at hs;cases hs
    refine⟨by rw[List.length_map] at *;omega,ZiT,o3,fun p es2 hp he=>?_,fun p p' b1 c1 c2 hp hp' g1 g2 g3 g4=>?_⟩
    ·by_cases hp0:p=[]
     ·subst hp0
      cases he
      unfold Xr
      rw[hG]
      refine⟨1,_,ty,fun _=>rfl,ZiT,hrow,by rw[Zgz];exact g4,by rw[List.length_map] at *;omega,fun i e f t hi hf=>?_⟩
      rw[List.getElem?_map] at hi
      obtain⟨y,hy,rfl⟩:=Option.map_eq_some_iff.1 hi
      obtain⟨hil,hyy⟩:=List.getElem?_eq_some_iff.1 hy
      have hf0:f=0/\t = .v (enc y):=by
       cases f with
       | zero=>simp at hf;exact⟨rfl,hf.symm⟩
       | succ f=>simp at hf
      obtain⟨rfl,rfl⟩:=hf0
      refine⟨enc y,?_,rfl,hsc y⟩
      rw[List.length_map] at g5
      rw[show i*1+0=i from by omega,ZhO hil (by omega),hyy]
     ·exact absurd he (ZbK hp0)
    ·by_cases hp0:p=[]
     ·by_cases hp1:p'=[]
      ·rw[hp0,hp1]
      ·obtain⟨e2,he2⟩:=Option.isSome_iff_exists.1 g2
       exact absurd he2 (ZbK hp1)
     ·obtain⟨e2,he2⟩:=Option.isSome_iff_exists.1 g1
      exact absurd he2 (ZbK hp0)
   ·subst hi
    simp only[impv,impvs,VL,ZM,if_true] at hs;cases hs
   ·simp only[ZM] at hs
    split at hs
    ·rename_i h;rw[h];exact hid
    ·exact hlow i ob hs
end
end Go.Fd

/-
  SORTING STRINGS, ANY NUMBER OF THEM, BY THE GUIDE'S CONTRACT. Own work.
-/
namespace Go.Fd
set_option maxRecDepth 20000
theorem Zty:∀(x y:List UInt8),x<y↔Op.bytesLess x y=true
 | [],[]=>by simp [Op.bytesLess]
 | [],_::_=>by simp [Op.bytesLess]
 | _::_,[]=>by simp [Op.bytesLess]
 | a::x,b::y=>by
  rw[List.cons_lt_cons_iff,Zty x y]
  simp [Op.bytesLess]
abbrev bsL(s:ByteArray):List UInt8:=s.data.toList
abbrev lbS(l:List UInt8):ByteArray:=⟨l.toArray⟩
theorem Ztz{s:ByteArray}:lbS (bsL s)=s:=by simp [lbS,bsL]
theorem ZoG{l:List ByteArray}:Zm2 Go.Proofs.encStr (l.map bsL)=rS l:=by
 simp only[Zm2,List.map_map]
 refine List.map_congr_left fun s _=>?_
 show [Tr.v (Value.string (lbS (bsL s)))]=_
 rw[Ztz]
theorem ZtA(l:List ByteArray):(l.map bsL).mergeSort (fun x y=>decide (x<=y))=(Zk3 ltS l).map bsL:=by
 have e1:((l.map bsL).mergeSort (fun x y=>decide (x<=y))).map lbS=Zk3 ltS l:=by
  refine ZiR ordsS ?_ (ZiS ordsS) (List.Perm.trans ?_ srtG_perm.symm)
  ·rw[List.pairwise_map]
   have h:=List.pairwise_mergeSort (le:=fun x y:List UInt8=>decide (x<=y)) (fun a b c h1 h2=>by simp only[decide_eq_true_eq] at *;exact List.le_trans h1 h2) (fun a b=>by simp only[Bool.or_eq_true,decide_eq_true_eq];exact List.le_total a b) (l.map bsL)
   refine h.imp fun {x y} h=>?_
   simp only[decide_eq_true_eq] at h
   intro hlt
   exact h ((Zty y x).2 hlt)
  ·have h:=(List.mergeSort_perm (l.map bsL) (fun x y=>decide (x<=y))).map lbS
   rw[List.map_map] at h
   have:l.map (lbS ∘ bsL)=l:=by
    rw[show (lbS ∘ bsL)=id from funext fun s=>Ztz]
    exact List.map_id l
   rwa [this] at h
 rw[<-e1,List.map_map]
 rw[show (bsL ∘ lbS)=id from funext fun s=>by simp [bsL,lbS]]
 exact(List.map_id _).symm
theorem ZgA(l:List ByteArray)(hl:l.length<=4294967296)(lvl:Nat)(S:Sto)(id:Oid)(u:Bool)(hw ver:Nat)(hid:id.1<lvl)(hS:S id=some (.ar 1 (rS l) u hw ver)) :
  Sem Proofs.Tryz.prog ZX lvl [.hd id [] 0 l.length none hw] S (.tu []) (ZM S id (.ar 1 (rS (Zk3 ltS l)) u hw ver)):=by
 by_cases hs:l.length<=12
 ·exact Zmf l hs lvl S id u hw ver hid hS _ fun x hp hu=>Zn0 ordsS hp hu
 ·have h:=ZhP (P:=Proofs.Tryz.prog) (f:=ZX) (lvl:=lvl) (S:=S) (id:=id) (xs:=l.map bsL) (ys:=(Zk3 ltS l).map bsL) (enc:=Go.Proofs.encStr) (u:=u) (hw:=hw) (ver:=ver) (Zgu (by kernel_rfl)) hid (by rw[ZoG];exact hS) (fun _=>rfl) (by rw[List.length_map,List.length_map,srtG_perm.length_eq])
   (fun h=>absurd (congrArg List.length h) (by rw[List.length_map];show ¬ l.length=0;omega))
   (fun _ b cap w hH hb=>by
    have:=Go.Proofs.Any.slices_Sort_string Proofs.Tryz.lays190 b 0 cap (l.map bsL) w hH hb (by rw[List.length_map];omega)
    rw[ZtA] at this
    exact this)
  rw[ZoG,List.length_map] at h
  exact h
end Go.Fd

/-
  CHILDREN, POINTS, REDEXES, BOTH SIDES. Own work.
-/
namespace Go.Fd
set_option maxRecDepth 20000
def Zk4(f:Nat->Prop)[DecidablePred f]:Nat->List Int
 | 0=>[]
 | j+1=>if f j then Zk4 f j++[(j:Int)] else Zk4 f j
theorem Zeq{f:Nat->Prop}[DecidablePred f]:∀{j:Nat},(Zk4 f j).length<=j
 | 0=>Nat.le_refl 0
 | j+1=>by
  unfold Zk4
  have:=Zeq (f:=f) (j:=j)
  split
  ·rw[List.length_append,List.length_singleton];omega
  ·omega
theorem Zdu{f:Nat->Prop}[DecidablePred f]{j:Nat}(h:f j):Zk4 f (j+1)=Zk4 f j++[(j:Int)]:=by rw[Zk4,if_pos h]
theorem ZgB{f:Nat->Prop}[DecidablePred f]{j:Nat}(h:¬ f j):Zk4 f (j+1)=Zk4 f j:=by rw[Zk4,if_neg h]
def Zqm(b:TBigraph)(j:Nat):Int:=((b.nodes[j]?).map TNode.parent).getD 0
theorem Zdv{b:TBigraph}{j:Nat}(h:j<b.nodes.length):Zqm b j=b.nodes[j].parent:=by simp [Zqm,h]
abbrev ZaT(b:TBigraph)(p:Int):Nat->List Int:=Zk4 fun j=>Zqm b j=p
abbrev Wx(b:TBigraph)(p:Int):Nat->List Int:=Zk4 fun j=>g0 b.sites j=p
def Zk5(b:TBigraph)(p:Int):List Int:=ZaT b p b.nodes.length
def ZbL(b:TBigraph)(p:Int):List Int:=Wx b p b.sites.length
theorem ZkB(b:TBigraph)(p:Int)(hl:b.nodes.length<=4294967296)(lvl:Nat)(S:Sto):Sem Proofs.Tryz.prog Wm lvl [.ag ((Za b).map .tr),iI p] S (.ow 1 (rI (Zk5 b p)) true) S:=by
 refine Zc Zgj trivial ?_
 simp only[Zbw,Za,List.length_map,EVA,seval,Zd,men]
 refine ZL (α:=Unit) b.nodes.length (fun j _=>[(5,.hd (lvl,224) [] 0 (ZaT b p j).length none (ZaT b p j).length),(6,iI j)]) (fun j _=>[(224,.ar 1 (rI (ZaT b p j)) true (ZaT b p j).length 0)]) (fun _ _=>True) () (by simp only[EVA,seval,Zd,men]) (by (simp only[EVA,seval,Zd,men]) <;> rfl) trivial ?_
 intro j _ hj _
 simp only[List.length_map,EVA,seval,Zd,men]
 refine Zo (fun hlt=>?_) (fun hge=>?_)
 ·have hja:j<b.nodes.length:=by omega
  have ga:=U7 (c:=ZF) hja
  have hle:(ZaT b p j).length<=j:=Zeq
  simp only[ga,ZF,List.length_map,EVA,seval,Zd,men]
  refine Zo (fun he=>?_) (fun hne=>?_)
  ·refine⟨by omega,by rw[Ze];omega,Zf () hja ?_ trivial⟩
   rw[ZaT,Zdu (by rw[Zdv hja];exact he),List.length_append,Xo]
   rfl
  ·refine⟨by rw[Ze];omega,Zf () hja ?_ trivial⟩
   rw[ZaT,ZgB (by rw[Zdv hja];exact hne)]
   rfl
 ·have:j=b.nodes.length:=by omega
  subst this
  rfl
theorem Zer(b:TBigraph)(p:Int)(hl:b.sites.length<=4294967296)(lvl:Nat)(S:Sto):Sem Proofs.Tryz.prog V1 lvl [.ag ((Za b).map .tr),iI p] S (.ow 1 (rI (ZbL b p)) true) S:=by
 refine Zc ZeT trivial ?_
 simp only[Zax,Za,List.length_map,EVA,seval,Zd,men]
 refine ZL (α:=Unit) b.sites.length (fun j _=>[(5,.hd (lvl,224) [] 0 (Wx b p j).length none (Wx b p j).length),(6,iI j)]) (fun j _=>[(224,.ar 1 (rI (Wx b p j)) true (Wx b p j).length 0)]) (fun _ _=>True) () (by simp only[EVA,seval,Zd,men]) (by (simp only[EVA,seval,Zd,men]) <;> rfl) trivial ?_
 intro j _ hj _
 simp only[List.length_map,EVA,seval,Zd,men]
 refine Zo (fun hlt=>?_) (fun hge=>?_)
 ·have hja:j<b.sites.length:=by omega
  have ga:=XN hja
  have hle:(Wx b p j).length<=j:=Zeq
  simp only[ga,List.length_map,EVA,seval,Zd,men]
  refine Zo (fun he=>?_) (fun hne=>?_)
  ·refine⟨by omega,by rw[Ze];omega,Zf () hja ?_ trivial⟩
   rw[Wx,Zdu (f:=fun j=>g0 b.sites j=p) he,List.length_append,Xo]
   rfl
  ·refine⟨by rw[Ze];omega,Zf () hja ?_ trivial⟩
   rw[Wx,ZgB (f:=fun j=>g0 b.sites j=p) hne]
   rfl
 ·have:j=b.sites.length:=by omega
  subst this
  rfl
theorem Ze6(b:TBigraph)(p:Int)(hn:b.nodes.length<=4294967296)(hl:b.sites.length<=4294967296)(lvl:Nat)(S:Sto):Sem Proofs.Tryz.prog J3 lvl [.ag ((Za b).map .tr),iI p] S (.tu [.ow 1 (rI (Zk5 b p)) true,.ow 1 (rI (ZbL b p)) true]) S:=by
 refine Zc W0 ⟨trivial,trivial,trivial⟩ ?_
 simp only[VT,Za,List.length_map,EVA,seval,Zd,men]
 refine ZL (α:=Unit) b.nodes.length (fun j _=>[(6,.hd (lvl,384) [] 0 (ZaT b p j).length none (ZaT b p j).length),(17,iI j)]) (fun j _=>[(384,.ar 1 (rI (ZaT b p j)) true (ZaT b p j).length 0)]) (fun _ _=>True) () (by simp only[EVA,seval,Zd,men]) (by (simp only[EVA,seval,Zd,men]) <;> rfl) trivial ?_
 intro j _ hj _
 simp only[List.length_map,EVA,seval,Zd,men]
 refine Zo (fun hlt=>?_) (fun hge=>?_)
 ·have hja:j<b.nodes.length:=by omega
  have ga:=U7 (c:=ZF) hja
  have hle:(ZaT b p j).length<=j:=Zeq
  simp only[ga,ZF,List.length_map,EVA,seval,Zd,men]
  refine Zo (fun he=>?_) (fun hne=>?_)
  ·refine⟨by omega,by rw[Ze];omega,Zf () hja ?_ trivial⟩
   rw[ZaT,Zdu (by rw[Zdv hja];exact he),List.length_append,Xo]
   rfl
  ·refine⟨by rw[Ze];omega,Zf () hja ?_ trivial⟩
   rw[ZaT,ZgB (by rw[Zdv hja];exact hne)]
   rfl
 have:j=b.nodes.length:=by omega
 subst this
 refine ZL (α:=Unit) b.sites.length (fun j _=>[(7,.hd (lvl,416) [] 0 (Wx b p j).length none (Wx b p j).length),(34,iI j)]) (fun j _=>[(416,.ar 1 (rI (Wx b p j)) true (Wx b p j).length 0)]) (fun _ _=>True) () (by simp only[EVA,seval,Zd,men]) (by (simp only[EVA,seval,Zd,men]) <;> rfl) trivial ?_
 intro j _ hj _
 simp only[List.length_map,EVA,seval,Zd,men]
 refine Zo (fun hlt=>?_) (fun hge=>?_)
 ·have hja:j<b.sites.length:=by omega
  have ga:=XN hja
  have hle:(Wx b p j).length<=j:=Zeq
  simp only[ga,List.length_map,EVA,seval,Zd,men]
  refine Zo (fun he=>?_) (fun hne=>?_)
  ·refine⟨by omega,by rw[Ze];omega,Zf () hja ?_ trivial⟩
   rw[Wx,Zdu (f:=fun j=>g0 b.sites j=p) he,List.length_append,Xo]
   rfl
  ·refine⟨by rw[Ze];omega,Zf () hja ?_ trivial⟩
   rw[Wx,ZgB (f:=fun j=>g0 b.sites j=p) hne]
   rfl
 ·have:j=b.sites.length:=by omega
  subst this
  rfl
def cP2(x:Int×Int):List Tr:=[tv x.1,tv x.2]
def Ze7(l:Int)(i:Nat)(ls:List Int):Nat->List (Int×Int)
 | 0=>[]
 | k+1=>if g0 ls k=l then Ze7 l i ls k++[((i:Int),(k:Int))] else Ze7 l i ls k
theorem ZgC{l:Int}{i:Nat}{ls:List Int}:∀{k:Nat},(Ze7 l i ls k).length<=k
 | 0=>Nat.le_refl 0
 | k+1=>by
  unfold Ze7
  have:=ZgC (l:=l) (i:=i) (ls:=ls) (k:=k)
  split
  ·rw[List.length_append,List.length_singleton];omega
  ·omega
theorem ZjY{l:Int}{i:Nat}{ls:List Int}{k:Nat}(h:g0 ls k=l):Ze7 l i ls (k+1)=Ze7 l i ls k++[((i:Int),(k:Int))]:=by rw[Ze7,if_pos h]
theorem Zmg{l:Int}{i:Nat}{ls:List Int}{k:Nat}(h:¬ g0 ls k=l):Ze7 l i ls (k+1)=Ze7 l i ls k:=by rw[Ze7,if_neg h]
def ZcA(b:TBigraph)(j:Nat):List Int:=((b.nodes[j]?).map TNode.links).getD []
theorem ZcB{b:TBigraph}{j:Nat}(h:j<b.nodes.length):ZcA b j=b.nodes[j].links:=by simp [ZcA,h]
def Y2(b:TBigraph)(l:Int):Nat->List (Int×Int)
 | 0=>[]
 | i+1=>Y2 b l i++Ze7 l i (ZcA b i) (ZcA b i).length
def ports(b:TBigraph)(l:Int):List (Int×Int):=Y2 b l b.nodes.length
theorem ZbM{b:TBigraph}{l:Int}(h:∀ x∈b.nodes,x.links.length<=1000):∀{j:Nat},j<=b.nodes.length->(Y2 b l j).length<=j*1000
 | 0,_=>Nat.zero_le _
 | j+1,hj=>by
  have ih:=ZbM h (l:=l) (j:=j) (by omega)
  have h1:=ZgC (l:=l) (i:=j) (ls:=ZcA b j) (k:=(ZcA b j).length)
  have h2:=h _ (List.getElem_mem (show j<b.nodes.length by omega))
  rw[Y2,List.length_append]
  rw[ZcB (by omega)] at h1 ⊢
  omega
def ZtB(b:TBigraph)(j:Nat):Int:=((b.inner[j]?).map TWire.link).getD 0
def Zuf(b:TBigraph)(j:Nat):ByteArray:=((b.inner[j]?).map TWire.name).getD ⟨#[]⟩
theorem ZgD{b:TBigraph}{j:Nat}(h:j<b.inner.length):ZtB b j=b.inner[j].link:=by simp [ZtB,h]
theorem Zmh{b:TBigraph}{j:Nat}(h:j<b.inner.length):Zuf b j=b.inner[j].name:=by simp [Zuf,h]
def UR(b:TBigraph)(l:Int):Nat->List ByteArray
 | 0=>[]
 | j+1=>if ZtB b j=l then UR b l j++[Zuf b j] else UR b l j
theorem Zdw{b:TBigraph}{l:Int}:∀{j:Nat},(UR b l j).length<=j
 | 0=>Nat.le_refl 0
 | j+1=>by
  unfold UR
  have:=Zdw (b:=b) (l:=l) (j:=j)
  split
  ·rw[List.length_append,List.length_singleton];omega
  ·omega
theorem ZhQ{b:TBigraph}{l:Int}{j:Nat}(h:ZtB b j=l):UR b l (j+1)=UR b l j++[Zuf b j]:=by rw[UR,if_pos h]
theorem ZjZ{b:TBigraph}{l:Int}{j:Nat}(h:¬ ZtB b j=l):UR b l (j+1)=UR b l j:=by rw[UR,if_neg h]
def ZqM(b:TBigraph)(l:Int):List ByteArray:=UR b l b.inner.length
theorem Zmi(a b:List (Int×Int)):(a++b).map cP2=a.map cP2++b.map cP2:=List.map_append
theorem ZiU(b:TBigraph)(l:Int)(hn:b.nodes.length<=1000)(hk:∀ x∈b.nodes,x.links.length<=1000)(lvl:Nat)(S:Sto):Sem Proofs.Tryz.prog XF lvl [.ag ((Za b).map .tr),iI l] S (.ow 2 ((ports b l).map cP2) true) S:=by
 refine Zc ZeV trivial ?_
 simp only[Zaz,Za,List.length_map,EVA,seval,Zd,men]
 refine ZL (α:=Unit) b.nodes.length (fun j _=>[(5,.hd (lvl,256) [] 0 (Y2 b l j).length none (Y2 b l j).length),(6,iI j)]) (fun j _=>[(256,.ar 2 ((Y2 b l j).map cP2) true (Y2 b l j).length 0)]) (fun _ _=>True) () (by simp only[EVA,seval,Zd,men]) (by (simp only[EVA,seval,Zd,men]) <;> rfl) trivial ?_
 intro j _ hj _
 simp only[List.length_map,EVA,seval,Zd,men]
 refine Zo (fun hlt=>?_) (fun hge=>?_)
 ·have hja:j<b.nodes.length:=by omega
  have ga:=U7 (c:=ZF) hja
  have hle:=ZbM hk (l:=l) hj
  have hlk:=hk _ (List.getElem_mem hja)
  refine ZL (α:=Unit) b.nodes[j].links.length (fun k _=>[(5,.hd (lvl,256) [] 0 (Y2 b l j++Ze7 l j b.nodes[j].links k).length none (Y2 b l j++Ze7 l j b.nodes[j].links k).length),(7,iI k)]) (fun k _=>[(256,.ar 2 ((Y2 b l j++Ze7 l j b.nodes[j].links k).map cP2) true (Y2 b l j++Ze7 l j b.nodes[j].links k).length 0)]) (fun _ _=>True) () (by simp only[EVA,seval,Zd,men]) (by (simp only[Ze7,List.append_nil,EVA,seval,Zd,men]) <;> rfl) trivial ?_
  intro k _ hkk _
  simp only[ga,ZF,List.length_map,EVA,seval,Zd,men]
  refine Zo (fun hlt2=>?_) (fun hge2=>?_)
  ·have hka:k<b.nodes[j].links.length:=by omega
   have gl:=XN hka
   have hr:=ZgC (l:=l) (i:=j) (ls:=b.nodes[j].links) (k:=k)
   simp only[ga,gl,ZF,List.length_map,EVA,seval,Zd,men]
   refine Zo (fun he=>?_) (fun hne=>?_)
   ·refine⟨by rw[List.length_append];omega,by rw[Ze];omega,Zf () hka ?_ trivial⟩
    rw[ZjY he,<-List.append_assoc,List.length_append (bs:=[_]),Zmi (Y2 b l j++_)]
    rfl
   ·refine⟨by rw[Ze];omega,Zf () hka ?_ trivial⟩
    rw[Zmg hne]
    rfl
  ·have:k=b.nodes[j].links.length:=by omega
   subst this
   refine⟨by rw[Ze];omega,Zf () hja ?_ trivial⟩
   rw[Y2,ZcB hja]
   rfl
 ·have:j=b.nodes.length:=by omega
  subst this
  rfl
theorem ZkC(b:TBigraph)(l:Int)(hn:b.inner.length<=4294967296)(lvl:Nat)(S:Sto):Sem Proofs.Tryz.prog Wp lvl [.ag ((Za b).map .tr),iI l] S (.ow 1 (rS (ZqM b l)) true) S:=by
 refine Zc Zgo trivial ?_
 simp only[ZbC,Za,List.length_map,EVA,seval,Zd,men]
 refine ZL (α:=Unit) b.inner.length (fun j _=>[(5,.hd (lvl,224) [] 0 (UR b l j).length none (UR b l j).length),(6,iI j)]) (fun j _=>[(224,.ar 1 (rS (UR b l j)) true (UR b l j).length 0)]) (fun _ _=>True) () (by simp only[EVA,seval,Zd,men]) (by (simp only[EVA,seval,Zd,men]) <;> rfl) trivial ?_
 intro j _ hj _
 simp only[List.length_map,EVA,seval,Zd,men]
 refine Zo (fun hlt=>?_) (fun hge=>?_)
 ·have hja:j<b.inner.length:=by omega
  have ga:=U7 (c:=ZC) hja
  have hle:=Zdw (b:=b) (l:=l) (j:=j)
  simp only[ga,ZC,List.length_map,EVA,seval,Zd,men]
  refine Zo (fun he=>?_) (fun hne=>?_)
  ·refine⟨by omega,by rw[Ze];omega,Zf () hja ?_ trivial⟩
   rw[ZhQ (by rw[ZgD hja];exact he),List.length_append,Zem,Zmh hja]
   rfl
  ·refine⟨by rw[Ze];omega,Zf () hja ?_ trivial⟩
   rw[ZjZ (by rw[ZgD hja];exact hne)]
   rfl
 ·have:j=b.inner.length:=by omega
  subst this
  rfl
theorem ZhR(b:TBigraph)(l:Int)(hn:b.nodes.length<=1000)(hk:∀ x∈b.nodes,x.links.length<=1000)(hi:b.inner.length<=4294967296)(lvl:Nat)(S:Sto):Sem Proofs.Tryz.prog Yi lvl [.ag ((Za b).map .tr),iI l] S (.tu [.ow 2 ((ports b l).map cP2) true,.ow 1 (rS (ZqM b l)) true]) S:=by
 refine Zc UP ⟨trivial,trivial,trivial⟩ ?_
 simp only[QP,Za,List.length_map,EVA,seval,Zd,men]
 refine ZL (α:=Unit) b.nodes.length (fun j _=>[(6,.hd (lvl,448) [] 0 (Y2 b l j).length none (Y2 b l j).length),(19,iI j)]) (fun j _=>[(448,.ar 2 ((Y2 b l j).map cP2) true (Y2 b l j).length 0)]) (fun _ _=>True) () (by simp only[EVA,seval,Zd,men]) (by (simp only[EVA,seval,Zd,men]) <;> rfl) trivial ?_
 intro j _ hj _
 simp only[List.length_map,EVA,seval,Zd,men]
 refine Zo (fun hlt=>?_) (fun hge=>?_)
 ·have hja:j<b.nodes.length:=by omega
  have ga:=U7 (c:=ZF) hja
  have hle:=ZbM hk (l:=l) hj
  have hlk:=hk _ (List.getElem_mem hja)
  simp only[ga,ZF,List.length_map,EVA,seval,Zd,men]
  refine ZL (α:=Unit) b.nodes[j].links.length (fun k _=>[(6,.hd (lvl,448) [] 0 (Y2 b l j++Ze7 l j b.nodes[j].links k).length none (Y2 b l j++Ze7 l j b.nodes[j].links k).length),(27,iI k)]) (fun k _=>[(448,.ar 2 ((Y2 b l j++Ze7 l j b.nodes[j].links k).map cP2) true (Y2 b l j++Ze7 l j b.nodes[j].links k).length 0)]) (fun _ _=>True) () (by simp only[EVA,seval,Zd,men]) (by (simp only[Ze7,List.append_nil,EVA,seval,Zd,men]) <;> rfl) trivial ?_
  intro k _ hkk _
  simp only[ga,ZF,List.length_map,EVA,seval,Zd,men]
  refine Zo (fun hlt2=>?_) (fun hge2=>?_)
  ·have hka:k<b.nodes[j].links.length:=by omega
   have gl:=XN hka
   have hr:=ZgC (l:=l) (i:=j) (ls:=b.nodes[j].links) (k:=k)
   simp only[ga,gl,ZF,List.length_map,EVA,seval,Zd,men]
   refine Zo (fun he=>?_) (fun hne=>?_)
   ·refine⟨by rw[List.length_append];omega,by rw[Ze];omega,Zf () hka ?_ trivial⟩
    rw[ZjY he,<-List.append_assoc,List.length_append (bs:=[_]),Zmi (Y2 b l j++_)]
    rfl
   ·refine⟨by rw[Ze];omega,Zf () hka ?_ trivial⟩
    rw[Zmg hne]
    rfl
  ·have:k=b.nodes[j].links.length:=by omega
   subst this
   refine⟨by rw[Ze];omega,Zf () hja ?_ trivial⟩
   rw[Y2,ZcB hja]
   rfl
 have:j=b.nodes.length:=by omega
 subst this
 refine ZL (α:=Unit) b.inner.length (fun j _=>[(7,.hd (lvl,480) [] 0 (UR b l j).length none (UR b l j).length),(46,iI j)]) (fun j _=>[(480,.ar 1 (rS (UR b l j)) true (UR b l j).length 0)]) (fun _ _=>True) () (by simp only[EVA,seval,Zd,men]) (by (simp only[EVA,seval,Zd,men]) <;> rfl) trivial ?_
 intro j _ hj _
 simp only[List.length_map,EVA,seval,Zd,men]
 refine Zo (fun hlt=>?_) (fun hge=>?_)
 ·have hja:j<b.inner.length:=by omega
  have ga:=U7 (c:=ZC) hja
  have hle:=Zdw (b:=b) (l:=l) (j:=j)
  simp only[ga,ZC,List.length_map,EVA,seval,Zd,men]
  refine Zo (fun he=>?_) (fun hne=>?_)
  ·refine⟨by omega,by rw[Ze];omega,Zf () hja ?_ trivial⟩
   rw[ZhQ (by rw[ZgD hja];exact he),List.length_append,Zem,Zmh hja]
   rfl
  ·refine⟨by rw[Ze];omega,Zf () hja ?_ trivial⟩
   rw[ZjZ (by rw[ZgD hja];exact hne)]
   rfl
 ·have:j=b.inner.length:=by omega
  subst this
  rfl
end Go.Fd

/-
  REDEXES, BOTH SIDES. Own work.
-/
namespace Go.Fd
set_option maxRecDepth 20000
def idle(b:TBigraph)(l:Int):Prop:=(ports b l).length=0/\(ZqM b l).length=0
structure small (b:TBigraph):Prop where
 nodes:b.nodes.length<=8
 links:∀ x∈b.nodes,x.links.length<=1000
 sites:b.sites.length<=4
 outer:b.outer.length<=16
 inner:b.inner.length<=16
 roots:0<=b.roots/\b.roots<=4
 edges:0<=b.edges/\b.edges<=8
theorem ZkD{sig:List TControl}(h:Zc3 sig)(c:Int):ZaS sig c<=3:=by
 unfold ZaS
 cases e:sig[c.toNat]? with
 | none=>decide
 | some x =>
  obtain⟨hl,rfl⟩:=List.getElem?_eq_some_iff.1 e
  exact((h.1 _ hl).1).2.1.2
theorem bigOK.small{sig:List TControl}{b:TBigraph}(h:bigOK sig b):small b :=
 ⟨h.nodesL,fun x hx=>by
  obtain⟨k,hk,rfl⟩:=List.getElem_of_mem hx
  have h1:=(h.nodes k hk).ports
  have h2:=ZkD h.sg b.nodes[k].control
  omega,h.sitesL,h.outer.2,by have:=h.inn.2;rw[Yr] at this;exact this,h.roots,h.edges⟩
theorem ZkE(b:TBigraph)(l:Int)(hs:small b)(lvl:Nat)(S:Sto):Sem Proofs.Tryz.prog Wn lvl [.ag ((Za b).map .tr),iI l] S (iB (dc (idle b l))) S:=by
 have s1:=hs.nodes
 have s2:=hs.inner
 refine Zc Zgk trivial ?_
 simp only[Zbx,Za,List.length_map,EVA,seval,Zd,men]
 refine Zb (ZiU b l (by omega) hs.links) ?_
 by_cases h1:(ports b l).length=0
 ·have h1':((ports b l).length:Int)=0:=by omega
  simp only[h1,h1',Za,List.length_map,EVA,seval,Zd,men]
  refine Zb (ZkC b l (by omega)) ?_
  simp only[List.length_map,EVA,seval,Zd,men]
  have hiff:idle b l↔((ZqM b l).length:Int)=0:=⟨fun h=>by have:=h.2;omega,fun h=>⟨h1,by omega⟩⟩
  rw[Y1 hiff,YN]
 ·have h1':¬ ((ports b l).length:Int)=0:=by omega
  simp only[h1',Za,List.length_map,EVA,seval,Zd,men]
  rw[Zh fun h:idle b l=>h1 h.1]
theorem ZkF(b:TBigraph)(l:Int)(hs:small b)(lvl:Nat)(S:Sto):Sem Proofs.Tryz.prog Yz lvl [.ag ((Za b).map .tr),iI l] S (iB (dc (idle b l))) S:=by
 have s1:=hs.nodes
 have s2:=hs.inner
 have e1:(ports b l).length<=b.nodes.length*1000:=ZbM hs.links (Nat.le_refl _)
 have e2:(ZqM b l).length<=b.inner.length:=Zdw
 refine Zc DE trivial ?_
 simp only[Xm,Za,List.length_map,EVA,seval,Zd,men]
 refine Zb (ZhR b l (by omega) hs.links (by omega)) ?_
 simp only[List.length_map,EVA,seval,Zd,men]
 refine⟨by rw[Ze];omega,?_⟩
 have hiff:idle b l↔((ports b l).length:Int)+(ZqM b l).length=0:=⟨fun h=>by have:=h.1;have:=h.2;omega,fun h=>⟨by omega,by omega⟩⟩
 rw[Y1 hiff,YN]
structure solid (b:TBigraph):Prop where
 inner:b.inner.length=0
 roots:¬ b.roots=0
 root:∀ r:Nat,(r:Int)<b.roots -> ¬ (Zk5 b (-1-r)).length=0/\(ZbL b (-1-r)).length=0
 node:∀ i:Nat,i<b.nodes.length->(ZbL b i).length<=1
 link:∀ l:Nat,(l:Int)<b.edges+b.outer.length -> ¬ idle b l
theorem ZiV(b:TBigraph)(hs:small b)(lvl:Nat)(S:Sto):Sem Proofs.Tryz.prog XD lvl [.ag ((Za b).map .tr)] S (iB (dc (solid b))) S:=by
 have s1:=hs.nodes
 have s2:=hs.inner
 have s3:=hs.sites
 have s4:=hs.outer
 obtain⟨r1,r2⟩:=hs.roots
 obtain⟨e1,e2⟩:=hs.edges
 refine Zc ZeP trivial ?_
 simp only[Zat,Za,List.length_map,EVA,seval,Zd,men]
 by_cases h1:(0:Int)<b.inner.length
 ·simp only[h1,List.length_map,EVA,seval,Zd,men]
  rw[Zh fun h:solid b=>by have:=h.inner;omega]
 by_cases h2:b.roots=0
 ·simp only[h1,h2,List.length_map,EVA,seval,Zd,men]
  rw[Zh fun h:solid b=>h.roots h2]
 simp only[h1,h2,List.length_map,EVA,seval,Zd,men]
 refine ZL (α:=Unit) b.roots.toNat (fun j _=>[(3,iI j)]) (fun j _=>[]) (fun j _=>∀ r,r<j -> ¬ (Zk5 b (-1-(r:Nat))).length=0/\(ZbL b (-1-(r:Nat))).length=0) () (by simp only[EVA,seval,Zd,men]) (by (simp only[EVA,seval,Zd,men]) <;> rfl) (fun k hk=>absurd hk (Nat.not_lt_zero k)) ?_
 intro j _ hj hA
 simp only[List.length_map,EVA,seval,Zd,men]
 refine Zo (fun hlt=>?_) (fun hge=>?_)
 ·have hja:j<b.roots.toNat:=by omega
  refine⟨by rw[Ze];omega,?_⟩
  refine Zb (ZkB b (-1-(j:Nat)) (by omega)) ?_
  by_cases p1:(Zk5 b (-1-(j:Nat))).length=0
  ·have p1':((Zk5 b (-1-(j:Nat))).length:Int)=0:=by omega
   simp only[p1,p1',List.length_map,EVA,seval,Zd,men]
   rw[Zh fun h:solid b=>(h.root j (by omega)).1 p1]
  have p1':¬ ((Zk5 b (-1-(j:Nat))).length:Int)=0:=by omega
  simp only[p1',List.length_map,EVA,seval,Zd,men]
  refine⟨by rw[Ze];omega,?_⟩
  refine Zb (Zer b (-1-(j:Nat)) (by omega)) ?_
  simp only[List.length_map,EVA,seval,Zd,men]
  refine Zo (fun p2=>?_) (fun p2=>?_)
  ·rw[Zh fun h:solid b=>by have:=(h.root j (by omega)).2;omega]
  ·exact⟨by rw[Ze];omega,Zf () hja rfl (ZiN hA ⟨p1,by omega⟩)⟩
 have hj1:j=b.roots.toNat:=by omega
 subst hj1
 refine ZL (α:=Unit) b.nodes.length (fun j _=>[(4,iI j)]) (fun j _=>[]) (fun j _=>∀ i,i<j->(ZbL b (i:Nat)).length<=1) () (by simp only[EVA,seval,Zd,men]) (by (simp only[EVA,seval,Zd,men]) <;> rfl) (fun k hk=>absurd hk (Nat.not_lt_zero k)) ?_
 intro j _ hj hB
 simp only[List.length_map,EVA,seval,Zd,men]
 refine Zo (fun hlt=>?_) (fun hge=>?_)
 ·have hja:j<b.nodes.length:=by omega
  refine Zb (Zer b (j:Nat) (by omega)) ?_
  simp only[List.length_map,EVA,seval,Zd,men]
  refine Zo (fun p2=>?_) (fun p2=>?_)
  ·rw[Zh fun h:solid b=>by have:=h.node j hja;omega]
  ·exact⟨by rw[Ze];omega,Zf () hja rfl (ZiN hB (by omega))⟩
 have hj1:j=b.nodes.length:=by omega
 subst hj1
 refine ZL (α:=Unit) (b.edges+b.outer.length).toNat (fun j _=>[(5,iI j)]) (fun j _=>[]) (fun j _=>∀ i,i<j -> ¬ idle b (i:Nat)) () (by simp only[EVA,seval,Zd,men]) (by (simp only[EVA,seval,Zd,men]) <;> rfl) (fun k hk=>absurd hk (Nat.not_lt_zero k)) ?_
 intro j _ hj hC
 simp only[List.length_map,EVA,seval,Zd,men]
 refine⟨by rw[Ze];omega,?_⟩
 refine Zo (fun hlt=>?_) (fun hge=>?_)
 ·have hja:j<(b.edges+b.outer.length).toNat:=by omega
  refine Zb (ZkE b (j:Nat) hs) ?_
  cases hc:dc (idle b (j:Nat))
  ·simp only[EVA,seval,Zd,men]
   exact⟨by rw[Ze];omega,Zf () hja rfl (ZiN hC (dc_not.1 hc))⟩
  ·simp only[EVA,seval,Zd,men]
   rw[Zh fun h:solid b=>h.link j (by omega) (dc_iff.1 hc)]
 have hj1:j=(b.edges+b.outer.length).toNat:=by omega
 subst hj1
 have:solid b:=⟨by omega,h2,fun r hr=>hA r (by omega),hB,fun l hl=>hC l (by omega)⟩
 rw[ZK this]
theorem Zc4(b:TBigraph)(hs:small b)(lvl:Nat)(S:Sto):Sem Proofs.Tryz.prog XA lvl [.ag ((Za b).map .tr)] S (iB (dc (solid b))) S:=by
 have s1:=hs.nodes
 have s2:=hs.inner
 have s3:=hs.sites
 have s4:=hs.outer
 obtain⟨r1,r2⟩:=hs.roots
 obtain⟨e1,e2⟩:=hs.edges
 refine Zc ZeO trivial ?_
 simp only[Zas,Za,List.length_map,EVA,seval,Zd,men]
 by_cases h1:(0:Int)<b.inner.length
 ·simp only[h1,List.length_map,EVA,seval,Zd,men]
  rw[Zh fun h:solid b=>by have:=h.inner;omega]
 by_cases h2:b.roots=0
 ·simp only[h1,h2,List.length_map,EVA,seval,Zd,men]
  rw[Zh fun h:solid b=>h.roots h2]
 simp only[h1,h2,List.length_map,EVA,seval,Zd,men]
 refine⟨by rw[Ze];omega,?_⟩
 refine ZL (α:=Unit) (b.roots+b.nodes.length).toNat (fun j _=>[(3,iI (-b.roots+j))]) (fun j _=>[]) (fun j _=>∀ r,r<j->((-b.roots+(r:Nat)<0 -> ¬ (Zk5 b (-b.roots+(r:Nat))).length=0/\(ZbL b (-b.roots+(r:Nat))).length=0)/\(ZbL b (-b.roots+(r:Nat))).length<=1)) () (by simp only[EVA,seval,Zd,men]) (by (simp only[Int.natCast_zero,Int.cast_ofNat_Int,Int.add_zero,EVA,seval,Zd,men]) <;> rfl) (fun k hk=>absurd hk (Nat.not_lt_zero k)) ?_
 intro j _ hj hA
 simp only[List.length_map,EVA,seval,Zd,men]
 refine Zo (fun hlt=>?_) (fun hge=>?_)
 ·have hja:j<(b.roots+b.nodes.length).toNat:=by omega
  refine Zb (Ze6 b (-b.roots+(j:Nat)) (by omega) (by omega)) ?_
  have hno:(solid b->False)->dc (solid b)=false:=fun h=>Zh h
  have hroot:solid b -> -b.roots+(j:Int)<0 -> ¬ (Zk5 b (-b.roots+(j:Nat))).length=0/\(ZbL b (-b.roots+(j:Nat))).length=0:=fun h hn=>by
   have:=h.root (b.roots-1-j).toNat (by omega)
   have e:(-1-((b.roots-1-j).toNat:Int)) = -b.roots+j:=by omega
   rw[e] at this
   exact this
  have hnode:solid b -> ¬ -b.roots+(j:Int)<0->(ZbL b (-b.roots+(j:Nat))).length<=1:=fun h hn=>by
   have:=h.node (-b.roots+j).toNat (by omega)
   have e:(((-b.roots+j).toNat:Nat):Int) = -b.roots+j:=by omega
   rw[e] at this
   exact this
  have hnext:(-b.roots+(j:Int))+1 = -b.roots+((j+1:Nat):Int):=by omega
  by_cases q:-b.roots+(j:Int)<0
  ·by_cases k0:(Zk5 b (-b.roots+(j:Nat))).length=0
   ·have k0':((Zk5 b (-b.roots+(j:Nat))).length:Int)=0:=by omega
    simp only[q,k0,k0',List.length_map,EVA,seval,Zd,men]
    rw[hno fun h=>(hroot h q).1 k0]
   have k0':¬ ((Zk5 b (-b.roots+(j:Nat))).length:Int)=0:=by omega
   by_cases k1:(ZbL b (-b.roots+(j:Nat))).length=0
   ·have k1a:¬ (0:Int)<((ZbL b (-b.roots+(j:Nat))).length:Int):=by omega
    have k1b:¬ (1:Int)<((ZbL b (-b.roots+(j:Nat))).length:Int):=by omega
    simp only[q,k0',k1a,k1b,List.length_map,EVA,seval,Zd,men]
    refine⟨by rw[Ze];omega,?_⟩
    rw[hnext]
    exact Zf () hja rfl (ZiN hA ⟨fun _=>⟨k0,k1⟩,by omega⟩)
   ·have k1a:(0:Int)<((ZbL b (-b.roots+(j:Nat))).length:Int):=by omega
    simp only[q,k0',k1a,List.length_map,EVA,seval,Zd,men]
    rw[hno fun h=>k1 (hroot h q).2]
  ·simp only[q,List.length_map,EVA,seval,Zd,men]
   refine Zo (fun k2=>?_) (fun k2=>?_)
   ·rw[hno fun h=>by have:=hnode h q;omega]
   ·refine⟨by rw[Ze];omega,?_⟩
    rw[hnext]
    exact Zf () hja rfl (ZiN hA ⟨fun h=>absurd h q,by omega⟩)
 have hj1:j=(b.roots+b.nodes.length).toNat:=by omega
 subst hj1
 refine⟨by rw[Ze];omega,?_⟩
 refine ZL (α:=Unit) (b.edges+b.outer.length).toNat (fun j _=>[(55,iI j)]) (fun j _=>[]) (fun j _=>∀ i,i<j -> ¬ idle b (i:Nat)) () (by simp only[EVA,seval,Zd,men]) (by (simp only[EVA,seval,Zd,men]) <;> rfl) (fun k hk=>absurd hk (Nat.not_lt_zero k)) ?_
 intro j _ hj hC
 simp only[List.length_map,EVA,seval,Zd,men]
 refine Zo (fun hlt=>?_) (fun hge=>?_)
 ·have hja:j<(b.edges+b.outer.length).toNat:=by omega
  refine Zb (ZkF b (j:Nat) hs) ?_
  cases hc:dc (idle b (j:Nat))
  ·simp only[EVA,seval,Zd,men]
   exact⟨by rw[Ze];omega,Zf () hja rfl (ZiN hC (dc_not.1 hc))⟩
  ·simp only[EVA,seval,Zd,men]
   rw[Zh fun h:solid b=>h.link j (by omega) (dc_iff.1 hc)]
 have hj1:j=(b.edges+b.outer.length).toNat:=by omega
 subst hj1
 have:solid b:=⟨by omega,h2,fun r hr=>by
  have:=(hA (b.roots-1-r).toNat (by omega)).1
  have e:-b.roots+((b.roots-1-r).toNat:Int) = -1-r:=by omega
  rw[e] at this
  exact this (by omega),fun i hi=>by
  have:=(hA (b.roots+i).toNat (by omega)).2
  have e:-b.roots+((b.roots+i).toNat:Int)=i:=by omega
  rw[e] at this
  exact this,fun l hl=>hC l (by omega)⟩
 rw[ZK this]
end Go.Fd

/-
  SORTINGS, BOTH SIDES: VALID, FREE, FINER. Own work.
-/
namespace Go.Fd
set_option maxRecDepth 20000
def Zmj(n:Nat):List Int:=(List.range n).map fun i:Nat=>(i:Int)
theorem ZgE{n:Nat}:(Zmj n).length=n:=by simp [Zmj]
theorem Qa{es:Row}{n:Nat}(h:es.length=n):cut es 0 n=es:=by
 simp only[cut,List.drop_zero]
 exact List.take_of_length_le (by omega)
end Go.Fd

/-
  LINKS THAT ARE TURNED: WHAT COMPOSITION COMPUTES, IN PLAIN TERMS. Own work.
-/
namespace Go.Fd
set_option maxRecDepth 20000
def Zdx(b:TBigraph)(l:Int):Int×ByteArray:=if l<b.edges then (l,e0S) else (0,gS b.outer (l-b.edges).toNat)
def ixS(l:List ByteArray)(s:ByteArray):Int:=ixF (fun x=>decide (s=x)) l 0
def ZeH(b:TBigraph)(e:Int)(o:List ByteArray)(T:Int×ByteArray->Int×ByteArray)(l:Int):Int:=if (T (Zdx b l)).2=e0S then (T (Zdx b l)).1 else e+ixS o (T (Zdx b l)).2
def Zmk(b:TBigraph)(F:Int->Int)(e:Int)(o:List ByteArray):TBigraph:=⟨b.roots,b.nodes.map fun x=>⟨x.control,x.parent,x.links.map F⟩,b.sites,e,o,b.inner.map fun w=>⟨w.name,F w.link⟩⟩
theorem ZgF{α:Type}{f:α->Bool}:∀{l:List α} {j:Int},(ixF f l j = -1/\∀ x∈l,f x=false)\/∃ i,∃ h:i<l.length,ixF f l j=j+i/\(∀ x∈l.take i,f x=false)/\f l[i]=true
 | [],j=>.inl ⟨rfl,fun _ h=>by cases h⟩
 | x::r,j=>by
  rw[XU]
  cases hx:f x with
  | true=>exact .inr ⟨0,by simp,by simp,by simp,hx⟩
  | false =>
   rcases ZgF (f:=f) (l:=r) (j:=j+1) with ⟨h1,h2⟩ | ⟨i,h,h1,h2,h3⟩
   ·exact .inl ⟨by simp [h1],fun y hy=>by
     rcases List.mem_cons.1 hy with rfl | hy
     ·exact hx
     ·exact h2 y hy⟩
   ·refine .inr ⟨i+1,by simpa using h,by simp only[Bool.false_eq_true,if_false,h1];omega,fun y hy=>?_,by simpa using h3⟩
    rw[List.take_succ_cons] at hy
    rcases List.mem_cons.1 hy with rfl | hy
    ·exact hx
    ·exact h2 y hy
theorem Zfw{α:Type}{f:α->Bool}{l:List α}(h:∀ x∈l,f x=false):(l.filter fun n=>!f n)=l:=List.filter_eq_self.2 fun x hx=>by simp [h x hx]
theorem Zes{α:Type}{f:α->Bool}{l:List α}{j:Nat}(h:j<l.length):((l.take (j+1)).filter fun n=>!f n)=((l.take j).filter fun n=>!f n)++if f l[j]=true then [] else [l[j]]:=by
 rw[List.take_succ_eq_append_getElem h,List.filter_append]
 cases hx:f l[j] <;> simp [hx]
theorem ZoH{α:Type}{f:α->Bool}:∀{l:List α} {i:Nat} {j:Int} (h:i<l.length),f l[i]=true->(∀ k (hk:k<i),f (l[k]'(by omega))=false)->ixF f l j=j+i
 | [],_,_,h,_,_=>by simp at h
 | x::r,0,j,_,h1,_=>by
  have:f x=true:=h1
  rw[XU,if_pos this];omega
 | x::r,i+1,j,h,h1,h2=>by
  have:f x=false:=h2 0 (by omega)
  rw[XU,this,if_neg (by decide)]
  rw[ZoH (i:=i) (by simpa using h) (by simpa using h1) fun k hk=>by
   have:=h2 (k+1) (by omega)
   simpa using this]
  omega
theorem Zj0{α:Type}{f:α->Bool}:∀{l:List α} {j:Int},(∀ x∈l,f x=false)->ixF f l j = -1
 | [],_,_=>rfl
 | x::r,j,h=>by
  rw[XU,h x (by simp),if_neg (by decide)]
  exact Zj0 fun y hy=>h y (by simp [hy])
theorem Zx4{l:List ByteArray}(h:l.Pairwise ltS){i j:Nat}(hi:i<l.length)(hj:j<l.length)(e:l[i]=l[j]):i=j:=by
 rcases Nat.lt_trichotomy i j with g | g | g
 ·have:=List.pairwise_iff_getElem.1 h i j hi hj g
  rw[e] at this
  exact absurd this (ordsS.irr _)
 ·exact g
 ·have:=List.pairwise_iff_getElem.1 h j i hj hi g
  rw[e] at this
  exact absurd this (ordsS.irr _)
theorem ZoI{l:List ByteArray}(h:l.Pairwise ltS){i:Nat}(hi:i<l.length):ixS l l[i]=i:=by
 unfold ixS
 rw[ZoH hi (by simp) fun k hk=>by
  simp only[decide_eq_false_iff_not]
  intro e
  have:=Zx4 h hi (by omega) e
  omega]
 omega
theorem Zml{l:List ByteArray}{s:ByteArray}(h:s ∉ l):ixS l s = -1:=Zj0 fun x hx=>by
 simp only[decide_eq_false_iff_not]
 intro e
 exact h (e ▸ hx)
theorem ixS_nn{l:List ByteArray}{s:ByteArray}:0<=ixS l s↔s∈l:=by
 unfold ixS
 rw[Zgs (Int.le_refl 0)]
 simp
theorem ZtC{l:List ByteArray}{s:ByteArray}(h:s∈l):ixS l s<l.length:=by
 rcases ZgF (f:=fun x=>decide (s=x)) (l:=l) (j:=0) with ⟨_,h2⟩ | ⟨i,hi,h1,_⟩
 ·have:=h2 s h
  simp at this
 ·unfold ixS
  rw[h1];omega
theorem Zdy{l:List ByteArray}(h:V9 l):l.Pairwise ltS:=by
 have key:∀ d i (hi:i+d+1<l.length),ltS (l[i]'(by omega)) (l[i+d+1]'hi):=fun d=>by
  induction d with
  | zero =>
   intro i hi
   exact(h.1 (i+0+1) hi).2 (by omega)
  | succ d ih =>
   intro i hi
   have h1:=ih i (by omega)
   have h2:=(h.1 (i+(d+1)+1) hi).2 (by omega)
   exact ordsS.tr _ _ _ h1 h2
 refine List.pairwise_iff_getElem.2 fun i j hi hj hij=>?_
 have:=key (j-i-1) i (by omega)
 simp only[show i+(j-i-1)+1=j from by omega] at this
 exact this
theorem ZgG{l:List ByteArray}(h:V9 l){s:ByteArray}(hs:s∈l):s≠e0S:=by
 obtain⟨i,hi,rfl⟩:=List.getElem_of_mem hs
 intro e
 have:=(h.1 i hi).1.2.1
 rw[e] at this
 exact absurd this (by decide)
theorem ZhS{b:TBigraph}{l:Int}(h:l<b.edges):Zdx b l=(l,e0S):=if_pos h
theorem ZhT{b:TBigraph}{i:Nat}(h:i<b.outer.length):Zdx b (b.edges+i)=(0,b.outer[i]):=by
 unfold Zdx
 rw[if_neg (by omega),show (b.edges+(i:Int)-b.edges).toNat=i from by omega]
 rw[show gS b.outer i=b.outer[i] from Ww h]
theorem Xa{b:TBigraph}{l:Int}(h:Jk b l):(0<=l/\l<b.edges)\/∃ i:Nat,∃ _:i<b.outer.length,l=b.edges+i:=by
 unfold Jk at h
 by_cases hl:l<b.edges
 ·exact .inl ⟨h.1,hl⟩
 ·exact .inr ⟨(l-b.edges).toNat,by omega,by omega⟩
def Zk6(b:TBigraph)(f:Int->Int)(g:ByteArray->Int):List Int:=(Zmj b.edges.toNat).map f++b.outer.map g
theorem Zj1{b:TBigraph}{f:Int->Int}{g:ByteArray->Int}{l:Int}(h0:0<=l)(h:l<b.edges):g0 (Zk6 b f g) l.toNat=f l:=by
 have hl:l.toNat<(Zmj b.edges.toNat).length:=by rw[ZgE];omega
 have hx:l.toNat<((Zmj b.edges.toNat).map f).length:=by rw[List.length_map];exact hl
 show (Zk6 b f g).getD l.toNat 0=_
 unfold Zk6
 rw[List.getD_eq_getElem?_getD,List.getElem?_append_left hx,List.getElem?_map]
 simp [Zmj,List.getElem?_map,List.getElem?_range (show l.toNat<b.edges.toNat by omega)]
 congr 1
 omega
theorem Zj2{b:TBigraph}{f:Int->Int}{g:ByteArray->Int}(hb:0<=b.edges){i:Nat}(h:i<b.outer.length):g0 (Zk6 b f g) (b.edges+i).toNat=g b.outer[i]:=by
 have hl:((Zmj b.edges.toNat).map f).length=b.edges.toNat:=by rw[List.length_map,ZgE]
 show (Zk6 b f g).getD _ 0=_
 unfold Zk6
 rw[List.getD_eq_getElem?_getD,List.getElem?_append_right (by rw[hl];omega),hl,List.getElem?_map,show (b.edges+(i:Int)).toNat-b.edges.toNat=i from by omega,List.getElem?_eq_getElem h]
 rfl
noncomputable def Q0(l:List ByteArray):List ByteArray:=ZqL e0S ltS l
end Go.Fd

/-
  LINKS THAT ARE TURNED, THE PROGRAM'S SIDE. Own work.
-/
namespace Go.Fd
set_option maxRecDepth 20000
theorem ZoJ{l:List ByteArray}:ScR (rS l)=True:=eq_true fun e he t ht=>by
 obtain⟨n,_,rfl⟩:=List.mem_map.1 he
 simp only[List.mem_cons,List.not_mem_nil,or_false] at ht
 subst ht
 rfl
theorem ZoK{l:List ByteArray}:UnR 1 (rS l)=True:=eq_true (Zco (fun n:ByteArray=>[ts n]) (fun _=>rfl) l)
theorem ZiW{l:List Int}:ScR (rI l)=True:=eq_true fun e he t ht=>by
 obtain⟨n,_,rfl⟩:=List.mem_map.1 he
 simp only[List.mem_cons,List.not_mem_nil,or_false] at ht
 subst ht
 rfl
theorem ZiX{l:List Int}:UnR 1 (rI l)=True:=eq_true (Zco (fun n:Int=>[tv n]) (fun _=>rfl) l)
theorem ZtD{l:List TWire}:ScR (l.map ZC)=True:=eq_true fun e he t ht=>by
 obtain⟨n,_,rfl⟩:=List.mem_map.1 he
 simp only[ZC,List.mem_cons,List.not_mem_nil,or_false] at ht
 rcases ht with rfl | rfl <;> rfl
theorem ZtE{l:List TWire}:UnR 2 (l.map ZC)=True:=eq_true (Zco ZC (fun _=>rfl) l)
theorem ZaU(l:List Int)(hl:l.length<=4294967296)(lvl:Nat)(S:Sto):Sem Proofs.Tryz.prog Jo lvl [tI l] S (.ow 1 (rI l) true) S:=by
 refine Zc Dk trivial ?_
 simp only[QZ,List.length_map,ZiW,ZiX,EVA,seval,Zd,men]
 exact⟨hl,fun h=>by rw[h]⟩
theorem ZcC(l:List ByteArray)(hl:l.length<=4294967296)(lvl:Nat)(S:Sto):Sem Proofs.Tryz.prog ZV lvl [.tr (.sl (rS l))] S (.ow 1 (rS l) true) S:=by
 refine Zc XT trivial ?_
 simp only[Y0,List.length_map,ZoJ,ZoK,EVA,seval,Zd,men]
 exact⟨hl,fun h=>by rw[h]⟩
theorem ZkG(l:List TWire)(hl:l.length<=4294967296)(lvl:Nat)(S:Sto):Sem Proofs.Tryz.prog Jj lvl [.tr (.sl (l.map ZC))] S (.ow 2 (l.map ZC) true) S:=by
 refine Zc Qj trivial ?_
 simp only[J7,List.length_map,ZtD,ZtE,EVA,seval,Zd,men]
 exact⟨hl,fun h=>by rw[h]⟩
theorem Zet(l:List ByteArray)(hl:l.length<=4294967290)(lvl:Nat)(S:Sto):Sem Proofs.Tryz.prog VF lvl [.tr (.sl (rS l))] S (.ow 1 (rS (Q0 l)) true) S:=by
 refine Zc ZbG trivial ?_
 simp only[WP,EVA,seval,Zd,men]
 refine Zb (ZcC l (by omega)) ?_
 simp only[EVA,seval,Zd,men]
 have hp:(Zk3 ltS l).length=l.length:=srtG_perm.length_eq
 have s1:=fun S' hS=>ZgA l (by omega) (lvl+1) S' (lvl,160) true l.length 0 (Nat.lt_succ_self _) hS
 refine ZiO 160 _ (s1 _ ?_) ?_
 ·rw[Yc];rfl
 simp only[EVA,seval,Zd,men]
 have s2:=fun S' hS=>ZhN (Zk3 ltS l) (by omega) (lvl+1) S' (lvl,160) true l.length 0 (Nat.lt_succ_self _) hS
 rw[show Zcd (IV.hd (lvl,160) [] 0 l.length none l.length)=IV.hd (lvl,160) [] 0 (Zk3 ltS l).length none l.length from by rw[hp];rfl]
 refine ZjV 160 _ (s2 _ ?_) fun v=>?_
 ·rw[Yc];rfl
 simp only[List.length_map,EVA,seval,Zd,men]
 rfl
abbrev oE(e:Int×ByteArray):IV:=.ag [iI e.1,iS e.2]
theorem ZhU(b:TBigraph)(l:Int)(he:0<=b.edges)(hl:Jk b l)(ho:b.outer.length<=4294967296)(hb:b.edges<=4294967296)(lvl:Nat)(S:Sto):Sem Proofs.Tryz.prog J5 lvl [.ag ((Za b).map .tr),iI l] S (oE (Zdx b l)) S:=by
 refine Zc Zal (by simp [low,men,Zd]) ?_
 simp only[XM,Za,EVA,seval,Zd,men]
 rcases Xa hl with ⟨h0,h1⟩ | ⟨i,hi,rfl⟩
 ·rw[ZhS h1]
  simp only[h1,EVA,seval,Zd,men]
  try rfl
 ·rw[ZhT hi]
  have h1:¬ b.edges+(i:Int)<b.edges:=by omega
  have ga:=Zdt (e0:=e0S) (c:=fun n:ByteArray=>[ts n]) hi
  have e1:b.edges+(i:Int)-b.edges=i:=by omega
  rw[Ww hi] at ga
  simp only[h1,e1,ga,EVA,seval,Zd,men]
  rw[Ze];omega
theorem ZaK(b:TBigraph)(hb:Zl 4294967290 b)(lvl:Nat)(S:Sto):Sem Proofs.Tryz.prog YB lvl [.ag ((Za b).map .tr)] S (Zg b) S:=by
 obtain⟨b1,b2,b3,b4,b5,b6,b7⟩:=hb
 refine Zc Zct (by simp [Zg,low,men,Zd]) ?_
 simp only[Uk,Za,EVA,seval,Zd,men]
 refine Zb (ZaU b.sites (by omega)) ?_
 simp only[List.length_map,EVA,seval,Zd,men]
 refine Zb (ZcC b.outer (by omega)) ?_
 simp only[List.length_map,EVA,seval,Zd,men]
 refine Zb (ZkG b.inner (by omega)) ?_
 simp only[List.length_map,EVA,seval,Zd,men]
 refine ZL (α:=Unit) b.nodes.length (fun j _=>[(23,iI j)]) (fun j _=>[(96,.bx [iI b.roots,.hd (lvl,608) [] 0 j none j,.hd (lvl,320) [] 0 b.sites.length none b.sites.length,iI b.edges,.hd (lvl,480) [] 0 b.outer.length none b.outer.length,.hd (lvl,576) [] 0 b.inner.length none b.inner.length]),(608,.ar 3 ((b.nodes.take j).map ZF) true j 0)]) (fun _ _=>True) () (by simp only[EVA,seval,Zd,men]) (by (simp only[EVA,seval,Zd,men]) <;> rfl) trivial ?_
 intro j _ hj _
 simp only[List.length_map,EVA,seval,Zd,men]
 refine Zo (fun hlt=>?_) (fun hge=>?_)
 ·have hja:j<b.nodes.length:=by omega
  have ga:=U7 (c:=ZF) hja
  have k2:b.nodes[j].links.length<=4294967290:=b2 _ (List.getElem_mem hja)
  have hl1:((b.nodes.take j).map ZF).length=j:=by rw[List.length_map,List.length_take];omega
  have st1:(b.nodes.take j).map ZF++[[Tr.v (Value.int .i64 b.nodes[j].control),Tr.v (Value.int .i64 b.nodes[j].parent),Tr.sl (rI b.nodes[j].links)]]=(b.nodes.take (j+1)).map ZF:=by
   rw[List.take_succ_eq_append_getElem hja,List.map_append]
   rfl
  simp only[ga,hja,ZF,EVA,seval,Zd,men]
  refine Zb (ZaU b.nodes[j].links (by omega)) ?_
  have hl2:(List.map (fun x=>[Tr.v (Value.int .i64 x.control),Tr.v (Value.int .i64 x.parent),Tr.sl (rI x.links)]) (b.nodes.take j)).length=j:=by rw[List.length_map,List.length_take];omega
  simp only[hl1,st1,ZF,EVA,seval,Zd,men]
  exact⟨by omega,by rw[Ze];omega,Zf () hja rfl trivial⟩
 ·have:j=b.nodes.length:=by omega
  subst this
  rw[List.take_length]
  exact⟨rfl,rfl⟩
end Go.Fd

/-
  LINKS THAT ARE TURNED, THE REFERENCE'S SIDE. Own work.
-/
namespace Go.Fd
set_option maxRecDepth 20000
theorem ZgH(l:List ByteArray)(s:ByteArray)(hl:l.length<=4294967296)(lvl:Nat)(S:Sto):Sem Proofs.Tryz.prog QK lvl [.tr (.sl (rS l)),iS s] S (iI (ixS l s)) S:=by
 refine Zc ZiK trivial ?_
 simp only[Zd8,List.length_map,EVA,seval,Zd,men]
 refine ZL (α:=Unit) l.length (fun j _=>[(5,iI j)]) (fun _ _=>[]) (fun j _=>ixF (fun x=>decide (s=x)) (l.drop j) j=ixS l s) () (by simp only[EVA,seval,Zd,men]) (by (simp only[EVA,seval,Zd,men]) <;> rfl) rfl ?_
 intro j _ hj hA
 simp only[List.length_map,EVA,seval,Zd,men]
 refine Zo (fun hlt=>?_) (fun hge=>?_)
 ·have hja:j<l.length:=by omega
  have ga:=Zdt (e0:=e0S) (c:=fun n:ByteArray=>[ts n]) hja
  rw[Ww hja] at ga
  rw[ZbI hja,XU] at hA
  by_cases h:l[j]=s
  ·rw[if_pos (by simp [h])] at hA
   simp only[ga,h,EVA,seval,Zd,men]
   rw[<-hA]
  ·rw[if_neg (by simp;exact fun e=>h e.symm)] at hA
   simp only[ga,h,EVA,seval,Zd,men]
   exact⟨by rw[Ze];omega,Zf () hja rfl hA⟩
 ·have:j=l.length:=by omega
  subst this
  rw[List.drop_length] at hA
  rw[<-hA]
  rfl
def Wy(a:Int)(n:Nat):List Int:=(List.range n).map fun i:Nat=>a+i
theorem ZkH{a:Int}{n:Nat}:Wy a (n+1)=Wy a n++[a+n]:=by simp [Wy,List.range_succ]
theorem fromN_len{a:Int}{n:Nat}:(Wy a n).length=n:=by simp [Wy]
theorem Wz(a:Int)(n:Nat)(ha:-4294967296<=a/\a<=4294967296)(hn:n<=4294967290)(lvl:Nat)(S:Sto):Sem Proofs.Tryz.prog JP lvl [iI a,iI n] S (.ow 1 (rI (Wy a n)) true) S:=by
 refine Zc ZeZ trivial ?_
 simp only[ZaD,EVA,seval,Zd,men]
 refine ZL (α:=Unit) n (fun j _=>[(5,.hd (lvl,224) [] 0 j none j),(6,iI j)]) (fun j _=>[(224,.ar 1 (rI (Wy a j)) true j 0)]) (fun _ _=>True) () (by simp only[EVA,seval,Zd,men]) (by (simp only[EVA,seval,Zd,men]) <;> rfl) trivial ?_
 intro j _ hj _
 simp only[List.length_map,EVA,seval,Zd,men]
 refine Zo (fun hlt=>?_) (fun hge=>?_)
 ·have hl:=fromN_len (a:=a) (n:=j)
  have hs:rI (Wy a j)++[[Tr.v (.int .i64 (a+j))]]=rI (Wy a (j+1)):=by rw[ZkH,Xo];rfl
  simp only[hl,hs,EVA,seval,Zd,men]
  exact⟨by rw[Ze];omega,by omega,by rw[Ze];omega,Zf () (by omega) rfl trivial⟩
 ·have:j=n:=by omega
  subst this
  exact⟨fromN_len.symm,rfl⟩
def Yk(a:Int)(n:Nat):List Int:=(List.range n).map fun i:Nat=>-1-a-i
theorem ZiY{a:Int}{n:Nat}:Yk a (n+1)=Yk a n++[-1-a-n]:=by simp [Yk,List.range_succ]
theorem rootsN_len{a:Int}{n:Nat}:(Yk a n).length=n:=by simp [Yk]
theorem ZaV(a:Int)(n:Nat)(ha:-4294967296<=a/\a<=4294967296)(hn:n<=4294967290)(lvl:Nat)(S:Sto):Sem Proofs.Tryz.prog YJ lvl [iI a,iI n] S (.ow 1 (rI (Yk a n)) true) S:=by
 refine Zc Ze1 trivial ?_
 simp only[ZaF,EVA,seval,Zd,men]
 refine ZL (α:=Unit) n (fun j _=>[(5,.hd (lvl,224) [] 0 j none j),(6,iI j)]) (fun j _=>[(224,.ar 1 (rI (Yk a j)) true j 0)]) (fun _ _=>True) () (by simp only[EVA,seval,Zd,men]) (by (simp only[EVA,seval,Zd,men]) <;> rfl) trivial ?_
 intro j _ hj _
 simp only[List.length_map,EVA,seval,Zd,men]
 refine Zo (fun hlt=>?_) (fun hge=>?_)
 ·have hl:=rootsN_len (a:=a) (n:=j)
  have hs:rI (Yk a j)++[[Tr.v (.int .i64 (-1-a-j))]]=rI (Yk a (j+1)):=by rw[ZiY,Xo];rfl
  simp only[hl,hs,EVA,seval,Zd,men]
  exact⟨by rw[Ze];omega,by rw[Ze];omega,by omega,by rw[Ze];omega,Zf () (by omega) rfl trivial⟩
 ·have:j=n:=by omega
  subst this
  exact⟨rootsN_len.symm,rfl⟩
def ZeI(by_:Int)(ps:List Int)(p:Int):Int:=if p<0 then g0 ps (-1-p).toNat else p+by_
theorem ZcT(p by_:Int)(ps:List Int)(h0:-4294967296<=p/\p<=4294967296)(h1:-4294967296<=by_/\by_<=4294967296)(h2:p<0->(-1-p).toNat<ps.length)(lvl:Nat)(S:Sto):Sem Proofs.Tryz.prog Vs lvl [iI p,iI by_,tI ps] S (iI (ZeI by_ ps p)) S:=by
 refine Zc Zeg trivial ?_
 simp only[DM,EVA,seval,Zd,men]
 unfold ZeI
 refine Zo (fun hlt=>?_) (fun hge=>?_)
 ·rw[if_pos hlt]
  have hk:=h2 hlt
  obtain⟨k,hkk⟩:∃ k:Nat,-1-p=k:=⟨(-1-p).toNat,by omega⟩
  rw[hkk] at hk ⊢
  rw[Int.toNat_natCast] at hk ⊢
  have ga:=XN hk
  simp only[ga,hk,EVA,seval,Zd,men]
  rw[Ze];omega
 ·rw[if_neg hge]
  exact⟨by rw[Ze];omega,rfl⟩
theorem US(b:TBigraph)(by_:Int)(ps:List Int)(hl:b.sites.length<=4294967290)(h1:-4294967296<=by_/\by_<=4294967296)(hp:∀ p∈b.sites,(-4294967296<=p/\p<=4294967296)/\(p<0->(-1-p).toNat<ps.length))(lvl:Nat)(S:Sto):Sem Proofs.Tryz.prog Ya lvl [.ag ((Za b).map .tr),iI by_,tI ps] S (.ow 1 (rI (b.sites.map (ZeI by_ ps))) true) S:=by
 refine Zc Ze3 trivial ?_
 simp only[ZaH,Za,EVA,seval,Zd,men]
 refine ZL (α:=Unit) b.sites.length (fun j _=>[(7,.hd (lvl,288) [] 0 j none j),(8,iI j)]) (fun j _=>[(288,.ar 1 (rI ((b.sites.take j).map (ZeI by_ ps))) true j 0)]) (fun _ _=>True) () (by simp only[EVA,seval,Zd,men]) (by (simp only[EVA,seval,Zd,men]) <;> rfl) trivial ?_
 intro j _ hj _
 simp only[List.length_map,EVA,seval,Zd,men]
 refine Zo (fun hlt=>?_) (fun hge=>?_)
 ·have hja:j<b.sites.length:=by omega
  have ga:=XN hja
  have e0:g0 b.sites j=b.sites[j]:=by simp [hja]
  have hq:=hp _ (List.getElem_mem hja)
  rw[<-e0] at hq
  have hl1:(List.map (ZeI by_ ps) (b.sites.take j)).length=j:=by rw[List.length_map,List.length_take];omega
  have hl2:(b.sites.take j).length=j:=by rw[List.length_take];omega
  simp only[ga,hja,EVA,seval,Zd,men]
  refine Zb (ZcT (g0 b.sites j) by_ ps hq.1 h1 hq.2) ?_
  have hs:rI ((b.sites.take j).map (ZeI by_ ps))++[[Tr.v (.int .i64 (ZeI by_ ps (g0 b.sites j)))]]=rI ((b.sites.take (j+1)).map (ZeI by_ ps)):=by
   rw[List.take_succ_eq_append_getElem hja,List.map_append,Xo,e0];rfl
  simp only[hl1,hl2,hs,List.length_map,EVA,seval,Zd,men]
  exact⟨by omega,by rw[Ze];omega,Zf () hja rfl trivial⟩
 ·have:j=b.sites.length:=by omega
  subst this
  rw[List.take_length]
  exact⟨by simp,rfl⟩
def ZiZ(ls:List Int)(w:TWire):TWire:=⟨w.name,g0 ls w.link.toNat⟩
theorem ZaW(b:TBigraph)(ls:List Int)(hl:b.inner.length<=4294967290)(hp:∀ w∈b.inner,0<=w.link/\w.link<ls.length)(lvl:Nat)(S:Sto):Sem Proofs.Tryz.prog YK lvl [.ag ((Za b).map .tr),tI ls] S (.ow 2 ((b.inner.map (ZiZ ls)).map ZC) true) S:=by
 refine Zc Ze5 trivial ?_
 simp only[ZaJ,Za,EVA,seval,Zd,men]
 refine ZL (α:=Unit) b.inner.length (fun j _=>[(5,.hd (lvl,224) [] 0 j none j),(6,iI j)]) (fun j _=>[(224,.ar 2 (((b.inner.take j).map (ZiZ ls)).map ZC) true j 0)]) (fun _ _=>True) () (by simp only[EVA,seval,Zd,men]) (by (simp only[EVA,seval,Zd,men]) <;> rfl) trivial ?_
 intro j _ hj _
 simp only[List.length_map,EVA,seval,Zd,men]
 refine Zo (fun hlt=>?_) (fun hge=>?_)
 ·have hja:j<b.inner.length:=by omega
  have ga:=U7 (c:=ZC) hja
  have hq:=hp _ (List.getElem_mem hja)
  obtain⟨k,hk⟩:∃ k:Nat,b.inner[j].link=k:=⟨b.inner[j].link.toNat,by omega⟩
  have hkl:k<ls.length:=by omega
  have gl:=XN hkl
  have hl2:(b.inner.take j).length=j:=by rw[List.length_take];omega
  have hs:((b.inner.take j).map (ZiZ ls)).map ZC++[[ts b.inner[j].name,tv (g0 ls k)]]=((b.inner.take (j+1)).map (ZiZ ls)).map ZC:=by
   rw[List.take_succ_eq_append_getElem hja,List.map_append,List.map_append]
   simp [ZiZ,ZC,hk]
  simp only[ga,ZC,hk,gl,hja,hkl,hl2,List.length_map,EVA,seval,Zd,men]
  exact⟨by omega,by rw[Ze];omega,Zf () hja (by rw[<-hs];rfl) trivial⟩
 ·have:j=b.inner.length:=by omega
  subst this
  rw[List.take_length]
  exact⟨by simp,rfl⟩
def ZgI(by_:Int)(ps ls:List Int)(x:TNode):TNode:=⟨x.control,ZeI by_ ps x.parent,x.links.map fun l=>g0 ls l.toNat⟩
theorem UT(b:TBigraph)(by_:Int)(ps ls:List Int)(hl:b.nodes.length<=4294967290)(h1:-4294967296<=by_/\by_<=4294967296)(hp:∀ x∈b.nodes,x.links.length<=4294967290/\((-4294967296<=x.parent/\x.parent<=4294967296)/\(x.parent<0->(-1-x.parent).toNat<ps.length))/\∀ l∈x.links,0<=l/\l<ls.length)(lvl:Nat)(S:Sto):Sem Proofs.Tryz.prog J9 lvl [.ag ((Za b).map .tr),iI by_,tI ps,tI ls] S (.ow 3 ((b.nodes.map (ZgI by_ ps ls)).map ZF) true) S:=by
 refine Zc Ze2 trivial ?_
 simp only[ZaG,Za,EVA,seval,Zd,men]
 refine ZL (α:=Unit) b.nodes.length (fun j _=>[(9,.hd (lvl,416) [] 0 j none j),(10,iI j)]) (fun j _=>[(416,.ar 3 (((b.nodes.take j).map (ZgI by_ ps ls)).map ZF) true j 0)]) (fun _ _=>True) () (by simp only[EVA,seval,Zd,men]) (by (simp only[EVA,seval,Zd,men]) <;> rfl) trivial ?_
 intro j _ hj _
 simp only[List.length_map,EVA,seval,Zd,men]
 refine Zo (fun hlt=>?_) (fun hge=>?_)
 ·have hja:j<b.nodes.length:=by omega
  have ga:=U7 (c:=ZF) hja
  obtain⟨q1,q2,q3⟩:=hp _ (List.getElem_mem hja)
  have hl2:(b.nodes.take j).length=j:=by rw[List.length_take];omega
  refine ZL (α:=Unit) b.nodes[j].links.length (fun k _=>[(11,.hd (lvl,672) [] 0 k none k),(12,iI k)]) (fun k _=>[(672,.ar 1 (rI ((b.nodes[j].links.take k).map fun l=>g0 ls l.toNat)) true k 0)]) (fun _ _=>True) () (by simp only[EVA,seval,Zd,men]) (by (simp only[EVA,seval,Zd,men]) <;> rfl) trivial ?_
  intro k _ hk _
  simp only[ga,ZF,List.length_map,EVA,seval,Zd,men]
  refine Zo (fun hlt2=>?_) (fun hge2=>?_)
  ·have hka:k<b.nodes[j].links.length:=by omega
   have gl:=XN hka
   have e0:g0 b.nodes[j].links k=b.nodes[j].links[k]:=by simp [hka]
   have hq:=q3 _ (List.getElem_mem hka)
   rw[<-e0] at hq
   obtain⟨m,hm⟩:∃ m:Nat,g0 b.nodes[j].links k=m:=⟨(g0 b.nodes[j].links k).toNat,by omega⟩
   have hml:m<ls.length:=by omega
   have gm:=XN hml
   have hl3:(b.nodes[j].links.take k).length=k:=by rw[List.length_take];omega
   have hs:rI ((b.nodes[j].links.take k).map fun l=>g0 ls l.toNat)++[[tv (g0 ls m)]]=rI ((b.nodes[j].links.take (k+1)).map fun l=>g0 ls l.toNat):=by
    rw[List.take_succ_eq_append_getElem hka,List.map_append,Xo,<-e0]
    simp only[List.map_cons,List.map_nil,hm,Int.toNat_natCast]
   simp only[ga,ZF,gl,hm,gm,hka,hml,hl3,hs,List.length_map,EVA,seval,Zd,men]
   exact⟨by omega,by rw[Ze];omega,Zf () hka rfl trivial⟩
  ·have:k=b.nodes[j].links.length:=by omega
   subst this
   rw[List.take_length]
   refine Zb (ZcT b.nodes[j].parent by_ ps q2.1 h1 q2.2) ?_
   have hs:((b.nodes.take j).map (ZgI by_ ps ls)).map ZF++[[tv b.nodes[j].control,tv (ZeI by_ ps b.nodes[j].parent),Tr.sl (rI (b.nodes[j].links.map fun l=>g0 ls l.toNat))]]=((b.nodes.take (j+1)).map (ZgI by_ ps ls)).map ZF:=by
    rw[List.take_succ_eq_append_getElem hja,List.map_append,List.map_append]
    simp [ZgI,ZF]
   simp only[ga,ZF,hl2,List.length_map,EVA,seval,Zd,men]
   exact⟨by omega,by rw[Ze];omega,Zf () hja (by rw[<-hs];rfl) trivial⟩
 ·have:j=b.nodes.length:=by omega
  subst this
  rw[List.take_length]
  exact⟨by simp,rfl⟩
end Go.Fd

/-
  A LINK IS TURNED: relinked AND ITS CLOSURE. Own work.
-/
namespace Go.Fd
set_option maxRecDepth 20000
theorem ZtF:ZP Proofs.Tryz.prog ZU Zud=true:=by kernel_rfl
theorem Zx5:ZP Proofs.Tryz.prog Z3 (Zx2 ZU)=true:=by kernel_rfl
theorem Zfx(l:List ByteArray)(s:ByteArray)(hl:l.length<=4294967296)(lvl:Nat)(S:Sto):Sem Proofs.Tryz.prog ZU lvl [.tr (.sl (rS l)),iS s] S (iI (ixS l s)) S:=ZlY ZtF Zqe l s (by omega) lvl S
theorem ZbN(l:List ByteArray)(s:ByteArray)(hl:l.length<=4294967296)(lvl:Nat)(S:Sto):Sem Proofs.Tryz.prog Z3 lvl [.tr (.sl (rS l)),iS s] S (iB (dc (s∈l))) S:=by
 have h:=Zqh Zx5 ZtF Zqe l s (by omega) lvl S
 have e:∀ i:Decidable (s∈l),@decide (s∈l) i=dc (s∈l):=fun i=>(@YN _ i).symm
 rw[e] at h
 exact h
theorem Zj3{l:List ByteArray}{s:ByteArray}:-1<=ixS l s:=by
 by_cases h:s∈l
 ·have:=ixS_nn.2 h;omega
 ·rw[Zml h];omega
theorem Zj4{l:List ByteArray}{s:ByteArray}:ixS l s<=l.length:=by
 by_cases h:s∈l
 ·have:=ZtC h;omega
 ·rw[Zml h];omega
mutual
theorem Zqn{P Q:Oid->Prop}:∀ x,men P x->men Q x->men (fun i=>P i/\Q i) x
 | .hd ..,h,g=>⟨h,g⟩
 | .ab ..,h,g=>⟨h,g⟩
 | .sv _,h,g=>⟨h,g⟩
 | .ae ..,h,g=>⟨h,g⟩
 | .ag l,h,g=>by simp only[men] at *;exact ZbO l h g
 | .tu l,h,g=>by simp only[men] at *;exact ZbO l h g
 | .fn f l,h,g=>by simp only[men] at *;exact ZbO l h g
 | .un,_,_=>trivial
 | .tr _,_,_=>trivial
 | .cs _,_,_=>trivial
 | .ta _,_,_=>trivial
 | .ow ..,_,_=>trivial
 | .er,_,_=>trivial
theorem ZbO{P Q:Oid->Prop}:∀ l,Zd P l->Zd Q l->Zd (fun i=>P i/\Q i) l
 | [],_,_=>trivial
 | x::r,h,g=>⟨Zqn x h.1 g.1,ZbO r h.2 g.2⟩
end
theorem ZhV{B S S':Sto}{loc:List (Nat×Ob)}{lvl l':Nat}{cps:List IV}(h:Zd (Zko B S lvl) cps)(h2:Zd (Zko (ZG lvl loc S) S' l') cps):Zd (Zko B S' l') cps :=
 ZI (fun i hi=>⟨hi.2.1,fun ob hb=>hi.2.2 ob (by rw[show ZG lvl loc S i=S i from if_neg (by have:=hi.1.1;omega)];exact hi.1.2 ob hb)⟩) _ (ZbO _ h h2)
theorem ZhW{L S:Sto}{l:Nat}{cps:List IV}(h:Zd (ZfE L S l) cps):Zd (Zko L S l) cps:=ZI (fun _ hi=>hi.1) _ h
theorem Zn5{B S:Sto}{lvl:Nat}{cps:List IV}(h:Zd (Zko B S lvl) cps)(js:List Nat):Zjm lvl js cps=True:=eq_true (ZI (fun i hi e=>absurd e (by have:=hi.1;omega)) _ h)
theorem Zqo{B S:Sto}{lvl:Nat}{cs:List (List Tr)}:Zd (Zko B S lvl) (cs.map IV.ta):=by rw[J6];trivial
theorem Ze8(b:TBigraph)(l:Int)(e:Int)(o:List ByteArray)(tf:FuncId)(cps:List IV)(B:Sto)(T:Int×ByteArray->Int×ByteArray)(he0:0<=b.edges)(hl:Jk b l)(ho:b.outer.length<=4294967296)(hb:b.edges<=4294967296)(he:0<=e/\e<=4294967296)(hol:o.length<=4294967296)
  (hT:∀ l' S',Zd (Zko B S' l') cps->Sem Proofs.Tryz.prog tf l' (oE (Zdx b l)::cps) S' (oE (T (Zdx b l))) S')
  (lvl:Nat) (S:Sto) (hcp:Zd (Zko B S lvl) cps) (iT iO io:Oid) (c0 c1 c2 c3 c5:IV) (hwo ver:Nat) (u:Bool) (hT1:iT.1<lvl) (hO1:iO.1<lvl) (ho1:io.1<lvl) (sT:S iT=some (.bx [.fn tf cps])) (sO:S iO=some (.bx [c0,c1,c2,c3,.hd io [] 0 o.length none hwo,c5])) (so:S io=some (.ar 1 (rS o) u hwo ver)) :
  Sem Proofs.Tryz.prog Jt lvl [iI l,.ab iT 0,.ta (Za b),.ta [tv e],.ab iO 0] S (iI (ZeH b e o T l)) S:=by
 have hneT:iT.1≠lvl:=by omega
 have hneO:iO.1≠lvl:=by omega
 have hneo:io.1≠lvl:=by omega
 refine Zc W1 trivial ?_
 simp only[VU,Za,Z6 hneT,Z6 hneO,Z6 hneo,sT,sO,so,EVA,seval,Zd,men]
 refine Zb (ZhU b l he0 hl ho hb) ?_
 simp only[EVA,seval,Zd,men]
 refine Zbi (fun l' S' hs=>hT l' S' (ZhV hcp (ZhW hs.2))) ?_
 simp only[EVA,seval,Zd,men]
 unfold ZeH
 by_cases h2:(T (Zdx b l)).2=e0S
 ·rw[if_pos h2]
  simp only[h2,EVA,seval,Zd,men]
 ·rw[if_neg h2]
  simp only[h2,Z6 hneO,Z6 hneo,sO,so,EVA,seval,Zd,men]
  rw[show cut (rS o) 0 o.length=rS o from Qa (by rw[List.length_map])]
  refine Zb (Zfx o (T (Zdx b l)).2 (by omega)) ?_
  have:=Zj3 (l:=o) (s:=(T (Zdx b l)).2)
  have:=Zj4 (l:=o) (s:=(T (Zdx b l)).2)
  simp only[EVA,seval,Zd,men]
  rw[Ze];omega
theorem ZtG{y:List Int}{j:Nat}{v:Int}(h:j<y.length):Y7 (rI y) [] j 0 (.v (.int .i64 v))=rI (y.set j v):=by
 simp only[Y7]
 rw[XN h]
 exact(List.map_set (f:=fun n:Int=>[tv n]) (l:=y) (i:=j) (a:=v)).symm
def ZkI(F:Int->Int)(x:TNode):TNode:=⟨x.control,x.parent,x.links.map F⟩
def WC(F:Int->Int)(l:List TNode)(j:Nat):List TNode:=(l.take j).map (ZkI F)++l.drop j
def WA(F:Int->Int)(l:List Int)(k:Nat):List Int:=(l.take k).map F++l.drop k
theorem Zmm{F:Int->Int}{l:List Int}{k:Nat}:(WA F l k).length=l.length:=by simp [WA];omega
theorem Zmn{F:Int->Int}{l:List Int}{k:Nat}(h:k<l.length):g0 (WA F l k) k=g0 l k:=by
 show (WA F l k).getD k 0=l.getD k 0
 have:((l.take k).map F).length=k:=by rw[List.length_map,List.length_take];omega
 rw[List.getD_eq_getElem?_getD,List.getD_eq_getElem?_getD,WA,List.getElem?_append_right (by omega),this,List.getElem?_drop]
 simp
theorem Zmo{F:Int->Int}{l:List Int}{k:Nat}(h:k<l.length):(WA F l k).set k (F (g0 l k))=WA F l (k+1):=by
 have hl:((l.take k).map F).length=k:=by rw[List.length_map,List.length_take];omega
 have e:g0 l k=l[k]:=by simp [h]
 unfold WA
 rw[List.set_append_right _ _ (by omega),hl,Nat.sub_self,List.drop_eq_getElem_cons h,List.set_cons_zero,List.take_succ_eq_append_getElem h,List.map_append,e,List.append_assoc]
 rfl
theorem ZhX{F:Int->Int}{l:List TNode}{j:Nat}:(WC F l j).length=l.length:=by simp [WC];omega
theorem Zmp{F:Int->Int}{l:List TNode}{j:Nat}(h:j<l.length):(WC F l j)[j]? = some l[j]:=by
 have:((l.take j).map (ZkI F)).length=j:=by rw[List.length_map,List.length_take];omega
 rw[WC,List.getElem?_append_right (by omega),this,List.getElem?_drop]
 simp [h]
theorem Zmq{F:Int->Int}{l:List TNode}{j:Nat}(h:j<l.length):(WC F l j).set j (ZkI F l[j])=WC F l (j+1):=by
 have hl:((l.take j).map (ZkI F)).length=j:=by rw[List.length_map,List.length_take];omega
 unfold WC
 rw[List.set_append_right _ _ (by omega),hl,Nat.sub_self,List.drop_eq_getElem_cons h,List.set_cons_zero,List.take_succ_eq_append_getElem h,List.map_append,List.append_assoc]
 rfl
def ZaX(F:Int->Int)(w:TWire):TWire:=⟨w.name,F w.link⟩
def Zeu(F:Int->Int)(l:List TWire)(j:Nat):List TWire:=(l.take j).map (ZaX F)++l.drop j
theorem Zmr{F:Int->Int}{l:List TWire}{j:Nat}(h:j<l.length):(Zeu F l j)[j]? = some l[j]:=by
 have:((l.take j).map (ZaX F)).length=j:=by rw[List.length_map,List.length_take];omega
 rw[Zeu,List.getElem?_append_right (by omega),this,List.getElem?_drop]
 simp [h]
theorem Zms{F:Int->Int}{l:List TWire}{j:Nat}(h:j<l.length):(Zeu F l j).set j (ZaX F l[j])=Zeu F l (j+1):=by
 have hl:((l.take j).map (ZaX F)).length=j:=by rw[List.length_map,List.length_take];omega
 unfold Zeu
 rw[List.set_append_right _ _ (by omega),hl,Nat.sub_self,List.drop_eq_getElem_cons h,List.set_cons_zero,List.take_succ_eq_append_getElem h,List.map_append,List.append_assoc]
 rfl
theorem ZtH{X:List TNode}{j k:Nat}{x:TNode}{v:Int}(h:X[j]? = some x)(hk:k<x.links.length):Y7 (X.map ZF) [(j,2)] k 0 (.v (.int .i64 v))=(X.set j ⟨x.control,x.parent,x.links.set k v⟩).map ZF:=by
 have h1:=ZtG (y:=x.links) (j:=k) (v:=v) hk
 have e1:Y7 (X.map ZF) [(j,2)] k 0 (.v (.int .i64 v))=(X.map ZF).set j [tv x.control,tv x.parent,Tr.sl (Y7 (rI x.links) [] k 0 (.v (.int .i64 v)))]:=by
  simp only[Y7,List.getElem?_map,h,Option.map_some,ZF,List.getElem?_cons_succ,List.getElem?_cons_zero,List.set_cons_succ,List.set_cons_zero]
 rw[e1,h1,List.map_set]
 rfl
theorem ZbP(b:TBigraph)(e:Int)(o:List ByteArray)(tf:FuncId)(cps:List IV)(B:Sto)(T:Int×ByteArray->Int×ByteArray)(he0:0<=b.edges)(hbd:Zl 4294967290 b)(hb:b.edges<=4294967296)(he:0<=e/\e<=4294967296)(ho:o.length<=4294967290)
  (hln:∀ x∈b.nodes,∀ l∈x.links,Jk b l) (hlw:∀ w∈b.inner,Jk b w.link) (hT:∀ l,Jk b l->∀ l' S',Zd (Zko B S' l') cps->Sem Proofs.Tryz.prog tf l' (oE (Zdx b l)::cps) S' (oE (T (Zdx b l))) S')
  (lvl:Nat) (S:Sto) (hcp:Zd (Zko B S lvl) cps):Sem Proofs.Tryz.prog ZO lvl [.ag ((Za b).map .tr),iI e,.tr (.sl (rS o)),.fn tf cps] S (Zg (Zmk b (ZeH b e (Q0 o) T) e (Q0 o))) S:=by
 have hok:=Zn5 hcp
 refine Zc UQ (by simp [Zg,low,men,Zd]) ?_
 simp only[QQ,Za,EVA,seval,Zd,men]
 refine Zb (ZaK b hbd) ?_
 simp only[Zg,Za,List.length_map,EVA,seval,Zd,men]
 refine Zb (Zet o ho) ?_
 obtain⟨b1,b2,b3,b4,b5,b6,b7⟩:=hbd
 simp only[List.length_map,EVA,seval,Zd,men]
 have hFdef:∃ F,F=ZeH b e (Q0 o) T:=⟨_,rfl⟩
 obtain⟨F,hF⟩:=hFdef
 rw[<-hF]
 have hsl:(Q0 o).length<=4294967296:=Nat.le_trans Zmb (by omega)
 have hc:∀(loc:List (Nat×Ob)) (l:Int),Jk b l->lkO 224 loc=some (.bx [.fn tf cps])->lkO 288 loc=some (.bx [iI b.roots,.hd (lvl,576) [] 0 b.nodes.length none b.nodes.length,.hd (lvl,577) [] 0 b.sites.length none b.sites.length,iI e,.hd (lvl,672) [] 0 (Q0 o).length none (Q0 o).length,.hd (lvl,579) [] 0 b.inner.length none b.inner.length])->lkO 672 loc=some (.ar 1 (rS (Q0 o)) true (Q0 o).length 0) ->
   ∀ l' S',Zd (ZfE (ZG lvl loc S) S' l') [iI l,.ab (lvl,224) 0,.ta (Za b),.ta [tv e],.ab (lvl,288) 0]->Sem Proofs.Tryz.prog Jt l' [iI l,.ab (lvl,224) 0,.ta (Za b),.ta [tv e],.ab (lvl,288) 0] S' (iI (F l)) S':=fun loc l hl h1 h2 h3 l' S' hs=>by
  simp only[Zd,men] at hs
  obtain⟨_,h224,_,_,h288,_⟩:=hs
  have sT:=h224.1.2 _ (by rw[Yc];exact h1)
  have hc2:=h224.2 _ (by rw[Yc];exact h1)
  simp only[Zd,men,and_true] at hc2
  have sO:=h288.1.2 _ (by rw[Yc];exact h2)
  have hm:=h288.2 _ (by rw[Yc];exact h2)
  simp only[Zd,men] at hm
  obtain⟨_,_,_,_,h672,_,_⟩:=hm
  have so:=h672.2 _ (by rw[Yc];exact h3)
  rw[hF]
  exact Ze8 b l e (Q0 o) tf cps B T he0 hl (by omega) hb he hsl (hT l hl) l' S' (ZhV hcp hc2) (lvl,224) (lvl,288) (lvl,672) _ _ _ _ _ _ _ _ h224.1.1 h288.1.1 h672.1 sT sO so
 refine ZL (α:=Unit) b.nodes.length (fun j _=>[(28,iI j)]) (fun j _=>[(576,.ar 3 ((WC F b.nodes j).map ZF) true b.nodes.length 0)]) (fun _ _=>True) () (by simp only[hok,EVA,seval,Zd,men]) (by (simp only[EVA,seval,Zd,men]) <;> rfl) trivial ?_
 intro j _ hj _
 simp only[List.length_map,EVA,seval,Zd,men]
 refine Zo (fun hlt=>?_) (fun hge=>?_)
 ·have hja:j<b.nodes.length:=by omega
  have gp:=Zmp (F:=F) hja
  have ga:((WC F b.nodes j).map ZF)[j]? = some [Tr.v (.int .i64 b.nodes[j].control),Tr.v (.int .i64 b.nodes[j].parent),Tr.sl (rI b.nodes[j].links)]:=by rw[List.getElem?_map,gp];rfl
  have hkl:b.nodes[j].links.length<=4294967290:=b2 _ (List.getElem_mem hja)
  simp only[ga,hja,List.length_map,EVA,seval,Zd,men]
  have e0:(WC F b.nodes j).set j ⟨b.nodes[j].control,b.nodes[j].parent,WA F b.nodes[j].links 0⟩=WC F b.nodes j:=by
   have:(⟨b.nodes[j].control,b.nodes[j].parent,WA F b.nodes[j].links 0⟩:TNode)=b.nodes[j]:=by simp [WA]
   rw[this]
   have hl:j<(WC F b.nodes j).length:=by rw[ZhX];exact hja
   have e:b.nodes[j]=(WC F b.nodes j)[j]:=by
    have:=gp
    rw[List.getElem?_eq_getElem hl] at this
    exact(Option.some.inj this).symm
   rw[e]
   exact List.set_getElem_self hl
  refine ZL (α:=Unit) b.nodes[j].links.length (fun k _=>[(35,iI k)]) (fun k _=>[(576,.ar 3 (((WC F b.nodes j).set j ⟨b.nodes[j].control,b.nodes[j].parent,WA F b.nodes[j].links k⟩).map ZF) true b.nodes.length 0)]) (fun _ _=>True) () (by simp only[hok,EVA,seval,Zd,men]) (by (simp only[e0,EVA,seval,Zd,men]) <;> rfl) trivial ?_
  intro k _ hk _
  have gq:((WC F b.nodes j).set j ⟨b.nodes[j].control,b.nodes[j].parent,WA F b.nodes[j].links k⟩)[j]? = some ⟨b.nodes[j].control,b.nodes[j].parent,WA F b.nodes[j].links k⟩:=by
   rw[List.getElem?_set_self (by rw[ZhX];exact hja)]
  have hgp:(((WC F b.nodes j).set j ⟨b.nodes[j].control,b.nodes[j].parent,WA F b.nodes[j].links k⟩).map ZF)[j]? = some [Tr.v (.int .i64 b.nodes[j].control),Tr.v (.int .i64 b.nodes[j].parent),Tr.sl (rI (WA F b.nodes[j].links k))]:=by rw[List.getElem?_map,gq];rfl
  simp only[hgp,List.length_map,EVA,seval,Zd,men]
  refine Zo (fun hlt2=>?_) (fun hge2=>?_)
  ·have hka:k<b.nodes[j].links.length:=by omega
   have hpl:=Zmm (F:=F) (l:=b.nodes[j].links) (k:=k)
   have gk:(rI (WA F b.nodes[j].links k))[k]? = some [tv (g0 b.nodes[j].links k)]:=by rw[XN (by omega),Zmn hka]
   have hlk:Jk b (g0 b.nodes[j].links k):=hln _ (List.getElem_mem hja) _ (by simp [hka])
   have hsp:=ZtH (v:=F (g0 b.nodes[j].links k)) gq (k:=k) (by show k<(WA F b.nodes[j].links k).length;omega)
   simp only[hgp,gk,hka,hpl,Nat.zero_add,List.length_map,EVA,seval,Zd,men]
   refine Zbi (hc _ (g0 b.nodes[j].links k) hlk rfl rfl rfl) ?_
   have hst:((WC F b.nodes j).set j ⟨b.nodes[j].control,b.nodes[j].parent,WA F b.nodes[j].links k⟩).set j ⟨b.nodes[j].control,b.nodes[j].parent,(WA F b.nodes[j].links k).set k (F (g0 b.nodes[j].links k))⟩=(WC F b.nodes j).set j ⟨b.nodes[j].control,b.nodes[j].parent,WA F b.nodes[j].links (k+1)⟩:=by
    rw[List.set_set,Zmo hka]
   rw[hst] at hsp
   simp only[hgp,gk,hka,hpl,hsp,hok,Nat.zero_add,List.length_map,EVA,seval,Zd,men]
   exact⟨by rw[Ze];omega,Zf () hka rfl trivial⟩
  ·have:k=b.nodes[j].links.length:=by omega
   subst this
   have hst:(WC F b.nodes j).set j ⟨b.nodes[j].control,b.nodes[j].parent,WA F b.nodes[j].links b.nodes[j].links.length⟩=WC F b.nodes (j+1):=by
    rw[<-Zmq hja]
    congr 1
    simp [ZkI,WA]
   rw[hst]
   simp only[hok,EVA,seval,Zd,men]
   exact⟨by rw[Ze];omega,Zf () hja rfl trivial⟩
 ·have:j=b.nodes.length:=by omega
  subst this
  have hpn:WC F b.nodes b.nodes.length=(Zmk b F e (Q0 o)).nodes:=by simp [WC,Zmk,ZkI]
  rw[hpn]
  refine ZL (α:=Unit) b.inner.length (fun j _=>[(52,iI j)]) (fun j _=>[(579,.ar 2 ((Zeu F b.inner j).map ZC) true b.inner.length 0)]) (fun _ _=>True) () (by simp only[hok,EVA,seval,Zd,men]) (by (simp only[EVA,seval,Zd,men]) <;> rfl) trivial ?_
  intro j _ hj _
  simp only[List.length_map,EVA,seval,Zd,men]
  refine Zo (fun hlt=>?_) (fun hge=>?_)
  ·have hja:j<b.inner.length:=by omega
   have gp:=Zmr (F:=F) hja
   have ga:((Zeu F b.inner j).map ZC)[j]? = some [ts b.inner[j].name,tv b.inner[j].link]:=by rw[List.getElem?_map,gp];rfl
   have hsp:Y7 ((Zeu F b.inner j).map ZC) [] j 1 (.v (.int .i64 (F b.inner[j].link)))=(Zeu F b.inner (j+1)).map ZC:=by
    simp only[Y7]
    rw[ga,<-Zms hja,List.map_set]
    rfl
   have hlk:Jk b b.inner[j].link:=hlw _ (List.getElem_mem hja)
   simp only[ga,hja,Nat.zero_add,List.length_map,EVA,seval,Zd,men]
   refine Zbi (hc _ b.inner[j].link hlk rfl rfl rfl) ?_
   simp only[ga,hja,hsp,hok,Nat.zero_add,List.length_map,EVA,seval,Zd,men]
   exact⟨by rw[Ze];omega,Zf () hja rfl trivial⟩
  ·have:j=b.inner.length:=by omega
   subst this
   have hpw:Zeu F b.inner b.inner.length=(Zmk b F e (Q0 o)).inner:=by simp [Zeu,Zmk,ZaX]
   rw[hpw]
   exact⟨by simp [Zmk],by simp [Zmk],rfl⟩
theorem ZcU(b:TBigraph)(e:Int)(o:List ByteArray)(tf:FuncId)(cs:List (List Tr))(T:Int×ByteArray->Int×ByteArray)(he0:0<=b.edges)(hbd:Zl 4294967290 b)(hb:b.edges<=4294967296)(he:0<=e/\e<=4294967296)(ho:o.length<=4294967290)
  (hln:∀ x∈b.nodes,∀ l∈x.links,Jk b l) (hlw:∀ w∈b.inner,Jk b w.link) (hT:∀ l,Jk b l->∀ lvl S,Sem Proofs.Tryz.prog tf lvl (oE (Zdx b l)::cs.map IV.ta) S (oE (T (Zdx b l))) S)
  (lvl:Nat) (S:Sto):Sem Proofs.Tryz.prog ZO lvl [.ag ((Za b).map .tr),iI e,.tr (.sl (rS o)),.fn tf (cs.map IV.ta)] S (Zg (Zmk b (ZeH b e (Q0 o) T) e (Q0 o))) S :=
 ZbP b e o tf (cs.map IV.ta) (fun _=>none) T he0 hbd hb he ho hln hlw (fun l hl l' S' _=>hT l hl l' S') lvl S Zqo
end Go.Fd

/-
  A NAME BECOMES AN EDGE, AN EDGE A NAME: THE PROGRAM'S SIDE. Own work.
-/
namespace Go.Fd
set_option maxRecDepth 20000
theorem ZtI:ZP Proofs.Tryz.prog ZZ (ZlV 1 none)=true:=by kernel_rfl
theorem Zev(l:List ByteArray)(hl:l.length<=4294967290)(f:ByteArray->Bool){fe:FuncId}{cs:List (List Tr)}(hf:∀ x lvl S,Sem Proofs.Tryz.prog fe lvl (iS x::cs.map IV.ta) S (iB (f x)) S)(lvl:Nat)(S:Sto)(id:Oid)(u:Bool)(hw ver:Nat)(hid:id.1<lvl)(hS:S id=some (.ar 1 (rS l) u hw ver)) :
  ∃ v2,Sem Proofs.Tryz.prog ZW lvl [.hd id [] 0 l.length none hw,.fn fe (cs.map IV.ta)] S (.hd id [] 0 (l.filter fun n=>!f n).length none hw) (ZM S id (.ar 1 (rS (l.filter fun n=>!f n)) u hw v2)):=by
 have hne:id.1≠lvl:=by omega
 have hix:=ZjR (P:=Proofs.Tryz.prog) ZtI (t:=fun n:ByteArray=>ts n) (f:=f) (fe:=fe) (cs:=cs) l (by omega) (fun x _ lvl S=>hf x lvl S)
 rcases ZgF (f:=f) (l:=l) (j:=0) with ⟨h1,h2⟩ | ⟨i0,h,h1,h2,h3⟩
 ·refine⟨ver,?_⟩
  rw[Zfw h2,Qt hS]
  refine Zc Yg hid ?_
  simp only[Ju,WR,J6,Z6 hne,hS,EVA,seval,Zd,men]
  rw[show cut (rS l) 0 l.length=rS l from Qa (by rw[List.length_map])]
  refine Zb hix ?_
  simp only[h1,ZdX hne,EVA,seval,Zd,men]
 ·refine⟨ver+1,?_⟩
  rw[Int.zero_add] at h1
  refine Zc Yg hid ?_
  simp only[Ju,WR,J6,Z6 hne,hS,EVA,seval,Zd,men]
  rw[show cut (rS l) 0 l.length=rS l from Qa (by rw[List.length_map])]
  refine Zb hix ?_
  have hm1:¬ (i0:Int) = -1:=by omega
  simp only[h1,hm1,EVA,seval,Zd,men]
  refine⟨by rw[Ze];omega,?_⟩
  have f0:(l.take i0).filter (fun n=>!f n)=l.take i0:=Zfw h2
  have f1:(l.take (i0+1)).filter (fun n=>!f n)=l.take i0:=by rw[Zes h,f0,if_pos h3,List.append_nil]
  refine ZY (α:=Nat×List ByteArray) l.length (fun m x=>⟨lvl,[(0,.hd id [] 0 l.length none hw),(1,.fn fe (cs.map IV.ta)),(5,iI (x.1:Int)),(6,iI ((i0+1+m:Nat):Int))],[],ZM S id (.ar 1 (rS x.2) u hw ver)⟩) (fun m x=>i0+1+m<=l.length/\x.2.length=l.length/\x.1=((l.take (i0+1+m)).filter fun n=>!f n).length/\x.2.take x.1=(l.take (i0+1+m)).filter (fun n=>!f n)/\x.1<=i0+m/\∀ q,i0+1+m<=q->gS x.2 q=gS l q) (i0,l) ⟨by simp only[ZR hne,JN,EVA,seval,Zd,men],by (simp only[Qt hS,EVA,seval,Zd,men]) <;> rfl⟩ ⟨by omega,rfl,by rw[Nat.add_zero,f1,List.length_take];omega,by rw[Nat.add_zero,f1],by omega,fun _ _=>rfl⟩ ?_
  intro m ⟨i,y⟩ hm ⟨hm1,hy,hi,ht,hle,hq⟩
  dsimp only at hy hi ht hle hq
  simp only[EVA,seval,Zd,men]
  refine Zo (fun hlt2=>?_) (fun hge2=>?_)
  ·have b1:i0+1+m<l.length:=by omega
   have gy:=Zdt (e0:=e0S) (c:=fun n:ByteArray=>[ts n]) (l:=y) (i:=i0+1+m) (by omega)
   have q1:=hq (i0+1+m) (by omega)
   have b4:i<l.length:=by omega
   have e0:gS l (i0+1+m)=l[i0+1+m]:=Ww b1
   have fs:=Zes (f:=f) b1
   simp only[Z6 hne,Vx,gy,q1,b1,ZR hne,WR,J6,Nat.zero_add,EVA,seval,Zd,men]
   refine Zb (hf (gS l (i0+1+m))) ?_
   rw[<-e0] at fs
   cases hx:f (gS l (i0+1+m)) with
   | true =>
    rw[if_pos hx,List.append_nil] at fs
    simp only[hx,ZR hne,JN,EVA,seval,Zd,men]
    exact⟨by rw[Ze];omega,Zf (i,y) (by omega) rfl ⟨by omega,hy,by rw[show i0+1+(m+1)=i0+1+m+1 from rfl,fs];exact hi,by rw[show i0+1+(m+1)=i0+1+m+1 from rfl,fs];exact ht,by show i<=i0+(m+1);omega,fun q hqq=>hq q (by omega)⟩⟩
   | false =>
    rw[if_neg (by rw[hx];decide)] at fs
    have s1:=Zn2 (y:=y) (j:=i) (v:=gS l (i0+1+m)) (by omega)
    have gy0:=Zdt (e0:=e0S) (c:=fun n:ByteArray=>[ts n]) (l:=y) (i:=i) (by omega)
    simp only[Z6 hne,YW hne,JL,Vx,gy,gy0,q1,b1,b4,s1,hx,Nat.zero_add,ZR hne,JN,EVA,seval,Zd,men]
    exact⟨by rw[Ze];omega,by rw[Ze];omega,Zf (i+1,y.set i (gS l (i0+1+m))) (by omega) rfl ⟨by omega,by rw[List.length_set];exact hy,by rw[show i0+1+(m+1)=i0+1+m+1 from rfl,fs,List.length_append,<-hi];rfl,by rw[ZbJ (by omega),ht,show i0+1+(m+1)=i0+1+m+1 from rfl,fs],by show i+1<=i0+(m+1);omega,fun q hqq=>by
     show gx e0S (y.set i (gS l (i0+1+m))) q=_
     rw[ZjW (by omega),if_neg (by omega)]
     exact hq q (by omega)⟩⟩
  ·have en:i0+1+m=l.length:=by omega
   rw[en,List.take_length] at hi ht
   refine⟨by omega,Ztw hne (Vx ..),?_⟩
   have tk:(rS y).take i=rS (l.filter fun n=>!f n):=by rw[<-ht];exact(List.map_take ..).symm
   simp only[Z6 hne,YW hne,JL,Vx,tk,List.length_map,hy,EVA,seval,Zd,men]
   refine⟨by omega,by omega,by omega,by omega,Ztw hne (Vx ..),?_⟩
   simp only[ZdX hne,Nat.sub_zero,hi,EVA,seval,Zd,men]
theorem ZhY(sig:List TControl)(b:TBigraph)(hn:sig.length<=4294967296)(hbs:∀ y∈sig,Zy 4294967296 y)(hb:Zl 4294967290 b)(hf:Zr b)(lvl:Nat)(S:Sto):Sem Proofs.Tryz.prog Xe lvl [.tr (.sl (sig.map Zk)),.ag ((Za b).map .tr)] S (.tu [Zg (@ite TBigraph (bigOK sig b) (Classical.propDecidable _) b ⟨0,[],[],0,[],[]⟩),iB (dc (bigOK sig b))]) S:=by
 have hb2:Zl 4294967296 b:=by
  obtain⟨b1,b2,b3,b4,b5,b6,b7⟩:=hb
  exact⟨by omega,fun y hy=>Nat.le_trans (b2 y hy) (by omega),by omega,by omega,fun y hy=>Nat.le_trans (b5 y hy) (by omega),by omega,fun y hy=>Nat.le_trans (b7 y hy) (by omega)⟩
 refine Zc ZhE (by simp [Zg,low,men,Zd]) ?_
 simp only[ZcP,Za,EVA,seval,Zd,men]
 refine Zb (Je sig b hn hbs hb2) ?_
 cases h:dc (bigOK sig b)
 ·rw[if_neg (dc_not.1 h)]
  simp only[EVA,seval,Zd,men]
  try rfl
 ·rw[if_pos (dc_iff.1 h)]
  simp only[Za,EVA,seval,Zd,men]
  refine Zb (ZaK b hb) ?_
  simp only[Zg,Za,List.length_map,EVA,seval,Zd,men]
  try rfl
end Go.Fd

/-
  A NAME BECOMES AN EDGE: BOTH SIDES. Own work.
-/
namespace Go.Fd
set_option maxRecDepth 20000
theorem ZkJ{n:Nat}{k:Nat}(h:k<n):g0 (Yk 0 n) k = -1-(k:Int):=by
 show (Yk 0 n).getD k 0=_
 rw[List.getD_eq_getElem?_getD,Yk,List.getElem?_map,List.getElem?_range h]
 simp
theorem Zmt{b:TBigraph}{n:Nat}(hn:b.roots=n){p:Int}(h:-b.roots<=p):ZeI 0 (Yk 0 n) p=p:=by
 unfold ZeI
 split
 ·rw[ZkJ (by omega)];omega
 ·omega
theorem Y3{sig:List TControl}{b:TBigraph}{p below:Int}(hr:0<=b.roots)(h:DP sig b p below):-b.roots<=p:=by
 rcases h with h | h <;> omega
def YO:TBigraph:=⟨0,[],[],0,[],[]⟩
theorem ZcV(sig:List TControl)(b:TBigraph)(hn:sig.length<=4294967296)(hbs:∀ y∈sig,Zy 4294967296 y)(hb:Zl 4294967296 b)(hf:Zr b)(hG:bigOK sig b)(lvl:Nat)(S:Sto):Sem Proofs.Tryz.prog Vc lvl [.tr (.sl (sig.map Zk)),.ag ((Za b).map .tr)] S (.tu [.ag ((Za b).map .tr),iB true]) S:=by
 refine Zc ZbA (by simp [Za,low,men,Zd]) ?_
 simp only[UO,Za,EVA,seval,Zd,men]
 refine Zb (Vv sig b hn hbs hb hf) ?_
 rw[ZK hG]
 simp only[Za,EVA,seval,Zd,men]
theorem ZcW(sig:List TControl)(b:TBigraph)(hn:sig.length<=4294967296)(hbs:∀ y∈sig,Zy 4294967296 y)(hb:Zl 4294967296 b)(hf:Zr b)(hG:¬ bigOK sig b)(lvl:Nat)(S:Sto):Sem Proofs.Tryz.prog Vc lvl [.tr (.sl (sig.map Zk)),.ag ((Za b).map .tr)] S (.tu [Zg YO,iB false]) S:=by
 refine Zc ZbA (by simp [Zg,low,men,Zd]) ?_
 simp only[UO,Za,EVA,seval,Zd,men]
 refine Zb (Vv sig b hn hbs hb hf) ?_
 rw[Zh hG]
 simp only[Za,EVA,seval,Zd,men]
 rfl
theorem Qg{l:List ByteArray}(h:V9 l){s:ByteArray}(hs:s∈l):s.size<=4:=by
 obtain⟨i,hi,rfl⟩:=List.getElem_of_mem hs
 exact(h.1 i hi).1.2.2
end Go.Fd

/-
  A NAME BECOMES AN EDGE: BOTH ANSWERS. Own work.
-/
namespace Go.Fd
set_option maxRecDepth 20000
theorem UU{a c:Nat}{b:TBigraph}(h:a<=c)(hb:Zl a b):Zl c b:=by
 obtain⟨b1,b2,b3,b4,b5,b6,b7⟩:=hb
 exact⟨by omega,fun y hy=>Nat.le_trans (b2 y hy) h,by omega,by omega,fun y hy=>Nat.le_trans (b5 y hy) h,by omega,fun y hy=>Nat.le_trans (b7 y hy) h⟩
theorem Zag{sig:List TControl}{b:TBigraph}(h:bigOK sig b):Zl 1000 b:=by
 have hs:=h.small
 have s1:=hs.nodes;have s2:=hs.sites;have s3:=hs.inner;have s4:=hs.outer
 refine⟨by omega,fun y hy=>hs.links y hy,by omega,by omega,fun y hy=>?_,by omega,fun w hw=>?_⟩
 ·have:=Qg h.outer hy;omega
 ·have hn:w.name∈inn b:=List.mem_map.2 ⟨w,hw,rfl⟩
  have:=Qg h.inn hn
  simp only[Qe]
  omega
theorem ZkK{n:Nat}:Wy 0 n=(Zmj n).map fun l=>l:=by simp [Wy,Zmj]
end Go.Fd

/-
  TWO NAMES BECOME ONE: THE PROGRAM'S SIDE; A COPY BY NUMBERING ANEW. Own work.
-/
namespace Go.Fd
set_option maxRecDepth 20000
theorem Zi0{sig:List TControl}{b:TBigraph}(h:bigOK sig b){x:TNode}(hx:x∈b.nodes):x.parent<b.nodes.length/\∀ l∈x.links,0<=l/\l<b.edges+b.outer.length:=by
 obtain⟨k,hk,rfl⟩:=List.getElem_of_mem hx
 have q:=h.nodes k hk
 refine⟨?_,fun l hl=>?_⟩
 ·rcases q.par with p | p <;> omega
 ·have:=q.links l hl
  unfold Jk at this
  omega
theorem ZbQ{sig:List TControl}{b:TBigraph}(h:bigOK sig b){p:Int}(hp:p∈b.sites):p<b.nodes.length:=by
 rcases h.sites p hp with q | q <;> omega
end Go.Fd

/-
  NAMES IN ORDER, AND THEIR LINKS, AS THE REFERENCE HAS THEM. Own work.
-/
namespace Go.Fd
set_option maxRecDepth 20000
theorem ZtJ{O:List ByteArray}{x:ByteArray}{k:Nat}(hp:O.Pairwise ltS)(h1:∀ y∈O.take k,ltS y x)(h2:∀ y∈O.drop k,ltS x y):(O.take k++([x]++O.drop k)).Pairwise ltS:=by
 refine List.pairwise_append.2 ⟨hp.sublist (List.take_sublist ..),List.pairwise_append.2 ⟨List.pairwise_singleton ..,hp.sublist (List.drop_sublist ..),fun a ha b hb=>?_⟩,fun a ha b hb=>?_⟩
 ·rw[List.mem_singleton.1 ha];exact h2 b hb
 ·rcases List.mem_append.1 hb with hb | hb
  ·rw[List.mem_singleton.1 hb];exact h1 a ha
  ·have q:=hp
   rw[<-List.take_append_drop k O] at q
   exact(List.pairwise_append.1 q).2.2 a ha b hb
theorem Zi1{l:List ByteArray}:(Q0 l).Pairwise ltS:=Zma ordsS
theorem setS_mem{l:List ByteArray}{c:ByteArray}:c∈Q0 l↔c∈l:=setG_mem
theorem Zj5{l:List ByteArray}:(Q0 l).length<=l.length:=Zmb
theorem Zj6{l:List ByteArray}{i k:Nat}(hi:i<l.length)(h1:∀ y∈(Q0 (l.take i)).take k,ltS y l[i])(h2:∀ y∈(Q0 (l.take i)).drop k,ltS l[i] y):Q0 (l.take (i+1))=(Q0 (l.take i)).take k++([l[i]]++(Q0 (l.take i)).drop k):=by
 refine Zgy ordsS (ZtJ Zi1 h1 h2) fun c=>?_
 rw[List.take_succ_eq_append_getElem hi]
 have e:c∈Q0 (l.take i)↔c∈l.take i:=setS_mem
 rw[<-List.take_append_drop k (Q0 (l.take i)),List.mem_append] at e
 simp only[List.mem_append,<-e]
 constructor
 ·rintro((h | h) | h)
  ·exact .inl h
  ·exact .inr (.inr h)
  ·exact .inr (.inl h)
 ·rintro(h | h | h)
  ·exact .inl (.inl h)
  ·exact .inr h
  ·exact .inl (.inr h)
theorem Zmu{l:List ByteArray}{i:Nat}(hi:i<l.length)(h:l[i]∈Q0 (l.take i)):Q0 (l.take (i+1))=Q0 (l.take i):=by
 refine Zgy ordsS Zi1 fun c=>?_
 rw[List.take_succ_eq_append_getElem hi,List.mem_append,setS_mem]
 constructor
 ·rintro(h2 | h2)
  ·exact h2
  ·rw[List.mem_singleton.1 h2];exact setS_mem.1 h
 ·exact .inl
theorem ZtK{l:List ByteArray}{j:Nat}:cut (rS l) 0 (j-0)=rS (l.take j):=by simp [cut,rS,List.map_take]
theorem ZtL{l:List ByteArray}{j:Nat}:cut (rS l) j (l.length-j)=rS (l.drop j):=by
 simp only[cut,rS,<-List.map_drop]
 rw[<-List.map_take,List.take_of_length_le (by rw[List.length_drop];omega)]
theorem ZoL{a b:List ByteArray}{x:ByteArray}:rS a++[[Tr.v (Value.string x)]]++rS b=rS (a++([x]++b)):=by simp [rS]
theorem ZoM{a:List ByteArray}:(rS a).length=a.length:=by simp [rS]
theorem Zmv:Q0 []=[]:=Zgy ordsS List.Pairwise.nil fun c=>Iff.rfl
theorem ZhZ(l:List ByteArray)(hl:l.length<=4294967290)(lvl:Nat)(S:Sto):Sem Proofs.Tryz.prog Q8 lvl [.tr (.sl (rS l))] S (.ow 1 (rS (Q0 l)) true) S:=by
 refine Zc Zed (by simp [low,men,Zd]) ?_
 simp only[DJ,List.length_map,EVA,seval,Zd,men]
 refine ZL (α:=Unit) l.length (fun j _=>[(3,.hd (lvl,96) [] 0 (Q0 (l.take j)).length none (Q0 (l.take j)).length),(4,iI j)]) (fun j _=>[(96,.ar 1 (rS (Q0 (l.take j))) true (Q0 (l.take j)).length 0)]) (fun _ _=>True) () (by simp only[EVA,seval,Zd,men]) (by rw[List.take_zero,Zmv]; (simp only[EVA,seval,Zd,men]) <;> rfl) trivial ?_
 intro j _ hj _
 simp only[List.length_map,EVA,seval,Zd,men]
 refine Zo (fun hlt=>?_) (fun hge=>?_)
 ·have hja:j<l.length:=by omega
  have ga:=Zdt (e0:=e0S) (c:=fun n:ByteArray=>[ts n]) hja
  rw[Ww hja] at ga
  obtain⟨O,hO⟩:∃ O,O=Q0 (l.take j):=⟨_,rfl⟩
  have hOl:O.length<=j:=by rw[hO];exact Nat.le_trans Zj5 (by rw[List.length_take];omega)
  have hOp:O.Pairwise ltS:=by rw[hO];exact Zi1
  rw[<-hO]
  refine ZL (α:=Unit) O.length (fun k _=>[(5,iI k)]) (fun _ _=>[]) (fun k _=>∀ y∈O.take k,ltS y l[j]) () (by simp only[EVA,seval,Zd,men]) (by (simp only[EVA,seval,Zd,men]) <;> rfl) (by simp) ?_
  intro k _ hk hK
  simp only[List.length_map,EVA,seval,Zd,men]
  refine Zo (fun hlt2=>?_) (fun hge2=>?_)
  ·have hka:k<O.length:=by omega
   have gk:=Zdt (e0:=e0S) (c:=fun n:ByteArray=>[ts n]) hka
   rw[Ww hka] at gk
   have hm:min k O.length=k:=by omega
   have hq1:k+1+(O.length-k)=O.length+1:=by omega
   have hq2:max (max (max 0 k) (k+1)) (O.length+1)=O.length+1:=by omega
   have hq3:k+(O.length-k)=O.length:=by omega
   simp only[ga,gk,hja,hka,hm,hq1,hq2,hq3,ZtK,ZtL,ZoJ,ZoK,ZoL,ZoM,List.length_append,List.length_take,List.length_drop,List.length_map,EVA,seval,Zd,men]
   refine Zo (fun h1=>?_) (fun h1=>?_)
   ·exact⟨by rw[Ze];omega,Zf () hka rfl fun y hy=>by
     rw[List.take_succ_eq_append_getElem hka] at hy
     rcases List.mem_append.1 hy with hy | hy
     ·exact hK y hy
     ·rw[List.mem_singleton.1 hy];exact h1⟩
   ·have hkn:decide ((k:Int)=(O.length:Int))=false:=by simp;omega
    rw[if_pos hkn]
    refine Zo (fun h2=>?_) (fun h2=>?_)
    ·have h3:ltS l[j] O[k]:=by
      rcases ordsS.tri l[j] O[k] with q | q | q
      ·exact q
      ·exact absurd q.symm h2
      ·exact absurd q h1
     have hput:=Zj6 (k:=k) hja (by rw[<-hO];exact hK) (by
      rw[<-hO]
      intro y hy
      rw[List.drop_eq_getElem_cons hka] at hy
      rcases List.mem_cons.1 hy with rfl | hy
      ·exact h3
      ·have q:=hOp
       rw[<-List.take_append_drop k O,List.drop_eq_getElem_cons hka] at q
       exact ordsS.tr _ _ _ h3 ((List.pairwise_cons.1 (List.pairwise_append.1 q).2.1).1 y hy))
     rw[<-hO] at hput
     have hpl:(O.take k++([l[j]]++O.drop k)).length=O.length+1:=by
      simp only[List.length_append,List.length_take,List.length_drop,List.length_cons,List.length_nil]
      omega
     have hfit:Xt .i64 ((j:Int)+1):=by rw[Ze];omega
     and_intros
     all_goals try first | omega | exact fun _=>trivial
     ·exact hfit.1
     ·exact hfit.2
     ·exact Zf () hja (by rw[hput,hpl];rfl) trivial
    ·have hkeep:=Zmu hja (by rw[<-hO,<-(Classical.not_not.1 h2)];exact List.getElem_mem hka)
     rw[<-hO] at hkeep
     exact⟨by rw[Ze];omega,Zf () hja (by rw[hkeep];rfl) trivial⟩
  ·have:k=O.length:=by omega
   subst this
   have hq1:O.length+1+(O.length-O.length)=O.length+1:=by omega
   have hq2:max (max (max 0 O.length) (O.length+1)) (O.length+1)=O.length+1:=by omega
   simp only[ga,hja,hq1,hq2,ZtK,ZtL,ZoJ,ZoK,ZoL,ZoM,List.length_append,List.length_take,List.length_drop,List.length_map,EVA,seval,Zd,men]
   have hput:=Zj6 (k:=O.length) hja (by rw[<-hO];exact hK) (by
    rw[<-hO,List.drop_length]
    intro y hy
    cases hy)
   rw[<-hO] at hput
   rw[List.take_length] at hput
   have hpl:(O++([l[j]]++O.drop O.length)).length=O.length+1:=by
    simp only[List.length_append,List.length_drop,List.length_cons,List.length_nil]
    omega
   have hfit:Xt .i64 ((j:Int)+1):=by rw[Ze];omega
   and_intros
   all_goals try first | omega | exact fun _=>trivial
   ·exact hfit.1
   ·exact hfit.2
   ·exact Zf () hja (by rw[hput,hpl];rfl) trivial
 ·have:j=l.length:=by omega
  subst this
  rw[List.take_length]
theorem ZaY(names:List ByteArray)(e:Int)(o:List ByteArray)(hn:names.length<=4294967290)(he:-4294967296<=e/\e<=4294967296)(ho:o.length<=4294967290)(lvl:Nat)(S:Sto):Sem Proofs.Tryz.prog YI lvl [.tr (.sl (rS names)),iI e,.tr (.sl (rS o))] S (.ow 1 (rI (names.map fun x=>e+ixS o x)) true) S:=by
 refine Zc ZeY trivial ?_
 simp only[ZaC,List.length_map,EVA,seval,Zd,men]
 refine ZL (α:=Unit) names.length (fun j _=>[(7,.hd (lvl,288) [] 0 j none j),(8,iI j)]) (fun j _=>[(288,.ar 1 (rI ((names.take j).map fun x=>e+ixS o x)) true j 0)]) (fun _ _=>True) () (by simp only[EVA,seval,Zd,men]) (by (simp only[EVA,seval,Zd,men]) <;> rfl) trivial ?_
 intro j _ hj _
 simp only[List.length_map,EVA,seval,Zd,men]
 refine Zo (fun hlt=>?_) (fun hge=>?_)
 ·have hja:j<names.length:=by omega
  have ga:=Zdt (e0:=e0S) (c:=fun n:ByteArray=>[ts n]) hja
  rw[Ww hja] at ga
  have hl2:(names.take j).length=j:=by rw[List.length_take];omega
  have x1:=Zj3 (l:=o) (s:=names[j])
  have x2:=Zj4 (l:=o) (s:=names[j])
  have hs:rI ((names.take j).map fun x=>e+ixS o x)++[[tv (e+ixS o names[j])]]=rI ((names.take (j+1)).map fun x=>e+ixS o x):=by
   rw[List.take_succ_eq_append_getElem hja,List.map_append,Xo]
   rfl
  simp only[ga,hja,List.length_map,EVA,seval,Zd,men]
  refine Zb (ZgH o names[j] (by omega)) ?_
  simp only[ga,hja,hl2,hs,List.length_map,EVA,seval,Zd,men]
  exact⟨by rw[Ze];omega,by omega,by rw[Ze];omega,Zf () hja rfl trivial⟩
 ·have:j=names.length:=by omega
  subst this
  rw[List.take_length]
  exact⟨by simp,rfl⟩
theorem Zn6{b:TBigraph}{l:Int}(he:0<=b.edges/\b.edges<=8)(hl:Jk b l):-4294967296<=(Zdx b l).1/\(Zdx b l).1<=4294967296:=by
 rcases Xa hl with ⟨h0,h1⟩ | ⟨i,hi,rfl⟩
 ·rw[ZhS h1];dsimp only;omega
 ·rw[ZhT hi];dsimp only;omega
end Go.Fd

/-
  OpenName: BOTH ANSWERS OF THE REFERENCE. Own work.
-/
namespace Go.Fd
end Go.Fd

/-
  ONE BIGRAPH UNDER ANOTHER: WHAT COMPOSITION COMPUTES, IN PLAIN TERMS. Own work.
-/
namespace Go.Fd
set_option maxRecDepth 20000
def Zan(a b:TBigraph)(roots:Int)(ss:List Int)(o:List ByteArray)(FL FR mv:Int->Int):TBigraph :=
 ⟨roots,a.nodes.map (ZkI FL)++b.nodes.map (fun x=>⟨x.control,mv x.parent,x.links.map FR⟩),ss++b.sites.map mv,a.edges+b.edges,o,b.inner.map (ZaX FR)⟩
theorem Zew{sig:List TControl}{a b:TBigraph}(ha:bigOK sig a)(hb:bigOK sig b){roots:Int}{ss:List Int}{o:List ByteArray}{FL FR mv FL' FR' mv':Int->Int}(hL:∀ l,Jk a l->FL l=FL' l)(hR:∀ l,Jk b l->FR l=FR' l)(hm:∀ p,-b.roots<=p->mv p=mv' p) :
  Zan a b roots ss o FL FR mv=Zan a b roots ss o FL' FR' mv':=by
 have hr:=hb.roots.1
 unfold Zan
 have e1:a.nodes.map (ZkI FL)=a.nodes.map (ZkI FL'):=List.map_congr_left fun x hx=>by
  obtain⟨i,hi,rfl⟩:=List.getElem_of_mem hx
  unfold ZkI
  congr 1
  exact List.map_congr_left fun l hl=>hL l ((ha.nodes i hi).links l hl)
 have e2:b.nodes.map (fun x=>(⟨x.control,mv x.parent,x.links.map FR⟩:TNode))=b.nodes.map (fun x=>⟨x.control,mv' x.parent,x.links.map FR'⟩):=List.map_congr_left fun x hx=>by
  obtain⟨i,hi,rfl⟩:=List.getElem_of_mem hx
  have hn:=hb.nodes i hi
  rw[hm _ (Y3 hr hn.par)]
  congr 1
  exact List.map_congr_left fun l hl=>hR l (hn.links l hl)
 have e3:b.sites.map mv=b.sites.map mv':=List.map_congr_left fun p hp=>hm p (Y3 hr (hb.sites p hp))
 have e4:b.inner.map (ZaX FR)=b.inner.map (ZaX FR'):=List.map_congr_left fun w hw=>by
  unfold ZaX
  rw[hR _ (hb.inner w hw)]
 rw[e1,e2,e3,e4]
def ZkL(a:TBigraph)(e:Int)(o:List ByteArray):List Int:=Zk6 a (fun l=>l) fun x=>e+ixS o x
def Zm3(a b:TBigraph)(g:ByteArray->Int):List Int:=Zk6 b (fun l=>a.edges+l) g
theorem Zmw{c:Int}{n:Nat}:Wy c n=(Zmj n).map fun l=>c+l:=by simp [Wy,Zmj]
theorem Zmx{a:TBigraph}{e:Int}{o:List ByteArray}{n:Nat}(hn:a.edges=n):Wy 0 n++a.outer.map (fun x=>e+ixS o x)=ZkL a e o:=by
 rw[ZkL,Zk6,ZkK,hn,Int.toNat_natCast]
theorem Zmy{a b:TBigraph}{g:ByteArray->Int}{n:Nat}(hn:b.edges=n):Wy a.edges n++b.outer.map g=Zm3 a b g:=by
 rw[Zm3,Zk6,Zmw,hn,Int.toNat_natCast]
theorem ZgJ{b:TBigraph}{f:Int->Int}{g:ByteArray->Int}(h:0<=b.edges):((Zk6 b f g).length:Int)=b.edges+b.outer.length:=by
 rw[Zk6,List.length_append,List.length_map,List.length_map,ZgE]
 omega
theorem Zug{sig:List TControl}{a:TBigraph}(ha:bigOK sig a){e:Int}{o:List ByteArray}{l:Int}(hl:Jk a l):ZeH a e o (fun x=>x) l=g0 (ZkL a e o) l.toNat:=by
 have he:=ha.edges
 unfold ZeH ZkL
 rcases Xa hl with ⟨h0,h1⟩ | ⟨i,hi,rfl⟩
 ·rw[Zj1 h0 h1,ZhS h1,if_pos rfl]
 ·rw[Zj2 he.1 hi,ZhT hi,if_neg (ZgG ha.outer (List.getElem_mem hi))]
def Zc5(a:TBigraph)(nm:ByteArray->Int×ByteArray)(x:Int×ByteArray):Int×ByteArray:=if x.2=e0S then (x.1+a.edges,e0S) else nm x.2
theorem ZyL{sig:List TControl}{a b:TBigraph}(hb:bigOK sig b){e:Int}{o:List ByteArray}{nm:ByteArray->Int×ByteArray}{g:ByteArray->Int}(hg:∀ i (h:i<b.outer.length),(if (nm b.outer[i]).2=e0S then (nm b.outer[i]).1 else e+ixS o (nm b.outer[i]).2)=g b.outer[i]){l:Int}(hl:Jk b l):ZeH b e o (Zc5 a nm) l=g0 (Zm3 a b g) l.toNat:=by
 have he:=hb.edges
 unfold ZeH Zm3
 rcases Xa hl with ⟨h0,h1⟩ | ⟨i,hi,rfl⟩
 ·rw[Zj1 h0 h1,ZhS h1]
  unfold Zc5
  rw[if_pos rfl,if_pos rfl]
  omega
 ·rw[Zj2 he.1 hi,ZhT hi]
  unfold Zc5
  rw[if_neg (ZgG hb.outer (List.getElem_mem hi)),hg i hi]
def inE(a:TBigraph)(s:ByteArray):Int×ByteArray:=Zdx a ((a.inner[(ixS (inn a) s).toNat]?).map TWire.link |>.getD 0)
def inL(a:TBigraph)(e:Int)(o:List ByteArray)(s:ByteArray):Int:=g0 (ZkL a e o) ((a.inner[(ixS (inn a) s).toNat]?).map TWire.link |>.getD 0).toNat
theorem Zj7{sig:List TControl}{a:TBigraph}(ha:bigOK sig a){i:Nat}(h:i<a.inner.length):a.inner[(ixS (inn a) (a.inner[i]).name).toNat]? = some a.inner[i]:=by
 have hl:i<(inn a).length:=by rw[Yr];exact h
 have e:(inn a)[i]=(a.inner[i]).name:=by simp [inn]
 have h1:=ZoI (Zdy ha.inn) hl
 rw[e] at h1
 rw[h1,Int.toNat_natCast,List.getElem?_eq_getElem h]
theorem Zqp{sig:List TControl}{a:TBigraph}(ha:bigOK sig a){e:Int}{o:List ByteArray}{i:Nat}(h:i<a.inner.length):(if (inE a (a.inner[i]).name).2=e0S then (inE a (a.inner[i]).name).1 else e+ixS o (inE a (a.inner[i]).name).2)=inL a e o (a.inner[i]).name:=by
 have hat:=Zj7 ha h
 unfold inE inL
 rw[hat]
 exact Zug ha (ha.inner _ (List.getElem_mem h))
def Zj8(a b:TBigraph)(o:List ByteArray)(L R:List Int):TBigraph:=Zan a b a.roots [] o (fun l=>g0 L l.toNat) (fun l=>g0 R l.toNat) (ZeI a.nodes.length a.sites)
def Zuh(a:TBigraph)(p:Int):Int:=if 0<=p then p+a.nodes.length else g0 a.sites (-1-p).toNat
theorem Zqq{a:TBigraph}{p:Int}:Zuh a p=ZeI a.nodes.length a.sites p:=by
 unfold Zuh ZeI
 by_cases h:0<=p
 ·rw[if_pos h,if_neg (by omega)]
 ·rw[if_neg h,if_pos (by omega)]
theorem Zqr{l:List ByteArray}(h:l.Pairwise ltS):Q0 l=l:=Zgy ordsS h fun _=>Iff.rfl
def ZkM(a b:TBigraph):List Int:=a.inner.map fun w=>g0 (ZkL a (a.edges+b.edges) a.outer) w.link.toNat
def QW(a b:TBigraph):TBigraph:=Zj8 a b a.outer (ZkL a (a.edges+b.edges) a.outer) (Zm3 a b (inL a (a.edges+b.edges) a.outer))
def Zc6(a b:TBigraph):Prop:=a.sites.length=b.roots/\inn a=b.outer
theorem Zn7{sig:List TControl}{a b:TBigraph}(ha:bigOK sig a)(hf:inn a=b.outer):ZkM a b=b.outer.map (inL a (a.edges+b.edges) a.outer):=by
 rw[<-hf,inn,List.map_map]
 refine List.map_congr_left fun w hw=>?_
 obtain⟨i,hi,rfl⟩:=List.getElem_of_mem hw
 simp only[Function.comp]
 unfold inL
 rw[Zj7 ha hi]
 rfl
theorem Zqs{sig:List TControl}{a b:TBigraph}(ha:bigOK sig a)(hb:bigOK sig b)(hf:inn a=b.outer) :
  Zan a b a.roots [] (Q0 a.outer) (ZeH a (a.edges+b.edges) (Q0 a.outer) fun x=>x) (ZeH b (a.edges+b.edges) (Q0 a.outer) (Zc5 a (inE a))) (Zuh a)=QW a b:=by
 rw[Zqr (Zdy ha.outer)]
 refine Zew ha hb (fun l hl=>Zug ha hl) (fun l hl=>ZyL hb (fun i hi=>?_) hl) fun p _=>Zqq
 have hi2:i<a.inner.length:=by rw[<-Yr,hf];exact hi
 have e:b.outer[i]=(a.inner[i]).name:=by
  have:(inn a)[i]'(by rw[Yr];exact hi2)=(a.inner[i]).name:=by simp [inn]
  rw[<-this]
  congr 1
  exact hf.symm
 rw[e]
 exact Zqp ha hi2
noncomputable def WD(a b:TBigraph):List ByteArray:=Q0 (a.outer++b.outer)
end Go.Fd

/-
  ONE BIGRAPH UNDER ANOTHER, THE REFERENCE'S SIDE. Own work.
-/
namespace Go.Fd
set_option maxRecDepth 20000
theorem ZoN{sig:List TControl}{b:TBigraph}(h:bigOK sig b){ps:List Int}(hp:(ps.length:Int)=b.roots){p:Int}(h1:-b.roots<=p)(h2:p<b.nodes.length):(-4294967296<=p/\p<=4294967296)/\(p<0->(-1-p).toNat<ps.length):=by
 have hr:=h.roots
 have hn:=h.small.nodes
 exact⟨by omega,fun h3=>by omega⟩
theorem Zj9{sig:List TControl}{b:TBigraph}(h:bigOK sig b){ps ls:List Int}(hp:(ps.length:Int)=b.roots)(hl:(ls.length:Int)=b.edges+b.outer.length):∀ x∈b.nodes,x.links.length<=4294967290/\((-4294967296<=x.parent/\x.parent<=4294967296)/\(x.parent<0->(-1-x.parent).toNat<ps.length))/\∀ l∈x.links,0<=l/\l<ls.length:=fun x hx=>by
 have hl2:=h.small.links _ hx
 have hb:=Zi0 h hx
 obtain⟨k,hk,rfl⟩:=List.getElem_of_mem hx
 refine⟨by omega,ZoN h hp (Y3 h.roots.1 (h.nodes k hk).par) hb.1,fun l hl3=>?_⟩
 have:=hb.2 l hl3
 omega
theorem Zka{sig:List TControl}{b:TBigraph}(h:bigOK sig b){ps:List Int}(hp:(ps.length:Int)=b.roots):∀ p∈b.sites,(-4294967296<=p/\p<=4294967296)/\(p<0->(-1-p).toNat<ps.length):=fun p hq=>ZoN h hp (Y3 h.roots.1 (h.sites p hq)) (ZbQ h hq)
theorem Zkb{sig:List TControl}{b:TBigraph}(h:bigOK sig b){ls:List Int}(hl:(ls.length:Int)=b.edges+b.outer.length):∀ w∈b.inner,0<=w.link/\w.link<ls.length:=fun w hw=>by
 have:=h.inner w hw
 unfold Jk at this
 omega
theorem Zkc{sig:List TControl}{b:TBigraph}(h:bigOK sig b){n:Nat}(hn:b.roots=n){ls:List Int}:b.nodes.map (ZgI 0 (Yk 0 n) ls)=b.nodes.map (ZkI fun l=>g0 ls l.toNat):=List.map_congr_left fun x hx=>by
 obtain⟨k,hk,rfl⟩:=List.getElem_of_mem hx
 unfold ZgI ZkI
 rw[Zmt hn (Y3 h.roots.1 (h.nodes k hk).par)]
theorem Zkd{sig:List TControl}{b:TBigraph}(h:bigOK sig b){n:Nat}(hn:b.roots=n):b.sites.map (ZeI 0 (Yk 0 n))=b.sites:=by
 have:b.sites.map (ZeI 0 (Yk 0 n))=b.sites.map id:=List.map_congr_left fun p hp=>Zmt hn (Y3 h.roots.1 (h.sites p hp))
 rw[this,List.map_id]
theorem ZyM{l:List TNode}:UnR 3 (l.map ZF)=True:=eq_true (Zco ZF (fun _=>rfl) l)
abbrev Zmz(b:TBigraph)(u:Bool):IV:=.ag [iI b.roots,.ow 3 (b.nodes.map ZF) u,.ow 1 (rI b.sites) true,iI b.edges,.ow 1 (rS b.outer) true,.ow 2 (b.inner.map ZC) true]
theorem Zi2(sig:List TControl)(a b:TBigraph)(o:List ByteArray)(above below:List Int)(ha:bigOK sig a)(hb:bigOK sig b)(hf:(a.sites.length:Int)=b.roots)(hA:above.length=a.outer.length)(hB:below.length=b.outer.length)(ho:o.length<=4294967290)(L R:List Int)(hL:∀ n:Nat,a.edges=n->Wy 0 n++above=L)(hR:∀ n:Nat,b.edges=n->Wy a.edges n++below=R)
  (lvl:Nat) (S:Sto):Sem Proofs.Tryz.prog XH lvl [.ag ((Za a).map .tr),.ag ((Za b).map .tr),.tr (.sl (rS o)),tI above,tI below] S (Zmz (Zj8 a b o L R) false) S:=by
 have ra:=ha.roots;have rb:=hb.roots
 have ea:=ha.edges;have eb:=hb.edges
 have sa:=ha.small;have sb:=hb.small
 have a1:=sa.nodes;have a2:=sa.sites;have a3:=sa.inner;have a4:=sa.outer
 have b1:=sb.nodes;have b2:=sb.sites;have b3:=sb.inner;have b4:=sb.outer
 obtain⟨n,hn⟩:∃ n:Nat,a.roots=n:=⟨a.roots.toNat,by omega⟩
 obtain⟨m,hm⟩:∃ m:Nat,a.edges=m:=⟨a.edges.toNat,by omega⟩
 obtain⟨k,hk⟩:∃ k:Nat,b.edges=k:=⟨b.edges.toNat,by omega⟩
 have hLL:=hL m hm
 have hRR:=hR k hk
 have lenL:(L.length:Int)=a.edges+a.outer.length:=by rw[<-hLL,List.length_append,fromN_len,hA];omega
 have lenR:(R.length:Int)=b.edges+b.outer.length:=by rw[<-hRR,List.length_append,fromN_len,hB];omega
 have w1:rI (Wy 0 m)++rI above=rI L:=by rw[<-Xo,hLL]
 have w2:m+above.length=L.length:=by rw[<-hLL,List.length_append,fromN_len]
 have w3:rI (Wy (m:Int) k)++rI below=rI R:=by rw[<-Xo,<-hm,hRR]
 have w4:k+below.length=R.length:=by rw[<-hRR,List.length_append,fromN_len]
 have w5:max m L.length=L.length:=by omega
 have w6:max k R.length=R.length:=by omega
 have c1:cut (rI L) 0 L.length=rI L:=Qa (by rw[List.length_map])
 have c2:cut (rI R) 0 R.length=rI R:=Qa (by rw[List.length_map])
 refine Zc Ze0 (by simp [low,men,Zd]) ?_
 simp only[ZaE,Za,hn,EVA,seval,Zd,men]
 refine Zb (ZaV 0 n (by omega) (by omega)) ?_
 simp only[Za,hm,List.length_map,EVA,seval,Zd,men]
 refine Zb (Wz 0 m (by omega) (by omega)) ?_
 simp only[Za,ZiW,ZiX,hm,hk,w1,w2,w5,fromN_len,List.length_append,List.length_map,EVA,seval,Zd,men]
 refine⟨by omega,Zb (Wz m k (by omega) (by omega)) ?_⟩
 simp only[Za,ZiW,ZiX,hm,hk,w3,w4,w6,fromN_len,List.length_append,List.length_map,EVA,seval,Zd,men]
 refine⟨by omega,?_⟩
 have q1:=US a 0 (Yk 0 n) (by omega) (by omega) (Zka ha (by rw[rootsN_len];omega))
 rw[Zkd ha hn] at q1
 simp only[Za,hn,hm,List.map_cons,List.map_nil] at q1
 refine Zb q1 ?_
 simp only[Za,hm,hk,c1,c2,List.length_map,EVA,seval,Zd,men]
 have q2:=UT a 0 (Yk 0 n) L (by omega) (by omega) (Zj9 ha (by rw[rootsN_len];omega) lenL)
 rw[Zkc ha hn] at q2
 simp only[Za,hn,hm,List.map_cons,List.map_nil] at q2
 refine Zb q2 ?_
 simp only[Za,hm,hk,c1,c2,List.length_map,EVA,seval,Zd,men]
 have q3:=UT b a.nodes.length a.sites R (by omega) (by omega) (Zj9 hb hf lenR)
 simp only[Za,hm,hk,List.map_cons,List.map_nil] at q3
 refine Zb q3 ?_
 simp only[Za,ZyM,hm,hk,c1,c2,List.length_append,List.length_map,EVA,seval,Zd,men]
 refine⟨by omega,?_⟩
 have q4:=US b a.nodes.length a.sites (by omega) (by omega) (Zka hb hf)
 simp only[Za,hm,hk,List.map_cons,List.map_nil] at q4
 refine Zb q4 ?_
 simp only[Za,ZoJ,ZoK,hm,hk,c1,c2,List.length_append,List.length_map,EVA,seval,Zd,men]
 refine⟨by rw[Ze];omega,by omega,?_⟩
 have q5:=ZaW b R (by omega) (Zkb hb lenR)
 simp only[Za,hm,hk,List.map_cons,List.map_nil] at q5
 refine Zb q5 ?_
 simp only[Za,ZoJ,ZoK,hm,hk,c1,c2,List.length_append,List.length_map,EVA,seval,Zd,men]
 simp only[Zmz,Zj8,Zan,List.map_append,List.nil_append,hn,hm,hk]
 rfl
theorem Zi3(x y:List ByteArray)(hx:x.length<=4294967290)(hy:y.length<=4294967290)(lvl:Nat)(S:Sto):Sem Proofs.Tryz.prog XG lvl [.tr (.sl (rS x)),.tr (.sl (rS y))] S (iB (dc (x=y))) S:=by
 refine Zc ZeX trivial ?_
 simp only[ZaB,List.length_map,EVA,seval,Zd,men]
 by_cases hl:x.length=y.length
 ·simp only[hl,EVA,seval,Zd,men]
  refine ZL (α:=Unit) x.length (fun j _=>[(5,iI j)]) (fun _ _=>[]) (fun j _=>x.take j=y.take j) () (by simp only[EVA,seval,Zd,men]) (by (simp only[EVA,seval,Zd,men]) <;> rfl) (by simp) ?_
  intro j _ hj hA
  simp only[List.length_map,EVA,seval,Zd,men]
  refine Zo (fun hlt=>?_) (fun hge=>?_)
  ·have hja:j<x.length:=by omega
   have hjb:j<y.length:=by omega
   have ga:=Zdt (e0:=e0S) (c:=fun n:ByteArray=>[ts n]) hja
   rw[Ww hja] at ga
   have gb:=Zdt (e0:=e0S) (c:=fun n:ByteArray=>[ts n]) hjb
   rw[Ww hjb] at gb
   by_cases h:x[j]=y[j]
   ·simp only[ga,gb,hja,hjb,h,EVA,seval,Zd,men]
    exact⟨by rw[Ze];omega,Zf () hja rfl (by
     rw[List.take_succ_eq_append_getElem hja,List.take_succ_eq_append_getElem hjb,hA,h])⟩
   ·have hne:¬ x=y:=fun e=>h (by simp [e])
    rw[Zh hne]
    simp only[ga,gb,hja,hjb,h,EVA,seval,Zd,men]
  ·have:j=x.length:=by omega
   subst this
   have e:x=y:=by
    have h2:=hA
    rw[List.take_length,hl,List.take_length] at h2
    exact h2
   rw[ZK e]
 ·have hne:¬ x=y:=fun e=>hl (by rw[e])
  rw[Zh hne]
  have hl2:¬ (x.length:Int)=y.length:=by omega
  simp only[hl2,EVA,seval,Zd,men]
theorem ZkN(a b:TBigraph)(h1:a.sites.length<=4294967290)(h2:a.inner.length<=4294967290)(h3:b.outer.length<=4294967290)(lvl:Nat)(S:Sto):Sem Proofs.Tryz.prog Wo lvl [.ag ((Za a).map .tr),.ag ((Za b).map .tr)] S (iB (dc (Zc6 a b))) S:=by
 refine Zc Zgm trivial ?_
 simp only[Zbz,Za,List.length_map,EVA,seval,Zd,men]
 by_cases hl:(a.sites.length:Int)=b.roots
 ·simp only[hl,EVA,seval,Zd,men]
  have q1:=Wv a (by omega)
  simp only[Za,List.map_cons,List.map_nil] at q1
  refine Zb q1 ?_
  simp only[Za,List.length_map,EVA,seval,Zd,men]
  refine Zb (Zi3 (inn a) b.outer (by rw[Yr];omega) (by omega)) ?_
  have e:dc (inn a=b.outer)=dc (Zc6 a b):=Y1 ⟨fun h=>⟨hl,h⟩,fun h=>h.2⟩
  rw[e]
  simp only[Za,List.length_map,EVA,seval,Zd,men]
  try rfl
 ·have hne:¬ Zc6 a b:=fun e=>hl e.1
  rw[Zh hne]
  simp only[hl,EVA,seval,Zd,men]
theorem Zi4(sig:List TControl)(a b:TBigraph)(ha:bigOK sig a)(hb:bigOK sig b)(hf:Zc6 a b)(lvl:Nat)(S:Sto):Sem Proofs.Tryz.prog XE lvl [.ag ((Za a).map .tr),.ag ((Za b).map .tr)] S (Zmz (QW a b) false) S:=by
 have ra:=ha.roots;have rb:=hb.roots
 have ea:=ha.edges;have eb:=hb.edges
 have sa:=ha.small;have sb:=hb.small
 have a1:=sa.nodes;have a2:=sa.sites;have a3:=sa.inner;have a4:=sa.outer
 have b1:=sb.nodes;have b2:=sb.sites;have b3:=sb.inner;have b4:=sb.outer
 obtain⟨m,hm⟩:∃ m:Nat,a.edges=m:=⟨a.edges.toNat,by omega⟩
 obtain⟨L,hL⟩:∃ L,L=ZkL a (a.edges+b.edges) a.outer:=⟨_,rfl⟩
 have lenL:(L.length:Int)=a.edges+a.outer.length:=by rw[hL];exact ZgJ ea.1
 have hLL:Wy 0 m++a.outer.map (fun x=>m+b.edges+ixS a.outer x)=L:=by rw[hL,<-Zmx hm,hm]
 have w1:rI (Wy 0 m)++rI (a.outer.map fun x=>m+b.edges+ixS a.outer x)=rI L:=by rw[<-Xo,hLL]
 have w2:m+a.outer.length=L.length:=by omega
 have w5:max m L.length=L.length:=by omega
 refine Zc ZeU (by simp [low,men,Zd]) ?_
 simp only[Zay,Za,hm,EVA,seval,Zd,men]
 refine⟨by rw[Ze];omega,Zb (ZaY a.outer (m+b.edges) a.outer (by omega) (by omega) (by omega)) ?_⟩
 simp only[Za,hm,List.length_map,EVA,seval,Zd,men]
 refine Zb (Wz 0 m (by omega) (by omega)) ?_
 simp only[Za,ZiW,ZiX,hm,w1,w2,w5,fromN_len,List.length_append,List.length_map,EVA,seval,Zd,men]
 refine⟨by omega,?_⟩
 refine ZL (α:=Unit) a.inner.length (fun j _=>[(7,.hd (lvl,768) [] 0 j none j),(8,iI j)]) (fun j _=>[(768,.ar 1 (rI ((a.inner.take j).map fun w=>g0 L w.link.toNat)) true j 0)]) (fun _ _=>True) () (by simp only[EVA,seval,Zd,men]) (by (simp only[EVA,seval,Zd,men]) <;> rfl) trivial ?_
 intro j _ hj _
 simp only[List.length_map,EVA,seval,Zd,men]
 refine Zo (fun hlt=>?_) (fun hge=>?_)
 ·have hja:j<a.inner.length:=by omega
  have ga:=U7 (c:=ZC) hja
  have hq:=Zkb ha lenL _ (List.getElem_mem hja)
  obtain⟨k,hk⟩:∃ k:Nat,a.inner[j].link=k:=⟨a.inner[j].link.toNat,by omega⟩
  have hkl:k<L.length:=by omega
  have gl:=XN hkl
  have hl2:(a.inner.take j).length=j:=by rw[List.length_take];omega
  have hs:rI ((a.inner.take j).map fun w=>g0 L w.link.toNat)++[[tv (g0 L k)]]=rI ((a.inner.take (j+1)).map fun w=>g0 L w.link.toNat):=by
   rw[List.take_succ_eq_append_getElem hja,List.map_append,Xo]
   simp [hk]
  simp only[ga,ZC,hk,gl,hja,hkl,hl2,hs,List.length_map,EVA,seval,Zd,men]
  exact⟨by omega,by rw[Ze];omega,Zf () hja rfl trivial⟩
 ·have:j=a.inner.length:=by omega
  subst this
  rw[List.take_length,show (a.inner.map fun w=>g0 L w.link.toNat)=ZkM a b from by rw[hL];rfl]
  have hcl:(ZkM a b).length=a.inner.length:=by simp [ZkM]
  have q:=Zi2 sig a b a.outer (a.outer.map fun x=>m+b.edges+ixS a.outer x) (ZkM a b) ha hb hf.1 (by simp) (by rw[hcl,<-hf.2,Yr]) (by omega) L (Zm3 a b (inL a (a.edges+b.edges) a.outer)) (fun n hn=>by
   have:n=m:=by omega
   rw[this,hLL]) (fun n hn=>by rw[Zn7 ha hf.2];exact Zmy hn)
  rw[hL,show Zj8 a b a.outer (ZkL a (a.edges+b.edges) a.outer) (Zm3 a b (inL a (a.edges+b.edges) a.outer))=QW a b from rfl] at q
  simp only[Za,hm,List.map_cons,List.map_nil] at q
  refine⟨by simp [ZkM],Zb q ?_⟩
  simp only[Zmz,Za,hm,List.length_map,EVA,seval,Zd,men]
  try rfl
theorem ZmA{sig:List TControl}{a b:TBigraph}(ha:bigOK sig a)(hb:bigOK sig b){roots:Int}{ss:List Int}{o:List ByteArray}{FL FR mv:Int->Int}(hs:ss.length<=4)(ho:o.length<=100)(hos:∀ y∈o,y.size<=4294967290):Zl 4294967290 (Zan a b roots ss o FL FR mv):=by
 have sa:=ha.small;have sb:=hb.small
 have a1:=sa.nodes;have a2:=sa.sites;have a3:=sa.inner
 have b1:=sb.nodes;have b2:=sb.sites;have b3:=sb.inner
 refine⟨by simp only[Zan,List.length_map,List.length_append];omega,fun y hy=>?_,by simp only[Zan,List.length_map,List.length_append];omega,by show o.length<=_;omega,hos,by simp only[Zan,List.length_map];omega,fun y hy=>?_⟩
 ·rcases List.mem_append.1 hy with hy | hy
  ·obtain⟨x,hx,rfl⟩:=List.mem_map.1 hy
   have:=sa.links x hx
   simp only[Xi,ZkI,List.length_map]
   omega
  ·obtain⟨x,hx,rfl⟩:=List.mem_map.1 hy
   have:=sb.links x hx
   simp only[Xi,List.length_map]
   omega
 ·obtain⟨w,hw,rfl⟩:=List.mem_map.1 hy
  have hn:w.name∈inn b:=List.mem_map.2 ⟨w,hw,rfl⟩
  have:=Qg hb.inn hn
  simp only[Qe,ZaX]
  omega
def sm(n:Int):Prop:=-1000<=n/\n<=1000
theorem ZbR{n:Int}(h:sm n):Xt .i64 n:=by
 unfold sm at h
 rw[Ze];omega
theorem ZmB{sig:List TControl}{a b:TBigraph}(ha:bigOK sig a)(hb:bigOK sig b)(fa:Zr a)(fb:Zr b){roots:Int}{ss:List Int}{o:List ByteArray}{FL FR mv:Int->Int}(hr:sm roots)(hs:∀ p∈ss,sm p)(hL:∀ l,Jk a l->sm (FL l))(hR:∀ l,Jk b l->sm (FR l))(hm:∀ p,-b.roots<=p->p<b.nodes.length->sm (mv p)):Zr (Zan a b roots ss o FL FR mv):=by
 have ea:=ha.edges;have eb:=hb.edges
 refine⟨ZbR hr,fun y hy=>?_,fun p hp=>?_,by show Xt .i64 (a.edges+b.edges);rw[Ze];omega,fun y hy=>?_⟩
 ·rcases List.mem_append.1 hy with hy | hy
  ·obtain⟨x,hx,rfl⟩:=List.mem_map.1 hy
   have hq:=fa.2.1 x hx
   obtain⟨i,hi,hie⟩:=List.getElem_of_mem hx
   refine⟨hq.1,hq.2.1,fun l hl=>?_⟩
   obtain⟨l0,hl0,rfl⟩:=List.mem_map.1 hl
   exact ZbR (hL l0 ((ha.nodes i hi).links l0 (by rw[hie];exact hl0)))
  ·obtain⟨x,hx,rfl⟩:=List.mem_map.1 hy
   have hq:=fb.2.1 x hx
   have hbp:=Zi0 hb hx
   obtain⟨i,hi,hie⟩:=List.getElem_of_mem hx
   refine⟨hq.1,ZbR (hm _ (Y3 hb.roots.1 (by rw[<-hie];exact(hb.nodes i hi).par)) hbp.1),fun l hl=>?_⟩
   obtain⟨l0,hl0,rfl⟩:=List.mem_map.1 hl
   exact ZbR (hR l0 ((hb.nodes i hi).links l0 (by rw[hie];exact hl0)))
 ·rcases List.mem_append.1 hp with hp | hp
  ·exact ZbR (hs p hp)
  ·obtain⟨x,hx,rfl⟩:=List.mem_map.1 hp
   exact ZbR (hm _ (Y3 hb.roots.1 (hb.sites x hx)) (ZbQ hb hx))
 ·obtain⟨w,hw,rfl⟩:=List.mem_map.1 hy
  exact ZbR (hR _ (hb.inner w hw))
theorem ZtM{sig:List TControl}{a b:TBigraph}(ha:bigOK sig a)(hb:bigOK sig b)(hf:(a.sites.length:Int)=b.roots){p:Int}(h1:-b.roots<=p)(h2:p<b.nodes.length):sm (ZeI a.nodes.length a.sites p):=by
 have a1:=ha.small.nodes;have b1:=hb.small.nodes
 have ra:=ha.roots
 unfold ZeI sm
 split
 ·rename_i h
  have hl:(-1-p).toNat<a.sites.length:=by omega
  have hg:g0 a.sites (-1-p).toNat=a.sites[(-1-p).toNat]:=by simp [hl]
  have hm:=List.getElem_mem hl
  have:=Y3 ra.1 (ha.sites _ hm)
  have:=ZbQ ha hm
  rw[hg];omega
 ·omega
theorem Zqt{sig:List TControl}{a:TBigraph}(ha:bigOK sig a){e:Int}(he:0<=e/\e<=100){o:List ByteArray}(ho:o.length<=100){l:Int}(hl:Jk a l):sm (g0 (ZkL a e o) l.toNat):=by
 have ea:=ha.edges
 unfold ZkL sm
 rcases Xa hl with ⟨h0,h1⟩ | ⟨i,hi,rfl⟩
 ·rw[Zj1 h0 h1];omega
 ·rw[Zj2 ea.1 hi]
  have:=Zj3 (l:=o) (s:=a.outer[i])
  have:=Zj4 (l:=o) (s:=a.outer[i])
  omega
theorem ZmC{sig:List TControl}{a b:TBigraph}(ha:bigOK sig a)(hb:bigOK sig b){g:ByteArray->Int}(hg:∀ x∈b.outer,sm (g x)){l:Int}(hl:Jk b l):sm (g0 (Zm3 a b g) l.toNat):=by
 have ea:=ha.edges;have eb:=hb.edges
 unfold Zm3
 rcases Xa hl with ⟨h0,h1⟩ | ⟨i,hi,rfl⟩
 ·rw[Zj1 h0 h1]
  unfold sm
  omega
 ·rw[Zj2 eb.1 hi]
  exact hg _ (List.getElem_mem hi)
end Go.Fd

/-
  ONE BIGRAPH UNDER ANOTHER, THE PROGRAM'S SIDE: joined. Own work.
-/
namespace Go.Fd
set_option maxRecDepth 20000
theorem Zh0(e:Int×ByteArray)(lvl:Nat)(S:Sto):Sem Proofs.Tryz.prog Vr lvl [oE e] S (oE e) S:=by
 refine Zc Zee (by simp [low,men,Zd]) ?_
 simp only[DK,EVA,seval,Zd,men]
theorem Zh1(a:TBigraph)(e:Int×ByteArray)(nf:FuncId)(cs:List (List Tr))(nm:ByteArray->Int×ByteArray)(h1:-4294967296<=e.1/\e.1<=4294967296)(h2:0<=a.edges/\a.edges<=4294967296)(hN:e.2≠e0S->∀ lvl S,Sem Proofs.Tryz.prog nf lvl (iS e.2::cs.map IV.ta) S (oE (nm e.2)) S)
  (lvl:Nat) (S:Sto) (id:Oid) (hid:id.1<lvl) (sN:S id=some (.bx [.fn nf (cs.map IV.ta)])):Sem Proofs.Tryz.prog JZ lvl [oE e,.ta (Za a),.ab id 0] S (oE (Zc5 a nm e)) S:=by
 have hne:id.1≠lvl:=by omega
 refine Zc Zef (by simp [low,men,Zd]) ?_
 simp only[DL,Za,Z6 hne,sN,EVA,seval,Zd,men]
 unfold Zc5
 by_cases h:e.2=e0S
 ·rw[if_pos h]
  have h':e.2 = { data:=#[] }:=h
  simp only[h',EVA,seval,Zd,men]
  rw[Ze];omega
 ·rw[if_neg h]
  have h':¬ e.2 = { data:=#[] }:=h
  simp only[h',Z6 hne,sN,WR,J6,EVA,seval,Zd,men]
  refine Zb (hN h) ?_
  simp only[EVA,seval,Zd,men]
def ZoO(n:Int)(pl:Int->Int)(p:Int):Int:=if 0<=p then p+n else pl p
theorem Zh2(a:TBigraph)(p:Int)(pf:FuncId)(cs:List (List Tr))(pl:Int->Int)(hn:a.nodes.length<=4294967296)(hp:-4294967296<=p/\p<=4294967296)(hP:p<0->∀ lvl S,Sem Proofs.Tryz.prog pf lvl (iI p::cs.map IV.ta) S (iI (pl p)) S)(lvl:Nat)(S:Sto):Sem Proofs.Tryz.prog Xf lvl [.ag ((Za a).map .tr),iI p,.fn pf (cs.map IV.ta)] S (iI (ZoO a.nodes.length pl p)) S:=by
 refine Zc ZhF trivial ?_
 simp only[ZcQ,Za,List.length_map,EVA,seval,Zd,men]
 unfold ZoO
 by_cases h:0<=p
 ·rw[if_pos h]
  simp only[h,List.length_map,EVA,seval,Zd,men]
  rw[Ze];omega
 ·rw[if_neg h]
  simp only[h,WR,J6,EVA,seval,Zd,men]
  refine Zb (hP (by omega)) ?_
  simp only[EVA,seval,Zd,men]
theorem Zi5{id:Oid}:∀{l:List (List Tr)},scrs id (l.map IV.ta)=l.map IV.ta
 | []=>rfl
 | x::r=>by
  simp only[List.map_cons,scrs,scr]
  rw[Zi5]
theorem ZkO(sig:List TControl)(a b:TBigraph)(ha:bigOK sig a)(hb:bigOK sig b)(roots:Int)(ss:List Int)(hss:ss.length<=1000)(o:List ByteArray)(ho:o.length<=1000)(pf:FuncId)(ps:List (List Tr))(pl:Int->Int)(nf:FuncId)(ns:List (List Tr))(nm:ByteArray->Int×ByteArray)
  (hP:∀ p,-b.roots<=p->p<0->∀ lvl S,Sem Proofs.Tryz.prog pf lvl (iI p::ps.map IV.ta) S (iI (pl p)) S) (hN:∀ x∈b.outer,∀ lvl S,Sem Proofs.Tryz.prog nf lvl (iS x::ns.map IV.ta) S (oE (nm x)) S)
  (lvl:Nat) (S:Sto):Sem Proofs.Tryz.prog Vd lvl [.ag ((Za a).map .tr),.ag ((Za b).map .tr),iI roots,tI ss,.tr (.sl (rS o)),.fn pf (ps.map IV.ta),.fn nf (ns.map IV.ta)] S
   (.ag [iI roots,.ow 3 ((Zan a b roots ss (Q0 o) (ZeH a (a.edges+b.edges) (Q0 o) fun x=>x) (ZeH b (a.edges+b.edges) (Q0 o) (Zc5 a nm)) (ZoO a.nodes.length pl)).nodes.map ZF) (decide (b.nodes.length=0)),.ow 1 (rI (ss++b.sites.map (ZoO a.nodes.length pl))) true,iI (a.edges+b.edges),.ow 1 (rS (Q0 o)) true,.tr (.sl ((b.inner.map (ZaX (ZeH b (a.edges+b.edges) (Q0 o) (Zc5 a nm)))).map ZC))]) S:=by
 have ra:=ha.roots;have rb:=hb.roots
 have ea:=ha.edges;have eb:=hb.edges
 have sa:=ha.small;have sb:=hb.small
 have a1:=sa.nodes;have a2:=sa.sites;have a3:=sa.inner;have a4:=sa.outer
 have b1:=sb.nodes;have b2:=sb.sites;have b3:=sb.inner;have b4:=sb.outer
 have lnA:∀ x∈a.nodes,∀ l∈x.links,Jk a l:=fun x hx l hl=>by
  obtain⟨k,hk,rfl⟩:=List.getElem_of_mem hx
  exact(ha.nodes k hk).links l hl
 have lnB:∀ x∈b.nodes,∀ l∈x.links,Jk b l:=fun x hx l hl=>by
  obtain⟨k,hk,rfl⟩:=List.getElem_of_mem hx
  exact(hb.nodes k hk).links l hl
 obtain⟨FL,hFL⟩:∃ F,F=ZeH a (a.edges+b.edges) (Q0 o) fun x=>x:=⟨_,rfl⟩
 obtain⟨FR,hFR⟩:∃ F,F=ZeH b (a.edges+b.edges) (Q0 o) (Zc5 a nm):=⟨_,rfl⟩
 obtain⟨mv,hmv⟩:∃ F,F=ZoO a.nodes.length pl:=⟨_,rfl⟩
 have q1:=ZcU a (a.edges+b.edges) o Vr [] (fun x=>x) ea.1 (UU (by omega) (Zag ha)) (by omega) (by omega) (by omega) lnA ha.inner (fun l _ lvl S=>Zh0 (Zdx a l) lvl S)
 have hR:∀ loc:List (Nat×Ob),lkO 416 loc=some (.bx [.fn nf (ns.map IV.ta)])->∀ l' S',Zd (ZfE (ZG lvl loc S) S' l') [.ag ((Za b).map .tr),iI (a.edges+b.edges),.tr (.sl (rS o)),.fn JZ [.ta (Za a),.ab (lvl,416) 0]]->Sem Proofs.Tryz.prog ZO l' [.ag ((Za b).map .tr),iI (a.edges+b.edges),.tr (.sl (rS o)),.fn JZ [.ta (Za a),.ab (lvl,416) 0]] S' (Zg (Zmk b FR (a.edges+b.edges) (Q0 o))) S':=fun loc h1 l' S' hs=>by
  have hc:Zd (Zko (ZG lvl loc S) S' l') [.ta (Za a),.ab (lvl,416) 0]:=by
   have h2:=(ZhW hs).2.2.2.1
   simp only[men] at h2
   exact h2
  rw[hFR]
  exact ZbP b (a.edges+b.edges) o JZ _ (ZG lvl loc S) (Zc5 a nm) eb.1 (UU (by omega) (Zag hb)) (by omega) (by omega) (by omega) lnB hb.inner (fun l hl l'' S'' hs2=>by
   have hz:=hs2.2.1
   simp only[men] at hz
   refine Zh1 a (Zdx b l) nf ns nm (Zn6 eb hl) (by omega) (fun hne=>hN _ ?_) l'' S'' (lvl,416) hz.1 (hz.2 _ (by rw[Yc];exact h1))
   rcases Xa hl with ⟨g0,g1⟩ | ⟨i,hi,rfl⟩
   ·rw[ZhS g1] at hne
    exact absurd rfl hne
   ·rw[ZhT hi]
    exact List.getElem_mem hi) l' S' hc
 rw[<-hFL] at q1
 rw[<-hFL,<-hFR,<-hmv]
 simp only[Za,Zg,Zmk,List.map_cons,List.map_nil] at q1 hR
 obtain⟨N1,hN1⟩:∃ l,l=a.nodes.map (fun x=>({ control:=x.control,parent:=x.parent,links:=List.map FL x.links }:TNode)):=⟨_,rfl⟩
 obtain⟨B1,hB1⟩:∃ l,l=b.nodes.map (fun x=>({ control:=x.control,parent:=x.parent,links:=List.map FR x.links }:TNode)):=⟨_,rfl⟩
 obtain⟨B2,hB2⟩:∃ l,l=b.nodes.map (fun x=>({ control:=x.control,parent:=mv x.parent,links:=List.map FR x.links }:TNode)):=⟨_,rfl⟩
 have lN1:N1.length=a.nodes.length:=by rw[hN1,List.length_map]
 have lB1:B1.length=b.nodes.length:=by rw[hB1,List.length_map]
 have lB2:B2.length=b.nodes.length:=by rw[hB2,List.length_map]
 simp only[<-hN1] at q1
 have hW1:b.inner.map (fun w=>({ name:=w.name,link:=FR w.link }:TWire))=b.inner.map (ZaX FR):=rfl
 simp only[<-hB1,hW1] at hR
 refine Zc Zgq (by simp [low,men,Zd]) ?_
 simp only[ZbE,Za,EVA,seval,Zd,men]
 refine⟨by rw[Ze];omega,?_⟩
 refine Zb q1 ?_
 simp only[lN1,List.length_map,EVA,seval,Zd,men]
 refine Zbi (hR _ rfl) ?_
 simp only[lN1,lB1,List.length_map,EVA,seval,Zd,men]
 refine Zb (ZaU ss (by omega)) ?_
 simp only[lN1,lB1,List.length_map,EVA,seval,Zd,men]
 refine ZL (α:=Unit) b.nodes.length (fun j _=>[(51,iI j)]) (fun j _=>[(576,.bx [iI roots,.hd (lvl,992) [] 0 (a.nodes.length+j) none (a.nodes.length+j),.hd (lvl,1312) [] 0 ss.length none ss.length,iI (a.edges+b.edges),.hd (lvl,994) [] 0 (Q0 o).length none (Q0 o).length,.tr (.sl ((b.inner.map (ZaX FR)).map ZC))]),(992,.ar 3 ((N1++B2.take j).map ZF) (decide (j=0)) (a.nodes.length+j) 0)]) (fun _ _=>True) () (by simp only[JN,EVA,seval,Zd,men]) (by simp only[hN1,EVA,seval,Zd,men];simp) trivial ?_
 intro j _ hj _
 simp only[List.length_map,EVA,seval,Zd,men]
 refine Zo (fun hlt=>?_) (fun hge=>?_)
 ·have hja:j<b.nodes.length:=by omega
  have ga:(B1.map ZF)[j]? = some [tv b.nodes[j].control,tv b.nodes[j].parent,Tr.sl (rI (b.nodes[j].links.map FR))]:=by
   rw[hB1,List.getElem?_map,List.getElem?_map,List.getElem?_eq_getElem hja]
   rfl
  have hx:=List.getElem_mem hja
  have hbp:=Zi0 hb hx
  have hge:=Y3 rb.1 (hb.nodes j hja).par
  simp only[ga,hja,JN,WR,J6,List.length_map,EVA,seval,Zd,men]
  have q3:=Zh2 a b.nodes[j].parent pf ps pl (by omega) (by omega) (fun h=>hP _ hge h)
  rw[<-hmv] at q3
  simp only[Za,List.map_cons,List.map_nil] at q3
  refine Zb q3 ?_
  have hs:(N1++B2.take j).map ZF++[[tv b.nodes[j].control,tv (mv b.nodes[j].parent),Tr.sl (rI (b.nodes[j].links.map FR))]]=(N1++B2.take (j+1)).map ZF:=by
   have hj2:j<B2.length:=by omega
   rw[List.take_succ_eq_append_getElem hj2,<-List.append_assoc,List.map_append (l₂:=[B2[j]])]
   simp [hB2,ZF]
  have hl:(N1++B2.take j).length=a.nodes.length+j:=by rw[List.length_append,List.length_take];omega
  simp only[hs,hl,Bool.and_false,Zi5,JN,WR,J6,List.length_map,EVA,seval,Zd,men]
  exact⟨by omega,by rw[Ze];omega,Zf () hja rfl trivial⟩
 ·have:j=b.nodes.length:=by omega
  subst this
  rw[show B2.take b.nodes.length=B2 from by rw[<-lB2,List.take_length]]
  refine ZL (α:=Unit) b.sites.length (fun j _=>[(71,iI j)]) (fun j _=>[(576,.bx [iI roots,.hd (lvl,992) [] 0 (a.nodes.length+b.nodes.length) none (a.nodes.length+b.nodes.length),.hd (lvl,1312) [] 0 (ss.length+j) none (ss.length+j),iI (a.edges+b.edges),.hd (lvl,994) [] 0 (Q0 o).length none (Q0 o).length,.tr (.sl ((b.inner.map (ZaX FR)).map ZC))]),(1312,.ar 1 (rI (ss++(b.sites.take j).map mv)) true (ss.length+j) 0)]) (fun _ _=>True) () (by simp only[JN,EVA,seval,Zd,men]) (by simp only[EVA,seval,Zd,men];simp) trivial ?_
  intro j _ hj _
  simp only[List.length_map,EVA,seval,Zd,men]
  refine Zo (fun hlt=>?_) (fun hge=>?_)
  ·have hja:j<b.sites.length:=by omega
   have ga:=XN hja
   have e0:g0 b.sites j=b.sites[j]:=by simp [hja]
   have hx:=List.getElem_mem hja
   have hbp:=ZbQ hb hx
   have hge:=Y3 rb.1 (hb.sites _ hx)
   rw[<-e0] at hbp hge
   simp only[ga,hja,JN,WR,J6,List.length_map,EVA,seval,Zd,men]
   have q3:=Zh2 a (g0 b.sites j) pf ps pl (by omega) (by omega) (fun h=>hP _ hge h)
   rw[<-hmv] at q3
   simp only[Za,List.map_cons,List.map_nil] at q3
   refine Zb q3 ?_
   have hs:rI (ss++(b.sites.take j).map mv)++[[tv (mv (g0 b.sites j))]]=rI (ss++(b.sites.take (j+1)).map mv):=by
    rw[List.take_succ_eq_append_getElem hja,List.map_append,<-List.append_assoc,Xo (ss++_),e0]
    rfl
   have hl:(ss++(b.sites.take j).map mv).length=ss.length+j:=by rw[List.length_append,List.length_map,List.length_take];omega
   simp only[hs,hl,Bool.and_false,Zi5,JN,WR,J6,List.length_map,EVA,seval,Zd,men]
   exact⟨by omega,by rw[Ze];omega,Zf () hja rfl trivial⟩
  ·have:j=b.sites.length:=by omega
   subst this
   rw[List.take_length]
   exact⟨by rw[List.length_append];omega,by rw[List.length_append,List.length_map],by rw[hN1,hB2];rfl⟩
abbrev Zx6(b:TBigraph)(u:Bool):IV:=.ag [iI b.roots,.ow 3 (b.nodes.map ZF) u,.ow 1 (rI b.sites) true,iI b.edges,.ow 1 (rS b.outer) true,.tr (.sl (b.inner.map ZC))]
theorem Zex(sig:List TControl)(a b X:TBigraph)(ha:bigOK sig a)(hb:bigOK sig b)(roots:Int)(ss:List Int)(hss:ss.length<=1000)(o:List ByteArray)(ho:o.length<=1000)(pf:FuncId)(ps:List (List Tr))(pl:Int->Int)(nf:FuncId)(ns:List (List Tr))(nm:ByteArray->Int×ByteArray)
  (hP:∀ p,-b.roots<=p->p<0->∀ lvl S,Sem Proofs.Tryz.prog pf lvl (iI p::ps.map IV.ta) S (iI (pl p)) S) (hN:∀ x∈b.outer,∀ lvl S,Sem Proofs.Tryz.prog nf lvl (iS x::ns.map IV.ta) S (oE (nm x)) S)
  (hX:Zan a b roots ss (Q0 o) (ZeH a (a.edges+b.edges) (Q0 o) fun x=>x) (ZeH b (a.edges+b.edges) (Q0 o) (Zc5 a nm)) (ZoO a.nodes.length pl)=X)
  (lvl:Nat) (S:Sto):Sem Proofs.Tryz.prog Vd lvl [.ag ((Za a).map .tr),.ag ((Za b).map .tr),iI roots,tI ss,.tr (.sl (rS o)),.fn pf (ps.map IV.ta),.fn nf (ns.map IV.ta)] S (Zx6 X (decide (b.nodes.length=0))) S:=by
 subst hX
 exact ZkO sig a b ha hb roots ss hss o ho pf ps pl nf ns nm hP hN lvl S
end Go.Fd

/-
  A BIGRAPH AFTER ANOTHER: BOTH SIDES. Own work.
-/
namespace Go.Fd
set_option maxRecDepth 20000
theorem Zqu{a:TBigraph}:ZoO a.nodes.length (fun p=>g0 a.sites (-1-p).toNat)=Zuh a:=rfl
theorem Ze9(a:TBigraph)(p:Int)(hp:-4294967296<=p/\p<0)(hl:(-1-p).toNat<a.sites.length)(lvl:Nat)(S:Sto):Sem Proofs.Tryz.prog YC lvl [iI p,.ta (Za a)] S (iI (g0 a.sites (-1-p).toNat)) S:=by
 obtain⟨k,hk⟩:∃ k:Nat,-1-p=k:=⟨(-1-p).toNat,by omega⟩
 rw[hk] at hl ⊢
 rw[Int.toNat_natCast] at hl ⊢
 have ga:=XN hl
 refine Zc Zcu trivial ?_
 simp only[Ul,Za,hk,ga,hl,EVA,seval,Zd,men]
 rw[Ze];omega
theorem Zfa(sig:List TControl)(a:TBigraph)(s:ByteArray)(ha:bigOK sig a)(hs:s∈inn a)(lvl:Nat)(S:Sto):Sem Proofs.Tryz.prog YD lvl [iS s,.ta (Za a),.ta [Tr.sl (rS (inn a))]] S (oE (inE a s)) S:=by
 have ea:=ha.edges
 have sa:=ha.small
 have a3:=sa.inner;have a4:=sa.outer
 obtain⟨i,hi,rfl⟩:=List.getElem_of_mem hs
 have hi2:i<a.inner.length:=by rw[<-Yr];exact hi
 have e:(inn a)[i]=(a.inner[i]).name:=by simp [inn]
 have h1:=ZoI (Zdy ha.inn) hi
 have hat:=Zj7 ha hi2
 have ga:=U7 (c:=ZC) hi2
 refine Zc Zcv (by simp [low,men,Zd]) ?_
 simp only[Um,Za,EVA,seval,Zd,men]
 refine Zb (Zfx (inn a) (inn a)[i] (by rw[Yr];omega)) ?_
 rw[h1]
 simp only[ga,hi2,ZC,Za,EVA,seval,Zd,men]
 have q:=ZhU a (a.inner[i]).link ea.1 (ha.inner _ (List.getElem_mem hi2)) (by omega) (by omega)
 simp only[Za,List.map_cons,List.map_nil] at q
 refine Zb q ?_
 have e2:inE a (inn a)[i]=Zdx a (a.inner[i]).link:=by
  unfold inE
  rw[e,hat]
  rfl
 rw[e2]
 simp only[EVA,seval,Zd,men]
theorem Zh3(sig:List TControl)(a b:TBigraph)(ha:bigOK sig a)(hb:bigOK sig b)(hf:Zc6 a b)(lvl:Nat)(S:Sto):Sem Proofs.Tryz.prog Q6 lvl [.ag ((Za a).map .tr),.ag ((Za b).map .tr)] S (.ag ((Za (QW a b)).map .tr)) S:=by
 have ra:=ha.roots;have rb:=hb.roots
 have sa:=ha.small;have sb:=hb.small
 have a2:=sa.sites;have a3:=sa.inner;have a4:=sa.outer
 have qj:=Zex sig a b (QW a b) ha hb a.roots [] (by simp) a.outer (by omega) YC [Za a] (fun p=>g0 a.sites (-1-p).toNat) YD [Za a,[Tr.sl (rS (inn a))]] (inE a) (fun p h1 h2 lvl S=>Ze9 a p (by omega) (by have:=hf.1;omega) lvl S) (fun x hx lvl S=>Zfa sig a x ha (by rw[hf.2];exact hx) lvl S) (by rw[Zqu];exact Zqs ha hb hf.2)
 simp only[Za,Zx6,List.map_cons,List.map_nil] at qj
 refine Zc Zeb (by simp [Za,low,men,Zd]) ?_
 simp only[DH,Za,EVA,seval,Zd,men]
 have q1:=YQ a (by omega)
 simp only[Za,List.map_cons,List.map_nil] at q1
 refine Zb q1 ?_
 simp only[Za,List.length_map,EVA,seval,Zd,men]
 refine Zb qj ?_
 simp only[Za,List.length_map,EVA,seval,Zd,men]
theorem Zi6{sig:List TControl}{a b:TBigraph}(ha:bigOK sig a)(hb:bigOK sig b){o:List ByteArray}(ho:o.length<=100):(∀ l,Jk a l->sm (g0 (ZkL a (a.edges+b.edges) o) l.toNat)):=fun l hl=>by
 have ea:=ha.edges;have eb:=hb.edges
 exact Zqt ha (by omega) ho hl
theorem Zi7{sig:List TControl}{a b:TBigraph}(ha:bigOK sig a)(hb:bigOK sig b):Zl 4294967290 (QW a b):=by
 have a4:=ha.small.outer
 exact ZmA ha hb (by simp) (by omega) fun y hy=>by have:=Qg ha.outer hy;omega
theorem ZgK{sig:List TControl}{a b:TBigraph}(ha:bigOK sig a)(hb:bigOK sig b)(hf:Zc6 a b)(fa:Zr a)(fb:Zr b):Zr (QW a b):=by
 have a4:=ha.small.outer
 have ra:=ha.roots
 refine ZmB ha hb fa fb (by unfold sm;omega) (by simp) (fun l hl=>Zi6 ha hb (by omega) l hl) (fun l hl=>ZmC ha hb (fun x hx=>?_) hl) fun p h1 h2=>ZtM ha hb hf.1 h1 h2
 rw[<-hf.2] at hx
 obtain⟨i,hi,rfl⟩:=List.getElem_of_mem hx
 have hi2:i<a.inner.length:=by rw[<-Yr];exact hi
 have e:(inn a)[i]=(a.inner[i]).name:=by simp [inn]
 unfold inL
 rw[e,Zj7 ha hi2]
 exact Zi6 ha hb (by omega) _ (ha.inner _ (List.getElem_mem hi2))
def VW(sig:List TControl)(a b:TBigraph):Prop:=bigOK sig a/\bigOK sig b/\Zc6 a b/\bigOK sig (QW a b)
open Classical in
noncomputable def Y4(sig:List TControl)(a b:TBigraph):TBigraph:=if VW sig a b then QW a b else YO
noncomputable def Y5(sig:List TControl)(a b:TBigraph):Bool:=dc (VW sig a b)
theorem Zx7:ZP Proofs.Tryz.prog JF Zx1=true:=by kernel_rfl
theorem ZkP(a b:List ByteArray)(ha:a.length<=4294967296)(lvl:Nat)(S:Sto):Sem Proofs.Tryz.prog JF lvl [.tr (.sl (rS a)),.tr (.sl (rS b))] S (iB (dc (a=b))) S:=by
 have h:=Zqf Zx7 Zqe a b (by omega) lvl S
 have e:∀ i:Decidable (a=b),@decide (a=b) i=dc (a=b):=fun i=>(@YN _ i).symm
 rw[e] at h
 exact h
theorem Zn8(a b:TBigraph)(h1:a.sites.length<=4294967290)(h2:a.inner.length<=4294967290)(h3:b.outer.length<=4294967290)(lvl:Nat)(S:Sto):Sem Proofs.Tryz.prog UM lvl [.ag ((Za a).map .tr),.ag ((Za b).map .tr)] S (iB (dc (Zc6 a b))) S:=by
 refine Zc ZiL trivial ?_
 simp only[Zea,Za,List.length_map,EVA,seval,Zd,men]
 by_cases hl:(a.sites.length:Int)=b.roots
 ·simp only[hl,EVA,seval,Zd,men]
  have q1:=YQ a (by omega)
  simp only[Za,List.map_cons,List.map_nil] at q1
  refine Zb q1 ?_
  simp only[Za,List.length_map,EVA,seval,Zd,men]
  refine Zb (ZkP (inn a) b.outer (by rw[Yr];omega)) ?_
  have e:dc (inn a=b.outer)=dc (Zc6 a b):=Y1 ⟨fun h=>⟨hl,h⟩,fun h=>h.2⟩
  rw[e]
  simp only[Za,List.length_map,EVA,seval,Zd,men]
  try rfl
 ·have hne:¬ Zc6 a b:=fun e=>hl e.1
  rw[Zh hne]
  simp only[hl,EVA,seval,Zd,men]
theorem Qh(sig:List TControl)(a b:TBigraph)(hn:sig.length<=4294967296)(hbs:∀ y∈sig,Zy 4294967296 y)(hba:Zl 4294967296 a)(hbb:Zl 4294967296 b)(fa:Zr a)(fb:Zr b)(lvl:Nat)(S:Sto):Sem Proofs.Tryz.prog JM lvl [.tr (.sl (sig.map Zk)),.ag ((Za a).map .tr),.ag ((Za b).map .tr)] S (.tu [Zg (Y4 sig a b),iB (Y5 sig a b)]) S:=by
 refine Zc Di (by simp [Zg,low,men,Zd]) ?_
 simp only[QX,Za,EVA,seval,Zd,men]
 have i1:=Je sig a hn hbs hba
 have i2:=Je sig b hn hbs hbb
 simp only[Za,List.map_cons,List.map_nil] at i1 i2
 refine Zb i1 ?_
 unfold Y4 Y5
 cases h1:dc (bigOK sig a)
 ·have hno:¬ VW sig a b:=fun g=>dc_not.1 h1 g.1
  rw[if_neg hno,Zh hno]
  simp only[EVA,seval,Zd,men]
  rfl
 have hA:=dc_iff.1 h1
 simp only[Za,EVA,seval,Zd,men]
 refine Zb i2 ?_
 cases h2:dc (bigOK sig b)
 ·have hno:¬ VW sig a b:=fun g=>dc_not.1 h2 g.2.1
  rw[if_neg hno,Zh hno]
  simp only[EVA,seval,Zd,men]
  rfl
 have hB:=dc_iff.1 h2
 have sa:=hA.small;have sb:=hB.small
 have a2:=sa.sites;have a3:=sa.inner;have b4:=sb.outer
 simp only[Za,EVA,seval,Zd,men]
 have qf:=Zn8 a b (by omega) (by omega) (by omega)
 simp only[Za,List.map_cons,List.map_nil] at qf
 refine Zb qf ?_
 cases h3:dc (Zc6 a b)
 ·have hno:¬ VW sig a b:=fun g=>dc_not.1 h3 g.2.2.1
  rw[if_neg hno,Zh hno]
  simp only[EVA,seval,Zd,men]
  rfl
 have hF:=dc_iff.1 h3
 simp only[Za,EVA,seval,Zd,men]
 have qc:=Zh3 sig a b hA hB hF
 simp only[Za,List.map_cons,List.map_nil] at qc
 refine Zb qc ?_
 simp only[Za,List.length_map,EVA,seval,Zd,men]
 have qv:=ZhY sig (QW a b) hn hbs (Zi7 hA hB) (ZgK hA hB hF fa fb)
 simp only[Za,List.map_cons,List.map_nil] at qv
 refine Zb qv ?_
 cases h6:dc (bigOK sig (QW a b))
 ·have hno:¬ VW sig a b:=fun g=>dc_not.1 h6 g.2.2.2
  rw[if_neg hno,Zh hno,if_neg (dc_not.1 h6)]
  simp only[Zg,List.length_map,EVA,seval,Zd,men]
  rfl
 ·have hyes:VW sig a b:=⟨hA,hB,hF,dc_iff.1 h6⟩
  rw[if_pos hyes,ZK hyes,if_pos (dc_iff.1 h6)]
  simp only[Zg,List.length_map,EVA,seval,Zd,men]
theorem ZbS(sig:List TControl)(a b:TBigraph)(hn:sig.length<=4294967296)(hbs:∀ y∈sig,Zy 4294967296 y)(hba:Zl 4294967296 a)(hbb:Zl 4294967296 b)(fa:Zr a)(fb:Zr b)(lvl:Nat)(S:Sto):Sem Proofs.Tryz.prog YY lvl [.tr (.sl (sig.map Zk)),.ag ((Za a).map .tr),.ag ((Za b).map .tr)] S (.tu [@ite IV (VW sig a b) (Classical.propDecidable _) (.ag ((Za (QW a b)).map .tr)) (Zg YO),iB (dc (VW sig a b))]) S:=by
 refine Zc Zc1 (by split <;> simp [Zg,Za,low,men,Zd]) ?_
 simp only[U5,Za,EVA,seval,Zd,men]
 have i1:=Vv sig a hn hbs hba fa
 have i2:=Vv sig b hn hbs hbb fb
 simp only[Za,List.map_cons,List.map_nil] at i1 i2
 refine Zb i1 ?_
 cases h1:dc (bigOK sig a)
 ·have hno:¬ VW sig a b:=fun g=>dc_not.1 h1 g.1
  rw[if_neg hno,Zh hno]
  simp only[EVA,seval,Zd,men]
  rfl
 have hA:=dc_iff.1 h1
 simp only[Za,EVA,seval,Zd,men]
 refine Zb i2 ?_
 cases h2:dc (bigOK sig b)
 ·have hno:¬ VW sig a b:=fun g=>dc_not.1 h2 g.2.1
  rw[if_neg hno,Zh hno]
  simp only[EVA,seval,Zd,men]
  rfl
 have hB:=dc_iff.1 h2
 have sa:=hA.small;have sb:=hB.small
 have a2:=sa.sites;have a3:=sa.inner;have b4:=sb.outer
 simp only[Za,EVA,seval,Zd,men]
 have qf:=ZkN a b (by omega) (by omega) (by omega)
 simp only[Za,List.map_cons,List.map_nil] at qf
 refine Zb qf ?_
 cases h3:dc (Zc6 a b)
 ·have hno:¬ VW sig a b:=fun g=>dc_not.1 h3 g.2.2.1
  rw[if_neg hno,Zh hno]
  simp only[EVA,seval,Zd,men]
  rfl
 have hF:=dc_iff.1 h3
 simp only[Za,EVA,seval,Zd,men]
 have qc:=Zi4 sig a b hA hB hF
 simp only[Za,Zmz,List.map_cons,List.map_nil] at qc
 refine Zb qc ?_
 simp only[Za,List.length_map,EVA,seval,Zd,men]
 by_cases hq:bigOK sig (QW a b)
 ·have qG:=ZcV sig (QW a b) hn hbs (UU (by omega) (Zi7 hA hB)) (ZgK hA hB hF fa fb) hq
  simp only[Za,List.map_cons,List.map_nil] at qG
  have hyes:VW sig a b:=⟨hA,hB,hF,hq⟩
  rw[if_pos hyes,ZK hyes]
  refine Zb qG ?_
  simp only[Zg,Za,List.length_map,EVA,seval,Zd,men]
 ·have qG:=ZcW sig (QW a b) hn hbs (UU (by omega) (Zi7 hA hB)) (ZgK hA hB hF fa fb) hq
  simp only[Za,List.map_cons,List.map_nil] at qG
  have hno:¬ VW sig a b:=fun g=>hq g.2.2.2
  rw[if_neg hno,Zh hno]
  refine Zb qG ?_
  simp only[Zg,Za,List.length_map,EVA,seval,Zd,men]
  try rfl
end Go.Fd

/-
  ONE BIGRAPH AFTER ANOTHER AND SO ON: BOTH SIDES. Own work.
-/
namespace Go.Fd
set_option maxRecDepth 20000
abbrev gB(L:List TBigraph)(j:Nat):TBigraph:=gx YO L j
end Go.Fd

/-
  FOUNDATION 56: a function of the library that orders a row of structs by another function, in place, by the guide's contract. Own work.
-/
namespace Go.Fd
variable [Tabs]
open Go.Sort Go.Proofs Go.RowKit
section
variable {P:Program} {α:Type} [Inhabited α] {enc:α->List Value} {k:Nat}
abbrev ZoP(enc:α->List Value)(l:List α):Row:=l.map fun x=>(enc x).map .v
theorem ZbT{l:List α}{p:Pth}{es2:Row}(hp:p≠[]):getp (ZoP enc l) p≠some es2:=fun h=>by
 cases p with
 | nil=>exact hp rfl
 | cons cd q =>
  obtain⟨c,d⟩:=cd
  obtain⟨e,x,h1,h2,_⟩:=JR h
  obtain⟨n,_,rfl⟩:=List.mem_map.1 (List.mem_of_getElem? h1)
  obtain⟨v,_,hv⟩:=List.mem_map.1 (List.mem_of_getElem? h2)
  cases hv
theorem Zi8(hk:∀ x,(enc x).length=k){l:List α}:UnR k (ZoP enc l):=Zco (fun x=>(enc x).map .v) (fun x=>by rw[List.length_map,hk]) l
theorem Zh4{l:List α}:(flatK enc k l.toArray).size=l.length*k:=by simp [flatK]
theorem Zke(hk:∀ x,(enc x).length=k){l:List α}{i f:Nat}(hi:i<l.length)(hf:f<k):(flatK enc k l.toArray)[i*k+f]! = (enc l[i])[f]'(by rw[hk];exact hf):=by
 have h1:(i*k+f) / k=i:=by
  rw[Nat.mul_comm,Nat.mul_add_div (by omega),Nat.div_eq_of_lt hf,Nat.add_zero]
 have h2:(i*k+f) % k=f:=by
  rw[Nat.mul_comm,Nat.mul_add_mod,Nat.mod_eq_of_lt hf]
 have h3:i*k+f<l.length*k:=by
  have:(i+1)*k<=l.length*k:=Nat.mul_le_mul_right k hi
  rw[Nat.add_mul,Nat.one_mul] at this
  omega
 have hfl:f<(enc l[i]).length:=by rw[hk];exact hf
 simp [flatK,h3,h1,h2,hi,hfl]
theorem Zn9{F c:Array Value}{i:Nat}(h:i<F.size)(hc:i<c.size):(putCells id 0 F c)[i]? = some F[i]!:=by
 simp [putCells,hc,h]
theorem ZmD{F c:Array Value}:(putCells id 0 F c).size=c.size:=by simp [putCells]
theorem ZgL{f g:FuncId}{lvl:Nat}{S:Sto}{id:Oid}{xs ys:List α}{u:Bool}{hw ver:Nat}(hk:∀ x,(enc x).length=k)(hk0:0<k)(hc:UD P f)(hid:id.1<lvl)(hS:S id=some (.ar k (ZoP enc xs) u hw ver))
  (hsc:∀ x:α,∀ v∈enc x,Dl v=true) (hl:ys.length=xs.length) (hpos:0<xs.length)
  (h1:∀(b cap:Nat) (w:World),HoldsK enc k w b 0 xs.toArray->b<w.heap.size->Calls P f #[.slice (some ⟨b,0,none⟩) xs.length cap,.func (.func g) #[] #[]] w fun e w' => e = .returned (.tuple #[])/\∃ n os,w'=sortWorldK enc k w b 0 n ys.toArray os) :
  Sem P f lvl [.hd id [] 0 xs.length none hw,.fn g []] S (.tu []) (ZM S id (.ar k (ZoP enc ys) u hw ver)):=by
 refine⟨trivial,hc,fun hlow G w vs hok hv _=>?_⟩
 simp only[VRs] at hv
 obtain⟨v,vr,rfl,hv,v2,vr2,rfl,hv2,rfl⟩:=hv
 simp only[VR] at hv hv2
 obtain⟨vs2,rfl,hvs2⟩:=hv2
 have hv20:vs2=[]:=hvs2
 subst hv20
 obtain⟨⟨a0,c0,hv0,hlc0⟩,k2,es2,u2,hw2,ver2,hs2,_,hrel⟩:=hv
 rw[hS] at hs2;cases hs2
 obtain⟨es3,k',a,c,hg3,hkk,hun,rfl,hlc,hcap,hcap2,hor⟩:=hrel rfl
 cases hg3
 have hk1:=hkk rfl
 subst hk1
 rcases hor with hz | ⟨hz,_⟩ | ⟨b,cc,hG,rfl,hoc⟩
 ·omega
 ·exact absurd rfl hz
 ·obtain⟨o1,o2,o3,o4,o5⟩:=hok.obs _ _ hS
  have hr:=o4 [] _ (.inl rfl) rfl
  unfold Xr at hr
  rw[hG] at hr
  obtain⟨k3,cells,ty,g1,g2,g3,g4,g5,g6⟩:=hr
  have hk3:=g1 rfl
  subst hk3
  have hbs:b<w.heap.size:=by
   rcases Nat.lt_or_ge b w.heap.size with h | h
   ·exact h
   ·rw[Array.getElem?_eq_none h] at g3;cases g3
  have hH:HoldsK enc k3 w b 0 xs.toArray:=fun j hj=>by
   rw[Zh4] at hj
   obtain⟨i,f,rfl,hf⟩:∃ i f,j=i*k3+f/\f<k3:=⟨j / k3,j % k3,by rw[Nat.mul_comm];exact(Nat.div_add_mod j k3).symm,Nat.mod_lt _ hk0⟩
   have hi:i<xs.length:=by
    rcases Nat.lt_or_ge i xs.length with h | h
    ·exact h
    ·have:=Nat.mul_le_mul_right k3 h
     omega
   have hfl:f<(enc xs[i]).length:=by rw[hk];exact hf
   obtain⟨x,hx1,hx2⟩:=g6 i ((enc xs[i]).map .v) f (.v (enc xs[i])[f]) (by simp [hi]) (by simp [hfl])
   simp only[Yl] at hx2
   obtain⟨rfl,_⟩:=hx2
   refine⟨?_,by simp [World.frozen?,g3]⟩
   rw[Zke hk hi hf,cell_of_row w b (0+(i*k3+f)) cells ty (0,0) g3]
   simpa using hx1
  rw[Nat.zero_mul]
  refine(h1 b c w hH hbs).mono ?_
  rintro e w' ⟨rfl,n,os,rfl⟩
  have hsz:w.heap.size<=(sortWorldK enc k3 w b 0 n ys.toArray os).heap.size:=by simp [sortWorldK,putRowK,grow,putRow,mapBlock,Sort.ahead]
  have hheap:∀ b2,b2<w.heap.size->b2≠b->(sortWorldK enc k3 w b 0 n ys.toArray os).heap[b2]? = w.heap[b2]?:=fun b2 h2 hne=>by
   simp only[sortWorldK,putRowK,grow,putRow,mapBlock,Sort.ahead]
   rw[Array.getElem?_append_left (by simpa using h2),Array.getElem?_modify,if_neg (fun e=>hne e.symm)]
  have hrow:(sortWorldK enc k3 w b 0 n ys.toArray os).heap[b]? = some (.cells (putCells _root_.id 0 (flatK enc k3 ys.toArray) cells) ty (0,0)):=by
   simp only[sortWorldK,putRowK,grow,putRow,mapBlock,Sort.ahead]
   rw[Array.getElem?_append_left (by simpa using hbs),Array.getElem?_modify,if_pos rfl,g3]
   rfl
  have hown:∀ ob b2,ob=(.ar k3 (ZoP enc ys) u hw ver:Ob)->YU G id ob b2->b2=b:=fun ob b2 ho h=>by
   subst ho
   obtain⟨p,c2,hp,hq,hg⟩:=h
   by_cases hp0:p=[]
   ·subst hp0
    rw[hG] at hg
    cases hg
    rfl
   ·obtain⟨e2,he2⟩:=Option.isSome_iff_exists.1 hq
    exact absurd he2 (ZbT hp0)
  have hbown:YU G id (.ar k3 (ZoP enc xs) u hw ver) b:=⟨[],cc,.inl rfl,rfl,hG⟩
  have t:Trn G G S (ZM S id (.ar k3 (ZoP enc ys) u hw ver)) w (sortWorldK enc k3 w b 0 n ys.toArray os) (· = id) (fun _=>False):=by
   refine⟨fun _ _=>rfl,fun i ob hi _ hs=>⟨ob,by unfold ZM;rw[if_neg hi];exact hs,Wk.refl ob⟩,fun i ob hi hs=>⟨fun h=>h,ob,by unfold ZM at hs;rw[if_neg hi] at hs;exact hs,Wk.refl ob⟩,hsz,fun b2 h2 hn=>hheap b2 h2 fun e=>hn id _ rfl hS (e ▸ hbown),fun i ob b2 hi hs ho=>?_,fun i ob hi _ hs=>?_⟩
   ·subst hi
    unfold ZM at hs;rw[if_pos rfl] at hs;cases hs
    have:=hown _ b2 rfl ho
    subst this
    exact .inl ⟨i,_,.inl rfl,hS,hbown⟩
   ·subst hi
    rw[hS] at hs;cases hs
    refine⟨.ar k3 (ZoP enc ys) u hw ver,by unfold ZM;rw[if_pos rfl],rfl,Nat.le_refl _,Nat.le_refl _,fun p st _ hst=>⟨hst,fun es' he=>?_⟩⟩
    by_cases hp0:p=[]
    ·subst hp0
     exact⟨rfl,_,rfl,fun k' hkk _=>by rw[hkk rfl];exact Zi8 hk⟩
    ·exact absurd he (ZbT hp0)
  refine⟨_,G,rfl,t.ok hok (fun i ob hi hs=>?_) (fun i ob j ob' b hi hj _ _ _ _=>hi.trans hj.symm) (fun i cells hi hs=>?_),by simp [impv,impvs,VR,VRs],fun i ob hs=>?_,t.frm (fun _ h=>h.elim) rfl rfl rfl⟩
  ·subst hi
   simp only[impv,impvs,VL,ZM,if_true] at hs;cases hs
   refine⟨by rw[List.length_map] at *;omega,Zi8 hk,o3,fun p es2 hp he=>?_,fun p p' b1 c1 c2 hp hp' g1 g2 g3 g4=>?_⟩
   ·by_cases hp0:p=[]
    ·subst hp0
     cases he
     unfold Xr
     rw[hG]
     refine⟨k3,_,ty,fun _=>rfl,Zi8 hk,hrow,by rw[ZmD];exact g4,by rw[List.length_map] at *;omega,fun i e f t hi hf=>?_⟩
     rw[List.getElem?_map] at hi
     obtain⟨y,hy,rfl⟩:=Option.map_eq_some_iff.1 hi
     obtain⟨hil,hyy⟩:=List.getElem?_eq_some_iff.1 hy
     rw[List.getElem?_map] at hf
     obtain⟨v,hv,rfl⟩:=Option.map_eq_some_iff.1 hf
     obtain⟨hfl,hvv⟩:=List.getElem?_eq_some_iff.1 hv
     have hfk:f<k3:=by rw[<-hk y];exact hfl
     have hlt:i*k3+f<ys.length*k3:=by
      have:(i+1)*k3<=ys.length*k3:=Nat.mul_le_mul_right k3 hil
      rw[Nat.add_mul,Nat.one_mul] at this
      omega
     have hlt2:i*k3+f<cells.size:=by
      rw[List.length_map] at g5
      rw[g4]
      have:ys.length*k3<=cc*k3:=Nat.mul_le_mul_right k3 (by omega)
      omega
     refine⟨v,?_,rfl,hsc y v (List.mem_of_getElem? hv)⟩
     rw[Zn9 (by rw[Zh4];exact hlt) hlt2,Zke hk hil hfk]
     subst hyy
     rw[hvv]
    ·exact absurd he (ZbT hp0)
   ·by_cases hp0:p=[]
    ·by_cases hp1:p'=[]
     ·rw[hp0,hp1]
     ·obtain⟨e2,he2⟩:=Option.isSome_iff_exists.1 g2
      exact absurd he2 (ZbT hp1)
    ·obtain⟨e2,he2⟩:=Option.isSome_iff_exists.1 g1
     exact absurd he2 (ZbT hp0)
  ·subst hi
   simp only[impv,impvs,VL,ZM,if_true] at hs;cases hs
  ·simp only[ZM] at hs
   split at hs
   ·rename_i h;rw[h];exact hid
   ·exact hlow i ob hs
end
end Go.Fd

/-
  NUMBERS OF LIBRARY FUNCTIONS IN THIS PROGRAM, as the guide's shelf lays them (printed by lay.py out of the kit's own command).
-/
namespace Go.Proofs
open Go.Shelf
def Tryz.sortW_ren:Go.Shelf.Ren:=⟨fun | 6=>142 | 15=>158 | 14=>157 | 28=>172 | 29=>173 | 20=>164 | 21=>165 | 22=>166 | 23=>167 | 24=>168 | 25=>169 | 26=>170 | 27=>171 | 46=>179 | 47=>180 | 48=>181 | 49=>182 | 50=>183 | 57=>194 | n=>n,fun | 22=>32 | 24=>83 | 25=>146 | 3=>3 | 39=>158 | 0=>0 | 53=>170 | 55=>172 | 4=>4 | 46=>163 | 45=>162 | 50=>167 | 5=>5 | 9=>9 | 66=>181 | 70=>185 | 76=>193 | 77=>194 | n=>n,fun | n=>n⟩
theorem Tryz.sortW:Go.Proofs.SlLaysF0.n6 Tryz.prog Tryz.sortW_ren:={
  mixed:=by kernel_rfl,
  f6:=⟨"slices.SortFunc[[]loop.example/g01082/impl.Wire,loop.example/g01082/impl.Wire]",by decide,Tryz.func142.trans (congrArg some (by kernel_rfl))⟩,
  f14:=⟨"slices.pdqsortCmpFunc[loop.example/g01082/impl.Wire]",by decide,Tryz.func157.trans (congrArg some (by kernel_rfl))⟩,
  f15:=Tryz.func158.trans (congrArg some (by kernel_rfl)),
  f20:=⟨"slices.insertionSortCmpFunc[loop.example/g01082/impl.Wire]",by decide,Tryz.func164.trans (congrArg some (by kernel_rfl))⟩,
  f21:=⟨"slices.heapSortCmpFunc[loop.example/g01082/impl.Wire]",by decide,Tryz.func165.trans (congrArg some (by kernel_rfl))⟩,
  f22:=⟨"slices.breakPatternsCmpFunc[loop.example/g01082/impl.Wire]",by decide,Tryz.func166.trans (congrArg some (by kernel_rfl))⟩,
  f23:=⟨"slices.choosePivotCmpFunc[loop.example/g01082/impl.Wire]",by decide,Tryz.func167.trans (congrArg some (by kernel_rfl))⟩,
  f24:=⟨"slices.reverseRangeCmpFunc[loop.example/g01082/impl.Wire]",by decide,Tryz.func168.trans (congrArg some (by kernel_rfl))⟩,
  f25:=⟨"slices.partialInsertionSortCmpFunc[loop.example/g01082/impl.Wire]",by decide,Tryz.func169.trans (congrArg some (by kernel_rfl))⟩,
  f26:=⟨"slices.partitionEqualCmpFunc[loop.example/g01082/impl.Wire]",by decide,Tryz.func170.trans (congrArg some (by kernel_rfl))⟩,
  f27:=⟨"slices.partitionCmpFunc[loop.example/g01082/impl.Wire]",by decide,Tryz.func171.trans (congrArg some (by kernel_rfl))⟩,
  f28:=Tryz.func172.trans (congrArg some (by kernel_rfl)),
  f29:=Tryz.func173.trans (congrArg some (by kernel_rfl)),
  f46:=⟨"slices.siftDownCmpFunc[loop.example/g01082/impl.Wire]",by decide,Tryz.func179.trans (congrArg some (by kernel_rfl))⟩,
  f47:=Tryz.func180.trans (congrArg some (by kernel_rfl)),
  f48:=Tryz.func181.trans (congrArg some (by kernel_rfl)),
  f49:=⟨"slices.medianAdjacentCmpFunc[loop.example/g01082/impl.Wire]",by decide,Tryz.func182.trans (congrArg some (by kernel_rfl))⟩,
  f50:=⟨"slices.medianCmpFunc[loop.example/g01082/impl.Wire]",by decide,Tryz.func183.trans (congrArg some (by kernel_rfl))⟩,
  f57:=⟨"slices.order2CmpFunc[loop.example/g01082/impl.Wire]",by decide,Tryz.func194.trans (congrArg some (by kernel_rfl))⟩,
  t0:=Tryz.underlying0,
  a0:=Tryz.isAgg0,
  z0:=Tryz.sizeOf0,
  v0:=Tryz.zeroValue0,
  t3:=Tryz.underlying3,
  a3:=Tryz.isAgg3,
  z3:=Tryz.sizeOf3,
  v3:=Tryz.zeroValue3,
  t4:=Tryz.underlying4,
  a4:=Tryz.isAgg4,
  z4:=Tryz.sizeOf4,
  v4:=Tryz.zeroValue4,
  t5:=Tryz.underlying5,
  a5:=Tryz.isAgg5,
  z5:=Tryz.sizeOf5,
  v5:=Tryz.zeroValue5,
  t9:=Tryz.underlying9,
  a9:=Tryz.isAgg9,
  z9:=Tryz.sizeOf9,
  v9:=Tryz.zeroValue9,
  t22:=Tryz.underlying32,
  a22:=Tryz.isAgg32,
  z22:=Tryz.sizeOf32,
  v22:=Tryz.zeroValue32,
  t25:=Tryz.underlying146,
  a25:=Tryz.isAgg146,
  z25:=Tryz.sizeOf146,
  v25:=Tryz.zeroValue146,
  t39:=Tryz.underlying158,
  a39:=Tryz.isAgg158,
  z39:=Tryz.sizeOf158,
  v39:=Tryz.zeroValue158,
  t45:=Tryz.underlying162,
  a45:=Tryz.isAgg162,
  z45:=Tryz.sizeOf162,
  v45:=Tryz.zeroValue162,
  t46:=Tryz.underlying163,
  a46:=Tryz.isAgg163,
  z46:=Tryz.sizeOf163,
  v46:=Tryz.zeroValue163,
  t50:=Tryz.underlying167,
  a50:=Tryz.isAgg167,
  z50:=Tryz.sizeOf167,
  v50:=Tryz.zeroValue167,
  t53:=Tryz.underlying170,
  a53:=Tryz.isAgg170,
  z53:=Tryz.sizeOf170,
  v53:=Tryz.zeroValue170,
  t55:=Tryz.underlying172,
  a55:=Tryz.isAgg172,
  z55:=Tryz.sizeOf172,
  v55:=Tryz.zeroValue172,
  t66:=Tryz.underlying181,
  a66:=Tryz.isAgg181,
  z66:=Tryz.sizeOf181,
  v66:=Tryz.zeroValue181,
  t70:=Tryz.underlying185,
  a70:=Tryz.isAgg185,
  z70:=Tryz.sizeOf185,
  v70:=Tryz.zeroValue185,
  t76:=Tryz.underlying193,
  a76:=Tryz.isAgg193,
  z76:=Tryz.sizeOf193,
  v76:=Tryz.zeroValue193,
  t77:=Tryz.underlying194,
  a77:=Tryz.isAgg194,
  z77:=Tryz.sizeOf194,
  v77:=Tryz.zeroValue194 }
end Go.Proofs

/-
  A BIGRAPH NESTED IN ANOTHER: BOTH SIDES. Own work.
-/
namespace Go.Fd
set_option maxRecDepth 20000
theorem ZkQ(s:ByteArray)(lvl:Nat)(S:Sto):Sem Proofs.Tryz.prog QM lvl [iS s] S (oE (0,s)) S:=by
 refine Zc Zgr (by simp [low,men,Zd]) ?_
 simp only[ZbF,EVA,↓reduceIte,Nat.reduceEqDiff,Nat.reduceMul,reduceCtorEq,Nat.reduceAdd,Nat.reduceSub,Nat.reduceLeDiff,Nat.reduceLT,Int.reduceToNat,Int.reduceLE,Int.reduceLT,Zd,men]
theorem ZmE(n:Nat)(hn:n<=4294967296)(lvl:Nat)(S:Sto):Sem Proofs.Tryz.prog JQ lvl [.cs [],iI n] S (.ow 1 [] true) S:=by
 refine Zc Wt trivial ?_
 simp only[Vg,EVA,↓reduceIte,Nat.reduceEqDiff,Nat.reduceMul,reduceCtorEq,Nat.reduceAdd,Nat.reduceSub,Nat.reduceLeDiff,Nat.reduceLT,Int.reduceToNat,Int.reduceLE,Int.reduceLT,Zd,men]
 rw[if_neg (by omega)]
 refine⟨by rw[Ze];omega,by rw[Ze];omega,?_⟩
 split
 ·exact⟨fun e he=>by (cases he),by omega,by omega,by omega⟩
 ·trivial
theorem Zh5{α:Type}{ls:List (List α)}{j:Nat}(h:j<ls.length):(ls.take (j+1)).flatten=(ls.take j).flatten++ls[j]:=by
 rw[List.take_succ_eq_append_getElem h,List.flatten_append]
 simp
theorem ZcX{α:Type}{ls:List (List α)}{j:Nat}:((ls.take j).flatten).length<=ls.flatten.length:=by
 have h:=congrArg (fun l=>l.flatten.length) (List.take_append_drop j ls)
 simp only[List.flatten_append,List.length_append] at h
 omega
abbrev eSS(l:List ByteArray):List Tr:=[Tr.sl (rS l)]
theorem Zi9(ls:List (List ByteArray))(hl:ls.length<=4294967296)(ht:ls.flatten.length<=4294967296)(lvl:Nat)(S:Sto):Sem Proofs.Tryz.prog JA lvl [.tr (.sl (ls.map eSS))] S (.ow 1 (rS ls.flatten) true) S:=by
 refine Zc XJ trivial ?_
 simp only[YM,List.length_map,EVA,↓reduceIte,Nat.reduceEqDiff,Nat.reduceMul,reduceCtorEq,Nat.reduceAdd,Nat.reduceSub,Nat.reduceLeDiff,Nat.reduceLT,Int.reduceToNat,Int.reduceLE,Int.reduceLT,Zd,men]
 refine ZL (α:=Unit) ls.length (fun j _=>[(3,iI ((ls.take j).flatten).length),(11,iI j)]) (fun _ _=>[]) (fun _ _=>True) () (by simp only[EVA,↓reduceIte,Nat.reduceEqDiff,Nat.reduceMul,reduceCtorEq,Nat.reduceAdd,Nat.reduceSub,Nat.reduceLeDiff,Nat.reduceLT,Int.reduceToNat,Int.reduceLE,Int.reduceLT,Zd,men]) (by (simp only[EVA,↓reduceIte,Nat.reduceEqDiff,Nat.reduceMul,reduceCtorEq,Nat.reduceAdd,Nat.reduceSub,Nat.reduceLeDiff,Nat.reduceLT,Int.reduceToNat,Int.reduceLE,Int.reduceLT,Zd,men]) <;> rfl) trivial ?_
 intro j _ hj _
 simp only[List.length_map,EVA,↓reduceIte,Nat.reduceEqDiff,Nat.reduceMul,reduceCtorEq,Nat.reduceAdd,Nat.reduceSub,Nat.reduceLeDiff,Nat.reduceLT,Int.reduceToNat,Int.reduceLE,Int.reduceLT,Zd,men]
 refine Zo (fun hlt=>?_) (fun hge=>?_)
 ·have hja:j<ls.length:=by omega
  have ga:=U7 (c:=eSS) hja
  have h1:=Zh5 (ls:=ls) hja
  have h2:=ZcX (ls:=ls) (j:=j+1)
  rw[h1,List.length_append] at h2
  simp only[ga,List.length_map,EVA,↓reduceIte,Nat.reduceEqDiff,Nat.reduceMul,reduceCtorEq,Nat.reduceAdd,Nat.reduceSub,Nat.reduceLeDiff,Nat.reduceLT,Int.reduceToNat,Int.reduceLE,Int.reduceLT,Zd,men]
  refine⟨by rw[Ze];omega,?_⟩
  rw[if_neg (by omega)]
  exact⟨by rw[Ze];omega,Zf () hja (by rw[h1,List.length_append];rfl) trivial⟩
 ·have:j=ls.length:=by omega
  subst this
  rw[List.take_length]
  refine ZlN (ZmE _ ht _ _) ?_
  simp only[List.length_map,EVA,↓reduceIte,Nat.reduceEqDiff,Nat.reduceMul,reduceCtorEq,Nat.reduceAdd,Nat.reduceSub,Nat.reduceLeDiff,Nat.reduceLT,Int.reduceToNat,Int.reduceLE,Int.reduceLT,Zd,men]
  refine ZL (α:=Unit) ls.length (fun j _=>[(6,.hd (lvl,768) [] 0 ((ls.take j).flatten).length none ((ls.take j).flatten).length),(27,iI j)]) (fun j _=>[(768,.ar 1 (rS (ls.take j).flatten) true ((ls.take j).flatten).length 0)]) (fun _ _=>True) () (by simp only[EVA,↓reduceIte,Nat.reduceEqDiff,Nat.reduceMul,reduceCtorEq,Nat.reduceAdd,Nat.reduceSub,Nat.reduceLeDiff,Nat.reduceLT,Int.reduceToNat,Int.reduceLE,Int.reduceLT,Zd,men]) (by (simp only[EVA,↓reduceIte,Nat.reduceEqDiff,Nat.reduceMul,reduceCtorEq,Nat.reduceAdd,Nat.reduceSub,Nat.reduceLeDiff,Nat.reduceLT,Int.reduceToNat,Int.reduceLE,Int.reduceLT,Zd,men]) <;> rfl) trivial ?_
  intro j _ hj _
  simp only[List.length_map,EVA,↓reduceIte,Nat.reduceEqDiff,Nat.reduceMul,reduceCtorEq,Nat.reduceAdd,Nat.reduceSub,Nat.reduceLeDiff,Nat.reduceLT,Int.reduceToNat,Int.reduceLE,Int.reduceLT,Zd,men]
  refine Zo (fun hlt2=>?_) (fun hge2=>?_)
  ·have hja:j<ls.length:=by omega
   have ga:=U7 (c:=eSS) hja
   have h1:=Zh5 (ls:=ls) hja
   have h2:=ZcX (ls:=ls) (j:=j+1)
   rw[h1,List.length_append] at h2
   simp only[ga,ZoJ,ZoK,List.length_map,EVA,↓reduceIte,Nat.reduceEqDiff,Nat.reduceMul,reduceCtorEq,Nat.reduceAdd,Nat.reduceSub,Nat.reduceLeDiff,Nat.reduceLT,Int.reduceToNat,Int.reduceLE,Int.reduceLT,Zd,men]
   exact⟨by omega,by rw[Ze];omega,Zf () hja (by rw[h1,List.length_append,Zem,Nat.max_eq_right (Nat.le_add_right _ _)];rfl) trivial⟩
  ·have:j=ls.length:=by omega
   subst this
   rw[List.take_length]
theorem DQ{a b:TBigraph}:(WD a b).length<=a.outer.length+b.outer.length:=Nat.le_trans Zj5 (by rw[List.length_append];omega)
end Go.Fd

/-
  BIGRAPHS SIDE BY SIDE: IN PLAIN TERMS, AND THE REFERENCE'S SIDE. Own work.
-/
namespace Go.Fd
set_option maxRecDepth 20000
def wlt(x y:TWire):Prop:=ltS x.name y.name
open Classical in
noncomputable def Zk7:List TWire->TWire->List TWire
 | [],w=>[w]
 | x::r,w=>if wlt x w then x::Zk7 r w else w::x::r
theorem ZmF{w:TWire}:∀{O:List TWire} {k:Nat},k<=O.length->(∀ y∈O.take k,wlt y w)->(∀ h:k<O.length,¬ wlt O[k] w)->Zk7 O w=O.take k++([w]++O.drop k)
 | [],0,_,_,_=>rfl
 | [],k+1,h,_,_=>by simp at h
 | x::r,0,_,_,h2=>by
  have:¬ wlt x w:=h2 (by simp)
  rw[Zk7,if_neg this]
  rfl
 | x::r,k+1,h,h1,h2=>by
  have:wlt x w:=h1 x (by simp)
  rw[Zk7,if_pos this,ZmF (k:=k) (by simpa using h) (fun y hy=>h1 y (by simp [hy])) (fun h3=>by
   have:=h2 (by simpa using h3)
   simpa using this)]
  simp
theorem insW_perm{w:TWire}:∀{O:List TWire},(Zk7 O w).Perm (w::O)
 | []=>List.Perm.refl _
 | x::r=>by
  rw[Zk7]
  split
  ·exact(List.Perm.cons x insW_perm).trans (List.Perm.swap w x r)
  ·exact List.Perm.refl _
theorem ZmG{w:TWire}:∀{O:List TWire},O.Pairwise wlt->(∀ x∈O,x.name≠w.name)->(Zk7 O w).Pairwise wlt
 | [],_,_=>List.pairwise_singleton ..
 | x::r,h,hn=>by
  have hc:=List.pairwise_cons.1 h
  rw[Zk7]
  split
  ·rename_i hlt
   refine List.pairwise_cons.2 ⟨fun y hy=>?_,ZmG hc.2 fun z hz=>hn z (by simp [hz])⟩
   rcases List.mem_cons.1 (insW_perm.mem_iff.1 hy) with rfl | hy
   ·exact hlt
   ·exact hc.1 y hy
  ·rename_i hlt
   have hwx:wlt w x:=by
    rcases ordsS.tri x.name w.name with q | q | q
    ·exact absurd q hlt
    ·exact absurd q (hn x (by simp))
    ·exact q
   refine List.pairwise_cons.2 ⟨fun y hy=>?_,h⟩
   rcases List.mem_cons.1 hy with rfl | hy
   ·exact hwx
   ·exact ordsS.tr _ _ _ hwx (hc.1 y hy)
noncomputable def Uq(a b:List TWire):List TWire:=b.foldl Zk7 a
theorem wjoin_perm:∀{b a:List TWire},(Uq a b).Perm (a++b)
 | [],a=>by simp [Uq]
 | w::r,a=>by
  have h:=wjoin_perm (b:=r) (a:=Zk7 a w)
  refine h.trans ?_
  refine(insW_perm.append_right r).trans ?_
  exact List.perm_middle.symm
theorem ZbU{a b:List TWire}:(Uq a b).length=a.length+b.length:=by rw[wjoin_perm.length_eq,List.length_append]
theorem ZkR{a b:List TWire}{j:Nat}(h:j<b.length):Uq a (b.take (j+1))=Zk7 (Uq a (b.take j)) b[j]:=by
 unfold Uq
 rw[List.take_succ_eq_append_getElem h,List.foldl_append]
 rfl
theorem Zkf:∀{b a:List TWire},a.Pairwise wlt->b.Pairwise wlt->(∀ x∈a,∀ y∈b,x.name≠y.name)->(Uq a b).Pairwise wlt
 | [],a,ha,_,_=>ha
 | w::r,a,ha,hb,hd=>by
  have hc:=List.pairwise_cons.1 hb
  refine Zkf (b:=r) (a:=Zk7 a w) (ZmG ha fun x hx=>hd x hx w (by simp)) hc.2 fun x hx y hy=>?_
  rcases List.mem_cons.1 (insW_perm.mem_iff.1 hx) with rfl | hx
  ·intro e
   have:=hc.1 y hy
   unfold wlt at this
   rw[e] at this
   exact ordsS.irr _ this
  ·exact hd x hx y (by simp [hy])
theorem ZtN{l:List TWire}{j:Nat}:cut (l.map ZC) 0 (j-0)=(l.take j).map ZC:=by simp [cut,List.map_take]
theorem ZtO{l:List TWire}{j:Nat}:cut (l.map ZC) j (l.length-j)=(l.drop j).map ZC:=by
 simp only[cut,<-List.map_drop]
 rw[List.take_of_length_le (by rw[List.length_map,List.length_drop];omega)]
theorem ZoQ{a b:List TWire}{x:TWire}:a.map ZC++[[Tr.v (Value.string x.name),Tr.v (Value.int .i64 x.link)]]++b.map ZC=(a++([x]++b)).map ZC:=by simp [ZC]
theorem Zja(a b:List TWire)(hl:a.length+b.length<=4294967290)(lvl:Nat)(S:Sto):Sem Proofs.Tryz.prog XI lvl [.tr (.sl (a.map ZC)),.tr (.sl (b.map ZC))] S (.ow 2 ((Uq a b).map ZC) true) S:=by
 refine Zc Ze4 (by simp [low,men,Zd]) ?_
 simp only[ZaI,ZtD,ZtE,Nat.zero_max,List.length_map,EVA,seval,Zd,men]
 refine⟨by omega,?_⟩
 refine ZL (α:=Unit) b.length (fun j _=>[(5,.hd (lvl,160) [] 0 (Uq a (b.take j)).length none (Uq a (b.take j)).length),(6,iI j)]) (fun j _=>[(160,.ar 2 ((Uq a (b.take j)).map ZC) true (Uq a (b.take j)).length 0)]) (fun _ _=>True) () (by simp only[EVA,seval,Zd,men]) (by simp only[List.take_zero,Uq,List.foldl_nil]; (simp only[EVA,seval,Zd,men]) <;> rfl) trivial ?_
 intro j _ hj _
 simp only[List.length_map,EVA,seval,Zd,men]
 refine Zo (fun hlt=>?_) (fun hge=>?_)
 ·have hja:j<b.length:=by omega
  have ga:=U7 (c:=ZC) hja
  obtain⟨O,hO⟩:∃ O,O=Uq a (b.take j):=⟨_,rfl⟩
  have hOl:O.length=a.length+j:=by rw[hO,ZbU,List.length_take];omega
  have hsucc:=ZkR (a:=a) hja
  rw[<-hO] at hsucc
  rw[<-hO]
  refine ZL (α:=Unit) O.length (fun k _=>[(7,iI k)]) (fun _ _=>[]) (fun k _=>∀ y∈O.take k,wlt y b[j]) () (by simp only[EVA,seval,Zd,men]) (by (simp only[EVA,seval,Zd,men]) <;> rfl) (by simp) ?_
  intro k _ hk hK
  have hput:=ZmF (w:=b[j]) hk hK
  have hpl:(O.take k++([b[j]]++O.drop k)).length=O.length+1:=by
   simp only[List.length_append,List.length_take,List.length_drop,List.length_cons,List.length_nil]
   omega
  have hm:min k O.length=k:=by omega
  have hq1:k+1+(O.length-k)=O.length+1:=by omega
  have hq2:max (max (max 0 k) (k+1)) (O.length+1)=O.length+1:=by omega
  have hq3:k+(O.length-k)=O.length:=by omega
  have hfit:Xt .i64 ((j:Int)+1):=by rw[Ze];omega
  simp only[List.length_map,EVA,seval,Zd,men]
  refine Zo (fun hlt2=>?_) (fun hge2=>?_)
  ·have hka:k<O.length:=by omega
   have gk:=U7 (c:=ZC) hka
   simp only[ga,gk,ZC,hja,hka,hm,hq1,hq2,hq3,ZtN,ZtO,ZtD,ZtE,List.length_append,List.length_take,List.length_drop,List.length_map,EVA,seval,Zd,men]
   refine Zo (fun h1=>?_) (fun h1=>?_)
   ·exact⟨by rw[Ze];omega,Zf () hka rfl fun y hy=>by
     rw[List.take_succ_eq_append_getElem hka] at hy
     rcases List.mem_append.1 hy with hy | hy
     ·exact hK y hy
     ·rw[List.mem_singleton.1 hy];exact h1⟩
   ·have hp:=hput fun _=>h1
    exact⟨by omega,by omega,by omega,by omega,by omega,by omega,by omega,by omega,hfit,Zf () hja (by rw[hsucc,hp,hpl,<-ZoQ];rfl) trivial⟩
  ·have:k=O.length:=by omega
   subst this
   simp only[ga,ZC,hja,hm,hq1,hq2,hq3,ZtN,ZtO,ZtD,ZtE,List.length_append,List.length_take,List.length_drop,List.length_map,EVA,seval,Zd,men]
   have hp:=hput fun h=>absurd h (by omega)
   rw[List.take_length] at hp hpl
   exact⟨by omega,by omega,by omega,by omega,by omega,hfit,Zf () hja (by rw[hsucc,hp,hpl,<-ZoQ];rfl) trivial⟩
 ·have:j=b.length:=by omega
  subst this
  rw[List.take_length]
theorem Zey(a b:List ByteArray)(ha:a.length<=4294967290)(hb:b.length<=4294967290)(lvl:Nat)(S:Sto):Sem Proofs.Tryz.prog V2 lvl [.tr (.sl (rS a)),.tr (.sl (rS b))] S (iB (dc (∀ x∈a,x ∉ b))) S:=by
 refine Zc ZeW trivial ?_
 simp only[ZaA,List.length_map,EVA,seval,Zd,men]
 refine ZL (α:=Unit) a.length (fun j _=>[(5,iI j)]) (fun _ _=>[]) (fun j _=>∀ x∈a.take j,x ∉ b) () (by simp only[EVA,seval,Zd,men]) (by (simp only[EVA,seval,Zd,men]) <;> rfl) (by simp) ?_
 intro j _ hj hA
 simp only[List.length_map,EVA,seval,Zd,men]
 refine Zo (fun hlt=>?_) (fun hge=>?_)
 ·have hja:j<a.length:=by omega
  have ga:=Zdt (e0:=e0S) (c:=fun n:ByteArray=>[ts n]) hja
  rw[Ww hja] at ga
  simp only[ga,hja,List.length_map,EVA,seval,Zd,men]
  refine Zb (ZgH b a[j] (by omega)) ?_
  by_cases hm:a[j]∈b
  ·have h0:=ixS_nn.2 hm
   have hno:¬ ∀ x∈a,x ∉ b:=fun g=>g _ (List.getElem_mem hja) hm
   rw[Zh hno]
   simp only[h0,EVA,seval,Zd,men]
  ·have h0:¬ (0:Int)<=ixS b a[j]:=fun g=>hm (ixS_nn.1 g)
   simp only[h0,EVA,seval,Zd,men]
   exact⟨by rw[Ze];omega,Zf () hja rfl (by
    intro x hx
    rw[List.take_succ_eq_append_getElem hja] at hx
    rcases List.mem_append.1 hx with hx | hx
    ·exact hA x hx
    ·rw[List.mem_singleton.1 hx];exact hm)⟩
 ·have:j=a.length:=by omega
  subst this
  rw[List.take_length] at hA
  rw[ZK hA]
def ZtP(J:TBigraph)(w:List TWire):TBigraph:=⟨J.roots,J.nodes,J.sites,J.edges,J.outer,w⟩
def ZmH(a:TBigraph)(p:Int):Int:=if 0<=p then p+a.nodes.length else p-a.roots
noncomputable def ZmI(a b:TBigraph):List Int:=ZkL a (a.edges+b.edges) (WD a b)
noncomputable def Zoa(a b:TBigraph):List Int:=Zm3 a b fun x=>a.edges+b.edges+ixS (WD a b) x
noncomputable def ZtQ(a b:TBigraph):TBigraph:=Zan a b (a.roots+b.roots) a.sites (WD a b) (fun l=>g0 (ZmI a b) l.toNat) (fun l=>g0 (Zoa a b) l.toNat) (ZmH a)
noncomputable def ZgM(a b:TBigraph):TBigraph:=ZtP (ZtQ a b) (Uq (a.inner.map (ZaX fun l=>g0 (ZmI a b) l.toNat)) (b.inner.map (ZaX fun l=>g0 (Zoa a b) l.toNat)))
theorem Zjb{r:Int}{n:Nat}{k:Nat}(h:k<n):g0 (Yk r n) k = -1-r-(k:Int):=by
 show (Yk r n).getD k 0=_
 rw[List.getD_eq_getElem?_getD,Yk,List.getElem?_map,List.getElem?_range h]
 simp
theorem Zkg{a b:TBigraph}{n:Nat}(hn:b.roots=n){p:Int}(h:-b.roots<=p):ZeI a.nodes.length (Yk a.roots n) p=ZmH a p:=by
 unfold ZeI ZmH
 by_cases h0:0<=p
 ·rw[if_neg (by omega),if_pos h0]
 ·rw[if_pos (by omega),if_neg h0,Zjb (by omega)]
  omega
theorem ZmJ{sig:List TControl}{a b:TBigraph}(h:bigOK sig b){n:Nat}(hn:b.roots=n){ls:List Int}:b.nodes.map (ZgI a.nodes.length (Yk a.roots n) ls)=b.nodes.map (fun x=>({ control:=x.control,parent:=ZmH a x.parent,links:=x.links.map fun l=>g0 ls l.toNat }:TNode)):=List.map_congr_left fun x hx=>by
 obtain⟨k,hk,rfl⟩:=List.getElem_of_mem hx
 unfold ZgI
 rw[Zkg hn (Y3 h.roots.1 (h.nodes k hk).par)]
theorem ZmK{sig:List TControl}{a b:TBigraph}(h:bigOK sig b){n:Nat}(hn:b.roots=n):b.sites.map (ZeI a.nodes.length (Yk a.roots n))=b.sites.map (ZmH a):=List.map_congr_left fun p hp=>Zkg hn (Y3 h.roots.1 (h.sites p hp))
theorem ZkS(sig:List TControl)(a b:TBigraph)(ha:bigOK sig a)(hb:bigOK sig b)(lvl:Nat)(S:Sto):Sem Proofs.Tryz.prog Wq lvl [.ag ((Za a).map .tr),.ag ((Za b).map .tr)] S (Zmz (ZgM a b) false) S:=by
 have ra:=ha.roots;have rb:=hb.roots
 have ea:=ha.edges;have eb:=hb.edges
 have sa:=ha.small;have sb:=hb.small
 have a1:=sa.nodes;have a2:=sa.sites;have a3:=sa.inner;have a4:=sa.outer
 have b1:=sb.nodes;have b2:=sb.sites;have b3:=sb.inner;have b4:=sb.outer
 have hol:=DQ (a:=a) (b:=b)
 obtain⟨n,hn⟩:∃ n:Nat,a.roots=n:=⟨a.roots.toNat,by omega⟩
 obtain⟨n2,hn2⟩:∃ n:Nat,b.roots=n:=⟨b.roots.toNat,by omega⟩
 obtain⟨m,hm⟩:∃ m:Nat,a.edges=m:=⟨a.edges.toNat,by omega⟩
 obtain⟨k,hk⟩:∃ k:Nat,b.edges=k:=⟨b.edges.toNat,by omega⟩
 obtain⟨L,hL⟩:∃ L,L=ZmI a b:=⟨_,rfl⟩
 obtain⟨R,hR⟩:∃ R,R=Zoa a b:=⟨_,rfl⟩
 have lenL:(L.length:Int)=a.edges+a.outer.length:=by rw[hL];exact ZgJ ea.1
 have lenR:(R.length:Int)=b.edges+b.outer.length:=by rw[hR];exact ZgJ eb.1
 have w1:rI (Wy 0 m)++rI (a.outer.map fun x=>(m:Int)+k+ixS (WD a b) x)=rI L:=by rw[<-Xo,hL,ZmI,<-Zmx hm,hm,hk]
 have w2:m+a.outer.length=L.length:=by omega
 have w3:rI (Wy (m:Int) k)++rI (b.outer.map fun x=>(m:Int)+k+ixS (WD a b) x)=rI R:=by rw[<-Xo,hR,Zoa,<-Zmy hk,hm,hk]
 have w4:k+b.outer.length=R.length:=by omega
 have w5:max m L.length=L.length:=by omega
 have w6:max k R.length=R.length:=by omega
 have c1:cut (rI L) 0 L.length=rI L:=Qa (by rw[List.length_map])
 have c2:cut (rI R) 0 R.length=rI R:=Qa (by rw[List.length_map])
 refine Zc Zgp (by simp [low,men,Zd]) ?_
 simp only[ZbD,Za,ZoJ,ZoK,hn,hn2,hm,hk,Nat.zero_max,List.length_map,EVA,seval,Zd,men]
 rw[show cut (rS a.outer++rS b.outer) 0 (a.outer.length+b.outer.length)=rS (a.outer++b.outer) from by
  rw[<-Zem]
  exact Qa (by simp [rS])]
 refine⟨by omega,by omega,by simp [rS],Zb (ZhZ (a.outer++b.outer) (by rw[List.length_append];omega)) ?_⟩
 rw[show Q0 (a.outer++b.outer)=WD a b from rfl]
 simp only[Za,hm,hk,List.length_map,EVA,seval,Zd,men]
 have c0:cut (rS (WD a b)) 0 (WD a b).length=rS (WD a b):=Qa (by rw[List.length_map])
 refine⟨by rw[Ze];omega,Zb (Wz 0 m (by omega) (by omega)) ?_⟩
 simp only[Za,c0,hm,hk,fromN_len,List.length_map,EVA,seval,Zd,men]
 refine Zb (ZaY a.outer (m+k) (WD a b) (by omega) (by omega) (by omega)) ?_
 simp only[Za,c0,ZiW,ZiX,hm,hk,w1,w2,w5,fromN_len,List.length_append,List.length_map,EVA,seval,Zd,men]
 refine⟨by omega,Zb (Wz m k (by omega) (by omega)) ?_⟩
 simp only[Za,c0,hm,hk,fromN_len,List.length_map,EVA,seval,Zd,men]
 refine Zb (ZaY b.outer (m+k) (WD a b) (by omega) (by omega) (by omega)) ?_
 simp only[Za,c0,ZiW,ZiX,hm,hk,w3,w4,w6,fromN_len,List.length_append,List.length_map,EVA,seval,Zd,men]
 refine⟨by omega,Zb (ZaV 0 n (by omega) (by omega)) ?_⟩
 simp only[Za,hm,hk,List.length_map,EVA,seval,Zd,men]
 refine Zb (ZaV n n2 (by omega) (by omega)) ?_
 simp only[Za,hm,hk,c1,c2,List.length_map,EVA,seval,Zd,men]
 refine⟨by rw[Ze];omega,?_⟩
 have q2:=UT a 0 (Yk 0 n) L (by omega) (by omega) (Zj9 ha (by rw[rootsN_len];omega) lenL)
 rw[Zkc ha hn] at q2
 simp only[Za,hn,hm,List.map_cons,List.map_nil] at q2
 refine Zb q2 ?_
 simp only[Za,hm,hk,c1,c2,List.length_map,EVA,seval,Zd,men]
 have q3:=UT b a.nodes.length (Yk a.roots n2) R (by omega) (by omega) (Zj9 hb (by rw[rootsN_len];omega) lenR)
 rw[ZmJ hb hn2] at q3
 simp only[Za,hn,hn2,hk,List.map_cons,List.map_nil] at q3
 refine Zb q3 ?_
 simp only[Za,ZyM,hm,hk,c1,c2,List.length_append,List.length_map,EVA,seval,Zd,men]
 refine⟨by omega,?_⟩
 have q4:=US a 0 (Yk 0 n) (by omega) (by omega) (Zka ha (by rw[rootsN_len];omega))
 rw[Zkd ha hn] at q4
 simp only[Za,hn,hm,List.map_cons,List.map_nil] at q4
 refine Zb q4 ?_
 simp only[Za,hm,hk,c1,c2,List.length_append,List.length_map,EVA,seval,Zd,men]
 have q5:=US b a.nodes.length (Yk a.roots n2) (by omega) (by omega) (Zka hb (by rw[rootsN_len];omega))
 rw[ZmK hb hn2] at q5
 simp only[Za,hn,hn2,hk,List.map_cons,List.map_nil] at q5
 refine Zb q5 ?_
 simp only[Za,ZiW,ZiX,hm,hk,c1,c2,List.length_append,List.length_map,EVA,seval,Zd,men]
 refine⟨by omega,?_⟩
 have q6:=ZaW a L (by omega) (Zkb ha lenL)
 simp only[Za,hn,hm,List.map_cons,List.map_nil] at q6
 refine Zb q6 ?_
 simp only[Za,hm,hk,c1,c2,List.length_append,List.length_map,EVA,seval,Zd,men]
 have q7:=ZaW b R (by omega) (Zkb hb lenR)
 simp only[Za,hn2,hk,List.map_cons,List.map_nil] at q7
 refine Zb q7 ?_
 simp only[Za,hm,hk,c1,c2,List.length_append,List.length_map,EVA,seval,Zd,men]
 have q8:=Zja (a.inner.map (ZiZ L)) (b.inner.map (ZiZ R)) (by rw[List.length_map,List.length_map];omega)
 refine Zb q8 ?_
 simp only[Za,hm,hk,c1,c2,ZbU,List.length_append,List.length_map,EVA,seval,Zd,men]
 simp only[Zmz,ZgM,ZtQ,ZtP,Zan,<-hL,<-hR,List.map_append,Xo,hn,hn2,hm,hk]
 rfl
end Go.Fd
