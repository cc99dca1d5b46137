/-
  SORTING A FEW STRINGS: slices.Sort, slices.Compact ON ANOTHER'S ROW. Own work.
-/
import Derived.Test.YtkhjhkepdjkiaaaGreatDoorT05
import Derived.Sort.Row
import Derived.Sort.Grow
import Derived.Shelf.Sort.Plain
import Derived.Shelf.Sort.AssemblyIn
import Derived.Test.YtkhjhkepdjkiaaaGreatDoorProg
import Derived.Shelf.Bits.Mul64
set_option linter.all false
namespace Go.Fd
set_option maxRecDepth 20000
abbrev e0S:ByteArray:=⟨#[]⟩
abbrev gS(l:List ByteArray)(i:Nat):ByteArray:=gx e0S l i
theorem Zpa:∀(x:List UInt8),Op.bytesLess x x=false
 | []=>rfl
 | a::x=>by
  have e:¬ a<a:=UInt8.lt_irrefl a
  simp [Op.bytesLess,e,Zpa x]
theorem Zkf:∀(x y z:List UInt8),Op.bytesLess x y=true->Op.bytesLess y z=true->Op.bytesLess x z=true
 | [],[],_,h,_=>by simp [Op.bytesLess] at h
 | [],_::_,[],_,h=>by simp [Op.bytesLess] at h
 | [],_::_,_::_,_,_=>by simp [Op.bytesLess]
 | _::_,[],_,h,_=>by simp [Op.bytesLess] at h
 | _::_,_::_,[],_,h=>by simp [Op.bytesLess] at h
 | a::x,b::y,c::z,h1,h2=>by
  have ih:=Zkf x y z
  have irr:∀ a:UInt8,¬ a<a:=UInt8.lt_irrefl
  simp only[Op.bytesLess] at h1 h2 ⊢
  by_cases e1:a=b
  ·subst e1
   simp only[irr,decide_false,Bool.false_or,beq_self_eq_true,Bool.true_and,if_true,if_false] at h1
   by_cases e2:a=c
   ·subst e2
    simp [irr] at h1 h2 ⊢
    exact ih h1 h2
   ·by_cases l2:a<c
    ·simp [l2]
    ·simp [l2,e2] at h2
  ·by_cases l1:a<b
   ·by_cases e2:b=c
    ·subst e2;simp [l1]
    ·by_cases l2:b<c
     ·simp [UInt8.lt_trans l1 l2]
     ·simp [l2,e2] at h2
   ·simp [l1,e1] at h1
theorem ordsS:Ords ltS:=by
 refine⟨fun a h=>?_,fun a b c=>Zkf _ _ _,fun a b=>?_⟩
 ·unfold ltS at h
  rw[Zpa] at h
  cases h
 ·have h:=Zmg a.data.toList b.data.toList
  unfold ltS
  cases h1:Op.bytesLess a.data.toList b.data.toList with
  | true=>exact .inl rfl
  | false =>
   rw[h1] at h
   cases h2:Op.bytesLess b.data.toList a.data.toList with
   | true=>exact .inr (.inr rfl)
   | false =>
    rw[h2] at h
    refine .inr (.inl ?_)
    have:a.data.toList=b.data.toList:=by simpa using h
    cases a with | mk a=>cases b with | mk b=>exact congrArg ByteArray.mk (Array.toList_inj.1 this)
theorem Zn9(a b:ByteArray)(h:ltS a b):¬ ltS b a:=ordsS.asym a b h
theorem Zuh(a b c:ByteArray)(h1:¬ ltS b a)(h2:¬ ltS c b):¬ ltS c a:=fun h=>by
 rcases ordsS.tri b c with g | g | g
 ·exact h1 (ordsS.tr _ _ _ g h)
 ·subst g;exact h1 h
 ·exact h2 g
theorem ZqS{y:List ByteArray}{j:Nat}{v:ByteArray}(h:j<y.length):Ys (rS y) [] j 0 (.v (.string v))=rS (y.set j v):=by
 simp only[Ys]
 rw[Zli (e0:=e0S) (c:=fun n:ByteArray=>[ts n]) h]
 exact(List.map_set (f:=fun n:ByteArray=>[ts n]) (l:=y) (i:=j) (a:=v)).symm
theorem ZkP(a:ByteArray)(lvl:Nat)(S:Sto):Sem Proofs.Tryz.prog Yh lvl [iS a] S (iB false) S:=by
 refine Zc Zb9 trivial ?_
 simp only[Ue,EVA,seval,Zd,men]
theorem Zmk(a b:ByteArray)(lvl:Nat)(S:Sto):Sem Proofs.Tryz.prog YD lvl [iS a,iS b] S (iB (dc (ltS a b))) S:=by
 refine Zc ZcS trivial ?_
 simp only[UR,EVA,seval,Zd,men]
 refine Zb (ZkP a) ?_
 simp only[EVA,seval,Zd,men]
 have:Op.bytesLess a.data.toList b.data.toList=dc (ltS a b):=by
  unfold ltS
  rw[Yr,Bool.decide_eq_true]
 rw[this]
theorem Zoa(l:List ByteArray)(hl:l.length<=12)(lvl:Nat)(S:Sto)(id:Oid)(u:Bool)(hw ver:Nat)(hid:id.1<lvl)(hS:S id=some (.ar 1 (rS l) u hw ver))(srt:List ByteArray)(hsrt:∀ x:List ByteArray,x.Perm l->ZgO e0S ltS x l.length->x=srt) :
  Sem Proofs.Tryz.prog Z7 lvl [.hd id [] 0 l.length none hw,iI 0,iI l.length] S (.tu []) (ZK S id (.ar 1 (rS srt) u hw ver)):=by
 have hne:id.1≠lvl:=by omega
 refine Zc VX trivial ?_
 simp only[JW,EVA,seval,Zd,men]
 refine⟨by rw[Ze];omega,?_⟩
 refine ZP (α:=List ByteArray) l.length (fun k x=>⟨lvl,[(0,.hd id [] 0 l.length none hw),(1,iI 0),(2,iI l.length),(6,iI ((k+1:Nat):Int))],[],ZK S id (.ar 1 (rS x) u hw ver)⟩) (fun k x=>x.Perm l/\ZgO e0S ltS x (k+1)) l ⟨by simp only[ZM hne,EVA,seval,Zd,men],by (simp only[Qw hS,EVA,seval,Zd,men]) <;> rfl⟩ ⟨List.Perm.refl _,fun p q h1 h2=>by omega⟩ ?_
 intro k x hk ⟨hA1,hA2⟩
 have hxl:x.length=l.length:=hA1.length_eq
 simp only[EVA,seval,Zd,men]
 refine Zn (fun hlt=>?_) (fun hge=>?_)
 ·have hk1:k+1<l.length:=by omega
  refine ZP (α:=List ByteArray) (k+1) (fun m y=>⟨lvl,[(0,.hd id [] 0 l.length none hw),(1,iI 0),(2,iI l.length),(6,iI ((k+1:Nat):Int)),(7,iI ((k+1-m:Nat):Int))],[],ZK S id (.ar 1 (rS y) u hw ver)⟩) (fun m y=>y.Perm l/\Zih e0S ltS y (k+1) (k+1-m)) x ⟨by simp only[ZM hne,EVA,seval,Zd,men],by (simp only[EVA,seval,Zd,men]) <;> rfl⟩ ⟨hA1,fun p q h1 h2 h3 h4=>hA2 p q h1 (by omega),fun q h1 h2=>by omega⟩ ?_
  intro m y hm ⟨hB1,hB2⟩
  have hyl:y.length=l.length:=hB1.length_eq
  generalize hj:k+1-m=j at hB2 ⊢
  by_cases hj0:j=0
  ·subst hj0
   simp only[EVA,seval,Zd,men]
   exact⟨by rw[Ze];omega,fun h=>absurd h hne,Zf y (by omega) rfl ⟨hB1,Zji hB2⟩⟩
  ·have g1:(0:Int)<j:=by omega
   have e1:((j:Int)-1)=((j-1:Nat):Int):=by omega
   have gj:=Zli (e0:=e0S) (c:=fun n:ByteArray=>[ts n]) (l:=y) (i:=j) (by omega)
   have gj1:=Zli (e0:=e0S) (c:=fun n:ByteArray=>[ts n]) (l:=y) (i:=j-1) (by omega)
   have l1:j<l.length:=by omega
   have l2:j-1<l.length:=by omega
   simp only[g1,ZD hne,Yu,e1,gj,gj1,l1,l2,Nat.zero_add,EVA,seval,Zd,men]
   refine⟨by rw[Ze];omega,Zb (Zmk (gS y j) (gS y (j-1))) ?_⟩
   by_cases hlt2:ltS (gS y j) (gS y (j-1))
   ·rw[Z5 hlt2]
    have s1:=ZqS (y:=y) (j:=j) (v:=gS y (j-1)) (by omega)
    have s2:=ZqS (y:=y.set j (gS y (j-1))) (j:=j-1) (v:=gS y j) (by rw[List.length_set];omega)
    have gj2:=Zli (e0:=e0S) (c:=fun n:ByteArray=>[ts n]) (l:=y.set j (gS y (j-1))) (i:=j-1) (by rw[List.length_set];omega)
    simp only[g1,ZD hne,JE hne,Ju,Yu,ZM hne,e1,gj,gj1,gj2,s1,s2,l1,l2,Nat.zero_add,EVA,seval,Zd,men]
    subst hj
    refine⟨by rw[Ze];omega,by rw[Ze];omega,by rw[Ze];omega,Zf (Zrq e0S y (k+1-m)) (by omega) (by rw[show k+1-(m+1)=k+1-m-1 from by omega];rfl) ⟨(Zmj (by omega) (by omega)).trans hB1,?_⟩⟩
    rw[show k+1-(m+1)=k+1-m-1 from by omega]
    exact ZkO Zn9 hB2 (by omega) (by omega) (by omega) hlt2
   ·rw[Zk hlt2]
    simp only[EVA,seval,Zd,men]
    exact⟨by rw[Ze];omega,fun h=>absurd h hne,Zf y (by omega) rfl ⟨hB1,Zjj Zuh hB2 (by omega) (by omega) hlt2⟩⟩
 ·have:k+1=l.length\/k=l.length:=by omega
  have hup:ZgO e0S ltS x l.length:=fun p q h1 h2=>hA2 p q h1 (by omega)
  have hx:=hsrt x hA1 hup
  rw[hx]
theorem Zob(l:List ByteArray)(hl:l.length<=12)(r:Int)(lvl:Nat)(S:Sto)(id:Oid)(u:Bool)(hw ver:Nat)(hid:id.1<lvl)(hS:S id=some (.ar 1 (rS l) u hw ver))(srt:List ByteArray)(hsrt:∀ x:List ByteArray,x.Perm l->ZgO e0S ltS x l.length->x=srt) :
  Sem Proofs.Tryz.prog ZN lvl [.hd id [] 0 l.length none hw,iI 0,iI l.length,iI r] S (.tu []) (ZK S id (.ar 1 (rS srt) u hw ver)):=by
 have hne:id.1≠lvl:=by omega
 refine Zc XC trivial ?_
 simp only[Yw,EVA,seval,Zd,men]
 refine ZP (α:=Unit) 0 (fun _ _=>⟨lvl,[(0,.hd id [] 0 l.length none hw),(1,iI 0),(2,iI l.length),(3,iI r),(8,iB true),(9,iB true)],[],S⟩) (fun _ _=>True) () ⟨by simp only[ZM hne,EVA,seval,Zd,men],by (simp only[EVA,seval,Zd,men]) <;> rfl⟩ trivial ?_
 intro _ _ _ _
 have h12:(l.length:Int)-0<=12:=by omega
 simp only[h12,EVA,seval,Zd,men]
 refine⟨by rw[Ze];omega,?_⟩
 simp only[Zcy]
 refine YK [] (ZK S id (.ar 1 (rS srt) u hw ver)) (fun i hi=>by unfold ZK;rw[if_neg (fun e=>hne (by rw[<-e];exact hi))]) (by
  rw[Xh hne]
  exact Zoa l hl (lvl+1) (Zy lvl [] S) id u hw ver (by omega) (by rw[ZD hne];exact hS) srt hsrt) ?_
 simp only[ZM hne,EVA,seval,Zd,men]
theorem Zml{v:Int}(h0:0<=v)(h:v<=12):∃ r:Int,∀(lvl:Nat) (S:Sto),Sem Proofs.Tryz.prog V9 lvl [.tr (.v (.int .u64 v))] S (iI r) S:=by
 have:v=0\/v=1\/v=2\/v=3\/v=4\/v=5\/v=6\/v=7\/v=8\/v=9\/v=10\/v=11\/v=12:=by omega
 rcases this with rfl | rfl | rfl | rfl | rfl | rfl | rfl | rfl | rfl | rfl | rfl | rfl | rfl
 ·refine⟨0,fun lvl S=>Zc ZJ trivial ?_⟩
  simp only[ZH,EVA,seval,Zd,men]
  simp [Wd,IntKind.min,IntKind.max,IntKind.signed,IntKind.bits]
 ·refine⟨1,fun lvl S=>Zc ZJ trivial ?_⟩
  simp only[ZH,EVA,seval,Zd,men]
  simp [Wd,IntKind.min,IntKind.max,IntKind.signed,IntKind.bits]
 ·refine⟨2,fun lvl S=>Zc ZJ trivial ?_⟩
  simp only[ZH,EVA,seval,Zd,men]
  simp [Wd,IntKind.min,IntKind.max,IntKind.signed,IntKind.bits]
 ·refine⟨2,fun lvl S=>Zc ZJ trivial ?_⟩
  simp only[ZH,EVA,seval,Zd,men]
  simp [Wd,IntKind.min,IntKind.max,IntKind.signed,IntKind.bits]
 ·refine⟨3,fun lvl S=>Zc ZJ trivial ?_⟩
  simp only[ZH,EVA,seval,Zd,men]
  simp [Wd,IntKind.min,IntKind.max,IntKind.signed,IntKind.bits]
 ·refine⟨3,fun lvl S=>Zc ZJ trivial ?_⟩
  simp only[ZH,EVA,seval,Zd,men]
  simp [Wd,IntKind.min,IntKind.max,IntKind.signed,IntKind.bits]
 ·refine⟨3,fun lvl S=>Zc ZJ trivial ?_⟩
  simp only[ZH,EVA,seval,Zd,men]
  simp [Wd,IntKind.min,IntKind.max,IntKind.signed,IntKind.bits]
 ·refine⟨3,fun lvl S=>Zc ZJ trivial ?_⟩
  simp only[ZH,EVA,seval,Zd,men]
  simp [Wd,IntKind.min,IntKind.max,IntKind.signed,IntKind.bits]
 ·refine⟨4,fun lvl S=>Zc ZJ trivial ?_⟩
  simp only[ZH,EVA,seval,Zd,men]
  simp [Wd,IntKind.min,IntKind.max,IntKind.signed,IntKind.bits]
 ·refine⟨4,fun lvl S=>Zc ZJ trivial ?_⟩
  simp only[ZH,EVA,seval,Zd,men]
  simp [Wd,IntKind.min,IntKind.max,IntKind.signed,IntKind.bits]
 ·refine⟨4,fun lvl S=>Zc ZJ trivial ?_⟩
  simp only[ZH,EVA,seval,Zd,men]
  simp [Wd,IntKind.min,IntKind.max,IntKind.signed,IntKind.bits]
 ·refine⟨4,fun lvl S=>Zc ZJ trivial ?_⟩
  simp only[ZH,EVA,seval,Zd,men]
  simp [Wd,IntKind.min,IntKind.max,IntKind.signed,IntKind.bits]
 ·refine⟨4,fun lvl S=>Zc ZJ trivial ?_⟩
  simp only[ZH,EVA,seval,Zd,men]
  simp [Wd,IntKind.min,IntKind.max,IntKind.signed,IntKind.bits]
theorem Zmm{v:Int}(h0:0<=v)(h:v<=12):∃ r:Int,∀(lvl:Nat) (S:Sto),Sem Proofs.Tryz.prog Vo lvl [.tr (.v (.int .u64 v))] S (iI r) S:=by
 obtain⟨r,hr⟩:=Zml h0 h
 refine⟨r,fun lvl S=>Zc Zez trivial ?_⟩
 simp only[Zal,EVA,seval,Zd,men]
 refine Zb hr ?_
 simp only[EVA,seval,Zd,men]
theorem Zmn(l:List ByteArray)(hl:l.length<=12)(lvl:Nat)(S:Sto)(id:Oid)(u:Bool)(hw ver:Nat)(hid:id.1<lvl)(hS:S id=some (.ar 1 (rS l) u hw ver))(srt:List ByteArray)(hsrt:∀ x:List ByteArray,x.Perm l->ZgO e0S ltS x l.length->x=srt) :
  Sem Proofs.Tryz.prog ZV lvl [.hd id [] 0 l.length none hw] S (.tu []) (ZK S id (.ar 1 (rS srt) u hw ver)):=by
 have hne:id.1≠lvl:=by omega
 obtain⟨r,hr⟩:=Zmm (v:=(l.length:Int)) (by omega) (by omega)
 refine Zc WN trivial ?_
 simp only[Vf,EVA,seval,Zd,men]
 refine⟨⟨by show (0:Int)<=l.length;omega,by show (l.length:Int)<=18446744073709551615;omega⟩,Zb hr ?_⟩
 simp only[EVA,seval,Zd,men]
 refine YK [] (ZK S id (.ar 1 (rS srt) u hw ver)) (fun i hi=>by unfold ZK;rw[if_neg (fun e=>hne (by rw[<-e];exact hi))]) (by
  rw[Xh hne]
  exact Zob l hl r (lvl+1) (Zy lvl [] S) id u hw ver (by omega) (by rw[ZD hne];exact hS) srt hsrt) ?_
 simp only[ZM hne,EVA,seval,Zd,men]
theorem Zij(l:List ByteArray)(hl:l.length<=4294967290)(lvl:Nat)(S:Sto)(id:Oid)(u:Bool)(hw ver:Nat)(hid:id.1<lvl)(hS:S id=some (.ar 1 (rS l) u hw ver)) :
  ∃ v2,Sem Proofs.Tryz.prog Jw lvl [.hd id [] 0 l.length none hw] S (.hd id [] 0 (cz (gS l) l.length).length none hw) (ZK S id (.ar 1 (rS (cz (gS l) l.length)) u hw v2)):=by
 have hne:id.1≠lvl:=by omega
 by_cases hd:∀ m,0<m->m<l.length->gS l m≠gS l (m-1)
 ·refine⟨ver,?_⟩
  rw[ZgP (Nat.le_refl _) hd,List.take_length,Qw hS]
  refine Zc Yv hid ?_
  simp only[JL,EVA,seval,Zd,men]
  by_cases h2:(l.length:Int)<2
  ·rw[if_pos h2]
   simp only[Zi8 hne,EVA,seval,Zd,men]
  rw[if_neg h2]
  refine ZP (α:=Unit) l.length (fun k _=>⟨lvl,[(0,.hd id [] 0 l.length none hw),(3,iI ((k+1:Nat):Int))],[],S⟩) (fun k _=>k+1<=l.length) () ⟨by simp only[ZM hne,EVA,seval,Zd,men],by (simp only[EVA,seval,Zd,men]) <;> rfl⟩ (by omega) ?_
  intro k _ hk hA
  simp only[EVA,seval,Zd,men]
  refine Zn (fun hlt=>?_) (fun hge=>?_)
  ·have gj:=Zli (e0:=e0S) (c:=fun n:ByteArray=>[ts n]) (l:=l) (i:=k+1) (by omega)
   have gj1:=Zli (e0:=e0S) (c:=fun n:ByteArray=>[ts n]) (l:=l) (i:=k) (by omega)
   have l1:k+1<l.length:=by omega
   have l2:k<l.length:=by omega
   have hx:=hd (k+1) (by omega) l1
   rw[Nat.add_sub_cancel] at hx
   have e1:(((k+1:Nat):Int)-1)=(k:Int):=by omega
   simp only[ZD hne,hS,e1,gj,gj1,l1,l2,hx,Nat.zero_add,ZM hne,EVA,seval,Zd,men]
   exact⟨by rw[Ze];omega,by rw[Ze];omega,Zf () (by omega) rfl (by omega)⟩
  ·simp only[Zi8 hne,EVA,seval,Zd,men]
 ·refine⟨ver+1,?_⟩
  refine Zc Yv hid ?_
  simp only[JL,EVA,seval,Zd,men]
  by_cases h2:(l.length:Int)<2
  ·exact absurd (fun m h0 h1=>by omega) hd
  rw[if_neg h2]
  refine ZP (α:=Unit) l.length (fun k _=>⟨lvl,[(0,.hd id [] 0 l.length none hw),(3,iI ((k+1:Nat):Int))],[],S⟩) (fun k _=>k+1<=l.length/\∀ m,0<m->m<k+1->gS l m≠gS l (m-1)) () ⟨by simp only[ZM hne,EVA,seval,Zd,men],by (simp only[EVA,seval,Zd,men]) <;> rfl⟩ ⟨by omega,fun m h0 h1=>by omega⟩ ?_
  intro k _ hk ⟨hA,hB⟩
  simp only[EVA,seval,Zd,men]
  refine Zn (fun hlt=>?_) (fun hge=>?_)
  ·have gj:=Zli (e0:=e0S) (c:=fun n:ByteArray=>[ts n]) (l:=l) (i:=k+1) (by omega)
   have gj1:=Zli (e0:=e0S) (c:=fun n:ByteArray=>[ts n]) (l:=l) (i:=k) (by omega)
   have l1:k+1<l.length:=by omega
   have l2:k<l.length:=by omega
   have e1:(((k+1:Nat):Int)-1)=(k:Int):=by omega
   by_cases hx:gS l (k+1)=gS l k
   ·have hc1:=ZgP (l:=l) (n:=k+1) (by omega) hB
    have hc2:cz (gS l) (k+1+1)=cz (gS l) (k+1):=ZqO (by omega) (by rw[Nat.add_sub_cancel];exact hx)
    simp only[ZD hne,hS,e1,gj,gj1,l1,l2,hx,Nat.zero_add,ZM hne,EVA,seval,Zd,men]
    refine⟨by rw[Ze];omega,by omega,ZyC hne hS,?_⟩
    refine ZP (α:=Nat×List ByteArray) l.length (fun m x=>⟨lvl,[(0,.hd id [] 0 l.length none hw),(3,iI (x.1:Int)),(4,.hd id [] (k+1) (l.length-(k+1)) none hw),(5,iI ((m+1:Nat):Int))],[],ZK S id (.ar 1 (rS x.2) u hw ver)⟩) (fun m x=>k+1+m+1<=l.length/\x.2.length=l.length/\x.1=(cz (gS l) (k+1+m+1)).length/\x.2.take x.1=cz (gS l) (k+1+m+1)/\x.1<=k+1+m/\∀ q,k+1+m<=q->gS x.2 q=gS l q) (k+1,l) ⟨by simp only[ZM hne,EVA,seval,Zd,men],by (simp only[Qw hS,EVA,seval,Zd,men]) <;> rfl⟩ ⟨by omega,rfl,by rw[Nat.add_zero,hc2,hc1,List.length_take];omega,by rw[Nat.add_zero,hc2,hc1],by omega,fun _ _=>rfl⟩ ?_
    intro m ⟨i,y⟩ hm ⟨hm1,hy,hi,ht,hle,hq⟩
    dsimp only at hy hi ht hle hq
    simp only[EVA,seval,Zd,men]
    refine Zn (fun hlt2=>?_) (fun hge2=>?_)
    ·have b1:k+1+(m+1)<l.length:=by omega
     have b2:m+1<l.length-(k+1):=by omega
     have b3:m<l.length-(k+1):=by omega
     have gy:=Zli (e0:=e0S) (c:=fun n:ByteArray=>[ts n]) (l:=y) (i:=k+1+(m+1)) (by omega)
     have gy1:=Zli (e0:=e0S) (c:=fun n:ByteArray=>[ts n]) (l:=y) (i:=k+1+m) (by omega)
     have q1:=hq (k+1+(m+1)) (by omega)
     have q2:=hq (k+1+m) (by omega)
     have e2:(((m+1:Nat):Int)-1)=(m:Int):=by omega
     have b4:i<l.length:=by omega
     by_cases hx2:gS l (k+1+(m+1))=gS l (k+1+m)
     ·have hc3:cz (gS l) (k+1+(m+1)+1)=cz (gS l) (k+1+m+1):=ZqO (by omega) hx2
      simp only[ZD hne,Yu,e2,gy,gy1,q1,q2,b2,b3,hx2,ZM hne,EVA,seval,Zd,men]
      exact⟨by rw[Ze];omega,by rw[Ze];omega,Zf (i,y) (by omega) rfl ⟨by omega,hy,by rw[show k+1+(m+1)+1=k+1+(m+1)+1 from rfl,hc3];exact hi,by rw[hc3];exact ht,by show i<=k+1+(m+1);omega,fun q hqq=>hq q (by omega)⟩⟩
     ·have hc3:cz (gS l) (k+1+(m+1)+1)=cz (gS l) (k+1+m+1)++[gS l (k+1+(m+1))]:=ZyB hx2
      have s1:=ZqS (y:=y) (j:=i) (v:=gS l (k+1+(m+1))) (by omega)
      have gy0:=Zli (e0:=e0S) (c:=fun n:ByteArray=>[ts n]) (l:=y) (i:=i) (by omega)
      simp only[ZD hne,JE hne,Ju,Yu,e2,gy,gy0,gy1,q1,q2,b2,b3,b4,hx2,s1,Nat.zero_add,ZM hne,EVA,seval,Zd,men]
      exact⟨by rw[Ze];omega,by rw[Ze];omega,by rw[Ze];omega,Zf (i+1,y.set i (gS l (k+1+(m+1)))) (by omega) rfl ⟨by omega,by rw[List.length_set];exact hy,by rw[hc3,List.length_append,<-hi];rfl,by rw[ZgN (by omega),ht,hc3],by show i+1<=k+1+(m+1);omega,fun q hqq=>by
       show gx e0S (y.set i (gS l (k+1+(m+1)))) q=_
       rw[Zmi (by omega),if_neg (by omega)]
       exact hq q (by omega)⟩⟩
    ·have en:k+1+m+1=l.length:=by omega
     rw[en] at hi ht
     refine⟨by omega,ZyC hne (Yu ..),?_⟩
     have tk:(rS y).take i=rS (cz (gS l) l.length):=by rw[<-ht];exact(List.map_take ..).symm
     simp only[ZD hne,JE hne,Ju,Yu,tk,List.length_map,hy,EVA,seval,Zd,men]
     refine⟨by omega,by omega,by omega,by omega,ZyC hne (Yu ..),?_⟩
     simp only[Zi8 hne,Nat.sub_zero,hi,EVA,seval,Zd,men]
   ·simp only[ZD hne,hS,e1,gj,gj1,l1,l2,hx,Nat.zero_add,ZM hne,EVA,seval,Zd,men]
    exact⟨by rw[Ze];omega,by rw[Ze];omega,Zf () (by omega) rfl ⟨by omega,fun m h0 h1=>by
     by_cases e:m=k+1
     ·subst e;exact hx
     ·exact hB m h0 (by omega)⟩⟩
  ·exact absurd (fun m h0 h1=>hB m h0 (by omega)) hd
end Go.Fd

/-
  FOUNDATION 55: a function of the library that orders a row of scalars in place, by the guide's contract. Own work.
-/
namespace Go.Fd
variable [Tabs]
open Go.Sort
section
variable {P:Program} {α:Type} [Inhabited α] {enc:α->Value}
abbrev Zm9(enc:α->Value)(l:List α):Row:=l.map fun x=>[.v (enc x)]
theorem Zcb{l:List α}{p:Pth}{es2:Row}(hp:p≠[]):getp (Zm9 enc l) p≠some es2:=fun h=>by
 cases p with
 | nil=>exact hp rfl
 | cons cd q =>
  obtain⟨c,d⟩:=cd
  obtain⟨e,x,h1,h2,_⟩:=JX h
  obtain⟨n,_,rfl⟩:=List.mem_map.1 (List.mem_of_getElem? h1)
  have:=List.mem_of_getElem? h2
  simp at this
theorem Zjk{l:List α}:UnR 1 (Zm9 enc l):=ZcK (fun x=>[.v (enc x)]) (fun _=>rfl) l
theorem ZgQ{d:Array α}{off:Nat}{c:Array Value}:(putCells enc off d c).size=c.size:=by simp [putCells]
theorem Zik{d:List α}{c:Array Value}{i:Nat}(h:i<d.length)(hc:i<c.size):(putCells enc 0 d.toArray c)[i]? = some (enc d[i]):=by
 simp [putCells,hc,h]
theorem Zds{f:FuncId}{lvl:Nat}{S:Sto}{id:Oid}{xs ys:List α}{u:Bool}{hw ver:Nat}(hc:U5 P f)(hid:id.1<lvl)(hS:S id=some (.ar 1 (Zm9 enc xs) u hw ver))
  (hsc:∀ x:α,DJ (enc x)=true) (hl:ys.length=xs.length)
  (h0:xs=[]->∀(a:Option Addr) (cap:Nat) (w:World),Calls P f #[.slice a 0 cap] w fun e w' => e = .returned (.tuple #[])/\∃ n,w'=Sort.ahead w n)
  (h1:xs≠[]->∀(b cap:Nat) (w:World),Holds enc w b 0 xs.toArray->b<w.heap.size->Calls P f #[.slice (some ⟨b,0,none⟩) xs.length cap] w fun e w' => e = .returned (.tuple #[])/\∃ n os,w'=grow (putRow enc (Sort.ahead w n) b 0 ys.toArray) os) :
  Sem P f lvl [.hd id [] 0 xs.length none hw] S (.tu []) (ZK S id (.ar 1 (Zm9 enc ys) u hw ver)):=by
 refine⟨trivial,hc,fun hlow G w vs hok hv _=>?_⟩
 simp only[VRs] at hv
 obtain⟨v,vr,rfl,hv,rfl⟩:=hv
 simp only[VR] at hv
 obtain⟨⟨a0,c0,hv0,hlc0⟩,k2,es2,u2,hw2,ver2,hs2,_,hrel⟩:=hv
 rw[hS] at hs2;cases hs2
 obtain⟨es3,k',a,c,hg3,hk,hun,rfl,hlc,hcap,hcap2,hor⟩:=hrel rfl
 cases hg3
 have hk1:=hk rfl
 subst hk1
 by_cases hx:xs=[]
 ·subst hx
  have hy:ys=[]:=List.length_eq_zero_iff.1 (by simpa using hl)
  subst hy
  rw[Qw hS]
  refine(h0 rfl a c w).mono ?_
  rintro e w' ⟨rfl,n,rfl⟩
  have e:Ext w (Sort.ahead w n):=⟨Nat.le_refl _,fun _ _=>rfl,rfl,rfl,rfl⟩
  exact⟨_,G,rfl,hok.ext e,by simp [impv,impvs,VR,VRs],hlow,Frm.of_ext e⟩
 ·have hpos:0<xs.length:=List.length_pos_iff.2 hx
  rcases hor with hz | ⟨hz,_⟩ | ⟨b,cc,hG,rfl,hoc⟩
  ·omega
  ·exact absurd rfl hz
  ·obtain⟨o1,o2,o3,o4,o5⟩:=hok.obs _ _ hS
   have hr:=o4 [] _ (.inl rfl) rfl
   unfold XY at hr
   rw[hG] at hr
   obtain⟨k3,cells,ty,g1,g2,g3,g4,g5,g6⟩:=hr
   have hk3:=g1 rfl
   subst hk3
   have hbs:b<w.heap.size:=by
    rcases Nat.lt_or_ge b w.heap.size with h | h
    ·exact h
    ·rw[Array.getElem?_eq_none h] at g3;cases g3
   have hH:Holds enc w b 0 xs.toArray:=fun j hj=>by
    have hj:j<xs.length:=by simpa using hj
    obtain⟨x,hx1,hx2⟩:=g6 j [.v (enc xs[j])] 0 (.v (enc xs[j])) (by simp [hj]) rfl
    simp only[Yj] at hx2
    obtain⟨rfl,_⟩:=hx2
    refine⟨?_,by simp [World.frozen?,g3]⟩
    have:(xs.toArray)[j]! = xs[j]:=by simp [hj]
    rw[this,cell_of_row w b (0+j) cells ty (0,0) g3]
    simpa using hx1
   refine(h1 hx b c w hH hbs).mono ?_
   rintro e w' ⟨rfl,n,os,rfl⟩
   have hsz:w.heap.size<=(grow (putRow enc (Sort.ahead w n) b 0 ys.toArray) os).heap.size:=by simp [grow,putRow,mapBlock,Sort.ahead]
   have hheap:∀ b2,b2<w.heap.size->b2≠b->(grow (putRow enc (Sort.ahead w n) b 0 ys.toArray) os).heap[b2]? = w.heap[b2]?:=fun b2 h2 hne=>by
    simp only[grow,putRow,mapBlock,Sort.ahead]
    rw[Array.getElem?_append_left (by simpa using h2),Array.getElem?_modify,if_neg (fun e=>hne e.symm)]
   have hrow:(grow (putRow enc (Sort.ahead w n) b 0 ys.toArray) os).heap[b]? = some (.cells (putCells enc 0 ys.toArray cells) ty (0,0)):=by
    simp only[grow,putRow,mapBlock,Sort.ahead]
    rw[Array.getElem?_append_left (by simpa using hbs),Array.getElem?_modify,if_pos rfl,g3]
    rfl
   have hown:∀ ob b2,ob=(.ar 1 (Zm9 enc ys) u hw ver:Ob)->Y7 G id ob b2->b2=b:=fun ob b2 ho h=>by
    subst ho
    obtain⟨p,c2,hp,hq,hg⟩:=h
    by_cases hp0:p=[]
    ·subst hp0
     rw[hG] at hg
     cases hg
     rfl
    ·obtain⟨e2,he2⟩:=Option.isSome_iff_exists.1 hq
     exact absurd he2 (Zcb hp0)
   have hbown:Y7 G id (.ar 1 (Zm9 enc xs) u hw ver) b:=⟨[],cc,.inl rfl,rfl,hG⟩
   have t:Trn G G S (ZK S id (.ar 1 (Zm9 enc ys) u hw ver)) w (grow (putRow enc (Sort.ahead w n) b 0 ys.toArray) os) (· = id) (fun _=>False):=by
    refine⟨fun _ _=>rfl,fun i ob hi _ hs=>⟨ob,by unfold ZK;rw[if_neg hi];exact hs,Wk.refl ob⟩,fun i ob hi hs=>⟨fun h=>h,ob,by unfold ZK at hs;rw[if_neg hi] at hs;exact hs,Wk.refl ob⟩,hsz,fun b2 h2 hn=>hheap b2 h2 fun e=>hn id _ rfl hS (e ▸ hbown),fun i ob b2 hi hs ho=>?_,fun i ob hi _ hs=>?_⟩
    ·subst hi
     unfold ZK at hs;rw[if_pos rfl] at hs;cases hs
     have:=hown _ b2 rfl ho
     subst this
     exact .inl ⟨i,_,.inl rfl,hS,hbown⟩
    ·subst hi
     rw[hS] at hs;cases hs
     refine⟨.ar 1 (Zm9 enc ys) u hw ver,by unfold ZK;rw[if_pos rfl],rfl,Nat.le_refl _,Nat.le_refl _,fun p st _ hst=>⟨hst,fun es' he=>?_⟩⟩
     by_cases hp0:p=[]
     ·subst hp0
      exact⟨rfl,_,rfl,fun k' hkk _=>by rw[hkk rfl];exact Zjk⟩
     ·exact absurd he (Zcb hp0)
   refine⟨_,G,rfl,t.ok hok (fun i ob hi hs=>?_) (fun i ob j ob' b hi hj _ _ _ _=>hi.trans hj.symm) (fun i cells hi hs=>?_),by simp [impv,impvs,VR,VRs],fun i ob hs=>?_,t.frm (fun _ h=>h.elim) rfl rfl rfl⟩
   ·subst hi
    simp only[impv,impvs,V6,ZK,if_true] at hs;cases hs
    refine⟨by rw[List.length_map] at *;omega,Zjk,o3,fun p es2 hp he=>?_,fun p p' b1 c1 c2 hp hp' g1 g2 g3 g4=>?_⟩
    ·by_cases hp0:p=[]
     ·subst hp0
      cases he
      unfold XY
      rw[hG]
      refine⟨1,_,ty,fun _=>rfl,Zjk,hrow,by rw[ZgQ];exact g4,by rw[List.length_map] at *;omega,fun i e f t hi hf=>?_⟩
      rw[List.getElem?_map] at hi
      obtain⟨y,hy,rfl⟩:=Option.map_eq_some_iff.1 hi
      obtain⟨hil,hyy⟩:=List.getElem?_eq_some_iff.1 hy
      have hf0:f=0/\t = .v (enc y):=by
       cases f with
       | zero=>simp at hf;exact⟨rfl,hf.symm⟩
       | succ f=>simp at hf
      obtain⟨rfl,rfl⟩:=hf0
      refine⟨enc y,?_,rfl,hsc y⟩
      rw[List.length_map] at g5
      rw[show i*1+0=i from by omega,Zik hil (by omega),hyy]
     ·exact absurd he (Zcb hp0)
    ·by_cases hp0:p=[]
     ·by_cases hp1:p'=[]
      ·rw[hp0,hp1]
      ·obtain⟨e2,he2⟩:=Option.isSome_iff_exists.1 g2
       exact absurd he2 (Zcb hp1)
     ·obtain⟨e2,he2⟩:=Option.isSome_iff_exists.1 g1
      exact absurd he2 (Zcb hp0)
   ·subst hi
    simp only[impv,impvs,V6,ZK,if_true] at hs;cases hs
   ·simp only[ZK] at hs
    split at hs
    ·rename_i h;rw[h];exact hid
    ·exact hlow i ob hs
end
end Go.Fd

/-
  SORTING STRINGS, ANY NUMBER OF THEM, BY THE GUIDE'S CONTRACT. Own work.
-/
namespace Go.Fd
set_option maxRecDepth 20000
theorem Zui:∀(x y:List UInt8),x<y↔Op.bytesLess x y=true
 | [],[]=>by simp [Op.bytesLess]
 | [],_::_=>by simp [Op.bytesLess]
 | _::_,[]=>by simp [Op.bytesLess]
 | a::x,b::y=>by
  rw[List.cons_lt_cons_iff,Zui x y]
  simp [Op.bytesLess]
abbrev bsL(s:ByteArray):List UInt8:=s.data.toList
abbrev lbS(l:List UInt8):ByteArray:=⟨l.toArray⟩
theorem Zuj{s:ByteArray}:lbS (bsL s)=s:=by simp [lbS,bsL]
theorem Zpb{l:List ByteArray}:Zm9 Go.Proofs.encStr (l.map bsL)=rS l:=by
 simp only[Zm9,List.map_map]
 refine List.map_congr_left fun s _=>?_
 show [Tr.v (Value.string (lbS (bsL s)))]=_
 rw[Zuj]
theorem Zuk(l:List ByteArray):(l.map bsL).mergeSort (fun x y=>decide (x<=y))=(Zhr ltS l).map bsL:=by
 have e1:((l.map bsL).mergeSort (fun x y=>decide (x<=y))).map lbS=Zhr ltS l:=by
  refine ZcV ordsS ?_ (ZcW ordsS) (List.Perm.trans ?_ srtG_perm.symm)
  ·rw[List.pairwise_map]
   have h:=List.pairwise_mergeSort (le:=fun x y:List UInt8=>decide (x<=y)) (fun a b c h1 h2=>by simp only[decide_eq_true_eq] at *;exact List.le_trans h1 h2) (fun a b=>by simp only[Bool.or_eq_true,decide_eq_true_eq];exact List.le_total a b) (l.map bsL)
   refine h.imp fun {x y} h=>?_
   simp only[decide_eq_true_eq] at h
   intro hlt
   exact h ((Zui y x).2 hlt)
  ·have h:=(List.mergeSort_perm (l.map bsL) (fun x y=>decide (x<=y))).map lbS
   rw[List.map_map] at h
   have:l.map (lbS ∘ bsL)=l:=by
    rw[show (lbS ∘ bsL)=id from funext fun s=>Zuj]
    exact List.map_id l
   rwa [this] at h
 rw[<-e1,List.map_map]
 rw[show (bsL ∘ lbS)=id from funext fun s=>by simp [bsL,lbS]]
 exact(List.map_id _).symm
theorem ZgR(l:List ByteArray)(hl:l.length<=4294967296)(lvl:Nat)(S:Sto)(id:Oid)(u:Bool)(hw ver:Nat)(hid:id.1<lvl)(hS:S id=some (.ar 1 (rS l) u hw ver)) :
  Sem Proofs.Tryz.prog ZV lvl [.hd id [] 0 l.length none hw] S (.tu []) (ZK S id (.ar 1 (rS (Zhr ltS l)) u hw ver)):=by
 by_cases hs:l.length<=12
 ·exact Zmn l hs lvl S id u hw ver hid hS _ fun x hp hu=>Zn8 ordsS hp hu
 ·have h:=Zds (P:=Proofs.Tryz.prog) (f:=ZV) (lvl:=lvl) (S:=S) (id:=id) (xs:=l.map bsL) (ys:=(Zhr ltS l).map bsL) (enc:=Go.Proofs.encStr) (u:=u) (hw:=hw) (ver:=ver) (Zd1 (by kernel_rfl)) hid (by rw[Zpb];exact hS) (fun _=>rfl) (by rw[List.length_map,List.length_map,srtG_perm.length_eq])
   (fun h=>absurd (congrArg List.length h) (by rw[List.length_map];show ¬ l.length=0;omega))
   (fun _ b cap w hH hb=>by
    have:=Go.Proofs.Any.slices_Sort_string Proofs.Tryz.lays190 b 0 cap (l.map bsL) w hH hb (by rw[List.length_map];omega)
    rw[Zuk] at this
    exact this)
  rw[Zpb,List.length_map] at h
  exact h
end Go.Fd

/-
  CHILDREN, POINTS, REDEXES, BOTH SIDES. Own work.
-/
namespace Go.Fd
set_option maxRecDepth 20000
def Ze3(f:Nat->Prop)[DecidablePred f]:Nat->List Int
 | 0=>[]
 | j+1=>if f j then Ze3 f j++[(j:Int)] else Ze3 f j
theorem ZgS{f:Nat->Prop}[DecidablePred f]:∀{j:Nat},(Ze3 f j).length<=j
 | 0=>Nat.le_refl 0
 | j+1=>by
  unfold Ze3
  have:=ZgS (f:=f) (j:=j)
  split
  ·rw[List.length_append,List.length_singleton];omega
  ·omega
theorem Dj{f:Nat->Prop}[DecidablePred f]{j:Nat}(h:f j):Ze3 f (j+1)=Ze3 f j++[(j:Int)]:=by rw[Ze3,if_pos h]
theorem ZgT{f:Nat->Prop}[DecidablePred f]{j:Nat}(h:¬ f j):Ze3 f (j+1)=Ze3 f j:=by rw[Ze3,if_neg h]
def cP2(x:Int×Int):List Tr:=[tv x.1,tv x.2]
def Zd2(l:Int)(i:Nat)(ls:List Int):Nat->List (Int×Int)
 | 0=>[]
 | k+1=>if g0 ls k=l then Zd2 l i ls k++[((i:Int),(k:Int))] else Zd2 l i ls k
theorem ZgU{l:Int}{i:Nat}{ls:List Int}:∀{k:Nat},(Zd2 l i ls k).length<=k
 | 0=>Nat.le_refl 0
 | k+1=>by
  unfold Zd2
  have:=ZgU (l:=l) (i:=i) (ls:=ls) (k:=k)
  split
  ·rw[List.length_append,List.length_singleton];omega
  ·omega
theorem ZgV{l:Int}{i:Nat}{ls:List Int}{k:Nat}(h:g0 ls k=l):Zd2 l i ls (k+1)=Zd2 l i ls k++[((i:Int),(k:Int))]:=by rw[Zd2,if_pos h]
theorem Zjl{l:Int}{i:Nat}{ls:List Int}{k:Nat}(h:¬ g0 ls k=l):Zd2 l i ls (k+1)=Zd2 l i ls k:=by rw[Zd2,if_neg h]
def Zap(b:TBigraph)(j:Nat):List Int:=((b.nodes[j]?).map TNode.links).getD []
theorem Wi{b:TBigraph}{j:Nat}(h:j<b.nodes.length):Zap b j=b.nodes[j].links:=by simp [Zap,h]
def Yf(b:TBigraph)(l:Int):Nat->List (Int×Int)
 | 0=>[]
 | i+1=>Yf b l i++Zd2 l i (Zap b i) (Zap b i).length
def ports(b:TBigraph)(l:Int):List (Int×Int):=Yf b l b.nodes.length
theorem Zcc{b:TBigraph}{l:Int}(h:∀ x∈b.nodes,x.links.length<=1000):∀{j:Nat},j<=b.nodes.length->(Yf b l j).length<=j*1000
 | 0,_=>Nat.zero_le _
 | j+1,hj=>by
  have ih:=Zcc h (l:=l) (j:=j) (by omega)
  have h1:=ZgU (l:=l) (i:=j) (ls:=Zap b j) (k:=(Zap b j).length)
  have h2:=h _ (List.getElem_mem (show j<b.nodes.length by omega))
  rw[Yf,List.length_append]
  rw[Wi (by omega)] at h1 ⊢
  omega
def Zul(b:TBigraph)(j:Nat):Int:=((b.inner[j]?).map TWire.link).getD 0
def ZuR(b:TBigraph)(j:Nat):ByteArray:=((b.inner[j]?).map TWire.name).getD ⟨#[]⟩
theorem ZcX{b:TBigraph}{j:Nat}(h:j<b.inner.length):Zul b j=b.inner[j].link:=by simp [Zul,h]
theorem Zmo{b:TBigraph}{j:Nat}(h:j<b.inner.length):ZuR b j=b.inner[j].name:=by simp [ZuR,h]
def WQ(b:TBigraph)(l:Int):Nat->List ByteArray
 | 0=>[]
 | j+1=>if Zul b j=l then WQ b l j++[ZuR b j] else WQ b l j
theorem Zd3{b:TBigraph}{l:Int}:∀{j:Nat},(WQ b l j).length<=j
 | 0=>Nat.le_refl 0
 | j+1=>by
  unfold WQ
  have:=Zd3 (b:=b) (l:=l) (j:=j)
  split
  ·rw[List.length_append,List.length_singleton];omega
  ·omega
theorem ZeI{b:TBigraph}{l:Int}{j:Nat}(h:Zul b j=l):WQ b l (j+1)=WQ b l j++[ZuR b j]:=by rw[WQ,if_pos h]
theorem Zkg{b:TBigraph}{l:Int}{j:Nat}(h:¬ Zul b j=l):WQ b l (j+1)=WQ b l j:=by rw[WQ,if_neg h]
def Zpc(b:TBigraph)(l:Int):List ByteArray:=WQ b l b.inner.length
theorem Zmp(a b:List (Int×Int)):(a++b).map cP2=a.map cP2++b.map cP2:=List.map_append
theorem Zjm(b:TBigraph)(l:Int)(hn:b.nodes.length<=1000)(hk:∀ x∈b.nodes,x.links.length<=1000)(lvl:Nat)(S:Sto):Sem Proofs.Tryz.prog XR lvl [.ag ((Za b).map .tr),iI l] S (.ow 2 ((ports b l).map cP2) true) S:=by
 refine Zc Zfg trivial ?_
 simp only[Za4,Za,List.length_map,EVA,seval,Zd,men]
 refine ZO (α:=Unit) b.nodes.length (fun j _=>[(5,.hd (lvl,256) [] 0 (Yf b l j).length none (Yf b l j).length),(6,iI j)]) (fun j _=>[(256,.ar 2 ((Yf b l j).map cP2) true (Yf b l j).length 0)]) (fun _ _=>True) () (by simp only[EVA,seval,Zd,men]) (by (simp only[EVA,seval,Zd,men]) <;> rfl) trivial ?_
 intro j _ hj _
 simp only[List.length_map,EVA,seval,Zd,men]
 refine Zn (fun hlt=>?_) (fun hge=>?_)
 ·have hja:j<b.nodes.length:=by omega
  have ga:=Wh (c:=ZG) hja
  have hle:=Zcc hk (l:=l) hj
  have hlk:=hk _ (List.getElem_mem hja)
  refine ZO (α:=Unit) b.nodes[j].links.length (fun k _=>[(5,.hd (lvl,256) [] 0 (Yf b l j++Zd2 l j b.nodes[j].links k).length none (Yf b l j++Zd2 l j b.nodes[j].links k).length),(7,iI k)]) (fun k _=>[(256,.ar 2 ((Yf b l j++Zd2 l j b.nodes[j].links k).map cP2) true (Yf b l j++Zd2 l j b.nodes[j].links k).length 0)]) (fun _ _=>True) () (by simp only[EVA,seval,Zd,men]) (by (simp only[Zd2,List.append_nil,EVA,seval,Zd,men]) <;> rfl) trivial ?_
  intro k _ hkk _
  simp only[ga,ZG,List.length_map,EVA,seval,Zd,men]
  refine Zn (fun hlt2=>?_) (fun hge2=>?_)
  ·have hka:k<b.nodes[j].links.length:=by omega
   have gl:=Jv hka
   have hr:=ZgU (l:=l) (i:=j) (ls:=b.nodes[j].links) (k:=k)
   simp only[ga,gl,ZG,List.length_map,EVA,seval,Zd,men]
   refine Zn (fun he=>?_) (fun hne=>?_)
   ·refine⟨by rw[List.length_append];omega,by rw[Ze];omega,Zf () hka ?_ trivial⟩
    rw[ZgV he,<-List.append_assoc,List.length_append (bs:=[_]),Zmp (Yf b l j++_)]
    rfl
   ·refine⟨by rw[Ze];omega,Zf () hka ?_ trivial⟩
    rw[Zjl hne]
    rfl
  ·have:k=b.nodes[j].links.length:=by omega
   subst this
   refine⟨by rw[Ze];omega,Zf () hja ?_ trivial⟩
   rw[Yf,Wi hja]
   rfl
 ·have:j=b.nodes.length:=by omega
  subst this
  rfl
theorem ZkQ(b:TBigraph)(l:Int)(hn:b.inner.length<=4294967296)(lvl:Nat)(S:Sto):Sem Proofs.Tryz.prog WF lvl [.ag ((Za b).map .tr),iI l] S (.ow 1 (rS (Zpc b l)) true) S:=by
 refine Zc ZgK trivial ?_
 simp only[Zb6,Za,List.length_map,EVA,seval,Zd,men]
 refine ZO (α:=Unit) b.inner.length (fun j _=>[(5,.hd (lvl,224) [] 0 (WQ b l j).length none (WQ b l j).length),(6,iI j)]) (fun j _=>[(224,.ar 1 (rS (WQ b l j)) true (WQ b l j).length 0)]) (fun _ _=>True) () (by simp only[EVA,seval,Zd,men]) (by (simp only[EVA,seval,Zd,men]) <;> rfl) trivial ?_
 intro j _ hj _
 simp only[List.length_map,EVA,seval,Zd,men]
 refine Zn (fun hlt=>?_) (fun hge=>?_)
 ·have hja:j<b.inner.length:=by omega
  have ga:=Wh (c:=ZX) hja
  have hle:=Zd3 (b:=b) (l:=l) (j:=j)
  simp only[ga,ZX,List.length_map,EVA,seval,Zd,men]
  refine Zn (fun he=>?_) (fun hne=>?_)
  ·refine⟨by omega,by rw[Ze];omega,Zf () hja ?_ trivial⟩
   rw[ZeI (by rw[ZcX hja];exact he),List.length_append,Zkd,Zmo hja]
   rfl
  ·refine⟨by rw[Ze];omega,Zf () hja ?_ trivial⟩
   rw[Zkg (by rw[ZcX hja];exact hne)]
   rfl
 ·have:j=b.inner.length:=by omega
  subst this
  rfl
theorem Zil(b:TBigraph)(l:Int)(hn:b.nodes.length<=1000)(hk:∀ x∈b.nodes,x.links.length<=1000)(hi:b.inner.length<=4294967296)(lvl:Nat)(S:Sto):Sem Proofs.Tryz.prog Yd lvl [.ag ((Za b).map .tr),iI l] S (.tu [.ow 2 ((ports b l).map cP2) true,.ow 1 (rS (Zpc b l)) true]) S:=by
 refine Zc Dh ⟨trivial,trivial,trivial⟩ ?_
 simp only[QX,Za,List.length_map,EVA,seval,Zd,men]
 refine ZO (α:=Unit) b.nodes.length (fun j _=>[(6,.hd (lvl,448) [] 0 (Yf b l j).length none (Yf b l j).length),(19,iI j)]) (fun j _=>[(448,.ar 2 ((Yf b l j).map cP2) true (Yf b l j).length 0)]) (fun _ _=>True) () (by simp only[EVA,seval,Zd,men]) (by (simp only[EVA,seval,Zd,men]) <;> rfl) trivial ?_
 intro j _ hj _
 simp only[List.length_map,EVA,seval,Zd,men]
 refine Zn (fun hlt=>?_) (fun hge=>?_)
 ·have hja:j<b.nodes.length:=by omega
  have ga:=Wh (c:=ZG) hja
  have hle:=Zcc hk (l:=l) hj
  have hlk:=hk _ (List.getElem_mem hja)
  simp only[ga,ZG,List.length_map,EVA,seval,Zd,men]
  refine ZO (α:=Unit) b.nodes[j].links.length (fun k _=>[(6,.hd (lvl,448) [] 0 (Yf b l j++Zd2 l j b.nodes[j].links k).length none (Yf b l j++Zd2 l j b.nodes[j].links k).length),(27,iI k)]) (fun k _=>[(448,.ar 2 ((Yf b l j++Zd2 l j b.nodes[j].links k).map cP2) true (Yf b l j++Zd2 l j b.nodes[j].links k).length 0)]) (fun _ _=>True) () (by simp only[EVA,seval,Zd,men]) (by (simp only[Zd2,List.append_nil,EVA,seval,Zd,men]) <;> rfl) trivial ?_
  intro k _ hkk _
  simp only[ga,ZG,List.length_map,EVA,seval,Zd,men]
  refine Zn (fun hlt2=>?_) (fun hge2=>?_)
  ·have hka:k<b.nodes[j].links.length:=by omega
   have gl:=Jv hka
   have hr:=ZgU (l:=l) (i:=j) (ls:=b.nodes[j].links) (k:=k)
   simp only[ga,gl,ZG,List.length_map,EVA,seval,Zd,men]
   refine Zn (fun he=>?_) (fun hne=>?_)
   ·refine⟨by rw[List.length_append];omega,by rw[Ze];omega,Zf () hka ?_ trivial⟩
    rw[ZgV he,<-List.append_assoc,List.length_append (bs:=[_]),Zmp (Yf b l j++_)]
    rfl
   ·refine⟨by rw[Ze];omega,Zf () hka ?_ trivial⟩
    rw[Zjl hne]
    rfl
  ·have:k=b.nodes[j].links.length:=by omega
   subst this
   refine⟨by rw[Ze];omega,Zf () hja ?_ trivial⟩
   rw[Yf,Wi hja]
   rfl
 have:j=b.nodes.length:=by omega
 subst this
 refine ZO (α:=Unit) b.inner.length (fun j _=>[(7,.hd (lvl,480) [] 0 (WQ b l j).length none (WQ b l j).length),(46,iI j)]) (fun j _=>[(480,.ar 1 (rS (WQ b l j)) true (WQ b l j).length 0)]) (fun _ _=>True) () (by simp only[EVA,seval,Zd,men]) (by (simp only[EVA,seval,Zd,men]) <;> rfl) trivial ?_
 intro j _ hj _
 simp only[List.length_map,EVA,seval,Zd,men]
 refine Zn (fun hlt=>?_) (fun hge=>?_)
 ·have hja:j<b.inner.length:=by omega
  have ga:=Wh (c:=ZX) hja
  have hle:=Zd3 (b:=b) (l:=l) (j:=j)
  simp only[ga,ZX,List.length_map,EVA,seval,Zd,men]
  refine Zn (fun he=>?_) (fun hne=>?_)
  ·refine⟨by omega,by rw[Ze];omega,Zf () hja ?_ trivial⟩
   rw[ZeI (by rw[ZcX hja];exact he),List.length_append,Zkd,Zmo hja]
   rfl
  ·refine⟨by rw[Ze];omega,Zf () hja ?_ trivial⟩
   rw[Zkg (by rw[ZcX hja];exact hne)]
   rfl
 ·have:j=b.inner.length:=by omega
  subst this
  rfl
end Go.Fd

/-
  REDEXES, BOTH SIDES. Own work.
-/
namespace Go.Fd
set_option maxRecDepth 20000
def idle(b:TBigraph)(l:Int):Prop:=(ports b l).length=0/\(Zpc b l).length=0
structure small (b:TBigraph):Prop where
 nodes:b.nodes.length<=8
 links:∀ x∈b.nodes,x.links.length<=1000
 sites:b.sites.length<=4
 outer:b.outer.length<=16
 inner:b.inner.length<=16
 roots:0<=b.roots/\b.roots<=4
 edges:0<=b.edges/\b.edges<=8
theorem ZkR{sig:List TControl}(h:ZdB sig)(c:Int):Zbi sig c<=3:=by
 unfold Zbi
 cases e:sig[c.toNat]? with
 | none=>decide
 | some x =>
  obtain⟨hl,rfl⟩:=List.getElem?_eq_some_iff.1 e
  exact((h.1 _ hl).1).2.1.2
theorem bigOK.small{sig:List TControl}{b:TBigraph}(h:bigOK sig b):small b :=
 ⟨h.nodesL,fun x hx=>by
  obtain⟨k,hk,rfl⟩:=List.getElem_of_mem hx
  have h1:=(h.nodes k hk).ports
  have h2:=ZkR h.sg b.nodes[k].control
  omega,h.sitesL,h.outer.2,by have:=h.inn.2;rw[Zbk] at this;exact this,h.roots,h.edges⟩
theorem ZkS(b:TBigraph)(l:Int)(hs:small b)(lvl:Nat)(S:Sto):Sem Proofs.Tryz.prog WC lvl [.ag ((Za b).map .tr),iI l] S (iB (dc (idle b l))) S:=by
 have s1:=hs.nodes
 have s2:=hs.inner
 refine Zc ZgE trivial ?_
 simp only[ZbZ,Za,List.length_map,EVA,seval,Zd,men]
 refine Zb (Zjm b l (by omega) hs.links) ?_
 by_cases h1:(ports b l).length=0
 ·have h1':((ports b l).length:Int)=0:=by omega
  simp only[h1,h1',Za,List.length_map,EVA,seval,Zd,men]
  refine Zb (ZkQ b l (by omega)) ?_
  simp only[List.length_map,EVA,seval,Zd,men]
  have hiff:idle b l↔((Zpc b l).length:Int)=0:=⟨fun h=>by have:=h.2;omega,fun h=>⟨h1,by omega⟩⟩
  rw[Yi hiff,Yr]
 ·have h1':¬ ((ports b l).length:Int)=0:=by omega
  simp only[h1',Za,List.length_map,EVA,seval,Zd,men]
  rw[Zk fun h:idle b l=>h1 h.1]
theorem ZfH(b:TBigraph)(l:Int)(hs:small b)(lvl:Nat)(S:Sto):Sem Proofs.Tryz.prog JS lvl [.ag ((Za b).map .tr),iI l] S (iB (dc (idle b l))) S:=by
 have s1:=hs.nodes
 have s2:=hs.inner
 have e1:(ports b l).length<=b.nodes.length*1000:=Zcc hs.links (Nat.le_refl _)
 have e2:(Zpc b l).length<=b.inner.length:=Zd3
 refine Zc Zah trivial ?_
 simp only[Xy,Za,List.length_map,EVA,seval,Zd,men]
 refine Zb (Zil b l (by omega) hs.links (by omega)) ?_
 simp only[List.length_map,EVA,seval,Zd,men]
 refine⟨by rw[Ze];omega,?_⟩
 have hiff:idle b l↔((ports b l).length:Int)+(Zpc b l).length=0:=⟨fun h=>by have:=h.1;have:=h.2;omega,fun h=>⟨by omega,by omega⟩⟩
 rw[Yi hiff,Yr]
end Go.Fd

/-
  SORTINGS, BOTH SIDES: VALID, FREE, FINER. Own work.
-/
namespace Go.Fd
set_option maxRecDepth 20000
def Wb(n:Nat):List Int:=(List.range n).map fun i:Nat=>(i:Int)
theorem Vr{n:Nat}:(Wb n).length=n:=by simp [Wb]
theorem Zmq{n:Nat}:Wb (n+1)=Wb n++[(n:Int)]:=by simp [Wb,List.range_succ]
theorem WR{es:Row}{n:Nat}(h:es.length=n):cut es 0 n=es:=by
 simp only[cut,List.drop_zero]
 exact List.take_of_length_le (by omega)
end Go.Fd

/-
  LINKS THAT ARE TURNED: WHAT COMPOSITION COMPUTES, IN PLAIN TERMS. Own work.
-/
namespace Go.Fd
set_option maxRecDepth 20000
def Zhs(b:TBigraph)(l:Int):Int×ByteArray:=if l<b.edges then (l,e0S) else (0,gS b.outer (l-b.edges).toNat)
def ixS(l:List ByteArray)(s:ByteArray):Int:=ixF (fun x=>decide (s=x)) l 0
def ZqT(b:TBigraph)(e:Int)(o:List ByteArray)(T:Int×ByteArray->Int×ByteArray)(l:Int):Int:=if (T (Zhs b l)).2=e0S then (T (Zhs b l)).1 else e+ixS o (T (Zhs b l)).2
def ZeJ(b:TBigraph)(F:Int->Int)(e:Int)(o:List ByteArray):TBigraph:=⟨b.roots,b.nodes.map fun x=>⟨x.control,x.parent,x.links.map F⟩,b.sites,e,o,b.inner.map fun w=>⟨w.name,F w.link⟩⟩
theorem Zkh{α:Type}{f:α->Bool}:∀{l:List α} {j:Int},(ixF f l j = -1/\∀ x∈l,f x=false)\/∃ i,∃ h:i<l.length,ixF f l j=j+i/\(∀ x∈l.take i,f x=false)/\f l[i]=true
 | [],j=>.inl ⟨rfl,fun _ h=>by cases h⟩
 | x::r,j=>by
  rw[Uf]
  cases hx:f x with
  | true=>exact .inr ⟨0,by simp,by simp,by simp,hx⟩
  | false =>
   rcases Zkh (f:=f) (l:=r) (j:=j+1) with ⟨h1,h2⟩ | ⟨i,h,h1,h2,h3⟩
   ·exact .inl ⟨by simp [h1],fun y hy=>by
     rcases List.mem_cons.1 hy with rfl | hy
     ·exact hx
     ·exact h2 y hy⟩
   ·refine .inr ⟨i+1,by simpa using h,by simp only[Bool.false_eq_true,if_false,h1];omega,fun y hy=>?_,by simpa using h3⟩
    rw[List.take_succ_cons] at hy
    rcases List.mem_cons.1 hy with rfl | hy
    ·exact hx
    ·exact h2 y hy
theorem Zpd{α:Type}{f:α->Bool}:∀{l:List α} {i:Nat} {j:Int} (h:i<l.length),f l[i]=true->(∀ k (hk:k<i),f (l[k]'(by omega))=false)->ixF f l j=j+i
 | [],_,_,h,_,_=>by simp at h
 | x::r,0,j,_,h1,_=>by
  have:f x=true:=h1
  rw[Uf,if_pos this];omega
 | x::r,i+1,j,h,h1,h2=>by
  have:f x=false:=h2 0 (by omega)
  rw[Uf,this,if_neg (by decide)]
  rw[Zpd (i:=i) (by simpa using h) (by simpa using h1) fun k hk=>by
   have:=h2 (k+1) (by omega)
   simpa using this]
  omega
theorem Zki{α:Type}{f:α->Bool}:∀{l:List α} {j:Int},(∀ x∈l,f x=false)->ixF f l j = -1
 | [],_,_=>rfl
 | x::r,j,h=>by
  rw[Uf,h x (by simp),if_neg (by decide)]
  exact Zki fun y hy=>h y (by simp [hy])
theorem ZyD{l:List ByteArray}(h:l.Pairwise ltS){i j:Nat}(hi:i<l.length)(hj:j<l.length)(e:l[i]=l[j]):i=j:=by
 rcases Nat.lt_trichotomy i j with g | g | g
 ·have:=List.pairwise_iff_getElem.1 h i j hi hj g
  rw[e] at this
  exact absurd this (ordsS.irr _)
 ·exact g
 ·have:=List.pairwise_iff_getElem.1 h j i hj hi g
  rw[e] at this
  exact absurd this (ordsS.irr _)
theorem Zum{l:List ByteArray}(h:l.Pairwise ltS){i:Nat}(hi:i<l.length):ixS l l[i]=i:=by
 unfold ixS
 rw[Zpd hi (by simp) fun k hk=>by
  simp only[decide_eq_false_iff_not]
  intro e
  have:=ZyD h hi (by omega) e
  omega]
 omega
theorem Zpe{l:List ByteArray}{s:ByteArray}(h:s ∉ l):ixS l s = -1:=Zki fun x hx=>by
 simp only[decide_eq_false_iff_not]
 intro e
 exact h (e ▸ hx)
theorem ixS_nn{l:List ByteArray}{s:ByteArray}:0<=ixS l s↔s∈l:=by
 unfold ixS
 rw[Zjg (Int.le_refl 0)]
 simp
theorem Zun{l:List ByteArray}{s:ByteArray}(h:s∈l):ixS l s<l.length:=by
 rcases Zkh (f:=fun x=>decide (s=x)) (l:=l) (j:=0) with ⟨_,h2⟩ | ⟨i,hi,h1,_⟩
 ·have:=h2 s h
  simp at this
 ·unfold ixS
  rw[h1];omega
theorem Zoc{l:List ByteArray}(h:Qc l):l.Pairwise ltS:=by
 have key:∀ d i (hi:i+d+1<l.length),ltS (l[i]'(by omega)) (l[i+d+1]'hi):=fun d=>by
  induction d with
  | zero =>
   intro i hi
   exact(h.1 (i+0+1) hi).2 (by omega)
  | succ d ih =>
   intro i hi
   have h1:=ih i (by omega)
   have h2:=(h.1 (i+(d+1)+1) hi).2 (by omega)
   exact ordsS.tr _ _ _ h1 h2
 refine List.pairwise_iff_getElem.2 fun i j hi hj hij=>?_
 have:=key (j-i-1) i (by omega)
 simp only[show i+(j-i-1)+1=j from by omega] at this
 exact this
theorem Zod{l:List ByteArray}(h:Qc l){s:ByteArray}(hs:s∈l):s≠e0S:=by
 obtain⟨i,hi,rfl⟩:=List.getElem_of_mem hs
 intro e
 have:=(h.1 i hi).1.2.1
 rw[e] at this
 exact absurd this (by decide)
theorem Zpf{b:TBigraph}{l:Int}(h:l<b.edges):Zhs b l=(l,e0S):=if_pos h
theorem Zpg{b:TBigraph}{i:Nat}(h:i<b.outer.length):Zhs b (b.edges+i)=(0,b.outer[i]):=by
 unfold Zhs
 rw[if_neg (by omega),show (b.edges+(i:Int)-b.edges).toNat=i from by omega]
 rw[show gS b.outer i=b.outer[i] from ZdC h]
theorem ZfI{b:TBigraph}{l:Int}(h:Jx b l):(0<=l/\l<b.edges)\/∃ i:Nat,∃ _:i<b.outer.length,l=b.edges+i:=by
 unfold Jx at h
 by_cases hl:l<b.edges
 ·exact .inl ⟨h.1,hl⟩
 ·exact .inr ⟨(l-b.edges).toNat,by omega,by omega⟩
noncomputable def Zim(l:List ByteArray):List ByteArray:=Zrr e0S ltS l
end Go.Fd

/-
  LINKS THAT ARE TURNED, THE PROGRAM'S SIDE. Own work.
-/
namespace Go.Fd
set_option maxRecDepth 20000
theorem Zzj{l:List ByteArray}:ScR (rS l)=True:=eq_true fun e he t ht=>by
 obtain⟨n,_,rfl⟩:=List.mem_map.1 he
 simp only[List.mem_cons,List.not_mem_nil,or_false] at ht
 subst ht
 rfl
theorem Zzk{l:List ByteArray}:UnR 1 (rS l)=True:=eq_true (ZcK (fun n:ByteArray=>[ts n]) (fun _=>rfl) l)
theorem Zoe{l:List Int}:ScR (rI l)=True:=eq_true fun e he t ht=>by
 obtain⟨n,_,rfl⟩:=List.mem_map.1 he
 simp only[List.mem_cons,List.not_mem_nil,or_false] at ht
 subst ht
 rfl
theorem Zof{l:List Int}:UnR 1 (rI l)=True:=eq_true (ZcK (fun n:Int=>[tv n]) (fun _=>rfl) l)
theorem ZAy{l:List TWire}:ScR (l.map ZX)=True:=eq_true fun e he t ht=>by
 obtain⟨n,_,rfl⟩:=List.mem_map.1 he
 simp only[ZX,List.mem_cons,List.not_mem_nil,or_false] at ht
 rcases ht with rfl | rfl <;> rfl
theorem ZAz{l:List TWire}:UnR 2 (l.map ZX)=True:=eq_true (ZcK ZX (fun _=>rfl) l)
theorem WS(l:List Int)(hl:l.length<=4294967296)(lvl:Nat)(S:Sto):Sem Proofs.Tryz.prog ZS lvl [tI l] S (.ow 1 (rI l) true) S:=by
 refine Zc DO trivial ?_
 simp only[Xe,List.length_map,Zoe,Zof,EVA,seval,Zd,men]
 exact⟨hl,fun h=>by rw[h]⟩
theorem ZfJ(l:List ByteArray)(hl:l.length<=4294967296)(lvl:Nat)(S:Sto):Sem Proofs.Tryz.prog Je lvl [.tr (.sl (rS l))] S (.ow 1 (rS l) true) S:=by
 refine Zc X8 trivial ?_
 simp only[Y3,List.length_map,Zzj,Zzk,EVA,seval,Zd,men]
 exact⟨hl,fun h=>by rw[h]⟩
theorem ZkT(l:List TWire)(hl:l.length<=4294967296)(lvl:Nat)(S:Sto):Sem Proofs.Tryz.prog Jh lvl [.tr (.sl (l.map ZX))] S (.ow 2 (l.map ZX) true) S:=by
 refine Zc Qm trivial ?_
 simp only[J4,List.length_map,ZAy,ZAz,EVA,seval,Zd,men]
 exact⟨hl,fun h=>by rw[h]⟩
theorem ZeK(l:List ByteArray)(hl:l.length<=4294967290)(lvl:Nat)(S:Sto):Sem Proofs.Tryz.prog VF lvl [.tr (.sl (rS l))] S (.ow 1 (rS (Zim l)) true) S:=by
 refine Zc Zb7 trivial ?_
 simp only[Ud,EVA,seval,Zd,men]
 refine Zb (ZfJ l (by omega)) ?_
 simp only[EVA,seval,Zd,men]
 have hp:(Zhr ltS l).length=l.length:=srtG_perm.length_eq
 have s1:=fun S' hS=>ZgR l (by omega) (lvl+1) S' (lvl,160) true l.length 0 (Nat.lt_succ_self _) hS
 refine ZcU 160 _ (s1 _ ?_) ?_
 ·rw[JV];rfl
 simp only[EVA,seval,Zd,men]
 have s2:=fun S' hS=>Zij (Zhr ltS l) (by omega) (lvl+1) S' (lvl,160) true l.length 0 (Nat.lt_succ_self _) hS
 rw[show Zcy (IV.hd (lvl,160) [] 0 l.length none l.length)=IV.hd (lvl,160) [] 0 (Zhr ltS l).length none l.length from by rw[hp];rfl]
 refine Zn6 160 _ (s2 _ ?_) fun v=>?_
 ·rw[JV];rfl
 simp only[List.length_map,EVA,seval,Zd,men]
 rfl
abbrev oE(e:Int×ByteArray):IV:=.ag [iI e.1,iS e.2]
theorem Zmr(b:TBigraph)(l:Int)(he:0<=b.edges)(hl:Jx b l)(ho:b.outer.length<=4294967296)(hb:b.edges<=4294967296)(lvl:Nat)(S:Sto):Sem Proofs.Tryz.prog YW lvl [.ag ((Za b).map .tr),iI l] S (oE (Zhs b l)) S:=by
 refine Zc ZaU (by simp [low,men,Zd]) ?_
 simp only[X2,Za,EVA,seval,Zd,men]
 rcases ZfI hl with ⟨h0,h1⟩ | ⟨i,hi,rfl⟩
 ·rw[Zpf h1]
  simp only[h1,EVA,seval,Zd,men]
  try rfl
 ·rw[Zpg hi]
  have h1:¬ b.edges+(i:Int)<b.edges:=by omega
  have ga:=Zli (e0:=e0S) (c:=fun n:ByteArray=>[ts n]) hi
  have e1:b.edges+(i:Int)-b.edges=i:=by omega
  rw[ZdC hi] at ga
  simp only[h1,e1,ga,EVA,seval,Zd,men]
  rw[Ze];omega
theorem Zfj(b:TBigraph)(hb:Zw 4294967290 b)(lvl:Nat)(S:Sto):Sem Proofs.Tryz.prog V8 lvl [.ag ((Za b).map .tr)] S (Zh b) S:=by
 obtain⟨b1,b2,b3,b4,b5,b6,b7⟩:=hb
 refine Zc ZcR (by simp [Zh,low,men,Zd]) ?_
 simp only[UQ,Za,EVA,seval,Zd,men]
 refine Zb (WS b.sites (by omega)) ?_
 simp only[List.length_map,EVA,seval,Zd,men]
 refine Zb (ZfJ b.outer (by omega)) ?_
 simp only[List.length_map,EVA,seval,Zd,men]
 refine Zb (ZkT b.inner (by omega)) ?_
 simp only[List.length_map,EVA,seval,Zd,men]
 refine ZO (α:=Unit) b.nodes.length (fun j _=>[(23,iI j)]) (fun j _=>[(96,.bx [iI b.roots,.hd (lvl,608) [] 0 j none j,.hd (lvl,320) [] 0 b.sites.length none b.sites.length,iI b.edges,.hd (lvl,480) [] 0 b.outer.length none b.outer.length,.hd (lvl,576) [] 0 b.inner.length none b.inner.length]),(608,.ar 3 ((b.nodes.take j).map ZG) true j 0)]) (fun _ _=>True) () (by simp only[EVA,seval,Zd,men]) (by (simp only[EVA,seval,Zd,men]) <;> rfl) trivial ?_
 intro j _ hj _
 simp only[List.length_map,EVA,seval,Zd,men]
 refine Zn (fun hlt=>?_) (fun hge=>?_)
 ·have hja:j<b.nodes.length:=by omega
  have ga:=Wh (c:=ZG) hja
  have k2:b.nodes[j].links.length<=4294967290:=b2 _ (List.getElem_mem hja)
  have hl1:((b.nodes.take j).map ZG).length=j:=by rw[List.length_map,List.length_take];omega
  have st1:(b.nodes.take j).map ZG++[[Tr.v (Value.int .i64 b.nodes[j].control),Tr.v (Value.int .i64 b.nodes[j].parent),Tr.sl (rI b.nodes[j].links)]]=(b.nodes.take (j+1)).map ZG:=by
   rw[List.take_succ_eq_append_getElem hja,List.map_append]
   rfl
  simp only[ga,hja,ZG,EVA,seval,Zd,men]
  refine Zb (WS b.nodes[j].links (by omega)) ?_
  have hl2:(List.map (fun x=>[Tr.v (Value.int .i64 x.control),Tr.v (Value.int .i64 x.parent),Tr.sl (rI x.links)]) (b.nodes.take j)).length=j:=by rw[List.length_map,List.length_take];omega
  simp only[hl1,st1,ZG,EVA,seval,Zd,men]
  exact⟨by omega,by rw[Ze];omega,Zf () hja rfl trivial⟩
 ·have:j=b.nodes.length:=by omega
  subst this
  rw[List.take_length]
  exact⟨rfl,rfl⟩
end Go.Fd

/-
  LINKS THAT ARE TURNED, THE REFERENCE'S SIDE. Own work.
-/
namespace Go.Fd
set_option maxRecDepth 20000
end Go.Fd

/-
  A LINK IS TURNED: relinked AND ITS CLOSURE. Own work.
-/
namespace Go.Fd
set_option maxRecDepth 20000
theorem ZyE:ZT Proofs.Tryz.prog JK ZyA=true:=by kernel_rfl
theorem ZkU(l:List ByteArray)(s:ByteArray)(hl:l.length<=4294967296)(lvl:Nat)(S:Sto):Sem Proofs.Tryz.prog JK lvl [.tr (.sl (rS l)),iS s] S (iI (ixS l s)) S:=ZqK ZyE Zt8 l s (by omega) lvl S
theorem Zuo{l:List ByteArray}{s:ByteArray}:-1<=ixS l s:=by
 by_cases h:s∈l
 ·have:=ixS_nn.2 h;omega
 ·rw[Zpe h];omega
theorem Zup{l:List ByteArray}{s:ByteArray}:ixS l s<=l.length:=by
 by_cases h:s∈l
 ·have:=Zun h;omega
 ·rw[Zpe h];omega
mutual
theorem ZqU{P Q:Oid->Prop}:∀ x,men P x->men Q x->men (fun i=>P i/\Q i) x
 | .hd ..,h,g=>⟨h,g⟩
 | .ab ..,h,g=>⟨h,g⟩
 | .sv _,h,g=>⟨h,g⟩
 | .ae ..,h,g=>⟨h,g⟩
 | .ag l,h,g=>by simp only[men] at *;exact Zcd l h g
 | .tu l,h,g=>by simp only[men] at *;exact Zcd l h g
 | .fn f l,h,g=>by simp only[men] at *;exact Zcd l h g
 | .un,_,_=>trivial
 | .tr _,_,_=>trivial
 | .cs _,_,_=>trivial
 | .ta _,_,_=>trivial
 | .ow ..,_,_=>trivial
 | .er,_,_=>trivial
theorem Zcd{P Q:Oid->Prop}:∀ l,Zd P l->Zd Q l->Zd (fun i=>P i/\Q i) l
 | [],_,_=>trivial
 | x::r,h,g=>⟨ZqU x h.1 g.1,Zcd r h.2 g.2⟩
end
theorem Zin{B S S':Sto}{loc:List (Nat×Ob)}{lvl l':Nat}{cps:List IV}(h:Zd (Zlg B S lvl) cps)(h2:Zd (Zlg (Zy lvl loc S) S' l') cps):Zd (Zlg B S' l') cps :=
 ZL (fun i hi=>⟨hi.2.1,fun ob hb=>hi.2.2 ob (by rw[show Zy lvl loc S i=S i from if_neg (by have:=hi.1.1;omega)];exact hi.1.2 ob hb)⟩) _ (Zcd _ h h2)
theorem Zms{L S:Sto}{l:Nat}{cps:List IV}(h:Zd (Zht L S l) cps):Zd (Zlg L S l) cps:=ZL (fun _ hi=>hi.1) _ h
theorem Zog{B S:Sto}{lvl:Nat}{cps:List IV}(h:Zd (Zlg B S lvl) cps)(js:List Nat):ZjG lvl js cps=True:=eq_true (ZL (fun i hi e=>absurd e (by have:=hi.1;omega)) _ h)
theorem ZqV{B S:Sto}{lvl:Nat}{cs:List (List Tr)}:Zd (Zlg B S lvl) (cs.map IV.ta):=by rw[X9];trivial
theorem Zfk(b:TBigraph)(l:Int)(e:Int)(o:List ByteArray)(tf:FuncId)(cps:List IV)(B:Sto)(T:Int×ByteArray->Int×ByteArray)(he0:0<=b.edges)(hl:Jx b l)(ho:b.outer.length<=4294967296)(hb:b.edges<=4294967296)(he:0<=e/\e<=4294967296)(hol:o.length<=4294967296)
  (hT:∀ l' S',Zd (Zlg B S' l') cps->Sem Proofs.Tryz.prog tf l' (oE (Zhs b l)::cps) S' (oE (T (Zhs b l))) S')
  (lvl:Nat) (S:Sto) (hcp:Zd (Zlg B S lvl) cps) (iT iO io:Oid) (c0 c1 c2 c3 c5:IV) (hwo ver:Nat) (u:Bool) (hT1:iT.1<lvl) (hO1:iO.1<lvl) (ho1:io.1<lvl) (sT:S iT=some (.bx [.fn tf cps])) (sO:S iO=some (.bx [c0,c1,c2,c3,.hd io [] 0 o.length none hwo,c5])) (so:S io=some (.ar 1 (rS o) u hwo ver)) :
  Sem Proofs.Tryz.prog Js lvl [iI l,.ab iT 0,.ta (Za b),.ta [tv e],.ab iO 0] S (iI (ZqT b e o T l)) S:=by
 have hneT:iT.1≠lvl:=by omega
 have hneO:iO.1≠lvl:=by omega
 have hneo:io.1≠lvl:=by omega
 refine Zc Ut trivial ?_
 simp only[VW,Za,ZD hneT,ZD hneO,ZD hneo,sT,sO,so,EVA,seval,Zd,men]
 refine Zb (Zmr b l he0 hl ho hb) ?_
 simp only[EVA,seval,Zd,men]
 refine Zet (fun l' S' hs=>hT l' S' (Zin hcp (Zms hs.2))) ?_
 simp only[EVA,seval,Zd,men]
 unfold ZqT
 by_cases h2:(T (Zhs b l)).2=e0S
 ·rw[if_pos h2]
  simp only[h2,EVA,seval,Zd,men]
 ·rw[if_neg h2]
  simp only[h2,ZD hneO,ZD hneo,sO,so,EVA,seval,Zd,men]
  rw[show cut (rS o) 0 o.length=rS o from WR (by rw[List.length_map])]
  refine Zb (ZkU o (T (Zhs b l)).2 (by omega)) ?_
  have:=Zuo (l:=o) (s:=(T (Zhs b l)).2)
  have:=Zup (l:=o) (s:=(T (Zhs b l)).2)
  simp only[EVA,seval,Zd,men]
  rw[Ze];omega
theorem Zuq{y:List Int}{j:Nat}{v:Int}(h:j<y.length):Ys (rI y) [] j 0 (.v (.int .i64 v))=rI (y.set j v):=by
 simp only[Ys]
 rw[Jv h]
 exact(List.map_set (f:=fun n:Int=>[tv n]) (l:=y) (i:=j) (a:=v)).symm
def Zph(F:Int->Int)(x:TNode):TNode:=⟨x.control,x.parent,x.links.map F⟩
def YF(F:Int->Int)(l:List TNode)(j:Nat):List TNode:=(l.take j).map (Zph F)++l.drop j
def YG(F:Int->Int)(l:List Int)(k:Nat):List Int:=(l.take k).map F++l.drop k
theorem ZeL{F:Int->Int}{l:List Int}{k:Nat}:(YG F l k).length=l.length:=by simp [YG];omega
theorem Zio{F:Int->Int}{l:List Int}{k:Nat}(h:k<l.length):g0 (YG F l k) k=g0 l k:=by
 show (YG F l k).getD k 0=l.getD k 0
 have:((l.take k).map F).length=k:=by rw[List.length_map,List.length_take];omega
 rw[List.getD_eq_getElem?_getD,List.getD_eq_getElem?_getD,YG,List.getElem?_append_right (by omega),this,List.getElem?_drop]
 simp
theorem Zip{F:Int->Int}{l:List Int}{k:Nat}(h:k<l.length):(YG F l k).set k (F (g0 l k))=YG F l (k+1):=by
 have hl:((l.take k).map F).length=k:=by rw[List.length_map,List.length_take];omega
 have e:g0 l k=l[k]:=by simp [h]
 unfold YG
 rw[List.set_append_right _ _ (by omega),hl,Nat.sub_self,List.drop_eq_getElem_cons h,List.set_cons_zero,List.take_succ_eq_append_getElem h,List.map_append,e,List.append_assoc]
 rfl
theorem Zce{F:Int->Int}{l:List TNode}{j:Nat}:(YF F l j).length=l.length:=by simp [YF];omega
theorem ZeM{F:Int->Int}{l:List TNode}{j:Nat}(h:j<l.length):(YF F l j)[j]? = some l[j]:=by
 have:((l.take j).map (Zph F)).length=j:=by rw[List.length_map,List.length_take];omega
 rw[YF,List.getElem?_append_right (by omega),this,List.getElem?_drop]
 simp [h]
theorem Ziq{F:Int->Int}{l:List TNode}{j:Nat}(h:j<l.length):(YF F l j).set j (Zph F l[j])=YF F l (j+1):=by
 have hl:((l.take j).map (Zph F)).length=j:=by rw[List.length_map,List.length_take];omega
 unfold YF
 rw[List.set_append_right _ _ (by omega),hl,Nat.sub_self,List.drop_eq_getElem_cons h,List.set_cons_zero,List.take_succ_eq_append_getElem h,List.map_append,List.append_assoc]
 rfl
def Zrs(F:Int->Int)(w:TWire):TWire:=⟨w.name,F w.link⟩
def Zaq(F:Int->Int)(l:List TWire)(j:Nat):List TWire:=(l.take j).map (Zrs F)++l.drop j
theorem Zir{F:Int->Int}{l:List TWire}{j:Nat}(h:j<l.length):(Zaq F l j)[j]? = some l[j]:=by
 have:((l.take j).map (Zrs F)).length=j:=by rw[List.length_map,List.length_take];omega
 rw[Zaq,List.getElem?_append_right (by omega),this,List.getElem?_drop]
 simp [h]
theorem Zis{F:Int->Int}{l:List TWire}{j:Nat}(h:j<l.length):(Zaq F l j).set j (Zrs F l[j])=Zaq F l (j+1):=by
 have hl:((l.take j).map (Zrs F)).length=j:=by rw[List.length_map,List.length_take];omega
 unfold Zaq
 rw[List.set_append_right _ _ (by omega),hl,Nat.sub_self,List.drop_eq_getElem_cons h,List.set_cons_zero,List.take_succ_eq_append_getElem h,List.map_append,List.append_assoc]
 rfl
theorem Zpi{X:List TNode}{j k:Nat}{x:TNode}{v:Int}(h:X[j]? = some x)(hk:k<x.links.length):Ys (X.map ZG) [(j,2)] k 0 (.v (.int .i64 v))=(X.set j ⟨x.control,x.parent,x.links.set k v⟩).map ZG:=by
 have h1:=Zuq (y:=x.links) (j:=k) (v:=v) hk
 have e1:Ys (X.map ZG) [(j,2)] k 0 (.v (.int .i64 v))=(X.map ZG).set j [tv x.control,tv x.parent,Tr.sl (Ys (rI x.links) [] k 0 (.v (.int .i64 v)))]:=by
  simp only[Ys,List.getElem?_map,h,Option.map_some,ZG,List.getElem?_cons_succ,List.getElem?_cons_zero,List.set_cons_succ,List.set_cons_zero]
 rw[e1,h1,List.map_set]
 rfl
theorem ZgW(b:TBigraph)(e:Int)(o:List ByteArray)(tf:FuncId)(cps:List IV)(B:Sto)(T:Int×ByteArray->Int×ByteArray)(he0:0<=b.edges)(hbd:Zw 4294967290 b)(hb:b.edges<=4294967296)(he:0<=e/\e<=4294967296)(ho:o.length<=4294967290)
  (hln:∀ x∈b.nodes,∀ l∈x.links,Jx b l) (hlw:∀ w∈b.inner,Jx b w.link) (hT:∀ l,Jx b l->∀ l' S',Zd (Zlg B S' l') cps->Sem Proofs.Tryz.prog tf l' (oE (Zhs b l)::cps) S' (oE (T (Zhs b l))) S')
  (lvl:Nat) (S:Sto) (hcp:Zd (Zlg B S lvl) cps):Sem Proofs.Tryz.prog JH lvl [.ag ((Za b).map .tr),iI e,.tr (.sl (rS o)),.fn tf cps] S (Zh (ZeJ b (ZqT b e (Zim o) T) e (Zim o))) S:=by
 have hok:=Zog hcp
 refine Zc Dg (by simp [Zh,low,men,Zd]) ?_
 simp only[QW,Za,EVA,seval,Zd,men]
 refine Zb (Zfj b hbd) ?_
 simp only[Zh,Za,List.length_map,EVA,seval,Zd,men]
 refine Zb (ZeK o ho) ?_
 obtain⟨b1,b2,b3,b4,b5,b6,b7⟩:=hbd
 simp only[List.length_map,EVA,seval,Zd,men]
 have hFdef:∃ F,F=ZqT b e (Zim o) T:=⟨_,rfl⟩
 obtain⟨F,hF⟩:=hFdef
 rw[<-hF]
 have hsl:(Zim o).length<=4294967296:=Nat.le_trans ZqR (by omega)
 have hc:∀(loc:List (Nat×Ob)) (l:Int),Jx b l->lkO 224 loc=some (.bx [.fn tf cps])->lkO 288 loc=some (.bx [iI b.roots,.hd (lvl,576) [] 0 b.nodes.length none b.nodes.length,.hd (lvl,577) [] 0 b.sites.length none b.sites.length,iI e,.hd (lvl,672) [] 0 (Zim o).length none (Zim o).length,.hd (lvl,579) [] 0 b.inner.length none b.inner.length])->lkO 672 loc=some (.ar 1 (rS (Zim o)) true (Zim o).length 0) ->
   ∀ l' S',Zd (Zht (Zy lvl loc S) S' l') [iI l,.ab (lvl,224) 0,.ta (Za b),.ta [tv e],.ab (lvl,288) 0]->Sem Proofs.Tryz.prog Js l' [iI l,.ab (lvl,224) 0,.ta (Za b),.ta [tv e],.ab (lvl,288) 0] S' (iI (F l)) S':=fun loc l hl h1 h2 h3 l' S' hs=>by
  simp only[Zd,men] at hs
  obtain⟨_,h224,_,_,h288,_⟩:=hs
  have sT:=h224.1.2 _ (by rw[JV];exact h1)
  have hc2:=h224.2 _ (by rw[JV];exact h1)
  simp only[Zd,men,and_true] at hc2
  have sO:=h288.1.2 _ (by rw[JV];exact h2)
  have hm:=h288.2 _ (by rw[JV];exact h2)
  simp only[Zd,men] at hm
  obtain⟨_,_,_,_,h672,_,_⟩:=hm
  have so:=h672.2 _ (by rw[JV];exact h3)
  rw[hF]
  exact Zfk b l e (Zim o) tf cps B T he0 hl (by omega) hb he hsl (hT l hl) l' S' (Zin hcp hc2) (lvl,224) (lvl,288) (lvl,672) _ _ _ _ _ _ _ _ h224.1.1 h288.1.1 h672.1 sT sO so
 refine ZO (α:=Unit) b.nodes.length (fun j _=>[(28,iI j)]) (fun j _=>[(576,.ar 3 ((YF F b.nodes j).map ZG) true b.nodes.length 0)]) (fun _ _=>True) () (by simp only[hok,EVA,seval,Zd,men]) (by (simp only[EVA,seval,Zd,men]) <;> rfl) trivial ?_
 intro j _ hj _
 simp only[List.length_map,EVA,seval,Zd,men]
 refine Zn (fun hlt=>?_) (fun hge=>?_)
 ·have hja:j<b.nodes.length:=by omega
  have gp:=ZeM (F:=F) hja
  have ga:((YF F b.nodes j).map ZG)[j]? = some [Tr.v (.int .i64 b.nodes[j].control),Tr.v (.int .i64 b.nodes[j].parent),Tr.sl (rI b.nodes[j].links)]:=by rw[List.getElem?_map,gp];rfl
  have hkl:b.nodes[j].links.length<=4294967290:=b2 _ (List.getElem_mem hja)
  simp only[ga,hja,List.length_map,EVA,seval,Zd,men]
  have e0:(YF F b.nodes j).set j ⟨b.nodes[j].control,b.nodes[j].parent,YG F b.nodes[j].links 0⟩=YF F b.nodes j:=by
   have:(⟨b.nodes[j].control,b.nodes[j].parent,YG F b.nodes[j].links 0⟩:TNode)=b.nodes[j]:=by simp [YG]
   rw[this]
   have hl:j<(YF F b.nodes j).length:=by rw[Zce];exact hja
   have e:b.nodes[j]=(YF F b.nodes j)[j]:=by
    have:=gp
    rw[List.getElem?_eq_getElem hl] at this
    exact(Option.some.inj this).symm
   rw[e]
   exact List.set_getElem_self hl
  refine ZO (α:=Unit) b.nodes[j].links.length (fun k _=>[(35,iI k)]) (fun k _=>[(576,.ar 3 (((YF F b.nodes j).set j ⟨b.nodes[j].control,b.nodes[j].parent,YG F b.nodes[j].links k⟩).map ZG) true b.nodes.length 0)]) (fun _ _=>True) () (by simp only[hok,EVA,seval,Zd,men]) (by (simp only[e0,EVA,seval,Zd,men]) <;> rfl) trivial ?_
  intro k _ hk _
  have gq:((YF F b.nodes j).set j ⟨b.nodes[j].control,b.nodes[j].parent,YG F b.nodes[j].links k⟩)[j]? = some ⟨b.nodes[j].control,b.nodes[j].parent,YG F b.nodes[j].links k⟩:=by
   rw[List.getElem?_set_self (by rw[Zce];exact hja)]
  have hgp:(((YF F b.nodes j).set j ⟨b.nodes[j].control,b.nodes[j].parent,YG F b.nodes[j].links k⟩).map ZG)[j]? = some [Tr.v (.int .i64 b.nodes[j].control),Tr.v (.int .i64 b.nodes[j].parent),Tr.sl (rI (YG F b.nodes[j].links k))]:=by rw[List.getElem?_map,gq];rfl
  simp only[hgp,List.length_map,EVA,seval,Zd,men]
  refine Zn (fun hlt2=>?_) (fun hge2=>?_)
  ·have hka:k<b.nodes[j].links.length:=by omega
   have hpl:=ZeL (F:=F) (l:=b.nodes[j].links) (k:=k)
   have gk:(rI (YG F b.nodes[j].links k))[k]? = some [tv (g0 b.nodes[j].links k)]:=by rw[Jv (by omega),Zio hka]
   have hlk:Jx b (g0 b.nodes[j].links k):=hln _ (List.getElem_mem hja) _ (by simp [hka])
   have hsp:=Zpi (v:=F (g0 b.nodes[j].links k)) gq (k:=k) (by show k<(YG F b.nodes[j].links k).length;omega)
   simp only[hgp,gk,hka,hpl,Nat.zero_add,List.length_map,EVA,seval,Zd,men]
   refine Zet (hc _ (g0 b.nodes[j].links k) hlk rfl rfl rfl) ?_
   have hst:((YF F b.nodes j).set j ⟨b.nodes[j].control,b.nodes[j].parent,YG F b.nodes[j].links k⟩).set j ⟨b.nodes[j].control,b.nodes[j].parent,(YG F b.nodes[j].links k).set k (F (g0 b.nodes[j].links k))⟩=(YF F b.nodes j).set j ⟨b.nodes[j].control,b.nodes[j].parent,YG F b.nodes[j].links (k+1)⟩:=by
    rw[List.set_set,Zip hka]
   rw[hst] at hsp
   simp only[hgp,gk,hka,hpl,hsp,hok,Nat.zero_add,List.length_map,EVA,seval,Zd,men]
   exact⟨by rw[Ze];omega,Zf () hka rfl trivial⟩
  ·have:k=b.nodes[j].links.length:=by omega
   subst this
   have hst:(YF F b.nodes j).set j ⟨b.nodes[j].control,b.nodes[j].parent,YG F b.nodes[j].links b.nodes[j].links.length⟩=YF F b.nodes (j+1):=by
    rw[<-Ziq hja]
    congr 1
    simp [Zph,YG]
   rw[hst]
   simp only[hok,EVA,seval,Zd,men]
   exact⟨by rw[Ze];omega,Zf () hja rfl trivial⟩
 ·have:j=b.nodes.length:=by omega
  subst this
  have hpn:YF F b.nodes b.nodes.length=(ZeJ b F e (Zim o)).nodes:=by simp [YF,ZeJ,Zph]
  rw[hpn]
  refine ZO (α:=Unit) b.inner.length (fun j _=>[(52,iI j)]) (fun j _=>[(579,.ar 2 ((Zaq F b.inner j).map ZX) true b.inner.length 0)]) (fun _ _=>True) () (by simp only[hok,EVA,seval,Zd,men]) (by (simp only[EVA,seval,Zd,men]) <;> rfl) trivial ?_
  intro j _ hj _
  simp only[List.length_map,EVA,seval,Zd,men]
  refine Zn (fun hlt=>?_) (fun hge=>?_)
  ·have hja:j<b.inner.length:=by omega
   have gp:=Zir (F:=F) hja
   have ga:((Zaq F b.inner j).map ZX)[j]? = some [ts b.inner[j].name,tv b.inner[j].link]:=by rw[List.getElem?_map,gp];rfl
   have hsp:Ys ((Zaq F b.inner j).map ZX) [] j 1 (.v (.int .i64 (F b.inner[j].link)))=(Zaq F b.inner (j+1)).map ZX:=by
    simp only[Ys]
    rw[ga,<-Zis hja,List.map_set]
    rfl
   have hlk:Jx b b.inner[j].link:=hlw _ (List.getElem_mem hja)
   simp only[ga,hja,Nat.zero_add,List.length_map,EVA,seval,Zd,men]
   refine Zet (hc _ b.inner[j].link hlk rfl rfl rfl) ?_
   simp only[ga,hja,hsp,hok,Nat.zero_add,List.length_map,EVA,seval,Zd,men]
   exact⟨by rw[Ze];omega,Zf () hja rfl trivial⟩
  ·have:j=b.inner.length:=by omega
   subst this
   have hpw:Zaq F b.inner b.inner.length=(ZeJ b F e (Zim o)).inner:=by simp [Zaq,ZeJ,Zrs]
   rw[hpw]
   exact⟨by simp [ZeJ],by simp [ZeJ],rfl⟩
theorem Zit(b:TBigraph)(e:Int)(o:List ByteArray)(tf:FuncId)(cs:List (List Tr))(T:Int×ByteArray->Int×ByteArray)(he0:0<=b.edges)(hbd:Zw 4294967290 b)(hb:b.edges<=4294967296)(he:0<=e/\e<=4294967296)(ho:o.length<=4294967290)
  (hln:∀ x∈b.nodes,∀ l∈x.links,Jx b l) (hlw:∀ w∈b.inner,Jx b w.link) (hT:∀ l,Jx b l->∀ lvl S,Sem Proofs.Tryz.prog tf lvl (oE (Zhs b l)::cs.map IV.ta) S (oE (T (Zhs b l))) S)
  (lvl:Nat) (S:Sto):Sem Proofs.Tryz.prog JH lvl [.ag ((Za b).map .tr),iI e,.tr (.sl (rS o)),.fn tf (cs.map IV.ta)] S (Zh (ZeJ b (ZqT b e (Zim o) T) e (Zim o))) S :=
 ZgW b e o tf (cs.map IV.ta) (fun _=>none) T he0 hbd hb he ho hln hlw (fun l hl l' S' _=>hT l hl l' S') lvl S ZqV
end Go.Fd

/-
  A NAME BECOMES AN EDGE, AN EDGE A NAME: THE PROGRAM'S SIDE. Own work.
-/
namespace Go.Fd
set_option maxRecDepth 20000
end Go.Fd

/-
  A NAME BECOMES AN EDGE: BOTH SIDES. Own work.
-/
namespace Go.Fd
set_option maxRecDepth 20000
theorem ZfK{l:List ByteArray}(h:Qc l){s:ByteArray}(hs:s∈l):s.size<=4:=by
 obtain⟨i,hi,rfl⟩:=List.getElem_of_mem hs
 exact(h.1 i hi).1.2.2
end Go.Fd

/-
  A NAME BECOMES AN EDGE: BOTH ANSWERS. Own work.
-/
namespace Go.Fd
set_option maxRecDepth 20000
theorem Zmt{a c:Nat}{b:TBigraph}(h:a<=c)(hb:Zw a b):Zw c b:=by
 obtain⟨b1,b2,b3,b4,b5,b6,b7⟩:=hb
 exact⟨by omega,fun y hy=>Nat.le_trans (b2 y hy) h,by omega,by omega,fun y hy=>Nat.le_trans (b5 y hy) h,by omega,fun y hy=>Nat.le_trans (b7 y hy) h⟩
theorem Zkj{sig:List TControl}{b:TBigraph}(h:bigOK sig b):Zw 1000 b:=by
 have hs:=h.small
 have s1:=hs.nodes;have s2:=hs.sites;have s3:=hs.inner;have s4:=hs.outer
 refine⟨by omega,fun y hy=>hs.links y hy,by omega,by omega,fun y hy=>?_,by omega,fun w hw=>?_⟩
 ·have:=ZfK h.outer hy;omega
 ·have hn:w.name∈inn b:=List.mem_map.2 ⟨w,hw,rfl⟩
  have:=ZfK h.inn hn
  simp only[W7]
  omega
end Go.Fd

/-
  TWO NAMES BECOME ONE: THE PROGRAM'S SIDE; A COPY BY NUMBERING ANEW. Own work.
-/
namespace Go.Fd
set_option maxRecDepth 20000
theorem ZgX{n k:Nat}(h:k<n):g0 (Wb n) k=k:=by
 show (Wb n).getD k 0=_
 rw[List.getD_eq_getElem?_getD,Wb,List.getElem?_map,List.getElem?_range h]
 simp
theorem Zcf(p:Int)(n:Nat)(h:p<n)(lvl:Nat)(S:Sto):Sem Proofs.Tryz.prog J2 lvl [iI p,tI (Wb n)] S (iI p) S:=by
 refine Zc Zb8 trivial ?_
 simp only[X7,EVA,seval,Zd,men]
 refine Zn (fun hlt=>?_) (fun hge=>?_)
 ·trivial
 ·obtain⟨k,rfl⟩:∃ k:Nat,p=k:=⟨p.toNat,by omega⟩
  have hk:k<(Wb n).length:=by rw[Vr];omega
  have ga:=Jv hk
  rw[ZgX (by omega)] at ga
  simp only[ga,EVA,seval,Zd,men]
  try rfl
theorem Zdt(b:TBigraph)(l:Int)(n:Nat)(hn:b.edges=n)(h:0<=l)(lvl:Nat)(S:Sto):Sem Proofs.Tryz.prog Xr lvl [.ag ((Za b).map .tr),iI l,tI (Wb n)] S (iI l) S:=by
 refine Zc Zh8 trivial ?_
 simp only[Zdo,Za,hn,EVA,seval,Zd,men]
 refine Zn (fun hlt=>?_) (fun hge=>?_)
 ·trivial
 ·obtain⟨k,rfl⟩:∃ k:Nat,l=k:=⟨l.toNat,by omega⟩
  have hk:k<(Wb n).length:=by rw[Vr];omega
  have ga:=Jv hk
  rw[ZgX (by omega)] at ga
  simp only[ga,EVA,seval,Zd,men]
  try rfl
def Zbl(l:List TNode)(j:Nat):Row:=(l.take j).map ZG++List.replicate (l.length-j) [tv 0,tv 0,Tr.sl []]
theorem ZqW{l:List TNode}:List.replicate l.length [tv 0,tv 0,Tr.sl []]=Zbl l 0:=by simp [Zbl]
theorem ZqX{l:List TNode}:Zbl l l.length=l.map ZG:=by simp [Zbl]
theorem Zmu{l:List TNode}{j:Nat}(h:j<=l.length):(Zbl l j).length=l.length:=by simp [Zbl];omega
theorem Zmv{l:List TNode}{j:Nat}(h:j<l.length):(Zbl l j)[j]? = some [tv 0,tv 0,Tr.sl []]:=by
 have:(((l.take j).map ZG)).length=j:=by rw[List.length_map,List.length_take];omega
 rw[Zbl,List.getElem?_append_right (by omega),this,List.getElem?_replicate]
 rw[if_pos (by omega)]
theorem Zmw{l:List TNode}{j:Nat}(h:j<l.length):(Zbl l j).set j (ZG l[j])=Zbl l (j+1):=by
 have e:(((l.take j).map ZG)).length=j:=by rw[List.length_map,List.length_take];omega
 rw[Zbl,List.set_append_right _ _ (by omega),e,Nat.sub_self]
 rw[show l.length-j=(l.length-(j+1))+1 by omega,List.replicate_succ,List.set_cons_zero,Zbl,List.take_succ_eq_append_getElem h,List.map_append,List.append_assoc]
 rfl
theorem Zjn{R:Row}{j k:Nat}{e:List Tr}{t:Tr}(h:R[j]? = some e):Ys R [] j k t=R.set j (e.set k t):=by
 simp only[Ys,h]
theorem ZgY{R:Row}{j:Nat}{e:List Tr}(h:j<R.length):(R.set j e)[j]? = some e:=List.getElem?_set_self h
theorem ZcY(b:TBigraph)(n E:Nat)(hn:b.nodes.length=n)(hE:b.edges=E)(hbd:Zw 4294967290 b)(hE2:E<=4294967290)(hp:∀ x∈b.nodes,x.parent<n/\∀ l∈x.links,0<=l)(hs:∀ p∈b.sites,p<n)(hw:∀ w∈b.inner,0<=w.link)(lvl:Nat)(S:Sto):Sem Proofs.Tryz.prog V7 lvl [.ag ((Za b).map .tr),tI (Wb n),tI (Wb E)] S (Zh b) S:=by
 refine Zc ZcQ (by simp [Zh,low,men,Zd]) ?_
 simp only[UP,Za,Zzj,Zzk,Nat.zero_max,List.length_map,EVA,seval,Zd,men]
 obtain⟨b1,b2,b3,b4,b5,b6,b7⟩:=hbd
 refine⟨by omega,by omega,?_⟩
 refine ZO (α:=Unit) b.nodes.length (fun j _=>[(8,iI j)]) (fun j _=>[(576,.ar 3 (Zbl b.nodes j) true b.nodes.length j)]) (fun _ _=>True) () (by simp only[EVA,seval,Zd,men]) (by (simp only[ZqW,EVA,seval,Zd,men]) <;> rfl) trivial ?_
 intro j _ hj _
 simp only[List.length_map,EVA,seval,Zd,men]
 refine Zn (fun hlt=>?_) (fun hge=>?_)
 ·have hja:j<b.nodes.length:=by omega
  have ga:=Wh (c:=ZG) hja
  have hkl:b.nodes[j].links.length<=4294967290:=b2 _ (List.getElem_mem hja)
  obtain⟨p1,p2⟩:=hp _ (List.getElem_mem hja)
  refine ZO (α:=Unit) b.nodes[j].links.length (fun k _=>[(9,.hd (lvl,1056) [] 0 k none k),(10,iI k)]) (fun k _=>[(1056,.ar 1 (rI (b.nodes[j].links.take k)) true k 0)]) (fun _ _=>True) () (by simp only[EVA,seval,Zd,men]) (by (simp only[EVA,seval,Zd,men]) <;> rfl) trivial ?_
  intro k _ hk _
  simp only[ga,ZG,List.length_map,EVA,seval,Zd,men]
  refine Zn (fun hlt2=>?_) (fun hge2=>?_)
  ·have hka:k<b.nodes[j].links.length:=by omega
   have gl:=Jv hka
   have e0:g0 b.nodes[j].links k=b.nodes[j].links[k]:=by simp [hka]
   have hq:=p2 _ (List.getElem_mem hka)
   rw[<-e0] at hq
   have hl3:(b.nodes[j].links.take k).length=k:=by rw[List.length_take];omega
   have hs:rI (b.nodes[j].links.take k)++[[tv (g0 b.nodes[j].links k)]]=rI (b.nodes[j].links.take (k+1)):=by
    rw[List.take_succ_eq_append_getElem hka,Zdp,<-e0]
    rfl
   simp only[ga,ZG,gl,hka,hl3,hs,List.length_map,EVA,seval,Zd,men]
   have q:=Zdt b (g0 b.nodes[j].links k) E hE hq
   simp only[Za,List.map_cons,List.map_nil] at q
   refine Zb q ?_
   simp only[ga,ZG,gl,hka,hl3,hs,List.length_map,EVA,seval,Zd,men]
   exact⟨by omega,by rw[Ze];omega,Zf () hka rfl trivial⟩
  ·have:k=b.nodes[j].links.length:=by omega
   subst this
   rw[List.take_length]
   rw[<-hn] at p1
   have hj2:(Wb n).length=n:=Vr
   have gu:=Jv (l:=Wb n) (i:=j) (by omega)
   rw[ZgX (by omega)] at gu
   have q:=Zcf b.nodes[j].parent n (by omega)
   have g1:=Zmv hja
   have hfl:=Zmu (Nat.le_of_lt hja)
   have hst:=Zmw hja
   simp only[ga,ZG,gu,g1,hja,List.length_map,EVA,seval,Zd,men]
   refine Zb q ?_
   have t1:=Zjn (k:=0) (t:=Tr.v (.int .i64 b.nodes[j].control)) g1
   simp only[List.set_cons_zero] at t1
   have t2:=Zjn (k:=1) (t:=Tr.v (.int .i64 b.nodes[j].parent)) (ZgY (e:=[Tr.v (.int .i64 b.nodes[j].control),tv 0,Tr.sl []]) (by rw[hfl];exact hja))
   simp only[List.set_cons_zero,List.set_cons_succ,List.set_set] at t2
   have t3:=Zjn (k:=2) (t:=Tr.sl (rI b.nodes[j].links)) (ZgY (e:=[Tr.v (.int .i64 b.nodes[j].control),Tr.v (.int .i64 b.nodes[j].parent),Tr.sl []]) (by rw[hfl];exact hja))
   simp only[List.set_cons_zero,List.set_cons_succ,List.set_set] at t3
   have hst':(Zbl b.nodes j).set j [Tr.v (.int .i64 b.nodes[j].control),Tr.v (.int .i64 b.nodes[j].parent),Tr.sl (rI b.nodes[j].links)]=Zbl b.nodes (j+1):=hst
   rw[hst'] at t3
   have g2:=ZgY (e:=[Tr.v (.int .i64 b.nodes[j].control),tv 0,Tr.sl []]) (by rw[hfl];exact hja)
   have g3:=ZgY (e:=[Tr.v (.int .i64 b.nodes[j].control),Tr.v (.int .i64 b.nodes[j].parent),Tr.sl []]) (by rw[hfl];exact hja)
   simp only[ga,ZG,gu,g1,g2,g3,t1,t2,t3,hja,List.length_map,EVA,seval,Zd,men]
   exact⟨by rw[Ze];omega,Zf () hja rfl trivial⟩
 ·have:j=b.nodes.length:=by omega
  subst this
  rw[ZqX]
  refine ZO (α:=Unit) b.sites.length (fun j _=>[(11,iI j)]) (fun j _=>[(224,.bx [iI b.roots,.hd (lvl,576) [] 0 b.nodes.length none b.nodes.length,.hd (lvl,800) [] 0 j none j,iI b.edges,.hd (lvl,672) [] 0 b.outer.length none b.outer.length,.hd (lvl,801) [] 0 0 none 0]),(800,.ar 1 (rI (b.sites.take j)) true j 0)]) (fun _ _=>True) () (by simp only[EVA,seval,Zd,men]) (by (simp only[EVA,seval,Zd,men]) <;> rfl) trivial ?_
  intro j _ hj _
  simp only[List.length_map,EVA,seval,Zd,men]
  refine Zn (fun hlt=>?_) (fun hge=>?_)
  ·have hja:j<b.sites.length:=by omega
   have ga:=Jv hja
   have e0:g0 b.sites j=b.sites[j]:=by simp [hja]
   have hq:=hs _ (List.getElem_mem hja)
   rw[<-e0] at hq
   have hl3:(b.sites.take j).length=j:=by rw[List.length_take];omega
   have hs:rI (b.sites.take j)++[[tv (g0 b.sites j)]]=rI (b.sites.take (j+1)):=by
    rw[List.take_succ_eq_append_getElem hja,Zdp,<-e0]
    rfl
   simp only[ga,hja,hl3,hs,List.length_map,EVA,seval,Zd,men]
   refine Zb (Zcf (g0 b.sites j) n hq) ?_
   simp only[ga,hja,hl3,hs,List.length_map,EVA,seval,Zd,men]
   exact⟨by omega,by rw[Ze];omega,Zf () hja rfl trivial⟩
  ·have:j=b.sites.length:=by omega
   subst this
   rw[List.take_length]
   refine ZO (α:=Unit) b.inner.length (fun j _=>[(12,iI j)]) (fun j _=>[(224,.bx [iI b.roots,.hd (lvl,576) [] 0 b.nodes.length none b.nodes.length,.hd (lvl,800) [] 0 b.sites.length none b.sites.length,iI b.edges,.hd (lvl,672) [] 0 b.outer.length none b.outer.length,.hd (lvl,801) [] 0 j none j]),(801,.ar 2 ((b.inner.take j).map ZX) true j 0)]) (fun _ _=>True) () (by simp only[EVA,seval,Zd,men]) (by (simp only[EVA,seval,Zd,men]) <;> rfl) trivial ?_
   intro j _ hj _
   simp only[List.length_map,EVA,seval,Zd,men]
   refine Zn (fun hlt=>?_) (fun hge=>?_)
   ·have hja:j<b.inner.length:=by omega
    have ga:=Wh (c:=ZX) hja
    have hq:=hw _ (List.getElem_mem hja)
    have hl3:(b.inner.take j).length=j:=by rw[List.length_take];omega
    have hs:(b.inner.take j).map ZX++[[ts b.inner[j].name,tv b.inner[j].link]]=(b.inner.take (j+1)).map ZX:=by
     rw[List.take_succ_eq_append_getElem hja,List.map_append]
     rfl
    simp only[ga,ZX,hja,hl3,hs,List.length_map,EVA,seval,Zd,men]
    have q:=Zdt b b.inner[j].link E hE hq
    simp only[Za,List.map_cons,List.map_nil] at q
    refine Zb q ?_
    simp only[ga,ZX,hja,hl3,hs,List.length_map,EVA,seval,Zd,men]
    exact⟨by omega,by rw[Ze];omega,Zf () hja rfl trivial⟩
   ·have:j=b.inner.length:=by omega
    subst this
    rw[List.take_length]
    exact⟨rfl,rfl⟩
theorem Zmx(b:TBigraph)(E:Nat)(hE:b.edges=E)(hbd:Zw 4294967290 b)(hE2:E<=4294967290)(hp:∀ x∈b.nodes,x.parent<b.nodes.length/\∀ l∈x.links,0<=l)(hs:∀ p∈b.sites,p<b.nodes.length)(hw:∀ w∈b.inner,0<=w.link)(lvl:Nat)(S:Sto):Sem Proofs.Tryz.prog Xp lvl [.ag ((Za b).map .tr)] S (Zh b) S:=by
 refine Zc Zh4 (by simp [Zh,low,men,Zd]) ?_
 simp only[Zdl,Za,List.length_map,EVA,seval,Zd,men]
 have b1:=hbd.1
 refine ZO (α:=Unit) b.nodes.length (fun j _=>[(3,.hd (lvl,224) [] 0 j none j),(5,iI j)]) (fun j _=>[(224,.ar 1 (rI (Wb j)) true j 0)]) (fun _ _=>True) () (by simp only[EVA,seval,Zd,men]) (by (simp only[EVA,seval,Zd,men]) <;> rfl) trivial ?_
 intro j _ hj _
 simp only[List.length_map,EVA,seval,Zd,men]
 refine Zn (fun hlt=>?_) (fun hge=>?_)
 ·have hja:j<b.nodes.length:=by omega
  have hl:(Wb j).length=j:=Vr
  have hs:rI (Wb j)++[[tv (j:Int)]]=rI (Wb (j+1)):=by simp [Wb,rI,List.range_succ]
  simp only[hja,hl,hs,List.length_map,EVA,seval,Zd,men]
  exact⟨by omega,by rw[Ze];omega,Zf () hja rfl trivial⟩
 ·have:j=b.nodes.length:=by omega
  subst this
  refine ZO (α:=Unit) E (fun j _=>[(4,.hd (lvl,256) [] 0 j none j),(6,iI j)]) (fun j _=>[(256,.ar 1 (rI (Wb j)) true j 0)]) (fun _ _=>True) () (by simp only[EVA,seval,Zd,men]) (by (simp only[EVA,seval,Zd,men]) <;> rfl) trivial ?_
  intro j _ hj _
  simp only[hE,List.length_map,EVA,seval,Zd,men]
  refine Zn (fun hlt=>?_) (fun hge=>?_)
  ·have hja:j<E:=by omega
   have hl:(Wb j).length=j:=Vr
   have hs:rI (Wb j)++[[tv (j:Int)]]=rI (Wb (j+1)):=by simp [Wb,rI,List.range_succ]
   simp only[hja,hl,hs,List.length_map,EVA,seval,Zd,men]
   exact⟨by omega,by rw[Ze];omega,Zf () hja rfl trivial⟩
  ·have:j=E:=by omega
   subst this
   have l1:(Wb b.nodes.length).length=b.nodes.length:=Vr
   have l2:(Wb j).length=j:=Vr
   have q:=ZcY b b.nodes.length j rfl hE hbd hE2 hp hs hw
   simp only[Za,List.map_cons,List.map_nil,hE] at q
   rw[show cut (rI (Wb b.nodes.length)) 0 b.nodes.length=rI (Wb b.nodes.length) from WR (by rw[List.length_map,l1]),show cut (rI (Wb j)) 0 j=rI (Wb j) from WR (by rw[List.length_map,l2])]
   refine⟨by omega,by omega,Zb q ?_⟩
   simp only[Zh,hE,List.length_map,EVA,seval,Zd,men]
   try rfl
theorem ZkV{F:Int->Int}{l:List TNode}{j:Nat}(h:j<l.length):(YF F l j).set j ⟨l[j].control,l[j].parent,YG F l[j].links 0⟩=YF F l j:=by
 have:(⟨l[j].control,l[j].parent,YG F l[j].links 0⟩:TNode)=l[j]:=by simp [YG]
 rw[this]
 have hl:j<(YF F l j).length:=by rw[Zce];exact h
 have e:l[j]=(YF F l j)[j]:=by
  have:=ZeM (F:=F) h
  rw[List.getElem?_eq_getElem hl] at this
  exact(Option.some.inj this).symm
 rw[e]
 exact List.set_getElem_self hl
theorem Zmy{sig:List TControl}{b:TBigraph}(h:bigOK sig b){x:TNode}(hx:x∈b.nodes):x.parent<b.nodes.length/\∀ l∈x.links,0<=l/\l<b.edges+b.outer.length:=by
 obtain⟨k,hk,rfl⟩:=List.getElem_of_mem hx
 have q:=h.nodes k hk
 refine⟨?_,fun l hl=>?_⟩
 ·rcases q.par with p | p <;> omega
 ·have:=q.links l hl
  unfold Jx at this
  omega
theorem Zoh{sig:List TControl}{b:TBigraph}(h:bigOK sig b){p:Int}(hp:p∈b.sites):p<b.nodes.length:=by
 rcases h.sites p hp with q | q <;> omega
theorem ZkW(sig:List TControl)(b:TBigraph)(h:bigOK sig b)(lvl:Nat)(S:Sto):Sem Proofs.Tryz.prog Xp lvl [.ag ((Za b).map .tr)] S (Zh b) S:=by
 have he:=h.edges
 exact Zmx b b.edges.toNat (by omega) (Zmt (by omega) (Zkj h)) (by omega) (fun x hx=>⟨(Zmy h hx).1,fun l hl=>((Zmy h hx).2 l hl).1⟩) (fun p hp=>Zoh h hp) (fun w hw=>(h.inner w hw).1) lvl S
end Go.Fd

/-
  NAMES IN ORDER, AND THEIR LINKS, AS THE REFERENCE HAS THEM. Own work.
-/
namespace Go.Fd
set_option maxRecDepth 20000
end Go.Fd

/-
  OpenName: BOTH ANSWERS OF THE REFERENCE. Own work.
-/
namespace Go.Fd
end Go.Fd

/-
  ONE BIGRAPH UNDER ANOTHER: WHAT COMPOSITION COMPUTES, IN PLAIN TERMS. Own work.
-/
namespace Go.Fd
set_option maxRecDepth 20000
theorem ZqY{l:List ByteArray}(h:l.Pairwise ltS):Zim l=l:=ZqQ ordsS h fun _=>Iff.rfl
end Go.Fd

/-
  EACH NUMBER ONCE. Own work.
-/
namespace Go.Fd
set_option maxRecDepth 20000
def DQ(n:Nat)(l:List Int):Prop:=l.length=n/\∀ i:Nat,i<n->(i:Int)∈l
theorem ZkX:Ords (fun a b:Int=>a<b):=⟨fun a=>Int.lt_irrefl a,fun a b c=>Int.lt_trans,fun a b=>Int.lt_trichotomy a b⟩
theorem upto_mem{n:Nat}{x:Int}:x∈Wb n↔0<=x/\x<n:=by
 unfold Wb
 rw[List.mem_map]
 constructor
 ·rintro⟨i,hi,rfl⟩
  have:=List.mem_range.1 hi
  omega
 ·rintro⟨h1,h2⟩
  exact⟨x.toNat,List.mem_range.2 (by omega),by omega⟩
theorem upto_pw{n:Nat}:(Wb n).Pairwise (fun a b=>a<b):=by
 unfold Wb
 rw[List.pairwise_map]
 exact List.pairwise_lt_range.imp fun h=>by omega
theorem upto_nodup{n:Nat}:(Wb n).Nodup:=upto_pw.imp fun h e=>by omega
theorem Zcg:∀{x y:List Int},x.Nodup->(∀ c∈x,c∈y)->x.length<=y.length/\(y.length<=x.length->x.Perm y)
 | [],y,_,_=>⟨Nat.zero_le _,fun h=>by rw[List.length_eq_zero_iff.1 (Nat.le_zero.1 h)]⟩
 | a::r,y,hd,hs=>by
  have hc:=List.nodup_cons.1 hd
  have ha:a∈y:=hs a (by simp)
  have hp:=List.perm_cons_erase ha
  obtain⟨h1,h2⟩:=Zcg (x:=r) (y:=y.erase a) hc.2 fun c hcr=>(List.mem_erase_of_ne (fun e=>hc.1 (by rw[<-e];exact hcr))).2 (hs c (by simp [hcr]))
  have hl:=hp.length_eq
  simp only[List.length_cons] at hl ⊢
  exact⟨by omega,fun h=>((h2 (by omega)).cons a).trans hp.symm⟩
theorem ordOK_perm{n:Nat}{l:List Int}:DQ n l↔l.Perm (Wb n):=by
 constructor
 ·rintro⟨h1,h2⟩
  refine((Zcg (x:=Wb n) (y:=l) upto_nodup fun x hx=>?_).2 (by rw[h1,Vr];exact Nat.le_refl _)).symm
  have:=upto_mem.1 hx
  have h3:=h2 x.toNat (by omega)
  rwa [show ((x.toNat:Nat):Int)=x by omega] at h3
 ·intro h
  refine⟨by rw[h.length_eq,Vr],fun i hi=>h.mem_iff.2 (upto_mem.2 (by omega))⟩
theorem Zmz{n:Nat}{l:List Int}:DQ n l↔Zhr (fun a b:Int=>a<b) l=Wb n:=by
 rw[ordOK_perm]
 constructor
 ·intro h
  exact ZcV ZkX (ZcW ZkX) (upto_pw.imp fun h=>by omega) (srtG_perm.trans h)
 ·intro h
  rw[<-h]
  exact srtG_perm.symm
theorem Ziu{n:Nat}{l:List Int}(h:DQ n l){x:Int}(hx:x∈l):0<=x/\x<n:=upto_mem.1 ((ordOK_perm.1 h).mem_iff.1 hx)
theorem Zjo{n:Nat}{l:List Int}(h:DQ n l):l.Nodup:=(ordOK_perm.1 h).nodup_iff.2 upto_nodup
theorem Zoi{n:Nat}{l:List Int}(hd:l.Nodup)(hm:∀ x∈l,0<=x/\x<n)(hl:l.length=n):DQ n l:=by
 rw[ordOK_perm]
 exact(Zcg hd fun x hx=>upto_mem.2 (hm x hx)).2 (by rw[hl,Vr];exact Nat.le_refl _)
theorem ZmA{n:Nat}{l:List Int}(hd:l.Nodup)(hm:∀ x∈l,0<=x/\x<n):l.length<=n:=by
 have:=(Zcg hd fun x hx=>upto_mem.2 (hm x hx)).1
 rwa [Vr] at this
end Go.Fd

/-
  TRANSLATIONS, IN PLAIN TERMS. Own work.
-/
namespace Go.Fd
set_option maxRecDepth 20000
def Ze4(E:Int)(es:List Int)(x y:Int):Option (List Int) :=
 if E<=x\/E<=y then (if x=y then some es else none)
 else if 0<=g0 es x.toNat\/y∈es then (if g0 es x.toNat=y then some es else none)
 else some (es.set x.toNat y)
def XD(E:Int)(es x y:List Int):Nat->Option (List Int)
 | 0=>some es
 | j+1=>(XD E es x y j).bind fun z=>Ze4 E z (g0 x j) (g0 y j)
def WT(E:Int)(es x y:List Int):Option (List Int):=XD E es x y x.length
def JQ(b:TBigraph)(k:Nat):TNode:=(b.nodes[k]?).getD ⟨0,0,[]⟩
def mvP(ns:List Int)(p:Int):Int:=if p<0 then p else g0 ns p.toNat
def ZcZ(a b:TBigraph)(ns:List Int)(m:Int):Prop:=m ∉ ns/\(JQ a ns.length).control=(JQ b m.toNat).control/\mvP ns (JQ a ns.length).parent=(JQ b m.toNat).parent
open Classical in
noncomputable def edJ(a b:TBigraph)(ns:List Int):Nat->Option (List Int)
 | 0=>some (List.replicate a.edges.toNat (-1))
 | k+1=>(edJ a b ns k).bind fun es=>if ZcZ a b (ns.take k) (g0 ns k) then WT a.edges es (JQ a k).links (JQ b (g0 ns k).toNat).links else none
def lnk(b:TBigraph):List Int:=b.inner.map TWire.link
open Classical in
noncomputable def Zkk(a b:TBigraph)(ns es:List Int):Option (List Int) :=
 if a.sites.map (mvP ns)=b.sites then WT a.edges es (lnk a) (lnk b) else none
def nxt(l:List Int):Nat->Nat->Nat
 | 0,k=>k
 | f+1,k=>if (k:Int)∈l then nxt l f (k+1) else k
def YP(es:List Int):Nat->List Int
 | 0=>es
 | j+1=>if g0 (YP es j) j<0 then (YP es j).set j (nxt (YP es j) es.length 0:Nat) else YP es j
def ZmB(es:List Int):List Int:=YP es es.length
def Qi(a b:TBigraph):Prop:=a.roots=b.roots/\a.edges=b.edges/\a.nodes.length=b.nodes.length/\a.sites.length=b.sites.length/\a.outer=b.outer/\inn a=inn b
noncomputable def ZkY(a b:TBigraph)(ns:List Int):Option (List Int):=(edJ a b ns a.nodes.length).bind fun es=>Zkk a b ns es
open Classical in
noncomputable def trT(a b:TBigraph)(ns:List Int):Option (List Int):=if Qi a b/\DQ a.nodes.length ns then (ZkY a b ns).map ZmB else none
theorem Zkl{E:Int}{es z:List Int}{x y:Int}(h:Ze4 E es x y=some z):z.length=es.length:=by
 unfold Ze4 at h
 split at h
 ·split at h
  ·cases h;rfl
  ·cases h
 split at h
 ·split at h
  ·cases h;rfl
  ·cases h
 ·cases h;exact List.length_set
theorem Q1{E:Int}{es x y:List Int}:∀{j:Nat} {z:List Int},XD E es x y j=some z->z.length=es.length
 | 0,z,h=>by cases h;rfl
 | j+1,z,h=>by
  rw[XD] at h
  cases hp:XD E es x y j with
  | none=>rw[hp] at h;cases h
  | some w =>
   rw[hp] at h
   rw[Zkl h,Q1 hp]
theorem ZaO{E:Int}{es x y:List Int}{j k:Nat}(h:XD E es x y j=none)(hk:j<=k):XD E es x y k=none:=by
 induction k with
 | zero=>rw[show j=0 by omega] at h;exact h
 | succ k ih =>
  by_cases e:j=k+1
  ·subst e;exact h
  ·rw[XD,ih (by omega)];rfl
theorem Zkm{a b:TBigraph}{ns:List Int}{j k:Nat}(h:edJ a b ns j=none)(hk:j<=k):edJ a b ns k=none:=by
 induction k with
 | zero=>rw[show j=0 by omega] at h;exact h
 | succ k ih =>
  by_cases e:j=k+1
  ·subst e;exact h
  ·rw[edJ,ih (by omega)];rfl
theorem Zc0{a b:TBigraph}{ns:List Int}:∀{k:Nat} {z:List Int},edJ a b ns k=some z->z.length=a.edges.toNat
 | 0,z,h=>by cases h;exact List.length_replicate
 | k+1,z,h=>by
  rw[edJ] at h
  cases hp:edJ a b ns k with
  | none=>rw[hp] at h;cases h
  | some w =>
   rw[hp] at h
   have h:(@ite _ (ZcZ a b (ns.take k) (g0 ns k)) (Classical.propDecidable _) (WT a.edges w (JQ a k).links (JQ b (g0 ns k).toNat).links) none)=some z:=h
   split at h
   ·rw[Q1 h,Zc0 hp]
   ·cases h
theorem ZmC{l:List Int}{i k:Nat}(h:i<k):g0 (l.take k) i=g0 l i:=by
 show (l.take k).getD i 0=l.getD i 0
 rw[List.getD_eq_getElem?_getD,List.getD_eq_getElem?_getD,List.getElem?_take_of_lt h]
theorem Zkn{a b:TBigraph}{ns:List Int}{n:Nat}:∀{k:Nat},k<=n->edJ a b (ns.take n) k=edJ a b ns k
 | 0,_=>rfl
 | k+1,h=>by
  rw[edJ,edJ,Zkn (by omega),ZmC (by omega),List.take_take,Nat.min_eq_left (by omega)]
theorem ZqZ{a b:TBigraph}{ns:List Int}{m:Int}{k:Nat}(h:k<=ns.length):edJ a b (ns++[m]) k=edJ a b ns k:=by
 have e:(ns++[m]).take ns.length=ns:=List.take_left ..
 rw[<-Zkn (ns:=ns++[m]) h,e]
theorem Zur{ns:List Int}{m:Int}:g0 (ns++[m]) ns.length=m:=by
 show (ns++[m]).getD _ 0=m
 rw[List.getD_eq_getElem?_getD,List.getElem?_append_right (Nat.le_refl _)]
 simp
theorem Zko{a b:TBigraph}{ns:List Int}{m:Int}:edJ a b (ns++[m]) (ns.length+1)=(edJ a b ns ns.length).bind fun es=>@ite _ (ZcZ a b ns m) (Classical.propDecidable _) (WT a.edges es (JQ a ns.length).links (JQ b m.toNat).links) none:=by
 rw[edJ,ZqZ (Nat.le_refl _),Zur,List.take_left]
open Classical in
noncomputable def Zbm(a b:TBigraph):Nat->List Int->List (List Int)
 | 0,ns=>if (trT a b ns).isSome then [ns] else []
 | r+1,ns=>(Wb b.nodes.length).flatMap fun m=>if ZcZ a b ns m then Zbm a b r (ns++[m]) else []
open Classical in
noncomputable def ZkZ(a b:TBigraph):Nat->List Int->List Int->List (List Int)
 | 0,ns,es=>if (Zkk a b ns es).isSome then [ns] else []
 | r+1,ns,es=>(Wb b.nodes.length).flatMap fun m=>if ZcZ a b ns m then
   (match WT a.edges es (JQ a ns.length).links (JQ b m.toNat).links with
   | some z=>ZkZ a b r (ns++[m]) z
   | none=>[]) else []
theorem Ziv{a b:TBigraph}:∀{r:Nat} {ns:List Int},ns.length+r=a.nodes.length->edJ a b ns ns.length=none->Zbm a b r ns=[]
 | 0,ns,hl,h=>by
  rw[Zbm]
  have e:ns.length=a.nodes.length:=by omega
  rw[if_neg]
  unfold trT ZkY
  split
  ·rw[<-e,h];simp
  ·simp
 | r+1,ns,hl,h=>by
  rw[Zbm,List.flatMap_eq_nil_iff]
  intro m _
  split
  ·refine Ziv (by rw[List.length_append,List.length_singleton];omega) ?_
   rw[List.length_append,List.length_singleton,Zko,h]
   rfl
  ·rfl
theorem ZeN{α β:Type}{f g:α->List β}:∀{l:List α},(∀ x∈l,f x=g x)->l.flatMap f=l.flatMap g
 | [],_=>rfl
 | x::r,h=>by rw[List.flatMap_cons,List.flatMap_cons,h x (by simp),ZeN fun y hy=>h y (by simp [hy])]
theorem ZmD{a b:TBigraph}(ha:Qi a b):∀{r:Nat} {ns es:List Int},ns.length+r=a.nodes.length->ns.Nodup->(∀ x∈ns,0<=x/\x<b.nodes.length)->edJ a b ns ns.length=some es->ZkZ a b r ns es=Zbm a b r ns
 | 0,ns,es,hl,hd,hm,h=>by
  rw[ZkZ,Zbm]
  have e:ns.length=a.nodes.length:=by omega
  have ho:DQ a.nodes.length ns:=Zoi hd (fun x hx=>by have:=hm x hx;have:=ha.2.2.1;omega) e
  have h2:(trT a b ns).isSome=(Zkk a b ns es).isSome:=by
   unfold trT ZkY
   rw[if_pos ⟨ha,ho⟩,<-e,h]
   simp
  rw[h2]
 | r+1,ns,es,hl,hd,hm,h=>by
  rw[ZkZ,Zbm]
  refine ZeN fun m hmm=>?_
  have hm2:=upto_mem.1 hmm
  by_cases hf:ZcZ a b ns m
  ·rw[if_pos hf,if_pos hf]
   have hn:=Zko (a:=a) (b:=b) (ns:=ns) (m:=m)
   rw[h] at hn
   simp only[Option.bind_some,if_pos hf] at hn
   have hl2:(ns++[m]).length=ns.length+1:=by rw[List.length_append,List.length_singleton]
   cases ht:WT a.edges es (JQ a ns.length).links (JQ b m.toNat).links with
   | none =>
    rw[ht] at hn
    simp only
    exact(Ziv (by omega) (by rw[hl2];exact hn)).symm
   | some z =>
    rw[ht] at hn
    simp only
    refine ZmD ha (by omega) ?_ ?_ (by rw[hl2];exact hn)
    ·rw[List.nodup_append]
     refine⟨hd,List.pairwise_singleton ..,fun x hx y hy e=>?_⟩
     rw[List.mem_singleton.1 hy] at e
     subst e
     exact hf.1 hx
    ·intro x hx
     rcases List.mem_append.1 hx with hx | hx
     ·exact hm x hx
     ·rw[List.mem_singleton.1 hx];exact hm2
  ·rw[if_neg hf,if_neg hf]
end Go.Fd

/-
  TRANSLATIONS, IN PLAIN TERMS: HOW MANY; WHAT IS LEFT IDLE. Own work.
-/
namespace Go.Fd
set_option maxRecDepth 20000
def Zus:Nat->Nat
 | 0=>1
 | n+1=>(n+1)*Zus n
theorem Zkp{α β:Type}{f:α->List β}{p:α->Bool}{B:Nat}:∀{l:List α},(∀ x∈l,p x=false->f x=[])->(∀ x∈l,(f x).length<=B)->(l.flatMap f).length<=(l.filter p).length*B
 | [],_,_=>by simp
 | x::r,h1,h2=>by
  have ih:=Zkp (l:=r) (p:=p) (fun y hy=>h1 y (by simp [hy])) (fun y hy=>h2 y (by simp [hy]))
  rw[List.flatMap_cons,List.length_append,List.filter_cons]
  cases hp:p x
  ·rw[h1 x (by simp) hp]
   simpa using ih
  ·have:=h2 x (by simp)
   simp only[if_true,List.length_cons,Nat.succ_mul]
   omega
theorem Zk0{n:Nat}:∀{ns:List Int},ns.Nodup->(∀ x∈ns,0<=x/\x<n)->((Wb n).filter fun m=>!decide (m∈ns)).length+ns.length<=n:=fun {ns} hd hm=>by
 have h1:(((Wb n).filter fun m=>!decide (m∈ns))++ns).Nodup:=by
  rw[List.nodup_append]
  refine⟨upto_nodup.filter _,hd,fun x hx y hy e=>?_⟩
  subst e
  have:=(List.mem_filter.1 hx).2
  simp [hy] at this
 have h2:=ZmA (n:=n) h1 fun x hx=>by
  rcases List.mem_append.1 hx with hx | hx
  ·exact upto_mem.1 (List.mem_filter.1 hx).1
  ·exact hm x hx
 rwa [List.length_append] at h2
theorem ZmE{a b:TBigraph}:∀{r:Nat} {ns:List Int},b.nodes.length<=ns.length+r->ns.Nodup->(∀ x∈ns,0<=x/\x<b.nodes.length)->(Zbm a b r ns).length<=Zus r
 | 0,ns,_,_,_=>by
  rw[Zbm]
  split <;> simp [Zus]
 | r+1,ns,hl,hd,hm=>by
  rw[Zbm]
  have h1:=Zk0 hd hm
  refine Nat.le_trans (Zkp (p:=fun m=>!decide (m∈ns)) (B:=Zus r) (fun m _ hp=>?_) (fun m hmm=>?_)) (Nat.mul_le_mul_right _ (by omega:_<=r+1))
  ·rw[if_neg]
   intro hf
   have:m∈ns:=by simpa using hp
   exact hf.1 this
  ·split
   ·rename_i hf
    refine ZmE (by rw[List.length_append,List.length_singleton];omega) ?_ ?_
    ·rw[List.nodup_append]
     refine⟨hd,List.pairwise_singleton ..,fun x hx y hy e=>?_⟩
     rw[List.mem_singleton.1 hy] at e
     subst e
     exact hf.1 hx
    ·intro x hx
     rcases List.mem_append.1 hx with hx | hx
     ·exact hm x hx
     ·rw[List.mem_singleton.1 hx];exact upto_mem.1 hmm
   ·simp
theorem Zd4{a b:TBigraph}:∀{r:Nat} {ns x:List Int},ns.length+r=a.nodes.length->x∈Zbm a b r ns->x.length=a.nodes.length/\(trT a b x).isSome
 | 0,ns,x,hl,h=>by
  rw[Zbm] at h
  split at h
  ·rename_i hs
   rw[List.mem_singleton.1 h]
   exact⟨by omega,hs⟩
  ·simp at h
 | r+1,ns,x,hl,h=>by
  rw[Zbm] at h
  obtain⟨m,_,hx⟩:=List.mem_flatMap.1 h
  split at hx
  ·exact Zd4 (by rw[List.length_append,List.length_singleton];omega) hx
  ·simp at hx
theorem ZmF{β:Type}{x:List β}{m:Nat}(h:m<=(x.take m).length)(y:List β):(x++y).take m=x.take m:=by
 rw[List.length_take] at h
 rw[List.take_append_of_le_length (by omega)]
theorem ZmG{E:Int}{es z:List Int}{x y:Int}(h:Ze4 E es x y=some z){l:Nat}(hl:0<=g0 es l):g0 z l=g0 es l:=by
 unfold Ze4 at h
 split at h
 ·split at h
  ·cases h;rfl
  ·cases h
 split at h
 ·split at h
  ·cases h;rfl
  ·cases h
 ·rename_i h1 h2
  cases h
  show (es.set x.toNat y).getD l 0=es.getD l 0
  rw[List.getD_eq_getElem?_getD,List.getElem?_set]
  by_cases e:x.toNat=l
  ·subst e
   exact absurd (.inl hl) h2
  ·rw[if_neg e,List.getD_eq_getElem?_getD]
theorem Vh{l:List Int}{i:Nat}(h:i<l.length):g0 l i∈l:=by
 have:g0 l i=l[i]:=by simp [h]
 rw[this]
 exact List.getElem_mem h
theorem Zk1{l:List Int}{i j:Nat}{v:Int}(h:i<l.length):g0 (l.set i v) j=if i=j then v else g0 l j:=by
 show (l.set i v).getD j 0=if i=j then v else l.getD j 0
 rw[List.getD_eq_getElem?_getD,List.getElem?_set,List.getD_eq_getElem?_getD]
 by_cases e:i=j
 ·rw[if_pos e,if_pos e,if_pos (by omega)];rfl
 ·rw[if_neg e,if_neg e]
theorem Zq0{E:Int}{es z:List Int}{x y:Int}(h:Ze4 E es x y=some z)(hE:(es.length:Int)=E)(hx:0<=x)(hy:y<E):y∈z:=by
 unfold Ze4 at h
 split at h
 ·rename_i h1
  split at h
  ·rename_i h2;omega
  ·cases h
 split at h
 ·rename_i h1 h2
  split at h
  ·rename_i h3
   cases h
   rw[<-h3]
   exact Vh (by omega)
  ·cases h
 ·cases h
  rename_i h1 h2
  have hlt:x.toNat<es.length:=by omega
  have:g0 (es.set x.toNat y) x.toNat=y:=by rw[Zk1 hlt,if_pos rfl]
  have hq:=Vh (l:=es.set x.toNat y) (i:=x.toNat) (by rw[List.length_set];exact hlt)
  rw[this] at hq
  exact hq
theorem Zkq{E:Int}{es z:List Int}{x y:Int}(h:Ze4 E es x y=some z){v:Int}(hv:0<=v)(hm:v∈es):v∈z:=by
 obtain⟨l,hl,rfl⟩:=List.getElem_of_mem hm
 have e:g0 es l=es[l]:=by simp [hl]
 have k:=ZmG h (l:=l) (by rw[e];exact hv)
 rw[e] at k
 rw[<-k]
 exact Vh (by rw[Zkl h];exact hl)
theorem ZeO{E:Int}{es x y:List Int}{v:Int}(hv:0<=v):∀{j:Nat} {z:List Int},XD E es x y j=some z->v∈es->v∈z
 | 0,z,h,hm=>by cases h;exact hm
 | j+1,z,h,hm=>by
  rw[XD] at h
  cases hp:XD E es x y j with
  | none=>rw[hp] at h;cases h
  | some w =>
   rw[hp] at h
   exact Zkq h hv (ZeO hv hp hm)
theorem ZgZ{E:Int}{es x y:List Int}(hE:(es.length:Int)=E):∀{j:Nat} {z:List Int},XD E es x y j=some z->∀ i,i<j->0<=g0 x i->0<=g0 y i->g0 y i<E->g0 y i∈z
 | 0,z,_,i,hi,_,_,_=>by omega
 | j+1,z,h,i,hi,h1,h2,h3=>by
  rw[XD] at h
  cases hp:XD E es x y j with
  | none=>rw[hp] at h;cases h
  | some w =>
   rw[hp] at h
   have hw:(w.length:Int)=E:=by rw[Q1 hp];exact hE
   by_cases e:i=j
   ·subst e
    exact Zq0 h hw h1 h3
   ·exact Zkq h h2 (ZgZ hE hp i (by omega) h1 h2 h3)
def Zrt(es:List Int):Prop:=∀ i j,i<es.length->j<es.length->0<=g0 es i->g0 es i=g0 es j->i=j
def Zru(E:Int)(es:List Int):Prop:=∀ v∈es,-1<=v/\v<E
theorem Zoj{E:Int}{es z:List Int}{x y:Int}(h:Ze4 E es x y=some z)(hE:(es.length:Int)=E)(hx:0<=x)(hi:Zrt es):Zrt z:=by
 unfold Ze4 at h
 split at h
 ·split at h
  ·cases h;exact hi
  ·cases h
 split at h
 ·split at h
  ·cases h;exact hi
  ·cases h
 ·rename_i h1 h2
  cases h
  intro i j hi1 hj1 h3 h4
  rw[List.length_set] at hi1 hj1
  have hlt:x.toNat<es.length:=by omega
  rw[Zk1 hlt] at h3
  rw[Zk1 hlt,Zk1 hlt] at h4
  have hy:y ∉ es:=fun g=>h2 (.inr g)
  by_cases e1:x.toNat=i
  ·by_cases e2:x.toNat=j
   ·omega
   ·rw[if_pos e1,if_neg e2] at h4
    exact absurd (by rw[h4];exact Vh hj1) hy
  ·rw[if_neg e1] at h3 h4
   by_cases e2:x.toNat=j
   ·rw[if_pos e2] at h4
    exact absurd (by rw[<-h4];exact Vh hi1) hy
   ·rw[if_neg e2] at h4
    exact hi i j hi1 hj1 h3 h4
theorem Zok{E:Int}{es z:List Int}{x y:Int}(h:Ze4 E es x y=some z)(hy:0<=y)(hi:Zru E es):Zru E z:=by
 unfold Ze4 at h
 split at h
 ·split at h
  ·cases h;exact hi
  ·cases h
 split at h
 ·split at h
  ·cases h;exact hi
  ·cases h
 ·rename_i h1 h2
  cases h
  intro v hv
  rcases List.mem_or_eq_of_mem_set hv with q | q
  ·exact hi v q
  ·omega
theorem Zg0{E:Int}{es x y:List Int}(hE:(es.length:Int)=E)(hx:∀ v∈x,0<=v)(hy:∀ v∈y,0<=v)(h1:Zrt es)(h2:Zru E es):∀{j:Nat} {z:List Int},j<=x.length->j<=y.length->XD E es x y j=some z->Zrt z/\Zru E z
 | 0,z,_,_,h=>by cases h;exact⟨h1,h2⟩
 | j+1,z,hj,hk,h=>by
  rw[XD] at h
  cases hp:XD E es x y j with
  | none=>rw[hp] at h;cases h
  | some w =>
   rw[hp] at h
   obtain⟨q1,q2⟩:=Zg0 hE hx hy h1 h2 (by omega) (by omega) hp
   have hw:(w.length:Int)=E:=by rw[Q1 hp];exact hE
   exact⟨Zoj h hw (hx _ (Vh (by omega))) q1,Zok h (hy _ (Vh (by omega))) q2⟩
end Go.Fd

/-
  TRANSLATIONS, IN PLAIN TERMS: WHAT IS LEFT IS IDLE; HOW IT IS FILLED. Own work.
-/
namespace Go.Fd
set_option maxRecDepth 20000
theorem Zkr{l:Int}{i:Nat}{ls:List Int}(h:l ∉ ls):∀{k:Nat},k<=ls.length->Zd2 l i ls k=[]
 | 0,_=>rfl
 | k+1,hk=>by
  rw[Zjl (fun e=>h (by rw[<-e];exact Vh (by omega))),Zkr h (by omega)]
theorem ZfL{b:TBigraph}{l:Int}(h:∀ x∈b.nodes,l ∉ x.links):∀{j:Nat},j<=b.nodes.length->Yf b l j=[]
 | 0,_=>rfl
 | j+1,hj=>by
  have hj2:j<b.nodes.length:=by omega
  rw[Yf,ZfL h (by omega),Wi hj2,Zkr (h _ (List.getElem_mem hj2)) (Nat.le_refl _)]
  rfl
theorem Ziw{b:TBigraph}{l:Int}(h:l ∉ lnk b):∀{j:Nat},j<=b.inner.length->WQ b l j=[]
 | 0,_=>rfl
 | j+1,hj=>by
  have hj2:j<b.inner.length:=by omega
  rw[WQ,if_neg,Ziw h (by omega)]
  rw[ZcX hj2]
  intro e
  exact h (List.mem_map.2 ⟨_,List.getElem_mem hj2,e⟩)
theorem Zq1{b:TBigraph}{l:Int}(h1:∀ x∈b.nodes,l ∉ x.links)(h2:l ∉ lnk b):idle b l:=by
 unfold idle ports Zpc
 rw[ZfL h1 (Nat.le_refl _),Ziw h2 (Nat.le_refl _)]
 exact⟨rfl,rfl⟩
theorem Jm{b:TBigraph}{k:Nat}(h:k<b.nodes.length):JQ b k=b.nodes[k]:=by simp [JQ,h]
structure pairOK (sig:List TControl) (a b:TBigraph):Prop where
 big:bigOK sig a
 big2:bigOK sig b
 al:Qi a b
theorem Zch{sig:List TControl}{a b:TBigraph}(ha:bigOK sig a)(hb:bigOK sig b){k m:Nat}(hk:k<a.nodes.length)(hm:m<b.nodes.length)(h:(JQ a k).control=(JQ b m).control):(JQ a k).links.length=(JQ b m).links.length:=by
 rw[Jm hk,Jm hm] at *
 have h1:=(ha.nodes k hk).ports
 have h2:=(hb.nodes m hm).ports
 rw[h] at h1
 omega
theorem Zg1{sig:List TControl}{b:TBigraph}(hb:bigOK sig b){m:Nat}(hm:m<b.nodes.length):∀ l∈(JQ b m).links,0<=l:=fun l hl=>by
 rw[Jm hm] at hl
 exact((hb.nodes m hm).links l hl).1
theorem ZmH{sig:List TControl}{b:TBigraph}(hb:bigOK sig b):∀ l∈lnk b,0<=l:=fun l hl=>by
 obtain⟨w,hw,rfl⟩:=List.mem_map.1 hl
 exact(hb.inner w hw).1
theorem Zg2{a b:TBigraph}{ns:List Int}{k:Nat}{z:List Int}(h:edJ a b ns (k+1)=some z):∃ es,edJ a b ns k=some es/\ZcZ a b (ns.take k) (g0 ns k)/\WT a.edges es (JQ a k).links (JQ b (g0 ns k).toNat).links=some z:=by
 rw[edJ] at h
 cases hp:edJ a b ns k with
 | none=>rw[hp] at h;cases h
 | some w =>
  rw[hp] at h
  have h:(@ite _ (ZcZ a b (ns.take k) (g0 ns k)) (Classical.propDecidable _) (WT a.edges w (JQ a k).links (JQ b (g0 ns k).toNat).links) none)=some z:=h
  split at h
  ·exact⟨w,rfl,by assumption,h⟩
  ·cases h
theorem ZmI{a b:TBigraph}{ns:List Int}{v:Int}(hv:0<=v){j:Nat}{w:List Int}(hw:edJ a b ns j=some w)(hm:v∈w):∀{k:Nat} {z:List Int},j<=k->edJ a b ns k=some z->v∈z
 | 0,z,hk,h=>by
  rw[show j=0 by omega,h] at hw
  cases hw;exact hm
 | k+1,z,hk,h=>by
  by_cases e:j=k+1
  ·subst e
   rw[h] at hw
   cases hw;exact hm
  ·obtain⟨es,h1,_,h2⟩:=Zg2 h
   exact ZeO hv h2 (ZmI hv hw hm (by omega) h1)
theorem Zpj{sig:List TControl}{a b:TBigraph}(h:pairOK sig a b){ns:List Int}(hn:ns.length<=a.nodes.length)(hm:∀ x∈ns,0<=x/\x<b.nodes.length):∀{k:Nat} {z:List Int},k<=ns.length->edJ a b ns k=some z->Zrt z/\Zru a.edges z
 | 0,z,_,hz=>by
  cases hz
  have hg:∀ i,i<(List.replicate a.edges.toNat (-1:Int)).length->g0 (List.replicate a.edges.toNat (-1:Int)) i = -1:=fun i hi=>by
   have:g0 (List.replicate a.edges.toNat (-1:Int)) i∈List.replicate a.edges.toNat (-1:Int):=Vh hi
   exact(List.mem_replicate.1 this).2
  refine⟨fun i j hi hj h0 _=>?_,fun v hv=>?_⟩
  ·have:=hg i hi;omega
  ·have:=(List.mem_replicate.1 hv).2
   have:=h.big.edges
   omega
 | k+1,z,hk,hz=>by
  obtain⟨es,h1,hf,h2⟩:=Zg2 hz
  obtain⟨q1,q2⟩:=Zpj h hn hm (by omega) h1
  have he:=h.big.edges
  have hx:=hm _ (Vh (l:=ns) (i:=k) (by omega))
  have hmb:(g0 ns k).toNat<b.nodes.length:=by omega
  have hl:(JQ a k).links.length=(JQ b (g0 ns k).toNat).links.length:=by
   refine Zch h.big h.big2 (by omega) hmb ?_
   have:=hf.2.1
   rwa [List.length_take,Nat.min_eq_left (by omega)] at this
  exact Zg0 (by rw[Zc0 h1];omega) (Zg1 h.big (by omega)) (Zg1 h.big2 hmb) q1 q2 (Nat.le_refl _) (by omega) h2
theorem Zk2{a b:TBigraph}{ns z:List Int}(h:ZkY a b ns=some z):∃ es,edJ a b ns a.nodes.length=some es/\a.sites.map (mvP ns)=b.sites/\WT a.edges es (lnk a) (lnk b)=some z:=by
 unfold ZkY at h
 cases hp:edJ a b ns a.nodes.length with
 | none=>rw[hp] at h;cases h
 | some w =>
  rw[hp] at h
  have h:Zkk a b ns w=some z:=h
  unfold Zkk at h
  split at h
  ·exact⟨w,rfl,by assumption,h⟩
  ·cases h
theorem Zjp{a b:TBigraph}(h:Qi a b):(lnk a).length=(lnk b).length:=by
 have:=congrArg List.length h.2.2.2.2.2
 simp only[inn,List.length_map] at this
 simp only[lnk,List.length_map]
 exact this
theorem Zq2{sig:List TControl}{a b:TBigraph}(h:pairOK sig a b){ns z:List Int}(ho:DQ a.nodes.length ns)(hz:ZkY a b ns=some z):z.length=a.edges.toNat/\Zrt z/\Zru a.edges z/\∀ v,0<=v->v<a.edges->v ∉ z->idle b v:=by
 obtain⟨es,h1,_,h2⟩:=Zk2 hz
 have he:=h.big.edges
 have hab:=h.al.2.2.1
 have hm:∀ x∈ns,0<=x/\x<b.nodes.length:=fun x hx=>by have:=Ziu ho hx;omega
 obtain⟨q1,q2⟩:=Zpj h (by rw[ho.1];exact Nat.le_refl _) hm (by rw[ho.1];exact Nat.le_refl _) h1
 have hE:(es.length:Int)=a.edges:=by rw[Zc0 h1];omega
 obtain⟨q3,q4⟩:=Zg0 hE (ZmH h.big) (ZmH h.big2) q1 q2 (Nat.le_refl _) (by rw[Zjp h.al];exact Nat.le_refl _) h2
 refine⟨by rw[Q1 h2,Zc0 h1],q3,q4,fun v h3 h4 h5=>Zq1 (fun x hx hxl=>h5 ?_) fun hl=>h5 ?_⟩
 ·obtain⟨m,hmb,rfl⟩:=List.getElem_of_mem hx
  obtain⟨k,hk,hke⟩:=List.getElem_of_mem (ho.2 m (by omega))
  have hk2:k<a.nodes.length:=by rw[<-ho.1];exact hk
  have hgk:g0 ns k=(m:Int):=by rw[<-hke];simp [hk]
  cases hz1:edJ a b ns (k+1) with
  | none=>rw[Zkm hz1 hk2] at h1;cases h1
  | some w =>
   obtain⟨e0,g1,hf,g2⟩:=Zg2 hz1
   rw[hgk,Int.toNat_natCast] at g2
   have hlen:(JQ a k).links.length=(JQ b m).links.length:=by
    refine Zch h.big h.big2 hk2 hmb ?_
    have:=hf.2.1
    rwa [List.length_take,Nat.min_eq_left (by rw[ho.1];omega),hgk,Int.toNat_natCast] at this
   obtain⟨i,hi,hie⟩:=List.getElem_of_mem hxl
   rw[<-Jm hmb] at hi
   have hgi:g0 (JQ b m).links i=v:=by
    have:g0 (JQ b m).links i=(JQ b m).links[i]:=by simp [hi]
    rw[this,<-hie]
    simp only[Jm hmb]
   have hw:v∈w:=by
    have:=ZgZ (by rw[Zc0 g1];omega) g2 i (by omega) (Zg1 h.big hk2 _ (Vh (by omega))) (by omega) (by omega)
    rwa [hgi] at this
   exact ZeO h3 h2 (ZmI h3 hz1 hw (by omega) h1)
 ·obtain⟨i,hi,hie⟩:=List.getElem_of_mem hl
  have hgi:g0 (lnk b) i=v:=by rw[<-hie];simp [hi]
  have hia:i<(lnk a).length:=by rw[Zjp h.al];exact hi
  have:=ZgZ hE h2 i hia (ZmH h.big _ (Vh hia)) (by omega) (by omega)
  rwa [hgi] at this
theorem Zks{l:List Int}:∀{f k:Nat},(∃ m:Nat,k<=m/\m<k+f/\(m:Int) ∉ l)->((nxt l f k:Nat):Int) ∉ l/\k<=nxt l f k/\nxt l f k<k+f/\∀ i:Nat,k<=i->i<nxt l f k->(i:Int)∈l
 | 0,k,⟨m,h1,h2,_⟩=>by omega
 | f+1,k,⟨m,h1,h2,h3⟩=>by
  rw[nxt]
  by_cases hk:(k:Int)∈l
  ·rw[if_pos hk]
   have hne:m≠k:=fun e=>h3 (by rw[e];exact hk)
   obtain⟨q1,q2,q3,q4⟩:=Zks (l:=l) (f:=f) (k:=k+1) ⟨m,by omega,by omega,h3⟩
   refine⟨q1,by omega,by omega,fun i h4 h5=>?_⟩
   by_cases e:i=k
   ·rw[e];exact hk
   ·exact q4 i (by omega) h5
  ·rw[if_neg hk]
   exact⟨hk,Nat.le_refl _,by omega,fun i h4 h5=>by omega⟩
theorem gap{l:List Int}{j:Nat}(hj:j<l.length)(hn:g0 l j<0):∃ m:Nat,0<=m/\m<0+l.length/\(m:Int) ∉ l:=by
 refine Classical.byContradiction fun h=>?_
 have hall:∀ c∈Wb l.length,c∈l:=fun c hc=>by
  have:=upto_mem.1 hc
  refine Classical.byContradiction fun g=>h ⟨c.toNat,Nat.zero_le _,by omega,?_⟩
  rwa [show ((c.toNat:Nat):Int)=c by omega]
 have hp:=(Zcg upto_nodup hall).2 (by rw[Vr];exact Nat.le_refl _)
 have:=upto_mem.1 (hp.mem_iff.2 (Vh hj))
 omega
theorem Q3{es:List Int}:∀{j:Nat},(YP es j).length=es.length
 | 0=>rfl
 | j+1=>by
  rw[YP]
  split
  ·rw[List.length_set,Q3]
  ·exact Q3
def Zc1(es:List Int)(j:Nat):Nat:=nxt (YP es j) es.length 0
theorem ZfM{es:List Int}{j:Nat}(hj:j<es.length)(hn:g0 (YP es j) j<0):((Zc1 es j:Nat):Int) ∉ YP es j/\Zc1 es j<es.length/\∀ i:Nat,i<Zc1 es j->(i:Int)∈YP es j:=by
 have hl:=Q3 (es:=es) (j:=j)
 obtain⟨m,h1,h2,h3⟩:=gap (l:=YP es j) (by omega) hn
 obtain⟨q1,_,q3,q4⟩:=Zks (l:=YP es j) (f:=es.length) (k:=0) ⟨m,h1,by omega,h3⟩
 exact⟨q1,by unfold Zc1;omega,fun i hi=>q4 i (Nat.zero_le _) hi⟩
theorem Zix{es:List Int}{j:Nat}(h:g0 (YP es j) j<0):YP es (j+1)=(YP es j).set j (Zc1 es j:Nat):=by rw[YP,if_pos h];rfl
theorem Zkt{es:List Int}{j:Nat}(h:¬ g0 (YP es j) j<0):YP es (j+1)=YP es j:=by rw[YP,if_neg h]
theorem Ziy{es:List Int}{v:Int}(hv:0<=v)(hm:v∈es):∀{j:Nat},v∈YP es j
 | 0=>hm
 | j+1=>by
  have ih:=Ziy hv hm (j:=j)
  by_cases h:g0 (YP es j) j<0
  ·rw[Zix h]
   obtain⟨i,hi,hie⟩:=List.getElem_of_mem ih
   have hgi:g0 (YP es j) i=v:=by rw[<-hie];simp [hi]
   by_cases hj:j<(YP es j).length
   ·have hne:j≠i:=fun e=>by subst e;omega
    have:=Zk1 (j:=i) (v:=((Zc1 es j:Nat):Int)) hj
    rw[if_neg hne,hgi] at this
    rw[<-this]
    exact Vh (by rw[List.length_set];exact hi)
   ·rw[List.set_eq_of_length_le (by omega)];exact ih
  ·rw[Zkt h];exact ih
theorem ZmJ{sig:List TControl}{a b:TBigraph}(h:pairOK sig a b){ns z:List Int}(ho:DQ a.nodes.length ns)(hz:ZkY a b ns=some z){j:Nat}(hj:j<z.length)(hn:g0 (YP z j) j<0):idle b (Zc1 z j:Nat):=by
 obtain⟨h1,_,_,h2⟩:=Zq2 h ho hz
 obtain⟨q1,q2,_⟩:=ZfM hj hn
 have he:=h.big.edges
 exact h2 _ (by omega) (by omega) fun hm=>q1 (Ziy (by omega) hm)
end Go.Fd

/-
  TRANSLATIONS: LOOPS THAT STOP EARLY, IN PLAIN TERMS; LOOPS IN WHICH OTHERS' OBJECTS TURN. Own work.
-/
namespace Go.Fd
set_option maxRecDepth 20000
def ZaW(E:Int)(es x y:List Int):Nat->List Int
 | 0=>es
 | j+1=>(XD E es x y (j+1)).getD (ZaW E es x y j)
theorem Vs{E:Int}{es x y z:List Int}:∀{j:Nat},XD E es x y j=some z->ZaW E es x y j=z
 | 0,h=>by cases h;rfl
 | j+1,h=>by rw[ZaW,h];rfl
theorem ZfN{E:Int}{es x y:List Int}{j:Nat}(h:XD E es x y (j+1)=none):∀{k:Nat},j<=k->ZaW E es x y k=ZaW E es x y j
 | 0,hk=>by rw[show j=0 by omega]
 | k+1,hk=>by
  by_cases e:j=k+1
  ·rw[e]
  ·rw[ZaW,ZaO h (by omega),Option.getD_none,ZfN h (by omega)]
theorem Zc2{E:Int}{es x y z:List Int}{j:Nat}(h:XD E es x y j=some z):XD E es x y (j+1)=Ze4 E z (g0 x j) (g0 y j):=by
 rw[XD,h];rfl
def jnL{β:Type}(f:Int->List β)(j:Nat):List β:=(Wb j).flatMap f
theorem Zku{β:Type}{f:Int->List β}:jnL f 0=[]:=rfl
theorem Ug{β:Type}{f:Int->List β}{j:Nat}:jnL f (j+1)=jnL f j++f j:=by
 unfold jnL
 rw[Zmq,List.flatMap_append]
 simp
theorem Zg3{β:Type}{f:Int->List β}{j:Nat}:∀{n:Nat},j<=n->∃ r,jnL f n=jnL f j++r
 | 0,h=>⟨[],by rw[show j=0 by omega];rfl⟩
 | n+1,h=>by
  by_cases e:j=n+1
  ·exact⟨[],by rw[e,List.append_nil]⟩
  ·obtain⟨r,hr⟩:=Zg3 (f:=f) (show j<=n by omega)
   exact⟨r++f n,by rw[Ug,hr,List.append_assoc]⟩
theorem Zol{β:Type}{f:Int->List β}{j m:Nat}(h:((jnL f j).take m).length<m):(jnL f (j+1)).take m=(jnL f j).take m++(f j).take (m-((jnL f j).take m).length):=by
 rw[List.length_take] at h
 have hl:(jnL f j).length<m:=by omega
 rw[Ug,List.take_append,List.take_of_length_le (l:=jnL f j) (by omega)]
theorem Zom{β:Type}{f:Int->List β}{j n m:Nat}(hj:j<=n)(h:m<=((jnL f j).take m).length):(jnL f n).take m=(jnL f j).take m:=by
 obtain⟨r,hr⟩:=Zg3 (f:=f) hj
 rw[hr]
 exact ZmF h r
def tkB{β:Type}(m:Bool)(L:List β):List β:=if m then L else L.take 1
theorem Zg4{β:Type}{m:Bool}:tkB m ([]:List β)=[]:=by cases m <;> rfl
theorem Zq3{β:Type}{m:Bool}{x y:List β}(h:m=false->x=[]):tkB m (x++y)=tkB m x++tkB m y:=by
 cases m
 ·rw[h rfl];rfl
 ·rfl
theorem Zon{β:Type}{f:Int->List β}{j n:Nat}(hj:j<n)(h:jnL f j=[])(hf:f j≠[]):tkB false (jnL f n)=tkB false (f j)/\(jnL f n).isEmpty=false:=by
 obtain⟨r,hr⟩:=Zg3 (f:=f) (show j+1<=n by omega)
 rw[Ug,h,List.nil_append] at hr
 rw[hr]
 cases hfj:f j with
 | nil=>exact absurd hfj hf
 | cons a b=>exact⟨rfl,rfl⟩
theorem ZfO{l m:Nat}{x y:List (Nat×Ob)}{S:Sto}(h:l≠m):Zy l x (Zy m y S)=Zy m y (Zy l x S):=by
 funext i
 unfold Zy
 by_cases h1:i.1=l
 ·rw[if_pos h1,if_neg (fun e=>h (by omega)),if_pos h1]
 ·rw[if_neg h1]
  by_cases h2:i.1=m
  ·rw[if_pos h2,if_pos h2]
  ·rw[if_neg h2,if_neg h2,if_neg h1]
theorem Zd5{l k:Nat}{x:List (Nat×Ob)}{S:Sto}:Zy l x S (l,k)=lkO k x:=by unfold Zy;rw[if_pos rfl]
theorem ZeP{l:Nat}{x:List (Nat×Ob)}{S:Sto}{i:Oid}(h:i.1≠l):Zy l x S i=S i:=by unfold Zy;rw[if_neg h]
end Go.Fd

/-
  TRANSLATIONS, THE REFERENCE: TIES. Own work.
-/
namespace Go.Fd
set_option maxRecDepth 20000
abbrev cB(b:TBigraph):IV:=.ag ((Za b).map .tr)
theorem Zc3(l:List Int)(hl:l.length<=4294967296)(lvl:Nat)(S:Sto):Sem Proofs.Tryz.prog VP lvl [tI l] S (.ow 1 (rI l) true) S:=by
 refine Zc Zh5 trivial ?_
 simp only[Zdm,List.length_map,Zoe,Zof,EVA,seval]
 exact hl
theorem Zoo{y:List Int}{j:Nat}{v:Int}(h:j<y.length):Ys (rI y) [] j 0 (.v (.int .i64 v))=rI (y.set j v):=by
 simp only[Ys]
 rw[Jv h]
 exact(List.map_set (f:=fun n:Int=>[tv n]) (l:=y) (i:=j) (a:=v)).symm
theorem Zop{n:Nat}:rI (List.replicate (n+1) (-1:Int))=rI (List.replicate n (-1))++[[tv (-1)]]:=by
 rw[List.replicate_succ']
 simp
theorem ZfP(n:Nat)(hn:n<=100)(lvl:Nat)(S:Sto):Sem Proofs.Tryz.prog QL lvl [iI n] S (.ow 1 (rI (List.replicate n (-1))) true) S:=by
 refine Zc ZgC trivial ?_
 simp only[ZbT,EVA,seval]
 refine ZO (α:=Unit) n (fun j _=>[(3,.hd (lvl,160) [] 0 j none j),(4,iI j)]) (fun j _=>[(160,.ar 1 (rI (List.replicate j (-1))) true j 0)]) (fun _ _=>True) () (by simp only[EVA,seval]) (by (simp only[EVA,seval]) <;> rfl) trivial ?_
 intro j _ hj _
 simp only[List.length_map,List.length_replicate,EVA,seval]
 refine Zn (fun hlt=>?_) (fun hge=>?_)
 ·have hja:j<n:=by omega
  exact⟨by omega,by rw[Ze];omega,Zf () hja (by rw[Zop];rfl) trivial⟩
 ·have:j=n:=by omega
  subst this
  rfl
theorem ZmK(a b:TBigraph)(es:List Int)(x y:Int)(ha:0<=a.edges/\a.edges<=8)(hab:a.edges=b.edges)(hes:es.length=a.edges.toNat)(hx:0<=x/\x<=1000)(hy:0<=y/\y<=1000)(lvl:Nat)(S:Sto) :
  Sem Proofs.Tryz.prog Un lvl [cB a,cB b,tI es,iI x,iI y] S (.tu [tI ((Ze4 a.edges es x y).getD es),iB (Ze4 a.edges es x y).isSome]) S:=by
 refine Zc Zh7 (by simp [low,men,Zd]) ?_
 unfold Ze4
 rw[hab] at ha hes ⊢
 by_cases h1:b.edges<=x
 ·rw[if_pos (.inl h1)]
  by_cases h2:x=y
  ·have e:(x-b.edges=y-b.edges)=True:=eq_true (by omega)
   rw[if_pos h2]
   simp only[Ya,Za,hab,h1,e,EVA,seval]
   exact⟨by rw[Ze];omega,by rw[Ze];omega⟩
  ·have e:(x-b.edges=y-b.edges)=False:=eq_false (by omega)
   rw[if_neg h2]
   simp only[Ya,Za,hab,h1,e,EVA,seval]
   exact⟨by rw[Ze];omega,by rw[Ze];omega⟩
 by_cases h3:b.edges<=y
 ·rw[if_pos (.inr h3)]
  by_cases h2:x=y
  ·omega
  ·have e:(x-b.edges=y-b.edges)=False:=eq_false (by omega)
   rw[if_neg h2]
   simp only[Ya,Za,hab,h1,h3,e,EVA,seval]
   exact⟨by rw[Ze];omega,by rw[Ze];omega⟩
 rw[if_neg (show ¬ (b.edges<=x\/b.edges<=y) by omega)]
 obtain⟨k,rfl⟩:=Int.eq_ofNat_of_zero_le hx.1
 have hk:k<es.length:=by omega
 have ga:=Jv hk
 simp only[Int.toNat_natCast]
 by_cases h4:0<=g0 es k
 ·rw[if_pos (.inl h4)]
  by_cases h5:g0 es k=y
  ·have e:(g0 es k=y)=True:=eq_true h5
   rw[if_pos h5]
   simp only[Ya,Za,hab,h1,h3,ga,h4,e,EVA,seval]
   try rfl
  ·have e:(g0 es k=y)=False:=eq_false h5
   rw[if_neg h5]
   simp only[Ya,Za,hab,h1,h3,ga,h4,e,EVA,seval]
   try rfl
 by_cases h6:y∈es
 ·rw[if_pos (.inr h6)]
  by_cases h5:g0 es k=y
  ·have e:(g0 es k=y)=True:=eq_true h5
   rw[if_pos h5]
   simp only[Ya,Za,hab,h1,h3,ga,h4,EVA,seval,Zd,men]
   refine Zb (Zca es y (by omega)) ?_
   simp only[h6,ga,e,decide_true,EVA,seval]
   try rfl
  ·have e:(g0 es k=y)=False:=eq_false h5
   rw[if_neg h5]
   simp only[Ya,Za,hab,h1,h3,ga,h4,EVA,seval,Zd,men]
   refine Zb (Zca es y (by omega)) ?_
   simp only[h6,ga,e,decide_true,EVA,seval]
   try rfl
 rw[if_neg (show ¬ (0<=g0 es k\/y∈es) from fun h=>h.elim h4 h6)]
 have sp:=Zoo (y:=es) (j:=k) (v:=y) hk
 simp only[Ya,Za,hab,h1,h3,ga,h4,EVA,seval,Zd,men]
 refine Zb (Zca es y (by omega)) ?_
 simp only[h6,decide_false,EVA,seval,Zd,men]
 refine Zb (Zc3 es (by omega)) ?_
 simp only[hk,ga,sp,List.length_map,EVA,seval]
 refine⟨by rw[List.length_set];exact Nat.le_refl _,?_⟩
 rw[WR (by simp)]
end Go.Fd

/-
  TRANSLATIONS, THE REFERENCE: LISTS OF TIES, NODES THAT FIT, ENDS. Own work.
-/
namespace Go.Fd
set_option maxRecDepth 20000
theorem ZfQ(a b:TBigraph)(es x y:List Int)(ha:0<=a.edges/\a.edges<=8)(hab:a.edges=b.edges)(hes:es.length=a.edges.toNat)(hl:x.length=y.length)(hxl:x.length<=1000)(hx:∀ v∈x,0<=v/\v<=1000)(hy:∀ v∈y,0<=v/\v<=1000)(lvl:Nat)(S:Sto) :
  Sem Proofs.Tryz.prog QN lvl [cB a,cB b,tI es,tI x,tI y] S (.tu [tI (ZaW a.edges es x y x.length),iB (WT a.edges es x y).isSome]) S:=by
 refine Zc ZgI (by simp [low,men,Zd]) ?_
 simp only[Zb3,Za,EVA,seval]
 refine ZO (α:=Unit) x.length (fun j _=>[(2,tI (ZaW a.edges es x y j)),(12,iI j)]) (fun _ _=>[]) (fun j _=>∃ z,XD a.edges es x y j=some z) () (by simp only[EVA,seval]) (by (simp only[ZaW,EVA,seval]) <;> rfl) ⟨es,rfl⟩ ?_
 intro j _ hj ⟨z,hz⟩
 rw[Vs hz]
 simp only[List.length_map,EVA,seval]
 refine Zn (fun hlt=>?_) (fun hge=>?_)
 ·have hja:j<x.length:=by omega
  have hjy:j<y.length:=by omega
  have gx:=Jv hja
  have gy:=Jv hjy
  have q:=ZmK a b z (g0 x j) (g0 y j) ha hab (by rw[Q1 hz];exact hes) (hx _ (Vh hja)) (hy _ (Vh hjy))
  have hsucc:=Zc2 hz
  simp only[cB,Za,List.map_cons,List.map_nil] at q
  simp only[gx,gy,EVA,seval,Zd,men]
  refine Zb q ?_
  cases ht:Ze4 a.edges z (g0 x j) (g0 y j) with
  | none =>
   rw[ht] at hsucc
   have e1:ZaW a.edges es x y x.length=z:=by rw[ZfN hsucc (by omega),Vs hz]
   have e2:(WT a.edges es x y).isSome=false:=by unfold WT;rw[ZaO hsucc (by omega)];rfl
   rw[e1,e2]
   simp only[Option.isSome_none,EVA,seval]
   try rfl
  | some w =>
   rw[ht] at hsucc
   simp only[Option.isSome_some,Option.getD_some,EVA,seval]
   exact⟨by rw[Ze];omega,Zf () hja (by rw[Vs hsucc];rfl) ⟨w,hsucc⟩⟩
 ·have:j=x.length:=by omega
  subst this
  have e2:(WT a.edges es x y).isSome=true:=by unfold WT;rw[hz];rfl
  rw[e2,Vs hz]
theorem ZfR(p:Int)(ns:List Int)(h:p<ns.length)(lvl:Nat)(S:Sto):Sem Proofs.Tryz.prog J2 lvl [iI p,tI ns] S (iI (mvP ns p)) S:=by
 refine Zc Zb8 trivial ?_
 unfold mvP
 by_cases h0:p<0
 ·rw[if_pos h0]
  simp only[X7,h0,EVA,seval]
  try rfl
 ·rw[if_neg h0]
  obtain⟨k,rfl⟩:=Int.eq_ofNat_of_zero_le (show 0<=p by omega)
  have hk:k<ns.length:=by omega
  have ga:=Jv hk
  simp only[X7,h0,ga,EVA,seval]
  try rfl
theorem Zk3(a b:TBigraph)(ns:List Int)(m:Nat)(hk:ns.length<a.nodes.length)(hn:ns.length<=100)(hm:m<b.nodes.length)(hp:(JQ a ns.length).parent<ns.length)(lvl:Nat)(S:Sto) :
  Sem Proofs.Tryz.prog WE lvl [cB a,cB b,tI ns,iI m] S (iB (dc (ZcZ a b ns m))) S:=by
 refine Zc ZgH trivial ?_
 have ga:=Wh (c:=ZG) hk
 have gb:=Wh (c:=ZG) hm
 have ea:=Jm hk
 have eb:=Jm hm
 rw[ea] at hp
 have key:ZcZ a b ns m↔(m:Int) ∉ ns/\a.nodes[ns.length].control=b.nodes[m].control/\mvP ns a.nodes[ns.length].parent=b.nodes[m].parent:=by
  unfold ZcZ
  rw[Int.toNat_natCast,ea,eb]
 rw[Yi key]
 generalize a.nodes[ns.length]=x at ga hp ⊢
 generalize b.nodes[m]=y at gb ⊢
 simp only[Zb2,Za,ga,gb,ZG,List.length_map,EVA,seval,Zd,men]
 refine Zb (Zca ns m (by omega)) ?_
 by_cases h1:(m:Int)∈ns
 ·rw[Zk fun h=>h.1 h1]
  simp only[h1,decide_true,EVA,seval]
  try rfl
 by_cases h2:x.control=y.control
 ·have e2:(x.control=y.control)=True:=eq_true h2
  simp only[h1,decide_false,e2,EVA,seval,Zd,men]
  refine Zb (ZfR x.parent ns hp) ?_
  by_cases h3:mvP ns x.parent=y.parent
  ·have e3:(mvP ns x.parent=y.parent)=True:=eq_true h3
   rw[Z5 h3]
   simp only[e3,EVA,seval]
   try rfl
  ·have e3:(mvP ns x.parent=y.parent)=False:=eq_false h3
   rw[Zk h3]
   simp only[e3,EVA,seval]
   try rfl
 ·have e2:(x.control=y.control)=False:=eq_false h2
  rw[Zk fun h=>h2 h.2.1]
  simp only[h1,decide_false,e2,EVA,seval]
  try rfl
open Classical in
noncomputable def ZyF(a b:TBigraph)(ns es:List Int):List Int:=if a.sites.map (mvP ns)=b.sites then ZaW a.edges es (lnk a) (lnk b) (lnk a).length else es
theorem Zkv{b:TBigraph}{j:Nat}(h:j<b.inner.length):rI ((lnk b).take j)++[[tv b.inner[j].link]]=rI ((lnk b).take (j+1)):=by
 rw[List.take_succ_eq_append_getElem (by simpa [lnk] using h)]
 simp [lnk]
theorem Zk4(a b:TBigraph)(ns es:List Int)(ha:0<=a.edges/\a.edges<=8)(hab:a.edges=b.edges)(hes:es.length=a.edges.toNat)(hs:a.sites.length=b.sites.length)(hs2:a.sites.length<=100)(hi:a.inner.length=b.inner.length)(hi2:a.inner.length<=100)(hp:∀ p∈a.sites,p<ns.length)
  (hx:∀ v∈lnk a,0<=v/\v<=1000) (hy:∀ v∈lnk b,0<=v/\v<=1000) (lvl:Nat) (S:Sto) :
  Sem Proofs.Tryz.prog WD lvl [cB a,cB b,tI ns,tI es] S (.tu [tI (ZyF a b ns es),iB (Zkk a b ns es).isSome]) S:=by
 have hla:(lnk a).length=a.inner.length:=by simp [lnk]
 have hlb:(lnk b).length=b.inner.length:=by simp [lnk]
 refine Zc ZgG (by simp [low,men,Zd]) ?_
 simp only[Zb1,Za,EVA,seval]
 refine ZO (α:=Unit) a.sites.length (fun j _=>[(10,iI j)]) (fun _ _=>[]) (fun j _=>∀ i,i<j->mvP ns (g0 a.sites i)=g0 b.sites i) () (by simp only[EVA,seval]) (by (simp only[EVA,seval]) <;> rfl) (fun i hi=>absurd hi (Nat.not_lt_zero i)) ?_
 intro j _ hj hA
 simp only[List.length_map,EVA,seval]
 refine Zn (fun hlt=>?_) (fun hge=>?_)
 ·have hja:j<a.sites.length:=by omega
  have hjb:j<b.sites.length:=by omega
  have gx:=Jv hja
  have gy:=Jv hjb
  simp only[gx,EVA,seval,Zd,men]
  refine Zb (ZfR (g0 a.sites j) ns (hp _ (Vh hja))) ?_
  by_cases h:mvP ns (g0 a.sites j)=g0 b.sites j
  ·have e:(mvP ns (g0 a.sites j)=g0 b.sites j)=True:=eq_true h
   simp only[gy,e,EVA,seval]
   exact⟨by rw[Ze];omega,Zf () hja rfl (fun i hi=>by
    by_cases e:i=j
    ·subst e;exact h
    ·exact hA i (by omega))⟩
  ·have e:(mvP ns (g0 a.sites j)=g0 b.sites j)=False:=eq_false h
   have hne:¬ a.sites.map (mvP ns)=b.sites:=fun g=>h (by
    rw[<-g]
    show _=(a.sites.map (mvP ns)).getD j 0
    simp [hja])
   unfold ZyF Zkk
   rw[if_neg hne,if_neg hne]
   simp only[gy,e,Option.isSome_none,EVA,seval]
   try rfl
 have hj1:j=a.sites.length:=by omega
 subst hj1
 have heq:a.sites.map (mvP ns)=b.sites:=List.ext_getElem (by rw[List.length_map];exact hs) fun i h1 h2=>by
  rw[List.length_map] at h1
  have:=hA i h1
  rw[List.getElem_map]
  simpa [h1,h2] using this
 unfold ZyF Zkk
 rw[if_pos heq,if_pos heq]
 refine ZO (α:=Unit) a.inner.length (fun j _=>[(11,.hd (lvl,1120) [] 0 j none j),(12,.hd (lvl,1152) [] 0 j none j),(13,iI j)]) (fun j _=>[(1120,.ar 1 (rI ((lnk a).take j)) true j 0),(1152,.ar 1 (rI ((lnk b).take j)) true j 0)]) (fun _ _=>True) () (by simp only[EVA,seval]) (by (simp only[EVA,seval]) <;> rfl) trivial ?_
 intro j _ hj _
 simp only[List.length_map,EVA,seval,Zd,men]
 refine Zn (fun hlt=>?_) (fun hge=>?_)
 ·have hja:j<a.inner.length:=by omega
  have hjb:j<b.inner.length:=by omega
  have gx:=Wh (c:=ZX) hja
  have gy:=Wh (c:=ZX) hjb
  have l1:(rI ((lnk a).take j)).length=j:=by simp;omega
  have l2:(rI ((lnk b).take j)).length=j:=by simp;omega
  simp only[gx,gy,ZX,l1,l2,EVA,seval]
  exact⟨by omega,by omega,by rw[Ze];omega,Zf () hja (by rw[<-Zkv hja,<-Zkv hjb];rfl) trivial⟩
 ·have hj2:j=a.inner.length:=by omega
  subst hj2
  have q:=ZfQ a b es (lnk a) (lnk b) ha hab hes (by omega) (by omega) hx hy
  simp only[cB,Za,List.map_cons,List.map_nil] at q
  have t1:(lnk a).take a.inner.length=lnk a:=List.take_of_length_le (by omega)
  have t2:(lnk b).take a.inner.length=lnk b:=List.take_of_length_le (by omega)
  rw[t1,t2]
  have c1:cut (rI (lnk a)) 0 a.inner.length=rI (lnk a):=WR (by rw[List.length_map];omega)
  have c2:cut (rI (lnk b)) 0 a.inner.length=rI (lnk b):=WR (by rw[List.length_map];omega)
  simp only[hla,hlb,EVA,seval]
  refine⟨by omega,?_⟩
  refine Zb q ?_
  simp only[hla,EVA,seval]
  try rfl
end Go.Fd

/-
  TRANSLATIONS, THE REFERENCE: WHAT IS LEFT; THE WHOLE. Own work.
-/
namespace Go.Fd
set_option maxRecDepth 20000
theorem Dy(a b:List ByteArray)(ha:a.length<=4294967296)(hb:b.length<=4294967296)(lvl:Nat)(S:Sto):Sem Proofs.Tryz.prog Yg lvl [.tr (.sl (rS a)),.tr (.sl (rS b))] S (iB (dc (a=b))) S:=by
 refine Zc Zb5 trivial ?_
 simp only[Uc,EVA,seval]
 refine ZO (α:=Unit) (min a.length b.length) (fun j _=>[(5,iI j)]) (fun j _=>[]) (fun j _=>∀ k,k<j->∀(h1:k<a.length) (h2:k<b.length),a[k]=b[k]) () (by simp only[EVA,seval]) (by (simp only[EVA,seval]) <;> rfl) (fun k hk=>absurd hk (Nat.not_lt_zero k)) ?_
 intro j _ hj hA
 simp only[List.length_map,EVA,seval]
 by_cases hlt:j<min a.length b.length
 ·have hja:j<a.length:=by omega
  have hjb:j<b.length:=by omega
  have q1:(j:Int)<a.length:=by omega
  have q2:(j:Int)<b.length:=by omega
  have ga:=Wh (c:=fun s=>[ts s]) hja
  have gb:=Wh (c:=fun s=>[ts s]) hjb
  simp only[q1,q2,ga,gb,EVA,seval]
  by_cases hc:a[j]=b[j]
  ·simp only[hc,EVA,seval]
   exact⟨by rw[Ze];omega,Zf () hlt rfl (Zm8 hA fun _ _=>hc)⟩
  ·simp only[hc,EVA,seval]
   have:¬ a=b:=fun h=>hc (by subst h;rfl)
   rw[Zk this]
 ·have fin:((a.length:Int)=b.length)↔a=b:=⟨fun h=>List.ext_getElem (by omega) fun k h1 h2=>hA k (by omega) h1 h2,fun h=>by rw[h]⟩
  by_cases q1:(j:Int)<a.length
  ·have q2:¬ (j:Int)<b.length:=by omega
   simp only[q1,q2,seval]
   rw[<-Yr,Yi fin]
  ·simp only[q1,seval]
   rw[<-Yr,Yi fin]
theorem Zjq(a b:TBigraph)(ha:small a)(hb:small b)(lvl:Nat)(S:Sto):Sem Proofs.Tryz.prog XP lvl [cB a,cB b] S (iB (dc (Qi a b))) S:=by
 refine Zc Zfe trivial ?_
 have e1:∀{x y:Int},x=y->(x=y)=True:=fun h=>eq_true h
 by_cases h1:a.roots=b.roots
 rotate_left
 ·have e:=eq_false h1
  rw[Zk fun h:Qi a b=>h1 h.1]
  simp only[YT,Za,e,EVA,seval]
  try rfl
 have e1:=eq_true h1
 by_cases h2:a.edges=b.edges
 rotate_left
 ·have e:=eq_false h2
  rw[Zk fun h:Qi a b=>h2 h.2.1]
  simp only[YT,Za,e1,e,EVA,seval]
  try rfl
 have e2:=eq_true h2
 by_cases h3:a.nodes.length=b.nodes.length
 rotate_left
 ·have e:((a.nodes.length:Int)=b.nodes.length)=False:=eq_false (by omega)
  rw[Zk fun h:Qi a b=>h3 h.2.2.1]
  simp only[YT,Za,e1,e2,e,List.length_map,EVA,seval]
  try rfl
 have e3:((a.nodes.length:Int)=b.nodes.length)=True:=eq_true (by omega)
 by_cases h4:a.sites.length=b.sites.length
 rotate_left
 ·have e:((a.sites.length:Int)=b.sites.length)=False:=eq_false (by omega)
  rw[Zk fun h:Qi a b=>h4 h.2.2.2.1]
  simp only[YT,Za,e1,e2,e3,e,List.length_map,EVA,seval]
  try rfl
 have e4:((a.sites.length:Int)=b.sites.length)=True:=eq_true (by omega)
 have q1:=Dy a.outer b.outer (by have:=ha.outer;omega) (by have:=hb.outer;omega)
 have q2:=Zbj a (by have:=ha.inner;omega)
 have q3:=Zbj b (by have:=hb.inner;omega)
 have q4:=Dy (inn a) (inn b) (by rw[Zbk];have:=ha.inner;omega) (by rw[Zbk];have:=hb.inner;omega)
 simp only[Za,List.map_cons,List.map_nil] at q2 q3
 simp only[YT,Za,e1,e2,e3,e4,List.length_map,EVA,seval,Zd,men]
 refine Zb q1 ?_
 by_cases h5:a.outer=b.outer
 rotate_left
 ·rw[Zk fun h:Qi a b=>h5 h.2.2.2.2.1,Zk h5]
  simp only[EVA,seval]
  try rfl
 rw[Z5 h5]
 simp only[EVA,seval,Zd,men]
 refine Zb q2 ?_
 simp only[EVA,seval,Zd,men]
 refine Zb q3 ?_
 simp only[EVA,seval,Zd,men]
 refine Zb q4 ?_
 rw[Yi (show Qi a b↔inn a=inn b from ⟨fun h=>h.2.2.2.2.2,fun h=>⟨h1,h2,h3,h4,h5,h⟩⟩)]
 simp only[EVA,seval]
 try rfl
end Go.Fd

/-
  ONE BIGRAPH UNDER ANOTHER, THE REFERENCE'S SIDE. Own work.
-/
namespace Go.Fd
set_option maxRecDepth 20000
def sm(n:Int):Prop:=-1000<=n/\n<=1000
end Go.Fd

/-
  ONE BIGRAPH UNDER ANOTHER, THE PROGRAM'S SIDE: joined. Own work.
-/
namespace Go.Fd
set_option maxRecDepth 20000
end Go.Fd

/-
  A BIGRAPH AFTER ANOTHER: BOTH SIDES. Own work.
-/
namespace Go.Fd
set_option maxRecDepth 20000
theorem ZyG:ZT Proofs.Tryz.prog Jd Zyz=true:=by kernel_rfl
theorem ZfS(a b:List ByteArray)(ha:a.length<=4294967296)(lvl:Nat)(S:Sto):Sem Proofs.Tryz.prog Jd lvl [.tr (.sl (rS a)),.tr (.sl (rS b))] S (iB (dc (a=b))) S:=by
 have h:=ZqJ ZyG Zt8 a b (by omega) lvl S
 have e:∀ i:Decidable (a=b),@decide (a=b) i=dc (a=b):=fun i=>(@Yr _ i).symm
 rw[e] at h
 exact h
end Go.Fd

/-
  A BIGRAPH NESTED IN ANOTHER: BOTH SIDES. Own work.
-/
namespace Go.Fd
set_option maxRecDepth 20000
end Go.Fd

/-
  BIGRAPHS SIDE BY SIDE: IN PLAIN TERMS, AND THE REFERENCE'S SIDE. Own work.
-/
namespace Go.Fd
set_option maxRecDepth 20000
end Go.Fd

/-
  NO SORTING OF WIRES HERE. Own work.
-/
namespace Go.Fd
end Go.Fd

/-
  BIGRAPHS SIDE BY SIDE, THE PROGRAM'S SIDE. Own work.
-/
namespace Go.Fd
set_option maxRecDepth 20000
end Go.Fd

/-
  BIGRAPHS SIDE BY SIDE: THE REFERENCE'S ANSWERS; JUXTAPOSITION (printed by mkpar.py). Own work.
-/
namespace Go.Fd
set_option maxRecDepth 20000
end Go.Fd

/-
  THE MERGED PRODUCT, IN PLAIN TERMS. Own work.
-/
namespace Go.Fd
set_option maxRecDepth 20000
end Go.Fd

/-
  SMALL WORDS FOR MARKS. Own work.
-/
namespace Go.Fd
theorem Zc4{S:Sto}{id i:Oid}{ob:Ob}(h:i≠id):ZK S id ob i=S i:=if_neg h
theorem Zpk{α:Type}{m:α->Int->α}{n:α->Nat}:∀{a:List α} {k:Int} {j:Nat} (h:j<a.length),(mL m n a k)[j]? = some (m a[j] (kJ n a k j))
 | [],_,_,h=>by cases h
 | x::r,k,0,_=>by simp [mL,kJ,nL]
 | x::r,k,j+1,h=>by
  simp only[mL,List.getElem?_cons_succ,List.getElem_cons_succ]
  rw[Zpk (by simpa using h)]
  simp only[kJ,List.take_succ_cons,nL]
  congr 2
  omega
theorem Zpl{α:Type}{c:α->List Tr}{m:α->Int->α}{n:α->Nat}{a:List α}{k:Int}{j:Nat}(h:j<a.length):((mL m n a k).map c)[j]? = some (c (m a[j] (kJ n a k j))):=by
 rw[List.getElem?_map,Zpk h];rfl
theorem Zr{α:Type}{c:α->List Tr}{m:α->Int->α}{n:α->Nat}{a:List α}{k:Int}:cut ((mL m n a k).map c) 0 a.length=(mL m n a k).map c:=by
 simp only[cut,List.drop_zero]
 exact List.take_of_length_le (by rw[List.length_map,Zg];exact Nat.le_refl _)
theorem Zi{α:Type}{c:α->List Tr}{a:List α}:cut (a.map c) 0 a.length=a.map c:=by
 simp only[cut,List.drop_zero]
 exact List.take_of_length_le (by rw[List.length_map];exact Nat.le_refl _)
end Go.Fd

/-
  THE MERGED PRODUCT, BOTH SIDES. Own work.
-/
namespace Go.Fd
set_option maxRecDepth 20000
end Go.Fd

/-
  TERMS, IN PLAIN TERMS. Own work.
-/
namespace Go.Fd
set_option maxRecDepth 20000
end Go.Fd

/-
  ONE MORE NAME, BOTH SIDES. Own work.
-/
namespace Go.Fd
set_option maxRecDepth 20000
end Go.Fd

/-
  STEPS OF TERMS: WHICH ARE RIGHT, BOTH SIDES. Own work.
-/
namespace Go.Fd
set_option maxRecDepth 20000
end Go.Fd

/-
  A NODE AROUND A BIGRAPH, THE PROGRAM'S SIDE. Own work.
-/
namespace Go.Fd
set_option maxRecDepth 20000
end Go.Fd

/-
  WHAT STEPS MAKE, THE PROGRAM'S SIDE: made, stacked. Own work.
-/
namespace Go.Fd
set_option maxRecDepth 20000
end Go.Fd

/-
  THE STACK, THE PROGRAM'S SIDE. Own work.
-/
namespace Go.Fd
set_option maxRecDepth 20000
end Go.Fd

/-
  SORTING A FEW NUMBERS: slices.Sort. Own work.
-/
namespace Go.Fd
set_option maxRecDepth 20000
theorem Zoq(a b:Int)(lvl:Nat)(S:Sto):Sem Proofs.Tryz.prog V4 lvl [iI a,iI b] S (iB (decide (a<b))) S:=by
 refine Zc Zfi trivial ?_
 simp only[Za6,EVA,seval,Zd,men]
 refine Zb (Zl8 a) ?_
 simp only[EVA,seval,Zd,men]
def Zor(x:List Int)(i:Nat):Prop:=∀ p q,p<q->q<i->g0 x p<=g0 x q
def ZmL(x:List Int)(i j:Nat):Prop:=(∀ p q,p<q->q<=i->p≠j->q≠j->g0 x p<=g0 x q)/\∀ q,j<q->q<=i->g0 x j<=g0 x q
def swp(x:List Int)(j:Nat):List Int:=(x.set j (g0 x (j-1))).set (j-1) (g0 x j)
theorem Zpm{y:List Int}{a b:Nat}{v:Int}(h:a<y.length):g0 (y.set a v) b=if a=b then v else g0 y b:=by
 show (y.set a v).getD b 0=if a=b then v else y.getD b 0
 rw[List.getD_eq_getElem?_getD,List.getElem?_set,List.getD_eq_getElem?_getD]
 by_cases e:a=b
 ·rw[if_pos e,if_pos e,if_pos (by omega)];rfl
 ·rw[if_neg e,if_neg e]
theorem Zk5{y:List Int}{i:Nat}(h:ZmL y i 0):Zor y (i+1):=fun p q h1 h2=>by
 by_cases e:p=0
 ·subst e;exact h.2 q h1 (by omega)
 ·exact h.1 p q h1 (by omega) e (by omega)
theorem Zk6{y:List Int}{i j:Nat}(h:ZmL y i j)(hj:0<j)(hji:j<=i)(hle:g0 y (j-1)<=g0 y j):Zor y (i+1):=fun p q h1 h2=>by
 by_cases e:p=j
 ·subst e;exact h.2 q h1 (by omega)
 ·by_cases e2:q=j
  ·subst e2
   by_cases e3:p=q-1
   ·subst e3;exact hle
   ·exact Int.le_trans (h.1 p (q-1) (by omega) (by omega) e (by omega)) hle
  ·exact h.1 p q h1 (by omega) e e2
theorem ZmM{y:List Int}{i j:Nat}(h:ZmL y i j)(hj:0<j)(hji:j<=i)(hi:i<y.length)(hlt:g0 y j<g0 y (j-1)):ZmL (swp y j) i (j-1):=by
 have e:∀ b,g0 (swp y j) b=if j-1=b then g0 y j else if j=b then g0 y (j-1) else g0 y b:=fun b=>by
  unfold swp
  rw[Zpm (by rw[List.length_set];omega),Zpm (by omega)]
 refine⟨fun p q h1 h2 h3 h4=>?_,fun q h1 h2=>?_⟩
 ·rw[e p,e q,if_neg (show ¬ j-1=p from fun g=>h3 g.symm),if_neg (show ¬ j-1=q from fun g=>h4 g.symm)]
  by_cases ep:j=p
  ·rw[if_pos ep,if_neg (show ¬ j=q by omega)]
   exact h.1 (j-1) q (by omega) h2 (by omega) (by omega)
  ·rw[if_neg ep]
   by_cases eq:j=q
   ·rw[if_pos eq]
    exact h.1 p (j-1) (by omega) (by omega) (by omega) (by omega)
   ·rw[if_neg eq]
    exact h.1 p q h1 h2 (fun g=>ep g.symm) (fun g=>eq g.symm)
 ·rw[e (j-1),e q,if_pos rfl,if_neg (show ¬ j-1=q by omega)]
  by_cases eq:j=q
  ·rw[if_pos eq];omega
  ·rw[if_neg eq]
   exact h.2 q (by omega) h2
theorem Zos{y:List Int}{j:Nat}(hj:0<j)(hi:j<y.length):(swp y j).Perm y:=by
 have h:=@List.set_set_perm _ y j (j-1) hi (by omega)
 have e1:g0 y j=y[j]:=by simp [g0,hi]
 have e2:g0 y (j-1)=y[j-1]'(by omega):=by
  show y.getD (j-1) 0=_
  rw[List.getD_eq_getElem?_getD,List.getElem?_eq_getElem (by omega)]
  rfl
 unfold swp
 rw[e1,e2]
 exact h
theorem Zut{y:List Int}{j:Nat}{v:Int}(h:j<y.length):Ys (rI y) [] j 0 (.v (.int .i64 v))=rI (y.set j v):=by
 simp only[Ys]
 rw[Jv h]
 exact(List.map_set (f:=fun n:Int=>[tv n]) (l:=y) (i:=j) (a:=v)).symm
theorem Zot(l:List Int)(hl:l.length<=12)(lvl:Nat)(S:Sto)(id:Oid)(u:Bool)(hw ver:Nat)(hid:id.1<lvl)(hS:S id=some (.ar 1 (rI l) u hw ver))(srt:List Int)(hsrt:∀ x:List Int,x.Perm l->Zor x l.length->x=srt) :
  Sem Proofs.Tryz.prog Jl lvl [.hd id [] 0 l.length none hw,iI 0,iI l.length] S (.tu []) (ZK S id (.ar 1 (rI srt) u hw ver)):=by
 have hne:id.1≠lvl:=by omega
 refine Zc QZ trivial ?_
 simp only[Yb,EVA,seval,Zd,men]
 refine⟨by rw[Ze];omega,?_⟩
 refine ZP (α:=List Int) l.length (fun k x=>⟨lvl,[(0,.hd id [] 0 l.length none hw),(1,iI 0),(2,iI l.length),(6,iI ((k+1:Nat):Int))],[],ZK S id (.ar 1 (rI x) u hw ver)⟩) (fun k x=>x.Perm l/\Zor x (k+1)) l ⟨by simp only[ZM hne,EVA,seval,Zd,men],by (simp only[Qw hS,EVA,seval,Zd,men]) <;> rfl⟩ ⟨List.Perm.refl _,fun p q h1 h2=>by omega⟩ ?_
 intro k x hk ⟨hA1,hA2⟩
 have hxl:x.length=l.length:=hA1.length_eq
 simp only[EVA,seval,Zd,men]
 refine Zn (fun hlt=>?_) (fun hge=>?_)
 ·have hk1:k+1<l.length:=by omega
  refine ZP (α:=List Int) (k+1) (fun m y=>⟨lvl,[(0,.hd id [] 0 l.length none hw),(1,iI 0),(2,iI l.length),(6,iI ((k+1:Nat):Int)),(7,iI ((k+1-m:Nat):Int))],[],ZK S id (.ar 1 (rI y) u hw ver)⟩) (fun m y=>y.Perm l/\ZmL y (k+1) (k+1-m)) x ⟨by simp only[ZM hne,EVA,seval,Zd,men],by (simp only[EVA,seval,Zd,men]) <;> rfl⟩ ⟨hA1,fun p q h1 h2 h3 h4=>hA2 p q h1 (by omega),fun q h1 h2=>by omega⟩ ?_
  intro m y hm ⟨hB1,hB2⟩
  have hyl:y.length=l.length:=hB1.length_eq
  generalize hj:k+1-m=j at hB2 ⊢
  by_cases hj0:j=0
  ·subst hj0
   simp only[EVA,seval,Zd,men]
   exact⟨by rw[Ze];omega,fun h=>absurd h hne,Zf y (by omega) rfl ⟨hB1,Zk5 hB2⟩⟩
  ·have g1:(0:Int)<j:=by omega
   have e1:((j:Int)-1)=((j-1:Nat):Int):=by omega
   have gj:=Jv (l:=y) (i:=j) (by omega)
   have gj1:=Jv (l:=y) (i:=j-1) (by omega)
   have l1:j<l.length:=by omega
   have l2:j-1<l.length:=by omega
   simp only[g1,ZD hne,Yu,e1,gj,gj1,l1,l2,Nat.zero_add,EVA,seval,Zd,men]
   refine⟨by rw[Ze];omega,Zb (Zoq (g0 y j) (g0 y (j-1))) ?_⟩
   by_cases hlt2:g0 y j<g0 y (j-1)
   ·have s1:=Zut (y:=y) (j:=j) (v:=g0 y (j-1)) (by omega)
    have s2:=Zut (y:=y.set j (g0 y (j-1))) (j:=j-1) (v:=g0 y j) (by rw[List.length_set];omega)
    have gj2:=Jv (l:=y.set j (g0 y (j-1))) (i:=j-1) (by rw[List.length_set];omega)
    simp only[hlt2,g1,ZD hne,JE hne,Ju,Yu,ZM hne,e1,gj,gj1,gj2,s1,s2,l1,l2,Nat.zero_add,EVA,seval,Zd,men]
    subst hj
    refine⟨by rw[Ze];omega,by rw[Ze];omega,by rw[Ze];omega,Zf (swp y (k+1-m)) (by omega) (by rw[show k+1-(m+1)=k+1-m-1 from by omega];rfl) ⟨(Zos (by omega) (by omega)).trans hB1,?_⟩⟩
    rw[show k+1-(m+1)=k+1-m-1 from by omega]
    exact ZmM hB2 (by omega) (by omega) (by omega) hlt2
   ·simp only[hlt2,EVA,seval,Zd,men]
    exact⟨by rw[Ze];omega,fun h=>absurd h hne,Zf y (by omega) rfl ⟨hB1,Zk6 hB2 (by omega) (by omega) (by omega)⟩⟩
 ·have:k+1=l.length\/k=l.length:=by omega
  have hup:Zor x l.length:=fun p q h1 h2=>hA2 p q h1 (by omega)
  have hx:=hsrt x hA1 hup
  rw[hx]
theorem Zou(l:List Int)(hl:l.length<=12)(r:Int)(lvl:Nat)(S:Sto)(id:Oid)(u:Bool)(hw ver:Nat)(hid:id.1<lvl)(hS:S id=some (.ar 1 (rI l) u hw ver))(srt:List Int)(hsrt:∀ x:List Int,x.Perm l->Zor x l.length->x=srt) :
  Sem Proofs.Tryz.prog ZW lvl [.hd id [] 0 l.length none hw,iI 0,iI l.length,iI r] S (.tu []) (ZK S id (.ar 1 (rI srt) u hw ver)):=by
 have hne:id.1≠lvl:=by omega
 refine Zc WO trivial ?_
 simp only[Vg,EVA,seval,Zd,men]
 refine ZP (α:=Unit) 0 (fun _ _=>⟨lvl,[(0,.hd id [] 0 l.length none hw),(1,iI 0),(2,iI l.length),(3,iI r),(8,iB true),(9,iB true)],[],S⟩) (fun _ _=>True) () ⟨by simp only[ZM hne,EVA,seval,Zd,men],by (simp only[EVA,seval,Zd,men]) <;> rfl⟩ trivial ?_
 intro _ _ _ _
 have h12:(l.length:Int)-0<=12:=by omega
 simp only[h12,EVA,seval,Zd,men]
 refine⟨by rw[Ze];omega,?_⟩
 simp only[Zcy]
 refine YK [] (ZK S id (.ar 1 (rI srt) u hw ver)) (fun i hi=>by unfold ZK;rw[if_neg (fun e=>hne (by rw[<-e];exact hi))]) (by
  rw[Xh hne]
  exact Zot l hl (lvl+1) (Zy lvl [] S) id u hw ver (by omega) (by rw[ZD hne];exact hS) srt hsrt) ?_
 simp only[ZM hne,EVA,seval,Zd,men]
theorem ZmN(l:List Int)(hl:l.length<=12)(lvl:Nat)(S:Sto)(id:Oid)(u:Bool)(hw ver:Nat)(hid:id.1<lvl)(hS:S id=some (.ar 1 (rI l) u hw ver))(srt:List Int)(hsrt:∀ x:List Int,x.Perm l->Zor x l.length->x=srt) :
  Sem Proofs.Tryz.prog Jt lvl [.hd id [] 0 l.length none hw] S (.tu []) (ZK S id (.ar 1 (rI srt) u hw ver)):=by
 have hne:id.1≠lvl:=by omega
 obtain⟨r,hr⟩:=Zmm (v:=(l.length:Int)) (by omega) (by omega)
 refine Zc Zak trivial ?_
 simp only[XB,EVA,seval,Zd,men]
 refine⟨⟨by show (0:Int)<=l.length;omega,by show (l.length:Int)<=18446744073709551615;omega⟩,Zb hr ?_⟩
 simp only[EVA,seval,Zd,men]
 refine YK [] (ZK S id (.ar 1 (rI srt) u hw ver)) (fun i hi=>by unfold ZK;rw[if_neg (fun e=>hne (by rw[<-e];exact hi))]) (by
  rw[Xh hne]
  exact Zou l hl r (lvl+1) (Zy lvl [] S) id u hw ver (by omega) (by rw[ZD hne];exact hS) srt hsrt) ?_
 simp only[ZM hne,EVA,seval,Zd,men]
end Go.Fd

/-
  THE VALUE OF A TERM, THE PROGRAM'S SIDE. Own work.
-/
namespace Go.Fd
set_option maxRecDepth 20000
theorem Zq4{x:List Int}(h:Zor x x.length):x.Pairwise (fun a b=>a<=b):=by
 rw[List.pairwise_iff_getElem]
 intro i j hi hj hij
 have:=h i j hij hj
 rwa [show g0 x i=x[i] by simp [hi],show g0 x j=x[j] by simp [hj]] at this
theorem Zuu{l x:List Int}(hp:x.Perm l)(h:Zor x l.length):x=Zhr (fun a b:Int=>a<b) l:=by
 rw[<-hp.length_eq] at h
 exact ZcV ZkX ((Zq4 h).imp fun h=>by omega) (ZcW ZkX) (hp.trans srtG_perm.symm)
theorem Zuv{n i:Nat}(h:i<n):(Wb n)[i]? = some (i:Int):=by
 unfold Wb
 simp [h]
theorem ZyH{l:List Int}{j:Nat}(h:j<l.length):(rI l)[j]? = some [tv l[j]]:=by
 show (l.map _)[j]? = _
 rw[List.getElem?_map,List.getElem?_eq_getElem h]
 rfl
end Go.Fd

/-
  WHICH STEPS ARE RIGHT, THE REFERENCE'S SIDE. Own work.
-/
namespace Go.Fd
set_option maxRecDepth 20000
end Go.Fd

/-
  WHAT STEPS MAKE, THE REFERENCE'S SIDE. Own work.
-/
namespace Go.Fd
set_option maxRecDepth 20000
end Go.Fd

/-
  WHAT STEPS MAKE OF TWO, AND OF ONE AND A NAME, THE REFERENCE'S SIDE. Own work.
-/
namespace Go.Fd
set_option maxRecDepth 20000
end Go.Fd

/-
  A STEP ON A STACK, THE REFERENCE'S SIDE. Own work.
-/
namespace Go.Fd
set_option maxRecDepth 20000
end Go.Fd

/-
  ALL STEPS, THE REFERENCE'S SIDE. Own work.
-/
namespace Go.Fd
set_option maxRecDepth 20000
end Go.Fd

/-
  NUMBERS OF LIBRARY FUNCTIONS IN THIS PROGRAM, as the guide's shelf lays them (printed by lay.py out of the kit's own command).
-/
namespace Go.Proofs
open Go.Shelf
def Tryz.lays189_ren:Go.Shelf.Ren:=⟨fun | 189=>147 | 125=>150 | 257=>155 | 128=>167 | 129=>168 | 294=>172 | 295=>173 | 296=>174 | 297=>175 | 298=>176 | 299=>177 | 216=>178 | 300=>179 | 301=>180 | 328=>191 | 329=>182 | 330=>183 | 331=>192 | 332=>193 | 215=>194 | 343=>197 | n=>n,fun | 28=>24 | 3=>3 | 46=>159 | 0=>0 | 51=>169 | 53=>172 | 4=>4 | 183=>177 | 182=>176 | 131=>31 | 5=>5 | 9=>9 | 218=>191 | 222=>195 | 228=>206 | 229=>207 | n=>n,fun | n=>n⟩
theorem Tryz.lays189:Go.Proofs.Lays.n189 Tryz.prog Tryz.lays189_ren:={
  mixed:=by kernel_rfl,
  f125:=Tryz.func150.trans (congrArg some (by kernel_rfl)),
  f128:=Tryz.func167.trans (congrArg some (by kernel_rfl)),
  f129:=Tryz.func168.trans (congrArg some (by kernel_rfl)),
  f189:=Tryz.func147.trans (congrArg some (by kernel_rfl)),
  f215:=Tryz.func194.trans (congrArg some (by kernel_rfl)),
  f216:=Tryz.func178.trans (congrArg some (by kernel_rfl)),
  f257:=Tryz.func155.trans (congrArg some (by kernel_rfl)),
  f294:=Tryz.func172.trans (congrArg some (by kernel_rfl)),
  f295:=Tryz.func173.trans (congrArg some (by kernel_rfl)),
  f296:=Tryz.func174.trans (congrArg some (by kernel_rfl)),
  f297:=Tryz.func175.trans (congrArg some (by kernel_rfl)),
  f298:=Tryz.func176.trans (congrArg some (by kernel_rfl)),
  f299:=Tryz.func177.trans (congrArg some (by kernel_rfl)),
  f300:=Tryz.func179.trans (congrArg some (by kernel_rfl)),
  f301:=Tryz.func180.trans (congrArg some (by kernel_rfl)),
  f328:=Tryz.func191.trans (congrArg some (by kernel_rfl)),
  f329:=Tryz.func182.trans (congrArg some (by kernel_rfl)),
  f330:=Tryz.func183.trans (congrArg some (by kernel_rfl)),
  f331:=Tryz.func192.trans (congrArg some (by kernel_rfl)),
  f332:=Tryz.func193.trans (congrArg some (by kernel_rfl)),
  f343:=Tryz.func197.trans (congrArg some (by kernel_rfl)),
  t0:=Tryz.underlying0,
  a0:=Tryz.isAgg0,
  z0:=Tryz.sizeOf0,
  v0:=Tryz.zeroValue0,
  t3:=Tryz.underlying3,
  a3:=Tryz.isAgg3,
  z3:=Tryz.sizeOf3,
  v3:=Tryz.zeroValue3,
  t4:=Tryz.underlying4,
  a4:=Tryz.isAgg4,
  z4:=Tryz.sizeOf4,
  v4:=Tryz.zeroValue4,
  t5:=Tryz.underlying5,
  a5:=Tryz.isAgg5,
  z5:=Tryz.sizeOf5,
  v5:=Tryz.zeroValue5,
  t9:=Tryz.underlying9,
  a9:=Tryz.isAgg9,
  z9:=Tryz.sizeOf9,
  v9:=Tryz.zeroValue9,
  t28:=Tryz.underlying24,
  a28:=Tryz.isAgg24,
  z28:=Tryz.sizeOf24,
  v28:=Tryz.zeroValue24,
  t46:=Tryz.underlying159,
  a46:=Tryz.isAgg159,
  z46:=Tryz.sizeOf159,
  v46:=Tryz.zeroValue159,
  t51:=Tryz.underlying169,
  a51:=Tryz.isAgg169,
  z51:=Tryz.sizeOf169,
  v51:=Tryz.zeroValue169,
  t53:=Tryz.underlying172,
  a53:=Tryz.isAgg172,
  z53:=Tryz.sizeOf172,
  v53:=Tryz.zeroValue172,
  t131:=Tryz.underlying31,
  a131:=Tryz.isAgg31,
  z131:=Tryz.sizeOf31,
  v131:=Tryz.zeroValue31,
  t182:=Tryz.underlying176,
  a182:=Tryz.isAgg176,
  z182:=Tryz.sizeOf176,
  v182:=Tryz.zeroValue176,
  t183:=Tryz.underlying177,
  a183:=Tryz.isAgg177,
  z183:=Tryz.sizeOf177,
  v183:=Tryz.zeroValue177,
  t218:=Tryz.underlying191,
  a218:=Tryz.isAgg191,
  z218:=Tryz.sizeOf191,
  v218:=Tryz.zeroValue191,
  t222:=Tryz.underlying195,
  a222:=Tryz.isAgg195,
  z222:=Tryz.sizeOf195,
  v222:=Tryz.zeroValue195,
  t228:=Tryz.underlying206,
  a228:=Tryz.isAgg206,
  z228:=Tryz.sizeOf206,
  v228:=Tryz.zeroValue206,
  t229:=Tryz.underlying207,
  a229:=Tryz.isAgg207,
  z229:=Tryz.sizeOf207,
  v229:=Tryz.zeroValue207 }
end Go.Proofs

/-
  SORTING NUMBERS, ANY NUMBER OF THEM; WHAT IS AN ORDER, BOTH SIDES. Own work.
-/
namespace Go.Fd
set_option maxRecDepth 20000
theorem Zuw(l:List Int):l.mergeSort (fun x y=>decide (x<=y))=Zhr (fun a b:Int=>a<b) l:=by
 refine ZcV ZkX ?_ (ZcW ZkX) ((List.mergeSort_perm l _).trans srtG_perm.symm)
 have h:=List.pairwise_mergeSort (le:=fun x y:Int=>decide (x<=y)) (fun a b c h1 h2=>by simp only[decide_eq_true_eq] at *;omega) (fun a b=>by simp only[Bool.or_eq_true,decide_eq_true_eq];omega) l
 refine h.imp fun {x y} h=>?_
 simp only[decide_eq_true_eq] at h
 omega
theorem Zg5(l:List Int)(hl:l.length<=4294967296)(lvl:Nat)(S:Sto)(id:Oid)(u:Bool)(hw ver:Nat)(hid:id.1<lvl)(hS:S id=some (.ar 1 (rI l) u hw ver)) :
  Sem Proofs.Tryz.prog Jt lvl [.hd id [] 0 l.length none hw] S (.tu []) (ZK S id (.ar 1 (rI (Zhr (fun a b:Int=>a<b) l)) u hw ver)):=by
 by_cases hs:l.length<=12
 ·exact ZmN l hs lvl S id u hw ver hid hS _ fun x hp hu=>Zuu hp hu
 ·have h:=Zds (P:=Proofs.Tryz.prog) (f:=Jt) (lvl:=lvl) (S:=S) (id:=id) (xs:=l) (ys:=Zhr (fun a b:Int=>a<b) l) (enc:=Value.int .i64) (u:=u) (hw:=hw) (ver:=ver) (Zd1 (by kernel_rfl)) hid hS (fun _=>rfl) srtG_perm.length_eq
   (fun h=>absurd (congrArg List.length h) (by show ¬ l.length=0;omega))
   (fun _ b cap w hH hb=>by
    have:=Go.Proofs.Any.slices_Sort_int Proofs.Tryz.lays189 b 0 cap l w hH hb (by omega)
    rw[Zuw] at this
    exact this)
  exact h
theorem Ziz(n:Nat)(l:List Int)(hl:l.length<=4294967296)(lvl:Nat)(S:Sto):Sem Proofs.Tryz.prog XT lvl [iI n,.tr (.sl (rI l))] S (iB (dc (DQ n l))) S:=by
 obtain⟨r,hr⟩:∃ r,r=Zhr (fun a b:Int=>a<b) l:=⟨_,rfl⟩
 have hrl:r.length=l.length:=by rw[hr];exact srtG_perm.length_eq
 refine Zc Zfh trivial ?_
 simp only[Za5,EVA,seval,Zd,men]
 refine Zb (WS l (by omega)) ?_
 simp only[List.length_map,EVA,seval,Zd,men]
 have s1:=fun S' hS=>Zg5 l hl (lvl+1) S' (lvl,288) true l.length 0 (Nat.lt_succ_self _) hS
 rw[<-hr] at s1
 have hord:DQ l.length l↔r=Wb l.length:=by rw[hr];exact Zmz
 refine ZcU 288 _ (s1 _ ?_) ?_
 ·rw[JV];rfl
 simp only[EVA,seval,Zd,men]
 refine ZO (α:=Unit) l.length (fun j _=>[(14,iI j)]) (fun _ _=>[]) (fun j _=>∀ i:Nat,i<j->r[i]? = some (i:Int)) () (by simp only[EVA,seval,Zd,men]) (by (simp only[EVA,seval,Zd,men]) <;> rfl) (fun i hi=>absurd hi (Nat.not_lt_zero i)) ?_
 intro j _ hj hA
 simp only[List.length_map,EVA,seval,Zd,men]
 refine Zn (fun hlt=>?_) (fun hge=>?_)
 ·have hja:j<l.length:=by omega
  have hjr:j<r.length:=by omega
  have ga:=ZyH hjr
  simp only[ga,hja,List.length_map,EVA,seval,Zd,men]
  refine Zn (fun hq=>?_) (fun hq=>?_)
  ·have hno:¬ DQ n l:=fun g=>by
    have hnl:=g.1
    rw[<-hnl] at g
    have e:=hord.1 g
    have e2:r[j]? = some (j:Int):=by rw[e];exact Zuv hja
    rw[List.getElem?_eq_getElem hjr] at e2
    have e3:=Option.some.inj e2
    omega
   rw[Zk hno]
  ·exact⟨by rw[Ze];omega,Zf () hja rfl (fun i hi=>by
    rcases Nat.lt_or_eq_of_le (Nat.le_of_lt_succ hi) with h | h
    ·exact hA i h
    ·subst h
     rw[List.getElem?_eq_getElem hjr]
     congr 1
     omega)⟩
 ·have:j=l.length:=by omega
  subst this
  have hyes:DQ l.length l:=hord.2 (List.ext_getElem? fun i=>by
   by_cases hi:i<l.length
   ·rw[hA i hi,Zuv hi]
   ·rw[List.getElem?_eq_none (by omega),List.getElem?_eq_none (by rw[Vr];omega)])
  by_cases hn:l.length=n
  ·have e:((l.length:Int)=n)=True:=eq_true (by omega)
   subst hn
   rw[Z5 hyes]
   simp only[List.length_map,EVA,seval,Zd,men]
  ·have e:((l.length:Int)=n)=False:=eq_false (by omega)
   rw[Zk fun g:DQ n l=>hn g.1]
   simp only[e,List.length_map,EVA,seval,Zd,men]
end Go.Fd

/-
  TRANSLATIONS, THE REFERENCE: THE EDGES OF A TRANSLATION; ALL TRANSLATIONS. Own work.
-/
namespace Go.Fd
set_option maxRecDepth 20000
theorem Zq5{a b:TBigraph}{ns es:List Int}{k:Nat}(hz:edJ a b ns k=some es)(hf:ZcZ a b (ns.take k) (g0 ns k)):edJ a b ns (k+1)=WT a.edges es (JQ a k).links (JQ b (g0 ns k).toNat).links:=by
 rw[edJ,hz]
 exact if_pos hf
theorem Zux{a b:TBigraph}{ns es:List Int}{k:Nat}(hz:edJ a b ns k=some es)(hf:¬ ZcZ a b (ns.take k) (g0 ns k)):edJ a b ns (k+1)=none:=by
 rw[edJ,hz]
 exact if_neg hf
theorem ZmO{a b:TBigraph}{ns:List Int}{j:Nat}(h:edJ a b ns j=none)(hj:j<=a.nodes.length):trT a b ns=none:=by
 unfold trT ZkY
 split
 ·rw[Zkm h hj];rfl
 ·rfl
theorem ZmP{a b:TBigraph}{ns:List Int}(ha:Qi a b)(ho:DQ a.nodes.length ns):trT a b ns=(ZkY a b ns).map ZmB:=by
 unfold trT
 rw[if_pos ⟨ha,ho⟩]
theorem Zdu{a b:TBigraph}{ns:List Int}(h:¬ (Qi a b/\DQ a.nodes.length ns)):trT a b ns=none:=by
 unfold trT
 rw[if_neg h]
theorem ZeQ{sig:List TControl}{b:TBigraph}(h:bigOK sig b){k:Nat}(hk:k<b.nodes.length):(JQ b k).parent<k:=by
 rw[Jm hk]
 have:=(h.nodes k hk).par
 unfold Uu at this
 omega
theorem Zci{sig:List TControl}{b:TBigraph}(h:bigOK sig b){k:Nat}(hk:k<b.nodes.length):∀ v∈(JQ b k).links,0<=v/\v<=1000:=fun v hv=>by
 rw[Jm hk] at hv
 have:=(h.nodes k hk).links v hv
 unfold Jx at this
 have h1:=h.edges
 have h2:=h.small.outer
 omega
theorem Zg6{sig:List TControl}{b:TBigraph}(h:bigOK sig b):∀ v∈lnk b,0<=v/\v<=1000:=fun v hv=>by
 obtain⟨w,hw,rfl⟩:=List.mem_map.1 hv
 have:=h.inner w hw
 unfold Jx at this
 have h1:=h.edges
 have h2:=h.small.outer
 omega
theorem Zkw{sig:List TControl}{b:TBigraph}(h:bigOK sig b){k:Nat}(hk:k<b.nodes.length):(JQ b k).links.length<=1000:=by
 rw[Jm hk]
 exact h.small.links _ (List.getElem_mem hk)
theorem ZmQ{sig:List TControl}{b:TBigraph}(h:bigOK sig b):∀ p∈b.sites,p<b.nodes.length:=fun p hp=>by
 have:=h.sites p hp
 unfold Uu at this
 omega
theorem ZiA{a b:TBigraph}(h:Qi a b):a.inner.length=b.inner.length:=by
 have:=Zjp h
 simpa [lnk] using this
end Go.Fd

/-
  TRANSLATIONS, THE REFERENCE: ALL THAT BEGIN WITH SOME. Own work.
-/
namespace Go.Fd
set_option maxRecDepth 20000
abbrev rT(L:List (List Int)):Row:=L.map fun l=>[Tr.sl (rI l)]
noncomputable def fR(a b:TBigraph)(r:Nat)(ns es:List Int)(m:Int):List (List Int):=@ite _ (ZcZ a b ns m) (Classical.propDecidable _) (match WT a.edges es (JQ a ns.length).links (JQ b m.toNat).links with
   | some z=>ZkZ a b r (ns++[m]) z
   | none=>[]) []
theorem ZmR{a b:TBigraph}{r:Nat}{ns es:List Int}:ZkZ a b (r+1) ns es=jnL (fR a b r ns es) b.nodes.length:=by
 rw[ZkZ]
 rfl
theorem ZyI{a b:TBigraph}{r:Nat}{ns es:List Int}{m:Int}(h:¬ ZcZ a b ns m):fR a b r ns es m=[]:=if_neg h
theorem Zq6{a b:TBigraph}{r:Nat}{ns es:List Int}{m:Int}(h:ZcZ a b ns m)(ht:WT a.edges es (JQ a ns.length).links (JQ b m.toNat).links=none):fR a b r ns es m=[]:=by
 unfold fR
 rw[if_pos h,ht]
theorem Zq7{a b:TBigraph}{r:Nat}{ns es z:List Int}{m:Int}(h:ZcZ a b ns m)(ht:WT a.edges es (JQ a ns.length).links (JQ b m.toNat).links=some z):fR a b r ns es m=ZkZ a b r (ns++[m]) z:=by
 unfold fR
 rw[if_pos h,ht]
theorem Zjr{β:Type}{f:Int->List β}{j:Nat}(h:f j=[]):jnL f (j+1)=jnL f j:=by rw[Ug,h,List.append_nil]
theorem Zc5(sig:List TControl)(a b:TBigraph)(hA:bigOK sig a)(hB:bigOK sig b)(hal:Qi a b):∀(r:Nat) (ns es:List Int) (most:Nat) (lvl:Nat) (S:Sto),ns.length+r=a.nodes.length->es.length=a.edges.toNat->1<=most->most<=100000 ->
  Sem Proofs.Tryz.prog Vd lvl [cB a,cB b,tI ns,tI es,iI most] S (.ow 1 (rT ((ZkZ a b r ns es).take most)) true) S
 | 0,ns,es,most,lvl,S,hr,hes,h1,h2=>by
  have nA:=hA.small.nodes
  have hk:ns.length=a.nodes.length:=by omega
  have q3:=Zk4 a b ns es hA.edges hal.2.1 hes hal.2.2.2.1 (by have:=hA.sitesL;omega) (ZiA hal) (by have:=hA.small.inner;omega) (fun p hp=>by have:=ZmQ hA p hp;omega) (Zg6 hA) (Zg6 hB)
  simp only[cB,Za,List.map_cons,List.map_nil] at q3
  refine Zc ZbS trivial ?_
  rw[ZkZ]
  simp only[De,Za,hk,List.length_map,EVA,seval,Zd,men]
  refine Zb q3 ?_
  by_cases hs:(Zkk a b ns es).isSome=true
  ·rw[if_pos hs,hs,List.take_of_length_le (by simpa using h1)]
   simp only[EVA,seval,Zd,men]
   refine Zb (Zc3 ns (by omega)) ?_
   simp only[List.length_map,EVA,seval,Zd,men]
   try rfl
  ·have hs2:(Zkk a b ns es).isSome=false:=by simpa using hs
   rw[if_neg hs,hs2]
   simp only[List.take_nil,EVA,seval,Zd,men]
   try rfl
 | r+1,ns,es,most,lvl,S,hr,hes,h1,h2=>by
  have nA:=hA.small.nodes
  have nB:=hB.small.nodes
  have hk:ns.length<a.nodes.length:=by omega
  have hkn:((ns.length:Int)=a.nodes.length)=False:=eq_false (by omega)
  obtain⟨f,hf⟩:∃ f,f=fR a b r ns es:=⟨_,rfl⟩
  have hX:ZkZ a b (r+1) ns es=jnL f b.nodes.length:=by rw[hf];exact ZmR
  rw[hX]
  refine Zc ZbS trivial ?_
  simp only[De,Za,hkn,List.length_map,EVA,seval,Zd,men]
  refine ZO (α:=Unit) b.nodes.length (fun j _=>[(13,.hd (lvl,1152) [] 0 ((jnL f j).take most).length none ((jnL f j).take most).length),(14,iI j)]) (fun j _=>[(1152,.ar 1 (rT ((jnL f j).take most)) true ((jnL f j).take most).length 0)]) (fun _ _=>True) () (by simp only[EVA,seval,Zd,men]) (by (simp only[Zku,List.take_nil,List.length_nil,EVA,seval,Zd,men]) <;> rfl) trivial ?_
  intro j _ hj _
  obtain⟨acc,hacc⟩:∃ acc,acc=(jnL f j).take most:=⟨_,rfl⟩
  rw[<-hacc]
  by_cases hja:j<b.nodes.length
  rotate_left
  ·have hjn:j=b.nodes.length:=by omega
   subst hjn
   rw[<-hacc]
   have e:¬ (b.nodes.length:Int)<b.nodes.length:=by omega
   simp only[e,List.length_map,EVA,seval,Zd,men]
   try rfl
  have e1:(j:Int)<b.nodes.length:=by omega
  by_cases hm:acc.length<most
  rotate_left
  ·have e2:¬ (acc.length:Int)<most:=by omega
   have hfull:=Zom (f:=f) (j:=j) (n:=b.nodes.length) (m:=most) (by omega) (by rw[<-hacc];omega)
   rw[hfull,<-hacc]
   simp only[e1,e2,List.length_map,EVA,seval,Zd,men]
   try rfl
  have e2:(acc.length:Int)<most:=by omega
  have hnext:=Zol (f:=f) (j:=j) (m:=most) (by rw[<-hacc];exact hm)
  rw[<-hacc] at hnext
  have hpar:=ZeQ hA hk
  have q1:=Zk3 a b ns j hk (by omega) hja hpar
  simp only[cB,Za,List.map_cons,List.map_nil] at q1
  simp only[e1,e2,List.length_map,EVA,seval,Zd,men]
  refine Zb q1 ?_
  by_cases hfit:ZcZ a b ns j
  rotate_left
  ·have hn:jnL f (j+1)=jnL f j:=Zjr (by rw[hf];exact ZyI hfit)
   rw[Zk hfit]
   simp only[EVA,seval,Zd,men]
   exact⟨by rw[Ze];omega,Zf () hja (by rw[hn,<-hacc];rfl) trivial⟩
  rw[Z5 hfit]
  have hctl:=hfit.2.1
  rw[Int.toNat_natCast] at hctl
  have q2:=ZfQ a b es (JQ a ns.length).links (JQ b j).links hA.edges hal.2.1 hes (Zch hA hB hk hja hctl) (Zkw hA hk) (Zci hA hk) (Zci hB hja)
  have ga:=Wh (c:=ZG) hk
  have gb:=Wh (c:=ZG) hja
  have hh:=Zq6 (r:=r) (es:=es) hfit
  have hh2:=fun z=>Zq7 (r:=r) (es:=es) (z:=z) hfit
  rw[Int.toNat_natCast] at hh hh2
  rw[Jm hk,Jm hja] at q2 hh hh2
  simp only[cB,Za,List.map_cons,List.map_nil] at q2
  simp only[ga,gb,ZG,hk,hja,List.length_map,EVA,seval,Zd,men]
  refine Zb q2 ?_
  cases ht:WT a.edges es a.nodes[ns.length].links b.nodes[j].links with
  | none =>
   have hn:jnL f (j+1)=jnL f j:=Zjr (by rw[hf];exact hh ht)
   simp only[Option.isSome_none,EVA,seval,Zd,men]
   exact⟨by rw[Ze];omega,Zf () hja (by rw[hn,<-hacc];rfl) trivial⟩
  | some w =>
   have hw:ZaW a.edges es a.nodes[ns.length].links b.nodes[j].links a.nodes[ns.length].links.length=w:=Vs ht
   have hfj:f j=ZkZ a b r (ns++[(j:Int)]) w:=by rw[hf];exact hh2 w ht
   have ih:=fun lvl S=>Zc5 sig a b hA hB hal r (ns++[(j:Int)]) w (most-acc.length) lvl S (by rw[List.length_append,List.length_singleton];omega) (by rw[Q1 ht];exact hes) (by omega) (by omega)
   have hml:((most-acc.length:Nat):Int)=(most:Int)-acc.length:=by omega
   rw[hml,<-hfj] at ih
   rw[hw]
   simp only[cB,Za,List.map_cons,List.map_nil] at ih
   simp only[Option.isSome_some,List.length_map,EVA,seval,Zd,men]
   refine Zb (Zc3 ns (by omega)) ?_
   simp only[List.length_map,EVA,seval,Zd,men]
   have c1:cut (rI ns++[[Tr.v (Value.int IntKind.i64 (j:Int))]]) 0 (ns.length+1)=rI (ns++[(j:Int)]):=by
    rw[Zdp]
    exact WR (by simp)
   have l1:(rI ns++[[Tr.v (Value.int IntKind.i64 (j:Int))]]).length=ns.length+1:=by simp
   have hmx:max acc.length (acc.length+(List.take (most-acc.length) (f (j:Int))).length)=acc.length+(List.take (most-acc.length) (f (j:Int))).length:=by omega
   have hlen:(List.take (most-acc.length) (f (j:Int))).length<=100000:=by rw[List.length_take];omega
   simp only[c1,l1,EVA,seval,Zd,men]
   refine⟨by omega,by rw[Ze];omega,?_⟩
   refine Zb ih ?_
   simp only[List.length_map,hmx,EVA,seval,Zd,men]
   exact⟨ZcK (fun l:List Int=>[Tr.sl (rI l)]) (fun _=>rfl) _,by omega,by rw[Ze];omega,Zf () hja (by rw[hnext,List.length_append,show ∀ x y:List (List Int),rT (x++y)=rT x++rT y from fun x y=>List.map_append];rfl) trivial⟩
noncomputable def Uh(a b:TBigraph):List (List Int):=Zbm a b a.nodes.length []
theorem Zg7{n:Nat}:(List.replicate n (-1:Int)).length=n:=List.length_replicate
theorem Zkx{a b:TBigraph}(ha:Qi a b):ZkZ a b a.nodes.length [] (List.replicate a.edges.toNat (-1))=Uh a b :=
 ZmD ha (by simp) List.nodup_nil (fun x hx=>by simp at hx) rfl
theorem Zc6{a b:TBigraph}(h:¬ Qi a b):∀{r:Nat} {ns:List Int},Zbm a b r ns=[]
 | 0,ns=>by
  rw[Zbm,if_neg]
  rw[Zdu fun g=>h g.1]
  simp
 | r+1,ns=>by
  rw[Zbm,List.flatMap_eq_nil_iff]
  intro m _
  split
  ·exact Zc6 h
  ·rfl
theorem ZeR(sig:List TControl)(a b:TBigraph)(hA:bigOK sig a)(hB:bigOK sig b)(lvl:Nat)(S:Sto):Sem Proofs.Tryz.prog V1 lvl [cB a,cB b] S (.ow 1 (rT ((Uh a b).take 1)) true) S:=by
 have q0:=Zjq a b hA.small hB.small
 have he:=hA.edges
 have qn:=ZfP a.edges.toNat (by omega)
 rw[show ((a.edges.toNat:Nat):Int)=a.edges by omega] at qn
 simp only[cB,Za,List.map_cons,List.map_nil] at q0
 refine Zc Zfa trivial ?_
 simp only[Za0,Za,List.length_map,EVA,seval,Zd,men]
 refine Zb q0 ?_
 by_cases hal:Qi a b
 rotate_left
 ·rw[Zk hal,show Uh a b=[] from Zc6 hal]
  simp only[List.take_nil,EVA,seval,Zd,men]
  try rfl
 rw[Z5 hal]
 have q:=fun lvl S=>Zc5 sig a b hA hB hal a.nodes.length [] (List.replicate a.edges.toNat (-1)) 1 lvl S (by simp) Zg7 (Nat.le_refl _) (by omega)
 rw[Zkx hal] at q
 simp only[cB,Za,List.map_cons,List.map_nil] at q
 simp only[EVA,seval,Zd,men]
 refine Zb qn ?_
 simp only[List.length_map,Zg7,EVA,seval,Zd,men]
 refine Zb q ?_
 simp only[List.length_map,EVA,seval,Zd,men]
 try rfl
theorem ZmS(sig:List TControl)(a b:TBigraph)(hA:bigOK sig a)(hB:bigOK sig b)(lvl:Nat)(S:Sto):Sem Proofs.Tryz.prog Ul lvl [cB a,cB b] S (iB (!(Uh a b).isEmpty)) S:=by
 have q:=ZeR sig a b hA hB
 simp only[cB,Za,List.map_cons,List.map_nil] at q
 refine Zc Zh2 trivial ?_
 simp only[Zdj,Za,List.length_map,EVA,seval,Zd,men]
 refine Zb q ?_
 cases h:Uh a b with
 | nil =>
  simp only[List.take_nil,List.length_nil,List.isEmpty_nil,List.map_nil,EVA,seval,Zd,men]
  try rfl
 | cons x r =>
  simp only[List.take_succ_cons,List.take_zero,List.length_cons,List.length_nil,List.isEmpty_cons,List.map_cons,List.map_nil,EVA,seval,Zd,men]
  try rfl
theorem ZiB(sig:List TControl)(a b:TBigraph)(hn:sig.length<=4294967296)(hbs:∀ y∈sig,ZC 4294967296 y)(hba:Zw 4294967296 a)(hbb:Zw 4294967296 b)(fa:ZR a)(fb:ZR b)(lvl:Nat)(S:Sto):Sem Proofs.Tryz.prog Xo lvl [.tr (.sl (sig.map Zj)),cB a,cB b] S (iB (dc (bigOK sig a/\bigOK sig b))) S:=by
 have q1:=US sig a hn hbs hba fa
 have q2:=US sig b hn hbs hbb fb
 simp only[cB,Za,List.map_cons,List.map_nil] at q1 q2
 refine Zc Zh1 trivial ?_
 simp only[Zdi,Za,List.length_map,EVA,seval,Zd,men]
 refine Zb q1 ?_
 by_cases h1:bigOK sig a
 rotate_left
 ·rw[Zk h1,Zk fun h:bigOK sig a/\bigOK sig b=>h1 h.1]
  simp only[EVA,seval,Zd,men]
  try rfl
 rw[Z5 h1]
 simp only[EVA,seval,Zd,men]
 refine Zb q2 ?_
 rw[Yi (show bigOK sig a/\bigOK sig b↔bigOK sig b from ⟨fun h=>h.2,fun h=>⟨h1,h⟩⟩)]
 simp only[EVA,seval,Zd,men]
 try rfl
end Go.Fd

/-
  NUMBERS OF LIBRARY FUNCTIONS IN THIS PROGRAM, as the guide's shelf lays them (printed by lay.py out of the kit's own command).
-/
namespace Go.Proofs
open Go.Shelf
def Tryz.lays212_ren:Go.Shelf.Ren:=⟨fun | 212=>148 | 263=>156 | 264=>157 | n=>n,fun | 46=>159 | 51=>169 | 146=>170 | 53=>172 | 148=>173 | n=>n,fun | n=>n⟩
theorem Tryz.lays212:Go.Proofs.Lays.n212 Tryz.prog Tryz.lays212_ren:={
  mixed:=by kernel_rfl,
  f212:=Tryz.func148.trans (congrArg some (by kernel_rfl)),
  f263:=Tryz.func156.trans (congrArg some (by kernel_rfl)),
  f264:=Tryz.func157.trans (congrArg some (by kernel_rfl)),
  t46:=Tryz.underlying159,
  a46:=Tryz.isAgg159,
  z46:=Tryz.sizeOf159,
  v46:=Tryz.zeroValue159,
  t51:=Tryz.underlying169,
  a51:=Tryz.isAgg169,
  z51:=Tryz.sizeOf169,
  v51:=Tryz.zeroValue169,
  t53:=Tryz.underlying172,
  a53:=Tryz.isAgg172,
  z53:=Tryz.sizeOf172,
  v53:=Tryz.zeroValue172,
  t146:=Tryz.underlying170,
  a146:=Tryz.isAgg170,
  z146:=Tryz.sizeOf170,
  v146:=Tryz.zeroValue170,
  t148:=Tryz.underlying173,
  a148:=Tryz.isAgg173,
  z148:=Tryz.sizeOf173,
  v148:=Tryz.zeroValue173 }
end Go.Proofs

/-
  TRANSLATIONS, THE PROGRAM: THE LIBRARY'S REPEAT, TIES, IDLE EDGES. Own work.
-/
namespace Go.Fd
open Go.RowKit
set_option maxRecDepth 20000
theorem Zq8(x y:Nat)(hx:x<=1000)(hy:y<=1000)(lvl:Nat)(S:Sto):Sem Proofs.Tryz.prog UL lvl [.tr (.v (.int .u64 x)),.tr (.v (.int .u64 y))] S (.tu [.tr (.v (.int .u64 0)),.tr (.v (.int .u64 (x*y:Nat)))]) S:=by
 have hxy:x*y<=1000*1000:=Nat.mul_le_mul hx hy
 have e1:x*y / 18446744073709551616=0:=Nat.div_eq_of_lt (by omega)
 have e2:x*y % 18446744073709551616=x*y:=Nat.mod_eq_of_lt (by omega)
 exact ZhR (P:=Proofs.Tryz.prog) (xs:=[.int .u64 x,.int .u64 y]) (ys:=[.int .u64 0,.int .u64 (x*y:Nat)]) (Zd1 (by kernel_rfl)) (fun v hv=>by
  rcases List.mem_cons.1 hv with h | h
  ·rw[h];rfl
  ·rw[List.mem_singleton.1 h];rfl) (fun w=>(Go.Proofs.Any.bits_Mul Proofs.Tryz.lays212 x y (by omega) (by omega) w).mono fun e w' ⟨h,h'⟩=>⟨by rw[h,e1,e2];rfl,h' ▸ Below.refl _ _⟩)
def rpL(N k:Nat):List Int:=List.replicate k (-1)++List.replicate (N-k) 0
theorem ZmT{N k:Nat}(h:k<=N):(rpL N k).length=N:=by simp [rpL];omega
theorem Zov{N k:Nat}(h:k<=N):(rpL N k).take k++((rpL N k).take k).take (N-k)++(rpL N k).drop (k+min k (N-k))=rpL N (k+min k (N-k)):=by
 have e1:(rpL N k).take k=List.replicate k (-1):=by
  unfold rpL
  rw[List.take_append_of_le_length (by simp),List.take_of_length_le (by simp)]
 have e2:(rpL N k).drop (k+min k (N-k))=List.replicate (N-k-min k (N-k)) 0:=by
  unfold rpL
  rw[List.drop_append,List.drop_of_length_le (by simp),List.length_replicate,List.drop_replicate]
  simp
 rw[e1,e2,List.take_replicate,List.replicate_append_replicate]
 unfold rpL
 rw[Nat.min_comm (N-k) k,show N-(k+min k (N-k))=N-k-min k (N-k) by omega]
theorem Zk7(N:Nat)(hN:N<=1000)(lvl:Nat)(S:Sto):Sem Proofs.Tryz.prog Ye lvl [tI [-1],iI N] S (.ow 1 (rI (List.replicate N (-1))) true) S:=by
 refine Zc Di trivial ?_
 have h0:¬ (N:Int)<0:=by omega
 have qm:=Zq8 1 N (by omega) hN
 rw[Nat.one_mul] at qm
 have h1:¬ (9223372036854775807:Int)<N:=by omega
 have f1:Wd .u64 (N:Int):=⟨by show (0:Int)<=N;omega,by show (N:Int)<=18446744073709551615;omega⟩
 have f2:Wd .i64 (N:Int):=by rw[Ze];omega
 simp only[QY,h0,List.length_cons,List.length_nil,EVA,seval,Zd,men]
 refine⟨⟨by decide,by decide⟩,f1,Zb qm ?_⟩
 have tz:trv (.int .i64 0)=tv 0:=rfl
 have hrow:List.replicate N [tv 0]=rI (rpL N 0):=by simp [rpL]
 simp only[h1,tz,hrow,Int.toNat_natCast,EVA,seval]
 have hi:List.take N [[tv (-1)]]++List.drop (min 1 N) (rI (rpL N 0))=rI (rpL N (min 1 N)):=by
  cases N with
  | zero=>rfl
  | succ n =>
   have e:min 1 (n+1)=1:=by omega
   rw[e]
   simp [rpL,List.replicate_succ]
 rw[hi]
 refine⟨f2,by omega,by rw[ZmT (Nat.zero_le _)];exact Nat.le_refl _,of_eq_true Zoe,?_⟩
 refine ZtQ (α:=Nat×Nat) (fun x=>N-x.1) (fun x=>[(8,iI x.1)]) (fun x=>[(960,.ar 1 (rI (rpL N x.1)) true N x.2)]) (fun x=>x.1<=N/\(0<N->0<x.1)) (min 1 N,1) (by simp only[EVA,seval]) (by (simp only[EVA,seval]) <;> rfl) ⟨by omega,by omega⟩ ?_
 rintro⟨k,v⟩ ⟨hk,hk0⟩
 have hk:k<=N:=hk
 have hk0:0<N->0<k:=hk0
 have hrl:=ZmT hk
 simp only[List.length_map,EVA,seval]
 refine Zn (fun hlt=>?_) (fun hge=>?_)
 ·have hkN:k<N:=by omega
  have ck:cut (rI (rpL N k)) 0 k=rI ((rpL N k).take k):=by simp [cut]
  have l1:(rI ((rpL N k).take k)).length=k:=by rw[List.length_map,List.length_take,hrl];omega
  have hrow2:List.take k (rI (rpL N k))++List.take (N-k) (rI ((rpL N k).take k))++List.drop (k+min k (N-k)) (rI (rpL N k))=rI (rpL N (k+min k (N-k))):=by
   rw[<-Zov hk]
   simp only[List.map_append,List.map_take,List.map_drop]
  simp only[Nat.sub_zero,ck,l1,hrl,Zoe,Zof,hrow2,EVA,seval]
  exact⟨hk,by omega,hk,hk,by omega,hk,by rw[Ze];omega,(k+min k (N-k),v+1),by show N-(k+min k (N-k))<N-k;have:=hk0 (by omega);omega,by rw[show (k:Int)+(min k (N-k):Nat)=((k+min k (N-k):Nat):Int) by omega],by show k+min k (N-k)<=N;omega,fun _=>by show 0<k+min k (N-k);have:=hk0 (by omega);omega⟩
 ·have hkN:k=N:=by omega
  subst hkN
  have e:rpL k k=List.replicate k (-1):=by simp [rpL]
  rw[e]
  exact⟨by simp,rfl⟩
theorem Zow{k:Nat}{id:Oid}{p:Pth}{off len s:Nat}{cap:Option Nat}{st:St}{F:IV->St->Prop}(h:id.1≠st.lvl):ZdQ k (.hd id p off len cap s) st F=F (.hd id p off len cap s) st:=if_neg h
theorem Zcj(p:Int)(ns:List Int)(h:p<ns.length)(lvl:Nat)(S:Sto):Sem Proofs.Tryz.prog QQ lvl [iI p,.ta [Tr.sl (rI ns)]] S (iI (mvP ns p)) S:=by
 refine Zc Zdz trivial ?_
 unfold mvP
 by_cases h0:p<0
 ·have e:¬ 0<=p:=by omega
  rw[if_pos h0]
  simp only[XU,e,EVA,seval]
  try rfl
 ·have e:0<=p:=by omega
  rw[if_neg h0]
  obtain⟨k,rfl⟩:=Int.eq_ofNat_of_zero_le e
  have hk:k<ns.length:=by omega
  have ga:=Jv hk
  simp only[XU,e,ga,EVA,seval]
  try rfl
theorem Zck(a b:TBigraph)(es:List Int)(x y:Int)(ha:0<=a.edges/\a.edges<=8)(hab:a.edges=b.edges)(hes:es.length=a.edges.toNat)(hx:0<=x/\x<=1000)(hy:0<=y/\y<=1000)(lvl:Nat)(S:Sto)(idB idR:Oid)(hB:idB.1<lvl)(hR:idR.1<lvl)(sB:S idB=some (.bx [.hd idR [] 0 es.length none es.length]))(sR:S idR=some (.ar 1 (rI es) true es.length 0)) :
  Sem Proofs.Tryz.prog QP lvl [iI x,iI y,.ta (Za a),.ta (Za b),.ab idB 0] S (iB (Ze4 a.edges es x y).isSome) (ZK S idR (.ar 1 (rI ((Ze4 a.edges es x y).getD es)) true es.length 0)):=by
 have nB:idB.1≠lvl:=by omega
 have nR:idR.1≠lvl:=by omega
 refine Zc Zdy trivial ?_
 unfold Ze4
 rw[hab] at ha hes ⊢
 have self:=Qw sR
 by_cases h1:b.edges<=x
 ·rw[if_pos (.inl h1)]
  by_cases h2:x=y
  ·have e:=eq_true h2
   rw[if_pos h2,Option.getD_some,self]
   simp only[JP,Za,hab,h1,e,EVA,seval]
   try rfl
  ·have e:=eq_false h2
   rw[if_neg h2,Option.getD_none,self]
   simp only[JP,Za,hab,h1,e,EVA,seval]
   try rfl
 by_cases h3:b.edges<=y
 ·have h2:¬ x=y:=by omega
  have e:=eq_false h2
  rw[if_pos (.inr h3),if_neg h2,Option.getD_none,self]
  simp only[JP,Za,hab,h1,h3,e,EVA,seval]
  try rfl
 rw[if_neg (show ¬ (b.edges<=x\/b.edges<=y) by omega)]
 obtain⟨k,rfl⟩:=Int.eq_ofNat_of_zero_le hx.1
 have hk:k<es.length:=by omega
 have ga:=Jv hk
 simp only[Int.toNat_natCast]
 by_cases h4:0<=g0 es k
 ·have h4n:¬ g0 es k<0:=by omega
  rw[if_pos (.inl h4)]
  by_cases h5:g0 es k=y
  ·have e:=eq_true h5
   rw[if_pos h5,Option.getD_some,self]
   simp only[JP,Za,hab,h1,h3,ZD nB,ZD nR,sB,sR,ga,hk,h4n,e,EVA,seval]
   try rfl
  ·have e:=eq_false h5
   rw[if_neg h5,Option.getD_none,self]
   simp only[JP,Za,hab,h1,h3,ZD nB,ZD nR,sB,sR,ga,hk,h4n,e,EVA,seval]
   try rfl
 have h4n:g0 es k<0:=by omega
 have c1:cut (rI es) 0 es.length=rI es:=WR (by simp)
 simp only[JP,Za,hab,h1,h3,ZD nB,ZD nR,sB,sR,ga,hk,h4n,c1,List.length_map,EVA,seval,Zd,men]
 refine Zb (Zan es y (by omega)) ?_
 by_cases h6:y∈es
 ·have h5:¬ g0 es k=y:=by omega
  have e:=eq_false h5
  rw[if_pos (.inr h6),if_neg h5,Option.getD_none,self]
  simp only[h6,decide_true,ZD nB,ZD nR,sB,sR,ga,hk,e,EVA,seval]
  try rfl
 ·rw[if_neg (show ¬ (0<=g0 es k\/y∈es) from fun h=>h.elim h4 h6),Option.getD_some]
  have hne:idB≠idR:=fun g=>by rw[g,sR] at sB;cases sB
  have sp:=Zoo (y:=es) (j:=k) (v:=y) hk
  have ga2:(rI (es.set k y))[k]? = some [tv y]:=by
   have:=Jv (l:=es.set k y) (i:=k) (by rw[List.length_set];exact hk)
   rw[Zk1 hk,if_pos rfl] at this
   exact this
  have sB2:ZK S idR (.ar 1 (rI (es.set k y)) true es.length 0) idB=some (.bx [.hd idR [] 0 es.length none es.length]):=by
   unfold ZK
   rw[if_neg hne];exact sB
  simp only[h6,decide_false,ZD nB,ZD nR,sB,sR,ga,hk,sp,JE nR,Yu,sB2,ga2,EVA,seval]
  try rfl
theorem Zg8(a b:TBigraph)(es:List Int)(hb:small b)(hl:es.length<=1000)(hid:∀ j,j<es.length->g0 (YP es j) j<0->idle b (Zc1 es j:Nat))(lvl:Nat)(S:Sto)(id:Oid)(hR:id.1<lvl)(sR:S id=some (.ar 1 (rI es) true es.length 0)) :
  Sem Proofs.Tryz.prog QR lvl [cB a,cB b,.hd id [] 0 es.length none es.length] S (.tu [.hd id [] 0 es.length none es.length,iB true]) (ZK S id (.ar 1 (rI (ZmB es)) true es.length 0)):=by
 have hne:id.1≠lvl:=by omega
 refine Zc ZdA (by simp only[low,men,Zd];exact⟨hR,trivial,trivial⟩) ?_
 simp only[Dx,Za,EVA,seval]
 refine ZP (α:=Unit) es.length (fun k _=>⟨lvl,[(2,.hd id [] 0 es.length none es.length),(4,.ta (Za b)),(11,iI es.length),(12,iI k)],[],ZK S id (.ar 1 (rI (YP es k)) true es.length 0)⟩) (fun _ _=>True) () ⟨by simp only[ZM hne,EVA,seval],by (simp only[Qw sR,YP,Za,EVA,seval]) <;> rfl⟩ trivial ?_
 intro j _ hj _
 simp only[EVA,seval]
 refine Zn (fun hlt=>?_) (fun hge=>?_)
 ·have hja:j<es.length:=by omega
  have ga:=Jv (l:=YP es j) (i:=j) (by rw[Q3];exact hja)
  by_cases hn:0<=g0 (YP es j) j
  ·simp only[ZD hne,Yu,ga,hja,hn,ZM hne,EVA,seval]
   exact⟨by rw[Ze];omega,Zf () hja (by rw[Zkt (by omega)];rfl) trivial⟩
  ·have hn2:g0 (YP es j) j<0:=by omega
   obtain⟨q1,q2,q3⟩:=ZfM hja hn2
   simp only[ZD hne,Yu,ga,hja,hn,EVA,seval]
   refine ZO (α:=Unit) (Zc1 es j) (fun m _=>[(9,iI m)]) (fun _ _=>[]) (fun _ _=>True) () (by simp only[ZM hne,EVA,seval]) (by (simp only[EVA,seval]) <;> rfl) trivial ?_
   intro m _ hm _
   have c1:cut (rI (YP es j)) 0 es.length=rI (YP es j):=WR (by rw[List.length_map,Q3])
   simp only[ZD hne,Yu,c1,Q3,List.length_map,EVA,seval,Zd,men]
   refine Zb (Zan (YP es j) (m:Int) (by rw[Q3];omega)) ?_
   by_cases hk2:m<Zc1 es j
   ·have hin:(m:Int)∈YP es j:=q3 m hk2
    simp only[hin,decide_true,ZM hne,EVA,seval]
    exact⟨by rw[Ze];omega,Zf () hk2 rfl trivial⟩
   ·have hkv:m=Zc1 es j:=by omega
    subst hkv
    have q:=ZfH b (Zc1 es j:Nat) hb
    rw[Z5 (hid j hja hn2)] at q
    simp only[Za,List.map_cons,List.map_nil] at q
    have sp:=Zoo (y:=YP es j) (j:=j) (v:=((Zc1 es j:Nat):Int)) (by rw[Q3];exact hja)
    simp only[q1,decide_false,Za,EVA,seval,Zd,men]
    refine Zb q ?_
    simp only[ZD hne,JE hne,Ju,Yu,ga,sp,hja,ZM hne,EVA,seval]
    exact⟨by rw[Ze];omega,Zf () hja (by rw[Zix hn2];rfl) trivial⟩
 ·have:j=es.length:=by omega
  subst this
  rw[Zow hne]
  simp only[EVA,seval]
  try rfl
end Go.Fd

/-
  TRANSLATIONS, THE PROGRAM: THE EDGES OF A TRANSLATION. Own work.
-/
namespace Go.Fd
set_option maxRecDepth 20000
theorem Zox{l:List Int}{p:Int}{j:Nat}(h:p<j):mvP (l.take j) p=mvP l p:=by
 unfold mvP
 split
 ·rfl
 ·exact ZmC (by omega)
theorem Zq9{a b:TBigraph}{l:List Int}{n j m:Nat}(ho:DQ n l)(hj:j<n)(hm:g0 l j=(m:Int))(hp:(JQ a j).parent<j):ZcZ a b (l.take j) m↔(JQ a j).control=(JQ b m).control/\mvP l (JQ a j).parent=(JQ b m).parent:=by
 have hjl:j<l.length:=by rw[ho.1];exact hj
 have htl:(l.take j).length=j:=by rw[List.length_take];omega
 unfold ZcZ
 rw[htl,Int.toNat_natCast,Zox hp]
 refine⟨fun h=>h.2,fun h=>⟨fun hmem=>?_,h⟩⟩
 obtain⟨i,hi,hie⟩:=List.getElem_of_mem hmem
 rw[htl] at hi
 rw[List.getElem_take] at hie
 have hd:=Zjo ho
 have e1:g0 l j=l[j]:=by simp [hjl]
 exact List.pairwise_iff_getElem.1 hd i j (by omega) hjl hi (by rw[hie,<-hm,e1])
set_option maxHeartbeats 2000000 in
theorem Zjs(sig:List TControl)(a b:TBigraph)(l:List Int)(hA:bigOK sig a)(hB:bigOK sig b)(hl:l.length<=4294967296)(lvl:Nat)(S:Sto) :
  Sem Proofs.Tryz.prog XQ lvl [cB a,cB b,tI l] S (.tu [.ow 1 (rI ((trT a b l).getD [])) true,iB (trT a b l).isSome]) S:=by
 have sA:=hA.small
 have sB:=hB.small
 have q1:=ZfS a.outer b.outer (by have:=sA.outer;omega)
 have q2:=Uv a (by have:=sA.inner;omega)
 have q3:=Uv b (by have:=sB.inner;omega)
 have q4:=ZfS (inn a) (inn b) (by rw[Zbk];have:=sA.inner;omega)
 have q5:=Ziz a.nodes.length l hl
 simp only[Za,List.map_cons,List.map_nil] at q2 q3
 refine Zc Zff (by simp [low,men,Zd]) ?_
 by_cases h1:a.roots=b.roots
 rotate_left
 ·have e:=eq_false h1
  rw[Zdu fun h=>h1 h.1.1]
  simp only[Ur,Za,e,Option.isSome_none,Option.getD_none,EVA,seval]
  try rfl
 have e1:=eq_true h1
 simp only[Ur,Za,e1,EVA,seval,Zd,men]
 refine Zb q1 ?_
 by_cases h2:a.outer=b.outer
 rotate_left
 ·rw[Zk h2,Zdu fun h=>h2 h.1.2.2.2.2.1]
  simp only[Option.isSome_none,Option.getD_none,EVA,seval]
  try rfl
 rw[Z5 h2]
 simp only[EVA,seval,Zd,men]
 refine Zb q2 ?_
 simp only[EVA,seval,Zd,men]
 refine Zb q3 ?_
 simp only[EVA,seval,Zd,men]
 refine Zb q4 ?_
 by_cases h3:inn a=inn b
 rotate_left
 ·rw[Zk h3,Zdu fun h=>h3 h.1.2.2.2.2.2]
  simp only[Option.isSome_none,Option.getD_none,EVA,seval]
  try rfl
 rw[Z5 h3]
 by_cases h4:a.edges=b.edges
 rotate_left
 ·have e:=eq_false h4
  rw[Zdu fun h=>h4 h.1.2.1]
  simp only[e,Option.isSome_none,Option.getD_none,EVA,seval]
  try rfl
 have e4:=eq_true h4
 by_cases h5:a.sites.length=b.sites.length
 rotate_left
 ·have e:((a.sites.length:Int)=b.sites.length)=False:=eq_false (by omega)
  rw[Zdu fun h=>h5 h.1.2.2.2.1]
  simp only[e4,e,List.length_map,Option.isSome_none,Option.getD_none,EVA,seval]
  try rfl
 have e5:((a.sites.length:Int)=b.sites.length)=True:=eq_true (by omega)
 by_cases h6:a.nodes.length=b.nodes.length
 rotate_left
 ·have e:((a.nodes.length:Int)=b.nodes.length)=False:=eq_false (by omega)
  rw[Zdu fun h=>h6 h.1.2.2.1]
  simp only[e4,e5,e,List.length_map,Option.isSome_none,Option.getD_none,EVA,seval]
  try rfl
 have e6:((a.nodes.length:Int)=b.nodes.length)=True:=eq_true (by omega)
 have hal:Qi a b:=⟨h1,h4,h6,h5,h2,h3⟩
 simp only[e4,e5,e6,List.length_map,EVA,seval,Zd,men]
 refine Zb q5 ?_
 by_cases ho:DQ a.nodes.length l
 rotate_left
 ·rw[Zk ho,Zdu fun h=>ho h.2]
  simp only[Option.isSome_none,Option.getD_none,EVA,seval]
  try rfl
 rw[Z5 ho,ZmP hal ho]
 have he:=hA.edges
 have hll:l.length=a.nodes.length:=ho.1
 have nA:=sA.nodes
 have nS:=sA.sites
 have nI:=sA.inner
 have q6:=Zk7 a.edges.toNat (by omega)
 rw[show ((a.edges.toNat:Nat):Int)=a.edges by omega] at q6
 simp only[EVA,seval,Zd,men]
 refine Zb q6 ?_
 simp only[List.length_map,List.length_replicate,EVA,seval]
 obtain⟨N,hN⟩:∃ N,N=a.edges.toNat:=⟨_,rfl⟩
 rw[<-hN]
 refine ZO (α:=Unit) a.nodes.length (fun j _=>[(83,iI j)]) (fun j _=>[(2464,.ar 1 (rI ((edJ a b l j).getD [])) true N 0)]) (fun j _=>∃ es,edJ a b l j=some es) () (by simp only[EVA,seval]) (by (simp only[edJ,Option.getD_some,hN,EVA,seval]) <;> rfl) ⟨_,rfl⟩ ?_
 intro j _ hj ⟨es,hz⟩
 rw[hz,Option.getD_some]
 have hesl:=Zc0 hz
 rw[<-hN] at hesl
 simp only[List.length_map,EVA,seval]
 refine Zn (fun hlt=>?_) (fun hge=>?_)
 ·have hja:j<a.nodes.length:=by omega
  have hjl:j<l.length:=by omega
  have hgm:=Ziu ho (Vh hjl)
  obtain⟨m,hm⟩:=Int.eq_ofNat_of_zero_le hgm.1
  have hmb:m<b.nodes.length:=by omega
  have gx:=Jv hjl
  have hpar:=ZeQ hA hja
  have ga:=Wh (c:=ZG) hja
  have gb:=Wh (c:=ZG) hmb
  have hfi:=Zq9 (a:=a) (b:=b) ho hja hm hpar
  have hno:¬ ZcZ a b (l.take j) m->(ZkY a b l).map ZmB=none:=fun h=>by
   rw[<-ZmP hal ho]
   exact ZmO (Zux hz (by rw[hm];exact h)) (by omega)
  rw[hm] at gx
  rw[Jm hja,Jm hmb] at hfi
  rw[Jm hja] at hpar
  have qp:=Zcj a.nodes[j].parent l (by omega)
  by_cases hc:a.nodes[j].control=b.nodes[m].control
  rotate_left
  ·have e:=eq_false hc
   rw[hno fun h=>hc (hfi.1 h).1]
   simp only[gx,ga,gb,ZG,e,Option.isSome_none,Option.getD_none,EVA,seval]
   try rfl
  have ec:=eq_true hc
  simp only[gx,ga,gb,ZG,ec,EVA,seval,Zd,men]
  refine Zb qp ?_
  by_cases hq:mvP l a.nodes[j].parent=b.nodes[m].parent
  rotate_left
  ·have e:=eq_false hq
   rw[hno fun h=>hq (hfi.1 h).2]
   simp only[e,Option.isSome_none,Option.getD_none,EVA,seval]
   try rfl
  have eq:=eq_true hq
  have hf:=hfi.2 ⟨hc,hq⟩
  have hy:=Zq5 hz (by rw[hm];exact hf)
  rw[hm,Int.toNat_natCast] at hy
  have hll2:=Zch hA hB hja hmb (by rw[Jm hja,Jm hmb];exact hc)
  have hle:=Zkw hA hja
  have hr1:=Zci hA hja
  have hr2:=Zci hB hmb
  rw[Jm hja,Jm hmb] at hy hll2
  rw[Jm hja] at hr1 hle
  rw[Jm hmb] at hr2
  simp only[eq,List.length_map,EVA,seval]
  refine ZO (α:=Unit) a.nodes[j].links.length (fun k _=>[(113,iI k)]) (fun k _=>[(2464,.ar 1 (rI (ZaW a.edges es a.nodes[j].links b.nodes[m].links k)) true N 0)]) (fun k _=>∃ z,XD a.edges es a.nodes[j].links b.nodes[m].links k=some z) () (by simp only[EVA,seval]) (by (simp only[ZaW,EVA,seval]) <;> rfl) ⟨es,rfl⟩ ?_
  intro k _ hk ⟨z,hzk⟩
  rw[Vs hzk]
  simp only[EVA,seval]
  refine Zn (fun hlt=>?_) (fun hge=>?_)
  ·have hka:k<a.nodes[j].links.length:=by omega
   have hkb:k<b.nodes[m].links.length:=by omega
   have gk:=Jv hka
   have gk2:=Jv hkb
   have hzl:z.length=N:=by rw[Q1 hzk,hesl]
   have q:=fun S' s1 s2=>Zck a b z (g0 a.nodes[j].links k) (g0 b.nodes[m].links k) he h4 (by rw[hzl,hN]) (hr1 _ (Vh hka)) (hr2 _ (Vh hkb)) (lvl+1) S' (lvl,256) (lvl,2464) (Nat.lt_succ_self _) (Nat.lt_succ_self _) s1 s2
   rw[hzl] at q
   have hsucc:=Zc2 hzk
   simp only[gk,gk2,EVA,seval]
   refine ZcU 2464 _ (q _ ?_ ?_) ?_
   ·rw[JV];rfl
   ·rw[JV];rfl
   cases ht:Ze4 a.edges z (g0 a.nodes[j].links k) (g0 b.nodes[m].links k) with
   | none =>
    rw[ht] at hsucc
    have hbad:(ZkY a b l).map ZmB=none:=by
     rw[<-ZmP hal ho]
     refine ZmO (j:=j+1) ?_ (by omega)
     rw[hy]
     exact ZaO hsucc (by omega)
    rw[hbad]
    simp only[Option.isSome_none,Option.getD_none,EVA,seval]
    try rfl
   | some w =>
    rw[ht] at hsucc
    simp only[Option.isSome_some,Option.getD_some,EVA,seval]
    exact⟨by rw[Ze];omega,Zf () hka (by rw[Vs hsucc];rfl) ⟨w,hsucc⟩⟩
  ·have hkn:k=a.nodes[j].links.length:=by omega
   subst hkn
   have hw:edJ a b l (j+1)=some z:=by rw[hy];exact hzk
   exact⟨by rw[Ze];omega,Zf () hja (by rw[hw];rfl) ⟨z,hw⟩⟩
 ·have hjn:j=a.nodes.length:=by omega
  subst hjn
  have hpre:ZkY a b l=Zkk a b l es:=by unfold ZkY;rw[hz];rfl
  rw[hpre]
  refine ZO (α:=Unit) a.sites.length (fun j _=>[(132,iI j)]) (fun _ _=>[]) (fun j _=>∀ i,i<j->mvP l (g0 a.sites i)=g0 b.sites i) () (by simp only[EVA,seval]) (by (simp only[EVA,seval]) <;> rfl) (fun i hi=>absurd hi (Nat.not_lt_zero i)) ?_
  intro j _ hj hS
  simp only[List.length_map,EVA,seval]
  refine Zn (fun hlt=>?_) (fun hge=>?_)
  ·have hja:j<a.sites.length:=by omega
   have hjb:j<b.sites.length:=by omega
   have gx:=Jv hja
   have gy:=Jv hjb
   have qp:=Zcj (g0 a.sites j) l (by have:=ZmQ hA _ (Vh hja);omega)
   simp only[gx,EVA,seval,Zd,men]
   refine Zb qp ?_
   by_cases h:mvP l (g0 a.sites j)=g0 b.sites j
   ·have e:=eq_true h
    simp only[gy,e,EVA,seval]
    exact⟨by rw[Ze];omega,Zf () hja rfl (fun i hi=>by
     by_cases e:i=j
     ·subst e;exact h
     ·exact hS i (by omega))⟩
   ·have e:=eq_false h
    have hne:¬ a.sites.map (mvP l)=b.sites:=fun g=>h (by
     rw[<-g]
     show _=(a.sites.map (mvP l)).getD j 0
     simp [hja])
    unfold Zkk
    rw[if_neg hne]
    simp only[gy,e,Option.isSome_none,Option.getD_none,Option.map_none,EVA,seval]
    try rfl
  have hj1:j=a.sites.length:=by omega
  subst hj1
  have heq:a.sites.map (mvP l)=b.sites:=List.ext_getElem (by rw[List.length_map];exact h5) fun i h1 h2=>by
   rw[List.length_map] at h1
   have:=hS i h1
   rw[List.getElem_map]
   simpa [h1,h2] using this
  have hend:Zkk a b l es=WT a.edges es (lnk a) (lnk b):=by unfold Zkk;rw[if_pos heq]
  rw[hend] at hpre ⊢
  have hla:(lnk a).length=a.inner.length:=by simp [lnk]
  have hlb:(lnk b).length=b.inner.length:=by simp [lnk]
  have hil:=ZiA hal
  refine ZO (α:=Unit) a.inner.length (fun k _=>[(150,iI k)]) (fun k _=>[(2464,.ar 1 (rI (ZaW a.edges es (lnk a) (lnk b) k)) true N 0)]) (fun k _=>∃ z,XD a.edges es (lnk a) (lnk b) k=some z) () (by simp only[EVA,seval]) (by (simp only[ZaW,EVA,seval]) <;> rfl) ⟨es,rfl⟩ ?_
  intro k _ hk ⟨z,hzk⟩
  rw[Vs hzk]
  have hzl:z.length=N:=by rw[Q1 hzk,hesl]
  simp only[EVA,seval]
  refine Zn (fun hlt=>?_) (fun hge=>?_)
  ·have hka:k<a.inner.length:=by omega
   have hkb:k<b.inner.length:=by omega
   have gk:=Wh (c:=ZX) hka
   have gk2:=Wh (c:=ZX) hkb
   have e1:g0 (lnk a) k=a.inner[k].link:=by simp [lnk,hka]
   have e2:g0 (lnk b) k=b.inner[k].link:=by simp [lnk,hkb]
   have q:=fun S' s1 s2=>Zck a b z (g0 (lnk a) k) (g0 (lnk b) k) he h4 (by rw[hzl,hN]) (Zg6 hA _ (Vh (by omega))) (Zg6 hB _ (Vh (by omega))) (lvl+1) S' (lvl,256) (lvl,2464) (Nat.lt_succ_self _) (Nat.lt_succ_self _) s1 s2
   have hsucc:=Zc2 hzk
   rw[e1,e2] at q hsucc
   rw[hzl] at q
   simp only[gk,gk2,ZX,EVA,seval]
   refine ZcU 2464 _ (q _ ?_ ?_) ?_
   ·rw[JV];rfl
   ·rw[JV];rfl
   cases ht:Ze4 a.edges z a.inner[k].link b.inner[k].link with
   | none =>
    rw[ht] at hsucc
    have hbad:WT a.edges es (lnk a) (lnk b)=none:=ZaO hsucc (by omega)
    rw[hbad]
    simp only[Option.isSome_none,Option.getD_none,Option.map_none,EVA,seval]
    try rfl
   | some w =>
    rw[ht] at hsucc
    simp only[Option.isSome_some,Option.getD_some,EVA,seval]
    exact⟨by rw[Ze];omega,Zf () hka (by rw[Vs hsucc];rfl) ⟨w,hsucc⟩⟩
  ·have hkn:k=a.inner.length:=by omega
   subst hkn
   have hfz:WT a.edges es (lnk a) (lnk b)=some z:=by unfold WT;rw[hla];exact hzk
   rw[hfz] at hpre ⊢
   have pok:pairOK sig a b:=⟨hA,hB,hal⟩
   have q7:=fun S' s1=>Zg8 a b z sB (by omega) (fun j hj hn=>ZmJ pok ho hpre hj hn) (lvl+1) S' (lvl,2464) (Nat.lt_succ_self _) s1
   simp only[cB,Za,List.map_cons,List.map_nil] at q7
   rw[hzl] at q7
   simp only[EVA,seval]
   refine ZcU 2464 _ (q7 _ ?_) ?_
   ·rw[JV];rfl
   simp only[List.length_map,EVA,seval]
   show N=(YP z z.length).length
   rw[Q3,hzl]
end Go.Fd
