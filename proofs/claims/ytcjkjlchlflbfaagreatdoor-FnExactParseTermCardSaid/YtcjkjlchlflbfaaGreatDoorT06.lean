/-
  NAMES AND SIGNATURES, BOTH SIDES. Own work.
-/
import Derived.Test.YtcjkjlchlflbfaaGreatDoorT05
import Derived.Shelf.Sort.Plain
set_option linter.all false
namespace Go.Fd
open Go.Proofs.Tryz renaming prog->Uch
set_option maxRecDepth 20000
def Zmy(P:Program)(f:FuncId):Bool:=match P.funcs[f]? with | some fn=>fn.body.isSome && !(fn.name == "runtime.NumGoroutine") | none=>false
theorem Xs{P:Program}{f:FuncId}(h:Zmy P f=true):Wz P f:=by
 unfold Zmy at h
 split at h
 ·rename_i fn hf
  simp only[Uag,UaR] at h
  exact⟨fn,hf,h.1,h.2⟩
 ·cases h
abbrev AZ:ByteArray:=⟨#[97,98,99,100,101,102,103,104,105,106,107,108,109,110,111,112,113,114,115,116,117,118,119,120,121,122]⟩
theorem ZB4(s:ByteArray)(hs:s.size<=9223372036854775807)(lvl:Nat)(S:Zc):Sem Uch Zkn lvl [iS s,iS AZ] S (iS ⟨(Lib.trimS s.data.toList AZ.data.toList).toArray⟩) S :=
 ZjZ (xs:=[.string s,.string AZ]) (Xs (by kernel_rfl)) rfl (fun w=>Go.Proofs.Any.strings_Trim_laid Proofs.Tryz.lays160 (by kernel_rfl) s AZ w hs (by decide) (Go.Proofs.ascii_of_all (by decide)))
def Jw(s:ByteArray):Prop:=(∀ b∈s.data.toList,97<=b.toNat/\b.toNat<=122)/\1<=s.size/\s.size<=4
theorem ZgF(s:ByteArray):s.size=s.data.toList.length:=by rw[Array.length_toList];rfl
theorem Zmz(b:UInt8):b∈AZ.data.toList↔97<=b.toNat/\b.toNat<=122:=by
 have:∀ n:Fin 256,(UInt8.ofNat n.val)∈AZ.data.toList↔97<=n.val/\n.val<=122:=by decide +kernel
 have h:UInt8.ofNat b.toNat∈AZ.data.toList↔97<=b.toNat/\b.toNat<=122:=this ⟨b.toNat,b.toNat_lt⟩
 rw[show UInt8.ofNat b.toNat=b from UInt8.ofNat_toNat] at h
 exact h
theorem ZgG{p:UInt8->Bool}:∀{l:List UInt8},l.dropWhile p=[]↔∀ b∈l,p b=true
 | []=>by simp
 | x::r=>by
  simp only[List.dropWhile_cons,UaE,forall_eq_or_imp]
  cases h:p x with
  | true=>simp [ZgG (l:=r)]
  | false=>simp
theorem ZmA{p:UInt8->Bool}{b:UInt8}:∀{l:List UInt8},b∈l.takeWhile p->p b=true
 | [],h=>by simp at h
 | x::r,h=>by
  rw[List.takeWhile_cons] at h
  split at h
  ·rename_i hx
   rcases UaE.1 h with rfl | h
   ·exact hx
   ·exact ZmA h
  ·cases h
theorem ZB5{l cs:List UInt8}(h:∀ b∈l,b∈cs):l.dropWhile (cs.contains ·)=[]:=by
 rw[ZgG]
 intro b hb
 simpa using h b hb
theorem trimS_nil{l cs:List UInt8}:Lib.trimS l cs=[]↔∀ b∈l,b∈cs:=by
 unfold Lib.trimS Lib.trimLeftS Lib.trimRightS
 constructor
 ·intro h b hb
  rw[ZgG] at h
  have hrev:∀ x∈(l.reverse.dropWhile (cs.contains ·)),x∈cs:=fun x hx=>by
   have:=h x (by simpa using hx)
   simpa using this
  have hsplit:l.reverse=l.reverse.takeWhile (cs.contains ·)++l.reverse.dropWhile (cs.contains ·):=(List.takeWhile_append_dropWhile).symm
  have hb2:b∈l.reverse:=by simpa using hb
  rw[hsplit] at hb2
  rcases Uap.1 hb2 with h1 | h1
  ·have:=ZmA h1
   simpa using this
  ·exact hrev b h1
 ·intro h
  rw[ZB5 (l:=l.reverse) (fun b hb=>h b (by simpa using hb))]
  rfl
theorem ZgH(s:ByteArray)(hs:s.size<=9223372036854775807)(lvl:Nat)(S:Zc):Sem Uch Zaz lvl [iS s] S (iB (dc (Jw s))) S:=by
 refine Zi Zz4 trivial ?_
 simp only[ZkA,Zb,seval,Za,men]
 refine ZJ (α:=Unit) s.size (fun j _=>[(3,iI j)]) (fun _ _=>[]) (fun j _=>∀ b∈s.data.toList.take j,97<=b.toNat/\b.toNat<=122) () (by simp only[Zb,seval,Za,men]) (by (simp only[Zb,seval,Za,men]) <;> rfl) (fun b hb=>by simp at hb) ?_
 intro j _ hj hA
 simp only[Zb,seval,Za,men]
 refine Zs (fun hlt=>?_) (fun hge=>?_)
 ·have hja:j<s.data.toList.length:=by rw[<-ZgF];omega
  have ga:s.data.toList[j]? = some (s.data.toList[j]):=Uah hja
  have hno:¬ (97<=(s.data.toList[j]).toNat/\(s.data.toList[j]).toNat<=122) -> ¬ Jw s:=fun h hn=>h (hn.1 _ (Uak hja))
  by_cases h1:((s.data.toList[j]).toNat:Int)<97
  ·simp only[ga,h1,Zb,seval,Za,men]
   rw[Zt (hno (by omega))]
  by_cases h2:(122:Int)<(s.data.toList[j]).toNat
  ·simp only[ga,h1,h2,Zb,seval,Za,men]
   rw[Zt (hno (by omega))]
  ·simp only[ga,h1,h2,Zb,seval,Za,men]
   refine⟨by rw[Zg];omega,Zu () (by omega) rfl ?_⟩
   intro b hb
   rw[Uaf hja] at hb
   rcases Uap.1 hb with h | h
   ·exact hA b h
   ·have:b=s.data.toList[j]:=by simpa using h
    subst this
    omega
 ·have:j=s.size:=by omega
  subst this
  rw[ZgF,Uaw] at hA
  refine Zf (Y6 s.size 1 4) ?_
  simp only[Zb,seval,Za,men]
  rw[V2 (q:=1<=s.size/\s.size<=4) ⟨fun h=>h.2,fun h=>⟨hA,h⟩⟩]
  by_cases h:1<=s.size/\s.size<=4
  ·rw[ZY h,inB_iff.2 (by omega)]
  ·rw[Zt h,inB_not.2 (by omega)]
theorem ZaT(s:ByteArray)(hs:s.size<=9223372036854775807)(lvl:Nat)(S:Zc):Sem Uch Uj lvl [iS s] S (iB (dc (Jw s))) S:=by
 refine Zi ZAo trivial ?_
 simp only[ZkS,Zb,seval,Za,men]
 refine Zf (QZ s.size 1 4) ?_
 simp only[Zb,seval,Za,men]
 cases hin:Jo (s.size:Int) 1 4 with
 | false =>
  have:¬ Jw s:=fun h=>(inB_not.1 hin) (by have:=h.2;omega)
  rw[Zt this]
  simp only[Zb,seval,Za,men]
 | true =>
  have hin':=inB_iff.1 hin
  simp only[Zb,seval,Za,men]
  refine Zf (ZB4 s hs) ?_
  simp only[Zb,seval,Za,men]
  by_cases h:Jw s
  ·have:Lib.trimS s.data.toList AZ.data.toList=[]:=trimS_nil.2 (fun b hb=>(Zmz b).2 (h.1 b hb))
   rw[ZY h,this]
   rfl
  ·have:¬ Lib.trimS s.data.toList AZ.data.toList=[]:=fun e=>h ⟨fun b hb=>(Zmz b).1 (trimS_nil.1 e b hb),by omega,by omega⟩
   rw[Zt h]
   have h2:¬ (⟨(Lib.trimS s.data.toList AZ.data.toList).toArray⟩:ByteArray)=⟨#[]⟩:=fun e=>this (by
    have:=congrArg (fun b:ByteArray=>b.data.toList) e
    simpa using this)
   simp [h2]
def Zc2(c:TControl):Prop:=Jw c.name/\(0<=c.ports/\c.ports<=3)/\0<=c.kind_/\c.kind_<=2
def ZaU(sig:List TControl)(i:Nat):Prop:=∀ h:i<sig.length,Zc2 sig[i]/\∀ k (hk:k<i),(sig[k]'(by omega)).name≠sig[i].name
def Z2(sig:List TControl):Prop:=(∀ i,ZaU sig i)/\1<=sig.length/\sig.length<=6
theorem ZB6(c d:TControl)(lvl:Nat)(S:Zc):Sem Uch Zcm lvl [.ag ((Zr d).map .tr),.ta (Zr c)] S (iB (decide (d.name=c.name))) S:=by
 refine Zi ZAp trivial ?_
 simp only[ZkT,Zr,Zb,seval,Za,men]
theorem ZmB:Zj Uch ZfO (QY 3 (some 3))=true:=by kernel_rfl
theorem ZB7:Zj Uch Zkm (WR ZfO)=true:=by kernel_rfl
theorem ZgI(sig:List TControl)(hl:sig.length<=9223372036854775807)(hb:∀ y∈sig,Jc 9223372036854775807 y)(lvl:Nat)(S:Zc):Sem Uch Zax lvl [.tr (.sl (sig.map Zr))] S (iB (dc (Z2 sig))) S:=by
 refine Zi ZzV trivial ?_
 simp only[Zkt,Uaa,Zb,seval,Za,men]
 refine ZJ (α:=Unit) sig.length (fun j _=>[(3,iI j)]) (fun _ _=>[]) (fun j _=>∀ i,i<j->ZaU sig i) () (by simp only[Zb,seval,Za,men]) (by (simp only[Zb,seval,Za,men]) <;> rfl) (fun i hi=>by omega) ?_
 intro j _ hj hA
 simp only[Uaa,Zb,seval,Za,men]
 refine Zs (fun hlt=>?_) (fun hge=>?_)
 ·have hja:j<sig.length:=by omega
  have ga:=Z6 (c:=Zr) hja
  have hbj:sig[j].name.size<=9223372036854775807:=hb _ (Uak hja)
  have hno:¬ Zc2 sig[j] -> ¬ Z2 sig:=fun h hs=>h (hs.1 j hja).1
  simp only[ga,Zr,Zb,seval,Za,men]
  refine Zf (ZgH sig[j].name hbj) ?_
  simp only[ga,Zr,Zb,seval,Za,men]
  cases hn:dc (Jw sig[j].name) with
  | false =>
   simp only[Zb,seval,Za,men]
   rw[Zt (hno fun h=>dc_not.1 hn h.1)]
  | true =>
   have hn':=dc_iff.1 hn
   simp only[ga,Zr,Zb,seval,Za,men]
   refine Zf (Y6 sig[j].ports 0 3) ?_
   simp only[ga,Zr,Zb,seval,Za,men]
   cases hp:Jo sig[j].ports 0 3 with
   | false =>
    simp only[Zb,seval,Za,men]
    rw[Zt (hno fun h=>inB_not.1 hp h.2.1)]
   | true =>
    have hp':=inB_iff.1 hp
    simp only[ga,Zr,Zb,seval,Za,men]
    refine Zf (Y6 sig[j].kind_ 0 2) ?_
    simp only[ga,Zr,Zb,seval,Za,men]
    cases hk:Jo sig[j].kind_ 0 2 with
    | false =>
     simp only[Zb,seval,Za,men]
     rw[Zt (hno fun h=>inB_not.1 hk h.2.2)]
    | true =>
     have hk':=inB_iff.1 hk
     simp only[Zb,seval,Za,men]
     refine ZJ (α:=Unit) j (fun k _=>[(4,iI k)]) (fun _ _=>[]) (fun k _=>∀ i (hi:i<k),k<=j->∀ hi2:i<sig.length,(sig[i]'hi2).name≠sig[j].name) () (by simp only[Zb,seval,Za,men]) (by (simp only[Zb,seval,Za,men]) <;> rfl) (fun i hi=>by omega) ?_
     intro k _ hkj hB
     simp only[Uaa,Zb,seval,Za,men]
     refine Zs (fun hlt2=>?_) (fun hge2=>?_)
     ·have hka:k<sig.length:=by omega
      have gb:=Z6 (c:=Zr) hka
      simp only[ga,gb,Zr,Zb,seval,Za,men]
      refine Zs (fun he=>?_) (fun hne=>?_)
      ·rw[Zt (fun hs:Z2 sig=>(hs.1 j hja).2 k (by omega) he)]
      ·refine⟨by rw[Zg];omega,Zu () (by omega) rfl (fun i hi _ hi2=>?_)⟩
       by_cases e:i=k
       ·subst e;exact hne
       ·exact hB i (by omega) (by omega) hi2
     ·have:k=j:=by omega
      subst this
      refine⟨by rw[Zg];omega,Zu () hja rfl (fun i hi=>?_)⟩
      by_cases e:i=k
      ·subst e
       exact fun h=>⟨⟨hn',hp',hk'⟩,fun q hq=>hB q hq (Ual _) (by omega)⟩
      ·exact hA i (by omega)
 ·have:j=sig.length:=by omega
  subst this
  refine Zf (Y6 sig.length 1 6) ?_
  simp only[Zb,seval,Za,men]
  have hall:∀ i,ZaU sig i:=fun i h=>hA i h h
  rw[V2 (q:=1<=sig.length/\sig.length<=6) ⟨fun h=>h.2,fun h=>⟨hall,h⟩⟩]
  by_cases h:1<=sig.length/\sig.length<=6
  ·rw[ZY h,inB_iff.2 (by omega)]
  ·rw[Zt h,inB_not.2 (by omega)]
theorem ZgJ(sig:List TControl)(hl:sig.length<=9223372036854775807)(hb:∀ y∈sig,Jc 9223372036854775807 y)(lvl:Nat)(S:Zc):Sem Uch ZaA lvl [.tr (.sl (sig.map Zr))] S (iB (dc (Z2 sig))) S:=by
 refine Zi ZAe trivial ?_
 simp only[ZkJ,Uaa,Zb,seval,Za,men]
 refine Zf (QZ sig.length 1 6) ?_
 simp only[Uaa,Zb,seval,Za,men]
 refine Zs (fun h=>?_) (fun h=>?_)
 ·rw[Zt (fun hs:Z2 sig=>(inB_not.1 h) (by have:=hs.2;omega))]
 have hln:=inB_iff.1 (by simpa using h)
 refine ZJ (α:=Unit) sig.length (fun j _=>[(11,iI j)]) (fun _ _=>[]) (fun j _=>∀ i,i<j->ZaU sig i) () (by simp only[Zb,seval,Za,men]) (by (simp only[Zb,seval,Za,men]) <;> rfl) (fun i hi=>by omega) ?_
 intro j _ hj hA
 simp only[Uaa,Zb,seval,Za,men]
 refine Zs (fun hlt=>?_) (fun hge=>?_)
 ·have hja:j<sig.length:=by omega
  have ga:=Z6 (c:=Zr) hja
  have hbj:sig[j].name.size<=9223372036854775807:=hb _ (Uak hja)
  have hno:¬ Zc2 sig[j] -> ¬ Z2 sig:=fun h hs=>h (hs.1 j hja).1
  simp only[ga,Zr,Zb,seval,Za,men]
  refine Zf (ZaT sig[j].name hbj) ?_
  simp only[ga,Zr,Zb,seval,Za,men]
  cases hn:dc (Jw sig[j].name) with
  | false =>
   simp only[Zb,seval,Za,men]
   rw[Zt (hno fun h=>dc_not.1 hn h.1)]
  | true =>
   have hn':=dc_iff.1 hn
   simp only[ga,Zr,Zb,seval,Za,men]
   refine Zf (QZ sig[j].ports 0 3) ?_
   simp only[ga,Zr,Zb,seval,Za,men]
   cases hp:Jo sig[j].ports 0 3 with
   | false =>
    simp only[Zb,seval,Za,men]
    rw[Zt (hno fun h=>inB_not.1 hp h.2.1)]
   | true =>
    have hp':=inB_iff.1 hp
    simp only[ga,Zr,Zb,seval,Za,men]
    refine Zf (QZ sig[j].kind_ 0 2) ?_
    simp only[ga,Zr,Zb,seval,Za,men]
    cases hk:Jo sig[j].kind_ 0 2 with
    | false =>
     simp only[Zb,seval,Za,men]
     rw[Zt (hno fun h=>inB_not.1 hk h.2.2)]
    | true =>
     have hk':=inB_iff.1 hk
     have hjl:j<=sig.length:=by omega
     simp only[Uaa,hjl,Zb,seval,Za,men]
     have hc:=Zmv (P:=Uch) ZB7 ZmB Zfh (f:=fun d:TControl=>decide (d.name=sig[j].name)) (fe:=Zcm) (cs:=[Zr sig[j]]) (sig.take j) (by rw[Uam];omega) (fun d _ lvl S=>ZB6 sig[j] d lvl S)
     rw[<-ZBZ] at hc
     refine⟨fun h=>h.elim,Ubi _,Zf hc ?_⟩
     simp only[Zb,seval,Za,men]
     cases ha:(sig.take j).any (fun d:TControl=>decide (d.name=sig[j].name)) with
     | true =>
      simp only[Zb,seval,Za,men]
      obtain⟨d,hd,he⟩:=Ub9.1 ha
      obtain⟨q,hq,rfl⟩:=Uao hd
      rw[Uam] at hq
      rw[Zt (fun hs:Z2 sig=>(hs.1 j hja).2 q (by omega) (by simpa using he))]
     | false =>
      simp only[Zb,seval,Za,men]
      refine⟨by rw[Zg];omega,Zu () hja rfl (fun i hi=>?_)⟩
      by_cases e:i=j
      ·subst e
       refine fun h=>⟨⟨hn',hp',hk'⟩,fun q hq=>?_⟩
       have:=(Ub1.1 ha) sig[q] (by
        rw[List.mem_take_iff_getElem]
        exact⟨q,by omega,rfl⟩)
       simpa using this
      ·exact hA i (by omega)
 ·have:j=sig.length:=by omega
  subst this
  have hall:∀ i,ZaU sig i:=fun i h=>hA i h h
  rw[ZY (p:=Z2 sig) ⟨hall,by omega,by omega⟩]
theorem Yf(a b:List Int):rI (a++b)=rI a++rI b:=Uay
theorem ZmC:Zj Uch Zkp (QY 1 none)=true:=by kernel_rfl
theorem ZmD:Zj Uch Zgm (WR Zkp)=true:=by kernel_rfl
def Zm(s:Int->Int)(P:Prop):Prop:=∀ l:Int,0<=l->l<=1048576->s l<=l/\(0<=s l->P)
theorem ZB8:Zm (fun l=>l) True:=fun _ _ _=>⟨Ubu _,fun _=>trivial⟩
theorem ZB9{s g:Int->Int}{P Q:Prop}(hs:Zm s P)(hg:Zm g Q):Zm (fun l=>QX (s l) g) (P/\Q):=fun l h0 h1=>by
 have a:=hs l h0 h1
 by_cases h:s l<0
 ·simp only[QX,if_pos h]
  exact⟨by omega,fun h=>by omega⟩
 ·simp only[QX,if_neg h]
  have b:=hg (s l) (by omega) (by omega)
  exact⟨by omega,fun h2=>⟨a.2 (by omega),b.2 h2⟩⟩
theorem ZCa(n:Nat):Zm (fun l=>l-n) (n<=4294967296):=fun l h0 h1=>⟨by simp only;omega,fun h=>by simp only at h;omega⟩
theorem ZmE{α:Type}{f:α->Int->Int}{P:α->Prop}(hf:∀ x,Zm (f x) (P x)):∀(a:List α),Zm (fun l=>VY f a l) (∀ y∈a,P y)
 | []=>fun l _ _=>⟨Ubu l,fun _ y hy=>by cases hy⟩
 | x::r=>fun l h0 h1=>by
  simp only[VY]
  have a:=hf x l h0 h1
  split
  ·exact⟨by omega,fun h=>by omega⟩
  ·have b:=ZmE hf r (f x l) (by omega) (by omega)
   refine⟨by simp only at b;omega,fun h y hy=>?_⟩
   cases hy with
   | head=>exact a.2 (by omega)
   | tail _ hy=>exact b.2 h y hy
theorem ZCb{α:Type}{f:α->Int->Int}{P:α->Prop}(hf:∀ x,Zm (f x) (P x))(a:List α):Zm (fun l=>Xo f a l) (a.length<=4294967296/\∀ y∈a,P y):=fun l h0 h1=>by
 simp only[Xo]
 split
 ·exact⟨by omega,fun h=>by omega⟩
 ·have b:=ZmE hf a (l-a.length) (by omega) (by omega)
  simp only at b
  exact⟨by omega,fun h=>⟨by omega,b.2 h⟩⟩
theorem ZCc{s:Int->Int}{P Q:Prop}(h:Zm s P)(hq:P->Q):Zm s Q:=fun l h0 h1=>⟨(h l h0 h1).1,fun h2=>hq ((h l h0 h1).2 h2)⟩
theorem ZCd(x:TControl):Zm (fun l=>Qx x l) (Jc 4294967296 x):=by
 unfold Qx
 exact ZCc (ZB9 (ZCa _) ZB8) (fun h=>by unfold Jc;simp only[and_assoc,and_true,true_and,implies_true,forall_const] at h ⊢;try exact h)
theorem ZgK{a:Nat}(h:a<=4294967296):a<=9223372036854775807:=by omega
theorem Zc3{x:TControl}(h:Jc 4294967296 x):Jc 9223372036854775807 x:=by
 exact(ZgK h)
theorem ZgL{x:TTermStep}(h:Yx 4294967296 x):Yx 9223372036854775807 x:=by
 obtain⟨b0,b1⟩:=h
 exact⟨(ZgK b0),(fun y0 hy0=>(ZgK (b1 y0 hy0)))⟩
theorem Wc{P:Nat->Prop}{j:Nat}(h:∀ k,k<j->P k)(hj:P j):∀ k,k<j+1->P k:=fun k hk=>by
 by_cases e:k=j
 ·subst e;exact hj
 ·exact h k (by omega)
theorem ZgM{n a b:Int}:Jo n a b=dc (a<=n/\n<=b):=by
 unfold Jo
 rw[Wb,Bool.decide_and]
theorem ZgN:∀(x y:List UInt8),(!Op.bytesLess x y)=(Op.bytesLess y x || decide (x=y))
 | [],[]=>by simp [Op.bytesLess]
 | [],_::_=>by simp [Op.bytesLess]
 | _::_,[]=>by simp [Op.bytesLess]
 | a::x,b::y=>by
  have ih:=ZgN x y
  simp only[Op.bytesLess]
  by_cases h:a=b
  ·subst h
   have e:¬ a<a:=Ucd a
   simp [e,ih]
  ·by_cases h1:a<b
   ·have h2:¬ b<a:=fun h2=>Ucd a (UInt8.lt_trans h1 h2)
    have h3:¬ b=a:=fun e=>h e.symm
    simp [h,h1,h2,h3]
   ·have h2:b<a:=by
     rcases UInt8.lt_or_lt_of_ne h with h | h
     ·exact absurd h h1
     ·exact h
    simp [h,h1,h2]
def ltS(s t:ByteArray):Prop:=Op.bytesLess s.data.toList t.data.toList=true
theorem ZCe{s t:ByteArray}:(!Op.bytesLess s.data.toList t.data.toList) = !dc (ltS s t):=by
 unfold ltS
 rw[Wb,Bool.decide_eq_true]
theorem ZCf{s t:ByteArray}:(Op.bytesLess t.data.toList s.data.toList || decide (t=s)) = !dc (ltS s t):=by
 rw[<-ZCe,ZgN]
 congr 1
 have:t=s↔s.data.toList=t.data.toList:=⟨fun h=>by rw[h],fun h=>by
  cases s with | mk s=>cases t with | mk t=>exact congrArg ByteArray.mk (Array.toList_inj.1 h.symm)⟩
 simp only[this]
def ZaV(l:List ByteArray)(i:Nat):Prop:=∀ h:i<l.length,Jw l[i]/\∀ _:0<i,ltS (l[i-1]'(by omega)) l[i]
def Vf(l:List ByteArray):Prop:=(∀ i,ZaV l i)/\l.length<=16
theorem ZmF(l:List ByteArray)(hl:l.length<=4294967296)(hb:∀ y∈l,y.size<=4294967296)(lvl:Nat)(S:Zc):Sem Uch Zcw lvl [.tr (.sl (rS l))] S (iB (dc (Vf l))) S:=by
 refine Zi ZBc trivial ?_
 simp only[ZlC,Uaa,Zb,seval,Za,men]
 refine ZJ (α:=Unit) l.length (fun j _=>[(3,iI j)]) (fun j _=>[]) (fun j _=>∀ k,k<j->ZaV l k) () (by simp only[Zb,seval,Za,men]) (by (simp only[Zb,seval,Za,men]) <;> rfl) (fun k hk=>absurd hk (Ua2 k)) ?_
 intro j _ hj hA
 simp only[Uaa,Zb,seval,Za,men]
 refine Zs (fun hlt=>?_) (fun hge=>?_)
 ·have hja:j<l.length:=by omega
  have ga:=Z6 (c:=fun s=>[ts s]) hja
  have hno:¬ ZaV l j->dc (Vf l)=false:=fun h=>Zt fun g=>h (g.1 j)
  simp only[ga,Uaa,Zb,seval,Za,men]
  refine Zf (ZgH l[j] (by have:=hb _ (Uak hja);omega)) ?_
  cases h1:dc (Jw l[j])
  ·simp only[Zb,seval,Za,men]
   rw[hno fun h=>dc_not.1 h1 (h hja).1]
  by_cases q:0<j
  ·have e1:((j:Int)-1).toNat=j-1:=by omega
   have e2:(0:Int)<=j-1:=by omega
   have q5:(0:Int)<j:=by omega
   have gb:=Z6 (c:=fun s=>[ts s]) (l:=l) (j:=j-1) (by omega)
   simp only[q5,e1,e2,ga,gb,Uaa,Zb,seval,Za,men]
   cases hc:Op.bytesLess (l[j-1]'(by omega)).data.toList l[j].data.toList
   ·simp only[Zb,seval,Za,men]
    exact⟨by rw[Zg];omega,by rw[hno fun h=>by have:=(h hja).2 q;unfold ltS at this;rw[this] at hc;cases hc]⟩
   ·simp only[Zb,seval,Za,men]
    exact⟨by rw[Zg];omega,by rw[Zg];omega,Zu () hja rfl (Wc hA fun _=>⟨dc_iff.1 h1,fun _=>hc⟩)⟩
  ·have q5:¬ (0:Int)<j:=by omega
   simp only[q5,ga,Uaa,Zb,seval,Za,men]
   exact⟨by rw[Zg];omega,Zu () hja rfl (Wc hA fun _=>⟨dc_iff.1 h1,fun h=>absurd h q⟩)⟩
 ·have hj1:j=l.length:=by omega
  subst hj1
  rw[V2 (p:=Vf l) (q:=(l.length:Int)<=16) ⟨fun g=>by have:=g.2;omega,fun g=>⟨fun i h=>hA i h h,by omega⟩⟩,Wb]
theorem ZmG(l:List ByteArray)(hl:l.length<=4294967296)(hb:∀ y∈l,y.size<=4294967296)(lvl:Nat)(S:Zc):Sem Uch ZcD lvl [.tr (.sl (rS l))] S (iB (dc (Vf l))) S:=by
 refine Zi ZBw trivial ?_
 simp only[ZlX,Uaa,Zb,seval,Za,men]
 refine ZJ (α:=Unit) l.length (fun j _=>[(7,iI j)]) (fun j _=>[]) (fun j _=>∀ k,k<j->ZaV l k) () (by simp only[Zb,seval,Za,men]) (by (simp only[Zb,seval,Za,men]) <;> rfl) (fun k hk=>absurd hk (Ua2 k)) ?_
 intro j _ hj hA
 simp only[Uaa,Zb,seval,Za,men]
 refine Zs (fun hlt=>?_) (fun hge=>?_)
 ·have hja:j<l.length:=by omega
  have ga:=Z6 (c:=fun s=>[ts s]) hja
  have hno:¬ ZaV l j->dc (Vf l)=false:=fun h=>Zt fun g=>h (g.1 j)
  simp only[ga,Uaa,Zb,seval,Za,men]
  refine Zf (ZaT l[j] (by have:=hb _ (Uak hja);omega)) ?_
  cases h1:dc (Jw l[j])
  ·simp only[Zb,seval,Za,men]
   rw[hno fun h=>dc_not.1 h1 (h hja).1]
  by_cases q:0<j
  ·have e1:((j:Int)-1).toNat=j-1:=by omega
   have e2:(0:Int)<=j-1:=by omega
   have q5:(0:Int)<j:=by omega
   have gb:=Z6 (c:=fun s=>[ts s]) (l:=l) (j:=j-1) (by omega)
   simp only[q5,e1,e2,ga,gb,Uaa,Zb,seval,Za,men]
   rw[ZCf]
   cases hc:dc (ltS (l[j-1]'(by omega)) l[j])
   ·simp only[Zb,seval,Za,men]
    exact⟨by rw[Zg];omega,by rw[hno fun h=>dc_not.1 hc ((h hja).2 q)]⟩
   ·simp only[Zb,seval,Za,men]
    exact⟨by rw[Zg];omega,by rw[Zg];omega,Zu () hja rfl (Wc hA fun _=>⟨dc_iff.1 h1,fun _=>dc_iff.1 hc⟩)⟩
  ·have q5:¬ (0:Int)<j:=by omega
   simp only[q5,ga,Uaa,Zb,seval,Za,men]
   exact⟨by rw[Zg];omega,Zu () hja rfl (Wc hA fun _=>⟨dc_iff.1 h1,fun h=>absurd h q⟩)⟩
 ·have hj1:j=l.length:=by omega
  subst hj1
  rw[V2 (p:=Vf l) (q:=(l.length:Int)<=16) ⟨fun g=>by have:=g.2;omega,fun g=>⟨fun i h=>hA i h h,by omega⟩⟩,Wb]
def ZZ(b:TBigraph)(l:Int):Prop:=0<=l/\l<=b.edges+b.outer.length-1
theorem ZmH(b:TBigraph)(l:Int)(he:0<=b.edges/\b.edges<=8)(ho:b.outer.length<=4294967296)(lvl:Nat)(S:Zc):Sem Uch Zcy lvl [.ag ((Ze b).map .tr),iI l] S (iB (dc (ZZ b l))) S:=by
 refine Zi ZBg trivial ?_
 simp only[ZlG,Ze,Uaa,Zb,seval,Za,men]
 refine⟨by rw[Zg];omega,by rw[Zg];omega,?_⟩
 refine Zf (Y6 l 0 (b.edges+b.outer.length-1)) ?_
 simp only[Zb,seval,Za,men]
 rw[ZgM]
 rfl
theorem ZmI(b:TBigraph)(l:Int)(he:0<=b.edges/\b.edges<=8)(ho:b.outer.length<=4294967296)(lvl:Nat)(S:Zc):Sem Uch ZcF lvl [.ag ((Ze b).map .tr),iI l] S (iB (dc (ZZ b l))) S:=by
 refine Zi ZBz trivial ?_
 simp only[Zl0,Ze,Uaa,Zb,seval,Za,men]
 refine⟨by rw[Zg];omega,by rw[Zg];omega,?_⟩
 refine Zf (QZ l 0 (b.edges+b.outer.length-1)) ?_
 simp only[Zb,seval,Za,men]
 rw[ZgM]
 rfl
def YG(sig:List TControl)(c:Int):Int:=((sig[c.toNat]?).map TControl.kind_).getD 0
def YY(sig:List TControl)(c:Int):Int:=((sig[c.toNat]?).map TControl.ports).getD 0
def Xt(b:TBigraph)(p:Int):Int:=((b.nodes[p.toNat]?).map TNode.control).getD 0
def YC(sig:List TControl)(b:TBigraph)(p below:Int):Prop:=(p<0/\-b.roots<=p)\/(0<=p/\p<below/\¬ YG sig (Xt b p)=2)
def ZaW(sig:List TControl)(b:TBigraph)(n:Nat):Prop:=∀ i,i<n->∀ h:i<b.nodes.length,0<=b.nodes[i].control/\b.nodes[i].control<=(sig.length:Int)-1
theorem ZmJ(sig:List TControl)(b:TBigraph)(p:Int)(k:Nat)(hp:ZW .i64 p)(hr:0<=b.roots/\b.roots<=4)(hk:k<=b.nodes.length)(hc:ZaW sig b k)(lvl:Nat)(S:Zc):Sem Uch Zcx lvl [.tr (.sl (sig.map Zr)),.ag ((Ze b).map .tr),iI p,iI k] S (iB (dc (YC sig b p k))) S:=by
 rw[Zg] at hp
 refine Zi ZBf trivial ?_
 simp only[ZlF,Ze,Uaa,Zb,seval,Za,men]
 refine Zs (fun hneg=>?_) (fun hpos=>?_)
 ·refine⟨by rw[Zg];omega,by rw[Zg];omega,?_⟩
  refine Zf (Y6 (-1-p) 0 (b.roots-1)) ?_
  simp only[Zb,seval,Za,men]
  have hiff:(0 <= -1-p/\-1-p<=b.roots-1)↔YC sig b p k:=⟨fun h=>.inl (by omega),fun h=>by rcases h with h | h <;> omega⟩
  rw[ZgM,V2 hiff]
 ·refine Zs (fun hb=>?_) (fun hb=>?_)
  ·obtain⟨q,rfl⟩:∃ q:Nat,p=q:=⟨p.toNat,by omega⟩
   have hq:q<b.nodes.length:=by omega
   have ga:=Z6 (c:=ZG) hq
   obtain⟨m1,m2⟩:=hc q (by omega) hq
   obtain⟨m,hm⟩:∃ m:Nat,b.nodes[q].control=m:=⟨b.nodes[q].control.toNat,by omega⟩
   have hms:m<sig.length:=by omega
   have gs:=Z6 (c:=Zr) hms
   simp only[hb,ga,gs,ZG,Zr,hm,Int.toNat_natCast,Ua6,Uaa,Zb,seval,Za,men]
   have e:YG sig (Xt b q)=sig[m].kind_:=by simp [YG,Xt,hq,hm,hms]
   have hiff:YC sig b q k ↔ ¬ sig[m].kind_=2:=by
    constructor
    ·intro h
     rcases h with h | h
     ·omega
     ·rw[<-e];exact h.2.2
    ·intro h
     exact .inr ⟨by omega,hb,by rw[e];exact h⟩
   rw[V2 hiff,Wb]
  ·rw[Zt fun h:YC sig b p k=>by rcases h with h | h <;> omega]
theorem ZmK(sig:List TControl)(b:TBigraph)(p:Int)(k:Nat)(hr:0<=b.roots/\b.roots<=4)(hk:k<=b.nodes.length)(hc:ZaW sig b k)(lvl:Nat)(S:Zc):Sem Uch ZcE lvl [.ag ((Ze b).map .tr),.tr (.sl (sig.map Zr)),iI p,iI k] S (iB (dc (YC sig b p k))) S:=by
 refine Zi ZBx trivial ?_
 simp only[ZlY,Ze,Uaa,Zb,seval,Za,men]
 refine Zs (fun hneg=>?_) (fun hpos=>?_)
 ·refine⟨by rw[Zg];omega,?_⟩
  have hiff:YC sig b p k ↔ -b.roots<=p:=⟨fun h=>by rcases h with h | h <;> omega,fun h=>.inl (by omega)⟩
  rw[V2 hiff,Wb]
 ·refine Zs (fun hb=>?_) (fun hb=>?_)
  ·obtain⟨q,rfl⟩:∃ q:Nat,p=q:=⟨p.toNat,by omega⟩
   have hq:q<b.nodes.length:=by omega
   have ga:=Z6 (c:=ZG) hq
   obtain⟨m1,m2⟩:=hc q (by omega) hq
   obtain⟨m,hm⟩:∃ m:Nat,b.nodes[q].control=m:=⟨b.nodes[q].control.toNat,by omega⟩
   have hms:m<sig.length:=by omega
   have gs:=Z6 (c:=Zr) hms
   simp only[hb,ga,gs,ZG,Zr,hm,Int.toNat_natCast,Ua6,Uaa,Zb,seval,Za,men]
   have e:YG sig (Xt b q)=sig[m].kind_:=by simp [YG,Xt,hq,hm,hms]
   have hiff:YC sig b q k ↔ ¬ sig[m].kind_=2:=by
    constructor
    ·intro h
     rcases h with h | h
     ·omega
     ·rw[<-e];exact h.2.2
    ·intro h
     exact .inr ⟨by omega,hb,by rw[e];exact h⟩
   rw[V2 hiff,Wb]
  ·rw[Zt fun h:YC sig b p k=>by rcases h with h | h <;> omega]
structure nodeOK (sig:List TControl) (b:TBigraph) (x:TNode) (i:Nat):Prop where
 ctl:0<=x.control/\x.control<=(sig.length:Int)-1
 par:YC sig b x.parent i
 ports:(x.links.length:Int)=YY sig x.control
 links:∀ l∈x.links,ZZ b l
theorem ZCg(sig:List TControl)(b:TBigraph)(i:Nat)(hi:i<b.nodes.length)(hn:sig.length<=4294967296)(hl:b.nodes[i].links.length<=4294967296)(hp:ZW .i64 b.nodes[i].parent)(hr:0<=b.roots/\b.roots<=4)(he:0<=b.edges/\b.edges<=8)(ho:b.outer.length<=4294967296)(hc:ZaW sig b i)(lvl:Nat)(S:Zc):Sem Uch Zgi lvl [.tr (.sl (sig.map Zr)),.ag ((Ze b).map .tr),iI i] S (iB (dc (nodeOK sig b b.nodes[i] i))) S:=by
 refine Zi ZBe trivial ?_
 have ga:=Z6 (c:=ZG) hi
 simp only[ZlE,Ze,Uaa,ga,ZG,Zb,seval,Za,men]
 refine⟨by rw[Zg];omega,?_⟩
 refine Zf (Y6 b.nodes[i].control 0 ((sig.length:Int)-1)) ?_
 cases h1:Jo b.nodes[i].control 0 ((sig.length:Int)-1)
 ·simp only[Zb,seval,Za,men]
  rw[Zt fun h:nodeOK sig b b.nodes[i] i=>inB_not.1 h1 h.ctl]
 have r1:=inB_iff.1 h1
 simp only[Ze,Uaa,ZG,Zb,seval,Za,men]
 refine Zf (ZmJ sig b b.nodes[i].parent i hp hr (by omega) hc) ?_
 cases h2:dc (YC sig b b.nodes[i].parent i)
 ·simp only[Zb,seval,Za,men]
  rw[Zt fun h:nodeOK sig b b.nodes[i] i=>dc_not.1 h2 h.par]
 obtain⟨m,hm⟩:∃ m:Nat,b.nodes[i].control=m:=⟨b.nodes[i].control.toNat,by omega⟩
 have hms:m<sig.length:=by omega
 have gs:=Z6 (c:=Zr) hms
 have e:YY sig b.nodes[i].control=sig[m].ports:=by simp [YY,hm,hms]
 simp only[hm,gs,Zr,Ze,Uaa,ZG,Zb,seval,Za,men]
 refine Zs (fun hne=>?_) (fun heq=>?_)
 ·rw[Zt fun h:nodeOK sig b b.nodes[i] i=>by have:=h.ports;rw[e] at this;exact hne this]
 refine ZJ (α:=Unit) b.nodes[i].links.length (fun j _=>[(8,iI j)]) (fun j _=>[]) (fun j _=>∀ k,k<j->ZZ b (g0 b.nodes[i].links k)) () (by simp only[Zb,seval,Za,men]) (by (simp only[Zb,seval,Za,men]) <;> rfl) (fun k hk=>absurd hk (Ua2 k)) ?_
 intro j _ hj hA
 simp only[Uaa,Zb,seval,Za,men]
 refine Zs (fun hlt=>?_) (fun hge=>?_)
 ·have hja:j<b.nodes[i].links.length:=by omega
  have gl:=YB hja
  simp only[gl,Uaa,Zb,seval,Za,men]
  refine Zf (ZmH b (g0 b.nodes[i].links j) he ho) ?_
  cases hc:dc (ZZ b (g0 b.nodes[i].links j))
  ·simp only[Zb,seval,Za,men]
   rw[Zt fun h:nodeOK sig b b.nodes[i] i=>dc_not.1 hc (h.links _ (by simp [hja]))]
  ·simp only[Zb,seval,Za,men]
   exact⟨by rw[Zg];omega,Zu () hja rfl (Wc hA (dc_iff.1 hc))⟩
 ·have hj1:j=b.nodes[i].links.length:=by omega
  subst hj1
  have:nodeOK sig b b.nodes[i] i:=⟨r1,dc_iff.1 h2,by rw[e];omega,fun l hl=>by
   obtain⟨k,hk,rfl⟩:=Uao hl
   have:=hA k hk
   simpa [hk] using this⟩
  rw[ZY this]
def inn(b:TBigraph):List ByteArray:=b.inner.map TWire.name
theorem Us(a b:List ByteArray):rS (a++b)=rS a++rS b:=Uay
theorem ZCh(b:TBigraph)(hn:b.inner.length<=4294967296)(lvl:Nat)(S:Zc):Sem Uch Zgh lvl [.ag ((Ze b).map .tr)] S (.ow 1 (rS (inn b)) true) S:=by
 refine Zi ZBd trivial ?_
 simp only[ZlD,Uaa,Ze,Zb,seval,Za,men]
 refine ZJ (α:=Unit) b.inner.length (fun j _=>[(3,.hd (lvl,160) [] 0 j none j),(4,iI j)]) (fun j _=>[(160,.ar 1 (rS ((inn b).take j)) true j 0)]) (fun _ _=>True) () (by simp only[Zb,seval,Za,men]) (by (simp only[Zb,seval,Za,men]) <;> rfl) trivial ?_
 intro j _ hj _
 have hil:(inn b).length=b.inner.length:=by simp [inn]
 simp only[Uaa,Zb,seval,Za,men]
 refine Zs (fun hlt=>?_) (fun hge=>?_)
 ·have hja:j<b.inner.length:=by omega
  have ga:=Z6 (c:=ZO) hja
  have hlN:(rS ((inn b).take j)).length=j:=by rw[Uaa,Uam];omega
  simp only[ga,ZO,hlN,Uaa,Zb,seval,Za,men]
  have hstep:rS ((inn b).take j)++[[ts b.inner[j].name]]=rS ((inn b).take (j+1)):=by
   rw[Uaf (by omega),Us]
   simp [inn]
  refine⟨by omega,by rw[Zg];omega,Zu () hja ?_ trivial⟩
  rw[<-hstep]
  rfl
 ·have:j=b.inner.length:=by omega
  subst this
  rw[Uau (by omega)]
  exact⟨hil.symm,rfl⟩
theorem ZgO(b:TBigraph)(hn:b.inner.length<=4294967296)(lvl:Nat)(S:Zc):Sem Uch ZaG lvl [.ag ((Ze b).map .tr)] S (.ow 1 (rS (inn b)) true) S:=by
 refine Zi ZA2 trivial ?_
 simp only[Zls,Uaa,Ze,Zb,seval,Za,men]
 refine ZJ (α:=Unit) b.inner.length (fun j _=>[(3,.hd (lvl,192) [] 0 j none j),(10,iI j)]) (fun j _=>[(192,.ar 1 (rS ((inn b).take j)) true j 0)]) (fun _ _=>True) () (by simp only[Zb,seval,Za,men]) (by (simp only[Zb,seval,Za,men]) <;> rfl) trivial ?_
 intro j _ hj _
 have hil:(inn b).length=b.inner.length:=by simp [inn]
 simp only[Uaa,Zb,seval,Za,men]
 refine Zs (fun hlt=>?_) (fun hge=>?_)
 ·have hja:j<b.inner.length:=by omega
  have ga:=Z6 (c:=ZO) hja
  have hlN:(rS ((inn b).take j)).length=j:=by rw[Uaa,Uam];omega
  simp only[ga,ZO,hlN,Uaa,Zb,seval,Za,men]
  have hstep:rS ((inn b).take j)++[[ts b.inner[j].name]]=rS ((inn b).take (j+1)):=by
   rw[Uaf (by omega),Us]
   simp [inn]
  refine⟨by omega,by rw[Zg];omega,Zu () hja ?_ trivial⟩
  rw[<-hstep]
  rfl
 ·have:j=b.inner.length:=by omega
  subst this
  rw[Uau (by omega)]
  exact⟨hil.symm,rfl⟩
def Zc4(sig:List TControl)(b:TBigraph)(i:Nat):Prop:=∀ h:i<b.nodes.length,nodeOK sig b b.nodes[i] i
structure bigOK (sig:List TControl) (b:TBigraph):Prop where
 sg:Z2 sig
 roots:0<=b.roots/\b.roots<=4
 nodesL:b.nodes.length<=8
 sitesL:b.sites.length<=4
 edges:0<=b.edges/\b.edges<=8
 outer:Vf b.outer
 inn:Vf (inn b)
 nodes:∀ i,Zc4 sig b i
 sites:∀ p∈b.sites,YC sig b p b.nodes.length
 inner:∀ w∈b.inner,ZZ b w.link
theorem Zc5{sig:List TControl}{b:TBigraph}{j:Nat}(h:∀ k,k<j->Zc4 sig b k):ZaW sig b j:=fun i hi hl=>(h i hi hl).ctl
theorem Dn{b:TBigraph}:(inn b).length=b.inner.length:=by simp [inn]
theorem ZmL{b:TBigraph}{n:Nat}(h:∀ y∈b.inner,WO n y):∀ y∈inn b,y.size<=n:=fun y hy=>by
 obtain⟨w,hw,rfl⟩:=Uaq.1 hy
 exact h w hw
theorem Ut(sig:List TControl)(b:TBigraph)(hn:sig.length<=4294967296)(hbs:∀ y∈sig,Jc 4294967296 y)(hb:Jj 4294967296 b)(hf:JJ b)(lvl:Nat)(S:Zc):Sem Uch Um lvl [.tr (.sl (sig.map Zr)),.ag ((Ze b).map .tr)] S (iB (dc (bigOK sig b))) S:=by
 obtain⟨b1,b2,b3,b4,b5,b6,b7⟩:=hb
 obtain⟨f1,f2,f3,f4,f5⟩:=hf
 refine Zi ZAR trivial ?_
 simp only[Zlg,Uaa,Ze,Zb,seval,Za,men]
 refine Zf (ZgI sig (by omega) (fun y hy=>Zc3 (hbs y hy))) ?_
 cases h1:dc (Z2 sig)
 ·simp only[Zb,seval,Za,men]
  rw[Zt fun h:bigOK sig b=>dc_not.1 h1 h.sg]
 simp only[Uaa,Ze,Zb,seval,Za,men]
 refine Zf (Y6 b.roots 0 4) ?_
 cases h2:Jo b.roots 0 4
 ·simp only[Zb,seval,Za,men]
  rw[Zt fun h:bigOK sig b=>inB_not.1 h2 h.roots]
 by_cases h3:(8:Int)<b.nodes.length
 ·simp only[h3,Uaa,Ze,Zb,seval,Za,men]
  rw[Zt fun h:bigOK sig b=>by have:=h.nodesL;omega]
 by_cases h4:(4:Int)<b.sites.length
 ·simp only[h3,h4,Uaa,Ze,Zb,seval,Za,men]
  rw[Zt fun h:bigOK sig b=>by have:=h.sitesL;omega]
 simp only[h3,h4,Uaa,Ze,Zb,seval,Za,men]
 refine Zf (Y6 b.edges 0 8) ?_
 cases h5:Jo b.edges 0 8
 ·simp only[Zb,seval,Za,men]
  rw[Zt fun h:bigOK sig b=>inB_not.1 h5 h.edges]
 have r2:=inB_iff.1 h2
 have r5:=inB_iff.1 h5
 simp only[Uaa,Ze,Zb,seval,Za,men]
 refine Zf (ZmF b.outer (by assumption) (by assumption)) ?_
 cases h6:dc (Vf b.outer)
 ·simp only[Zb,seval,Za,men]
  rw[Zt fun h:bigOK sig b=>dc_not.1 h6 h.outer]
 by_cases h7:(16:Int)<b.inner.length
 ·simp only[h7,Uaa,Ze,Zb,seval,Za,men]
  rw[Zt fun h:bigOK sig b=>by have:=h.inn.2;rw[Dn] at this;omega]
 simp only[h7,Uaa,Ze,Zb,seval,Za,men]
 refine Zf (ZCh b (by omega)) ?_
 simp only[Uaa,Ze,Zb,seval,Za,men]
 refine Zf (ZmF (inn b) (by rw[Dn];omega) (ZmL (by assumption))) ?_
 cases h8:dc (Vf (inn b))
 ·simp only[Zb,seval,Za,men]
  rw[Zt fun h:bigOK sig b=>dc_not.1 h8 h.inn]
 simp only[Uaa,Ze,Zb,seval,Za,men]
 have ho:=(dc_iff.1 h6).2
 refine ZJ (α:=Unit) b.nodes.length (fun j _=>[(5,iI j)]) (fun j _=>[]) (fun j _=>∀ k,k<j->Zc4 sig b k) () (by simp only[Zb,seval,Za,men]) (by (simp only[Zb,seval,Za,men]) <;> rfl) (fun k hk=>absurd hk (Ua2 k)) ?_
 intro j _ hj hA
 simp only[Uaa,Ze,Zb,seval,Za,men]
 refine Zs (fun hlt=>?_) (fun hge=>?_)
 ·have hja:j<b.nodes.length:=by omega
  have hm:=Uak hja
  refine Zf (ZCg sig b j hja hn (by first | exact(b2 _ hm) | exact(b3 _ hm)) (by first | exact(f1 _ hm).2.1 | exact(f2 _ hm).2.1) r2 r5 (by omega) (Zc5 hA)) ?_
  cases hc:dc (nodeOK sig b b.nodes[j] j)
  ·simp only[Zb,seval,Za,men]
   rw[Zt fun h:bigOK sig b=>dc_not.1 hc (h.nodes j hja)]
  ·simp only[Zb,seval,Za,men]
   exact⟨by rw[Zg];omega,Zu () hja rfl (Wc hA fun _=>dc_iff.1 hc)⟩
 have hj1:j=b.nodes.length:=by omega
 subst hj1
 refine ZJ (α:=Unit) b.sites.length (fun j _=>[(6,iI j)]) (fun j _=>[]) (fun j _=>∀ k,k<j->YC sig b (g0 b.sites k) b.nodes.length) () (by simp only[Zb,seval,Za,men]) (by (simp only[Zb,seval,Za,men]) <;> rfl) (fun k hk=>absurd hk (Ua2 k)) ?_
 intro j _ hj hB
 simp only[Uaa,Ze,Zb,seval,Za,men]
 refine Zs (fun hlt=>?_) (fun hge=>?_)
 ·have hja:j<b.sites.length:=by omega
  have ga:=YB hja
  have hg:g0 b.sites j∈b.sites:=by simp [hja]
  simp only[ga,Uaa,Ze,Zb,seval,Za,men]
  refine Zf (ZmJ sig b (g0 b.sites j) b.nodes.length (by first | exact f3 _ hg | exact f2 _ hg | exact f4 _ hg) r2 (Ual _) (Zc5 hA)) ?_
  cases hc:dc (YC sig b (g0 b.sites j) b.nodes.length)
  ·simp only[Zb,seval,Za,men]
   rw[Zt fun h:bigOK sig b=>dc_not.1 hc (h.sites _ hg)]
  ·simp only[Zb,seval,Za,men]
   exact⟨by rw[Zg];omega,Zu () hja rfl (Wc hB (dc_iff.1 hc))⟩
 have hj1:j=b.sites.length:=by omega
 subst hj1
 refine ZJ (α:=Unit) b.inner.length (fun j _=>[(7,iI j)]) (fun j _=>[]) (fun j _=>∀ k,k<j->∀ h:k<b.inner.length,ZZ b b.inner[k].link) () (by simp only[Zb,seval,Za,men]) (by (simp only[Zb,seval,Za,men]) <;> rfl) (fun k hk=>absurd hk (Ua2 k)) ?_
 intro j _ hj hC
 simp only[Uaa,Ze,Zb,seval,Za,men]
 refine Zs (fun hlt=>?_) (fun hge=>?_)
 ·have hja:j<b.inner.length:=by omega
  have ga:=Z6 (c:=ZO) hja
  simp only[ga,ZO,Uaa,Ze,Zb,seval,Za,men]
  refine Zf (ZmH b b.inner[j].link r5 (by omega)) ?_
  cases hc:dc (ZZ b b.inner[j].link)
  ·simp only[Zb,seval,Za,men]
   rw[Zt fun h:bigOK sig b=>dc_not.1 hc (h.inner _ (Uak hja))]
  ·simp only[Zb,seval,Za,men]
   exact⟨by rw[Zg];omega,Zu () hja rfl (Wc hC fun _=>dc_iff.1 hc)⟩
 have hj1:j=b.inner.length:=by omega
 subst hj1
 have:bigOK sig b:=⟨dc_iff.1 h1,r2,by omega,by omega,r5,dc_iff.1 h6,dc_iff.1 h8,fun i h=>hA i h h,fun p hp=>by
  obtain⟨k,hk,rfl⟩:=Uao hp
  have:=hB k hk
  simpa [hk] using this,fun w hw=>by
  obtain⟨k,hk,rfl⟩:=Uao hw
  exact hC k hk hk⟩
 rw[ZY this]
theorem ZCi(l:Int)(b:TBigraph)(he:0<=b.edges/\b.edges<=8)(ho:b.outer.length<=4294967296)(lvl:Nat)(S:Zc):Sem Uch Zgn lvl [iI l,.ta (Ze b)] S (iB (!dc (ZZ b l))) S:=by
 refine Zi ZBy trivial ?_
 simp only[ZlZ,Ze,Zb,seval,Za,men]
 refine Zf (ZmI b l he ho) ?_
 simp only[Zb,seval,Za,men]
theorem ZCj(p:Int)(sig:List TControl)(b:TBigraph)(hr:0<=b.roots/\b.roots<=4)(hc:ZaW sig b b.nodes.length)(lvl:Nat)(S:Zc):Sem Uch Zgo lvl [iI p,.ta (Ze b),.ta [Tr.sl (sig.map Zr)]] S (iB (!dc (YC sig b p b.nodes.length))) S:=by
 refine Zi ZBA trivial ?_
 simp only[Zl1,Ze,Uaa,Zb,seval,Za,men]
 refine Zf (ZmK sig b p b.nodes.length hr (Ual _) hc) ?_
 simp only[Zb,seval,Za,men]
theorem ZCk(w:TWire)(b:TBigraph)(he:0<=b.edges/\b.edges<=8)(ho:b.outer.length<=4294967296)(lvl:Nat)(S:Zc):Sem Uch Zgp lvl [.ag ((ZO w).map .tr),.ta (Ze b)] S (iB (!dc (ZZ b w.link))) S:=by
 refine Zi ZBB trivial ?_
 simp only[Zl2,Ze,ZO,Zb,seval,Za,men]
 refine Zf (ZmI b w.link he ho) ?_
 simp only[Zb,seval,Za,men]
theorem ZCl:Zj Uch Zkq (QY 2 (some 2))=true:=by kernel_rfl
theorem ZCm:Zj Uch Zko (WR Zkq)=true:=by kernel_rfl
theorem any_no{α:Type}{l:List α}{p:α->Prop}:(l.any fun n=>!dc (p n))=false↔∀ n∈l,p n:=by
 simp only[Ub1,UaR,Bool.not_eq_false,dc_iff]
theorem Uu(sig:List TControl)(b:TBigraph)(hn:sig.length<=4294967296)(hbs:∀ y∈sig,Jc 4294967296 y)(hb:Jj 4294967296 b)(lvl:Nat)(S:Zc):Sem Uch X7 lvl [.tr (.sl (sig.map Zr)),.ag ((Ze b).map .tr)] S (iB (dc (bigOK sig b))) S:=by
 obtain⟨b1,b2,b3,b4,b5,b6,b7⟩:=hb
 refine Zi ZA0 trivial ?_
 simp only[Zlq,Uaa,Ze,Zb,seval,Za,men]
 refine Zf (ZgJ sig (by omega) (fun y hy=>Zc3 (hbs y hy))) ?_
 cases h1:dc (Z2 sig)
 ·simp only[Zb,seval,Za,men]
  rw[Zt fun h:bigOK sig b=>dc_not.1 h1 h.sg]
 simp only[Uaa,Ze,Zb,seval,Za,men]
 refine Zf (QZ b.roots 0 4) ?_
 cases h2:Jo b.roots 0 4
 ·simp only[Zb,seval,Za,men]
  rw[Zt fun h:bigOK sig b=>inB_not.1 h2 h.roots]
 by_cases h3:(8:Int)<b.nodes.length
 ·simp only[h3,Uaa,Ze,Zb,seval,Za,men]
  rw[Zt fun h:bigOK sig b=>by have:=h.nodesL;omega]
 by_cases h4:(4:Int)<b.sites.length
 ·simp only[h3,h4,Uaa,Ze,Zb,seval,Za,men]
  rw[Zt fun h:bigOK sig b=>by have:=h.sitesL;omega]
 simp only[h3,h4,Uaa,Ze,Zb,seval,Za,men]
 refine Zf (QZ b.edges 0 8) ?_
 cases h5:Jo b.edges 0 8
 ·simp only[Zb,seval,Za,men]
  rw[Zt fun h:bigOK sig b=>inB_not.1 h5 h.edges]
 have r2:=inB_iff.1 h2
 have r5:=inB_iff.1 h5
 simp only[Uaa,Ze,Zb,seval,Za,men]
 refine Zf (ZmG b.outer (by assumption) (by assumption)) ?_
 cases h6:dc (Vf b.outer)
 ·simp only[Zb,seval,Za,men]
  rw[Zt fun h:bigOK sig b=>dc_not.1 h6 h.outer]
 simp only[Uaa,Ze,Zb,seval,Za,men]
 refine Zf (ZgO b (by omega)) ?_
 simp only[Uaa,Ze,Zb,seval,Za,men]
 refine Zf (ZmG (inn b) (by rw[Dn];omega) (ZmL (by assumption))) ?_
 cases h8:dc (Vf (inn b))
 ·simp only[Zb,seval,Za,men]
  rw[Zt fun h:bigOK sig b=>dc_not.1 h8 h.inn]
 simp only[Uaa,Ze,Zb,seval,Za,men]
 have ho:=(dc_iff.1 h6).2
 refine ZJ (α:=Unit) b.nodes.length (fun j _=>[(49,iI j)]) (fun j _=>[]) (fun j _=>∀ k,k<j->Zc4 sig b k) () (by simp only[Zb,seval,Za,men]) (by (simp only[Zb,seval,Za,men]) <;> rfl) (fun k hk=>absurd hk (Ua2 k)) ?_
 intro j _ hj hA
 simp only[Uaa,Ze,Zb,seval,Za,men]
 refine Zs (fun hlt=>?_) (fun hge=>?_)
 ·have hja:j<b.nodes.length:=by omega
  have hm:=Uak hja
  have ga:=Z6 (c:=ZG) hja
  have hll:b.nodes[j].links.length<=4294967296:=by first | exact(b2 _ hm) | exact(b3 _ hm)
  have hno:¬ nodeOK sig b b.nodes[j] j->dc (bigOK sig b)=false:=fun h=>Zt fun g=>h (g.nodes j hja)
  simp only[ga,ZG,Uaa,Ze,Zb,seval,Za,men]
  refine⟨by rw[Zg];omega,?_⟩
  refine Zf (QZ b.nodes[j].control 0 ((sig.length:Int)-1)) ?_
  cases p1:Jo b.nodes[j].control 0 ((sig.length:Int)-1)
  ·simp only[Zb,seval,Za,men]
   rw[hno fun h=>inB_not.1 p1 h.ctl]
  have q1:=inB_iff.1 p1
  simp only[ZG,Uaa,Ze,Zb,seval,Za,men]
  refine Zf (ZmK sig b b.nodes[j].parent j r2 (by omega) (Zc5 hA)) ?_
  cases p2:dc (YC sig b b.nodes[j].parent j)
  ·simp only[Zb,seval,Za,men]
   rw[hno fun h=>dc_not.1 p2 h.par]
  obtain⟨m,hmm⟩:∃ m:Nat,b.nodes[j].control=m:=⟨b.nodes[j].control.toNat,by omega⟩
  have hms:m<sig.length:=by omega
  have gs:=Z6 (c:=Zr) hms
  have e:YY sig b.nodes[j].control=sig[m].ports:=by simp [YY,hmm,hms]
  by_cases p3:(b.nodes[j].links.length:Int)=sig[m].ports
  case neg =>
   simp only[p3,hmm,gs,Int.toNat_natCast,Ua6,Zr,ZG,Uaa,Ze,Zb,seval,Za,men]
   rw[hno fun h=>p3 (by rw[<-e];exact h.ports)]
  simp only[p3,hmm,gs,Int.toNat_natCast,Ua6,Zr,ZG,Uaa,Ze,Zb,seval,Za,men]
  refine Zf (Zc1 (t:=tv) (cs:=[Ze b]) ZmD ZmC b.nodes[j].links (by omega) (fun x _ lvl S=>ZCi x b r5 (by omega) lvl S)) ?_
  cases p4:b.nodes[j].links.any fun l=>!dc (ZZ b l)
  ·simp only[Zb,seval,Za,men]
   exact⟨by rw[Zg];omega,Zu () hja rfl (Wc hA fun _=>⟨q1,dc_iff.1 p2,by rw[e];exact p3,any_no.1 p4⟩)⟩
  ·simp only[Zb,seval,Za,men]
   rw[hno fun h=>by rw[any_no.2 h.links] at p4;cases p4]
 have hj1:j=b.nodes.length:=by omega
 subst hj1
 refine Zf (Zc1 (t:=tv) (cs:=[Ze b,[Tr.sl (sig.map Zr)]]) ZmD ZmC b.sites (by omega) (fun x _ lvl S=>ZCj x sig b r2 (Zc5 hA) lvl S)) ?_
 cases h9:b.sites.any fun p=>!dc (YC sig b p b.nodes.length)
 case true =>
  simp only[Zb,seval,Za,men]
  rw[Zt fun h:bigOK sig b=>by rw[any_no.2 h.sites] at h9;cases h9]
 simp only[Uaa,Ze,Zb,seval,Za,men]
 refine Zf (Zmv (cs:=[Ze b]) ZCm ZCl (fun x=>rfl) b.inner (by omega) (fun x _ lvl S=>ZCk x b r5 (by omega) lvl S)) ?_
 cases h10:b.inner.any fun w=>!dc (ZZ b w.link)
 case true =>
  simp only[Zb,seval,Za,men]
  rw[Zt fun h:bigOK sig b=>by rw[(any_no (p:=fun w:TWire=>ZZ b w.link)).2 h.inner] at h10;cases h10]
 simp only[Zb,seval,Za,men]
 have:bigOK sig b:=⟨dc_iff.1 h1,r2,by omega,by omega,r5,dc_iff.1 h6,dc_iff.1 h8,fun i h=>hA i h h,any_no.1 h9,any_no.1 h10⟩
 rw[ZY this]
def cz{α:Type}[DecidableEq α](g:Nat->α):Nat->List α
 | 0=>[]
 | m+1=>cz g m++if m≠0/\g m=g (m-1) then [] else [g m]
theorem ZmM{α:Type}[DecidableEq α](g:Nat->α):∀ m,(cz g m).length<=m
 | 0=>Ual _
 | m+1=>by
  have:=ZmM g m
  simp only[cz,Uad]
  split <;> simp <;> omega
theorem ZgP{α:Type}[DecidableEq α]{g:Nat->α}{m:Nat}(h0:m≠0)(h:g m=g (m-1)):cz g (m+1)=cz g m:=by
 rw[cz,if_pos ⟨h0,h⟩,Ubq]
theorem ZCn{α:Type}[DecidableEq α]{g:Nat->α}{m:Nat}(h:g m≠g (m-1)):cz g (m+1)=cz g m++[g m]:=by
 rw[cz,if_neg (fun e=>h e.2)]
theorem ZmN{α:Type}{y:List α}{i:Nat}{v:α}(h:i<y.length):(y.set i v).take (i+1)=y.take i++[v]:=by
 rw[Uaf (by rw[UaT];exact h),List.getElem_set_self,List.take_set_of_le (Ual i)]
theorem ZaX{lvl:Nat}{S:Zc}{id:Zd}{k hw ver:Nat}{es:Row}{u:Bool}(hne:id.1≠lvl)(hS:S id=some (.ar k es u hw ver)):JR (Zy lvl [] S) id [] k:=by
 unfold JR
 rw[JE hne,hS]
theorem Zc6{C:ZK}{env:List (Nat×IV)}{loc:List (Nat×Ob)}{out:Zc}{d:Option Nat}{K:St->Prop}{fid:FuncId}{imp:Bool}{lvl:Nat}{args:List IV}{r:IV}(key:Nat)(o:Ob)(h:C fid (lvl+1) args (Zy lvl loc out) r (Zl (Zy lvl loc out) (lvl,key) o))
  (hk:freshK (keyOf d) (ptO key o loc) (impv imp lvl (keyOf d) 0 r).2.length/\K ⟨lvl,ptd d (impv imp lvl (keyOf d) 0 r).1 env,addO (keyOf d) (impv imp lvl (keyOf d) 0 r).2 (ptO key o loc),out⟩):Uc C fid imp lvl env loc out d K args :=
 X5 (ptO key o loc) out (fun _ _=>rfl) (by rw[Zj6];exact h) hk
theorem ZmO{C:ZK}{env:List (Nat×IV)}{loc:List (Nat×Ob)}{out:Zc}{d:Option Nat}{K:St->Prop}{fid:FuncId}{imp:Bool}{lvl:Nat}{args:List IV}{r:IV}(key:Nat)(o:Nat->Ob)(h:∃ v,C fid (lvl+1) args (Zy lvl loc out) r (Zl (Zy lvl loc out) (lvl,key) (o v)))
  (hk:∀ v,freshK (keyOf d) (ptO key (o v) loc) (impv imp lvl (keyOf d) 0 r).2.length/\K ⟨lvl,ptd d (impv imp lvl (keyOf d) 0 r).1 env,addO (keyOf d) (impv imp lvl (keyOf d) 0 r).2 (ptO key (o v) loc),out⟩):Uc C fid imp lvl env loc out d K args:=by
 obtain⟨v,h⟩:=h
 exact Zc6 key (o v) h (hk v)
section
variable {α:Type} {e0:α} {lt:α->α->Prop}
def gx(e0:α)(l:List α)(i:Nat):α:=l.getD i e0
theorem J3{l:List α}{i:Nat}(h:i<l.length):gx e0 l i=l[i]:=by
 unfold gx
 rw[UaH,Uah h]
 rfl
def Wd(e0:α)(lt:α->α->Prop)(x:List α)(i:Nat):Prop:=∀ p q,p<q->q<i -> ¬ lt (gx e0 x q) (gx e0 x p)
def ZaY(e0:α)(lt:α->α->Prop)(x:List α)(i j:Nat):Prop:=(∀ p q,p<q->q<=i->p≠j->q≠j -> ¬ lt (gx e0 x q) (gx e0 x p))/\∀ q,j<q->q<=i -> ¬ lt (gx e0 x q) (gx e0 x j)
def Do(e0:α)(x:List α)(j:Nat):List α:=(x.set j (gx e0 x (j-1))).set (j-1) (gx e0 x j)
theorem Zc7{y:List α}{a b:Nat}{v:α}(h:a<y.length):gx e0 (y.set a v) b=if a=b then v else gx e0 y b:=by
 show (y.set a v).getD b e0=if a=b then v else y.getD b e0
 rw[UaH,Ubb,UaH]
 by_cases e:a=b
 ·rw[if_pos e,if_pos e,if_pos (by omega)];rfl
 ·rw[if_neg e,if_neg e]
theorem ZCo{y:List α}{i:Nat}(h:ZaY e0 lt y i 0):Wd e0 lt y (i+1):=fun p q h1 h2=>by
 by_cases e:p=0
 ·subst e;exact h.2 q h1 (by omega)
 ·exact h.1 p q h1 (by omega) e (by omega)
theorem ZCp(tr:∀ a b c,¬ lt b a -> ¬ lt c b -> ¬ lt c a){y:List α}{i j:Nat}(h:ZaY e0 lt y i j)(hj:0<j)(hji:j<=i)(hle:¬ lt (gx e0 y j) (gx e0 y (j-1))):Wd e0 lt y (i+1):=fun p q h1 h2=>by
 by_cases e:p=j
 ·subst e;exact h.2 q h1 (by omega)
 ·by_cases e2:q=j
  ·subst e2
   by_cases e3:p=q-1
   ·subst e3;exact hle
   ·exact tr _ _ _ (h.1 p (q-1) (by omega) (by omega) e (by omega)) hle
  ·exact h.1 p q h1 (by omega) e e2
theorem ZCq(asym:∀ a b,lt a b -> ¬ lt b a){y:List α}{i j:Nat}(h:ZaY e0 lt y i j)(hj:0<j)(hji:j<=i)(hi:i<y.length)(hlt:lt (gx e0 y j) (gx e0 y (j-1))):ZaY e0 lt (Do e0 y j) i (j-1):=by
 have e:∀ b,gx e0 (Do e0 y j) b=if j-1=b then gx e0 y j else if j=b then gx e0 y (j-1) else gx e0 y b:=fun b=>by
  unfold Do
  rw[Zc7 (by rw[UaT];omega),Zc7 (by omega)]
 refine⟨fun p q h1 h2 h3 h4=>?_,fun q h1 h2=>?_⟩
 ·rw[e p,e q,if_neg (show ¬ j-1=p from fun g=>h3 g.symm),if_neg (show ¬ j-1=q from fun g=>h4 g.symm)]
  by_cases ep:j=p
  ·rw[if_pos ep,if_neg (show ¬ j=q by omega)]
   exact h.1 (j-1) q (by omega) h2 (by omega) (by omega)
  ·rw[if_neg ep]
   by_cases eq:j=q
   ·rw[if_pos eq]
    exact h.1 p (j-1) (by omega) (by omega) (by omega) (by omega)
   ·rw[if_neg eq]
    exact h.1 p q h1 h2 (fun g=>ep g.symm) (fun g=>eq g.symm)
 ·rw[e (j-1),e q,if_pos rfl,if_neg (show ¬ j-1=q by omega)]
  by_cases eq:j=q
  ·rw[if_pos eq];exact asym _ _ hlt
  ·rw[if_neg eq]
   exact h.2 q (by omega) h2
theorem ZCr{y:List α}{j:Nat}(hj:0<j)(hi:j<y.length):(Do e0 y j).Perm y:=by
 have h:=@List.set_set_perm _ y j (j-1) hi (by omega)
 unfold Do
 rw[J3 hi,J3 (by omega)]
 exact h
theorem Yg{γ:Type}{c:α->γ}{l:List α}{i:Nat}(h:i<l.length):(l.map c)[i]? = some (c (gx e0 l i)):=by
 rw[J3 h];simp [h]
end
theorem ZgQ{α:Type}[DecidableEq α]{e0:α}{l:List α}:∀{n:Nat},n<=l.length->(∀ m,0<m->m<n->gx e0 l m≠gx e0 l (m-1))->cz (gx e0 l) n=l.take n
 | 0,_,_=>by simp [cz]
 | n+1,hn,h=>by
  have ih:=ZgQ (n:=n) (by omega) fun m h0 h1=>h m h0 (by omega)
  have hx:cz (gx e0 l) (n+1)=cz (gx e0 l) n++[gx e0 l n]:=by
   rw[cz,if_neg (fun e=>h n (by omega) (by omega) e.2)]
  rw[hx,ih,Uaf (by omega)]
  rw[J3 (by omega)]
structure Ords {α:Type} (lt:α->α->Prop):Prop where
 irr:∀ a,¬ lt a a
 tr:∀ a b c,lt a b->lt b c->lt a c
 tri:∀ a b,lt a b\/a=b\/lt b a
theorem Ords.asym{α:Type}{lt:α->α->Prop}(O:Ords lt)(a b:α)(h:lt a b):¬ lt b a:=fun g=>O.irr a (O.tr _ _ _ h g)
section
variable {α:Type} {e0:α} {lt:α->α->Prop}
theorem ZmP(O:Ords lt):∀{x y:List α},x.Pairwise lt->y.Pairwise lt->(∀ c,c∈x↔c∈y)->x=y
 | [],[],_,_,_=>rfl
 | [],b::s,_,_,h=>by have:=(h b).2 (by simp);simp at this
 | a::r,[],_,_,h=>by have:=(h a).1 (by simp);simp at this
 | a::r,b::s,hx,hy,h=>by
  rw[Ua5] at hx hy
  have e:a=b:=by
   rcases UaE.1 ((h a).1 (by simp)) with e | h1
   ·exact e
   ·rcases UaE.1 ((h b).2 (by simp)) with e | h2
    ·exact e.symm
    ·exact absurd (hy.1 a h1) (O.asym _ _ (hx.1 b h2))
  subst e
  congr 1
  refine ZmP O hx.2 hy.2 fun c=>⟨fun hc=>?_,fun hc=>?_⟩
  ·rcases UaE.1 ((h c).1 (by simp [hc])) with e | h1
   ·subst e;exact absurd (hx.1 c hc) (O.irr c)
   ·exact h1
  ·rcases UaE.1 ((h c).2 (by simp [hc])) with e | h1
   ·subst e;exact absurd (hy.1 c hc) (O.irr c)
   ·exact h1
theorem ZaZ(O:Ords lt):∀{x y:List α},x.Pairwise (fun a b=>¬ lt b a)->y.Pairwise (fun a b=>¬ lt b a)->x.Perm y->x=y
 | [],y,_,_,h=>by rw[List.nil_perm.1 h]
 | a::r,[],_,_,h=>by have:=h.length_eq;simp at this
 | a::r,b::s,hx,hy,h=>by
  rw[Ua5] at hx hy
  have e:a=b:=by
   rcases UaE.1 (h.mem_iff.1 (UbW (a:=a) (l:=r))) with e | h1
   ·exact e
   ·rcases UaE.1 (h.mem_iff.2 (UbW (a:=b) (l:=s))) with e | h2
    ·exact e.symm
    ·rcases O.tri a b with g | g | g
     ·exact absurd g (hy.1 a h1)
     ·exact g
     ·exact absurd g (hx.1 b h2)
  subst e
  congr 1
  exact ZaZ O hx.2 hy.2 h.cons_inv
theorem ZCs{x:List α}(h:Wd e0 lt x x.length):x.Pairwise (fun a b=>¬ lt b a):=Uba.2 fun i j hi hj hij=>by
 have:=h i j hij hj
 rwa [J3 hi,J3 hj] at this
noncomputable def VF(lt:α->α->Prop)(l:List α):List α:=l.mergeSort fun a b=>@decide (¬ lt b a) (Classical.propDecidable _)
theorem srtG_perm{l:List α}:(VF lt l).Perm l:=List.mergeSort_perm ..
theorem Za0(O:Ords lt){l:List α}:(VF lt l).Pairwise (fun a b=>¬ lt b a):=by
 classical
 have h:=List.pairwise_mergeSort (le:=fun a b=>@decide (¬ lt b a) (Classical.propDecidable _)) (fun a b c h1 h2=>by
  simp only[decide_eq_true_eq] at *
  intro g
  rcases O.tri a b with k | k | k
  ·exact h2 (O.tr _ _ _ g k)
  ·subst k;exact h2 g
  ·exact h1 k) (fun a b=>by
  simp only[UaU,decide_eq_true_eq]
  by_cases g:lt b a
  ·exact .inr (O.asym _ _ g)
  ·exact .inl g) l
 exact h.imp (fun h=>by simpa using h)
theorem ZCt(O:Ords lt){l x:List α}(hp:x.Perm l)(hu:Wd e0 lt x l.length):x=VF lt l:=by
 rw[<-hp.length_eq] at hu
 exact ZaZ O (ZCs hu) (Za0 O) (hp.trans srtG_perm.symm)
theorem cz_mem[DecidableEq α]{g:Nat->α}{c:α}:∀{n:Nat},c∈cz g n↔∃ i,i<n/\g i=c
 | 0=>by simp [cz]
 | n+1=>by
  rw[cz,Uap,cz_mem (n:=n)]
  constructor
  ·rintro(⟨i,h1,h2⟩ | h)
   ·exact⟨i,by omega,h2⟩
   ·split at h
    ·cases h
    ·exact⟨n,by omega,(UaN.1 h).symm⟩
  ·rintro⟨i,h1,h2⟩
   by_cases e:i=n
   ·subst e
    by_cases k:i≠0/\g i=g (i-1)
    ·exact .inl ⟨i-1,by omega,k.2.symm.trans h2⟩
    ·rw[if_neg k];exact .inr (by simp [h2])
   ·exact .inl ⟨i,by omega,h2⟩
theorem ZmQ(O:Ords lt)[DecidableEq α]{g:Nat->α}:∀{n:Nat},(∀ i j,i<j->j<n -> ¬ lt (g j) (g i))->(cz g n).Pairwise lt
 | 0,_=>by simp [cz]
 | n+1,h=>by
  have ih:=ZmQ O (n:=n) fun i j h1 h2=>h i j h1 (by omega)
  by_cases k:n≠0/\g n=g (n-1)
  ·rw[ZgP k.1 k.2];exact ih
  ·have hx:cz g (n+1)=cz g n++[g n]:=by rw[cz,if_neg k]
   rw[hx,Ua9]
   refine⟨ih,by simp,fun c hc d hd=>?_⟩
   rw[UaN] at hd
   subst hd
   obtain⟨i,h1,rfl⟩:=cz_mem.1 hc
   have hn0:n≠0:=by omega
   rcases O.tri (g i) (g n) with e | e | e
   ·exact e
   ·exfalso
    have e1:¬ lt (g n) (g (n-1)):=h (n-1) n (by omega) (by omega)
    have e2:¬ lt (g (n-1)) (g i):=by
     by_cases q:i=n-1
     ·subst q;exact O.irr _
     ·exact h i (n-1) (by omega) (by omega)
    rw[e] at e2
    rcases O.tri (g n) (g (n-1)) with q | q | q
    ·exact e1 q
    ·exact k ⟨hn0,q⟩
    ·exact e2 q
   ·exact absurd e (h i n h1 (by omega))
noncomputable def Dp[DecidableEq α](e0:α)(lt:α->α->Prop)(l:List α):List α:=cz (gx e0 (VF lt l)) (VF lt l).length
theorem ZmR(O:Ords lt)[DecidableEq α]{l:List α}:(Dp e0 lt l).Pairwise lt:=ZmQ O fun i j h1 h2=>by
 rw[J3 h2,J3 (Nat.lt_trans h1 h2)]
 exact Uba.1 (Za0 O) i j _ _ h1
theorem setG_mem[DecidableEq α]{l:List α}{c:α}:c∈Dp e0 lt l↔c∈l:=by
 unfold Dp
 rw[cz_mem,<-(srtG_perm (lt:=lt) (l:=l)).mem_iff]
 constructor
 ·rintro⟨i,h1,h2⟩
  rw[J3 h1] at h2
  rw[<-h2];exact Uak h1
 ·intro h
  obtain⟨i,h1,h2⟩:=Uao h
  exact⟨i,h1,by rw[J3 h1];exact h2⟩
theorem Zc8(O:Ords lt)[DecidableEq α]{l y:List α}(hy:y.Pairwise lt)(h:∀ c,c∈l↔c∈y):Dp e0 lt l=y:=ZmP O (ZmR O) hy fun c=>setG_mem.trans (h c)
theorem ZmS[DecidableEq α]{l:List α}:(Dp e0 lt l).length<=l.length:=UaI (ZmM _ _) (Ucc srtG_perm.length_eq)
end
abbrev Jd:ByteArray:=⟨#[]⟩
abbrev gS(l:List ByteArray)(i:Nat):ByteArray:=gx Jd l i
theorem bl_irr:∀(x:List UInt8),Op.bytesLess x x=false
 | []=>rfl
 | a::x=>by
  have e:¬ a<a:=Ucd a
  simp [Op.bytesLess,e,bl_irr x]
theorem ZmT:∀(x y z:List UInt8),Op.bytesLess x y=true->Op.bytesLess y z=true->Op.bytesLess x z=true
 | [],[],_,h,_=>by simp [Op.bytesLess] at h
 | [],_::_,[],_,h=>by simp [Op.bytesLess] at h
 | [],_::_,_::_,_,_=>by simp [Op.bytesLess]
 | _::_,[],_,h,_=>by simp [Op.bytesLess] at h
 | _::_,_::_,[],_,h=>by simp [Op.bytesLess] at h
 | a::x,b::y,c::z,h1,h2=>by
  have ih:=ZmT x y z
  have irr:∀ a:UInt8,¬ a<a:=Ucd
  simp only[Op.bytesLess] at h1 h2 ⊢
  by_cases e1:a=b
  ·subst e1
   simp only[irr,decide_false,Bool.false_or,beq_self_eq_true,Bool.true_and,if_true,if_false] at h1
   by_cases e2:a=c
   ·subst e2
    simp [irr] at h1 h2 ⊢
    exact ih h1 h2
   ·by_cases l2:a<c
    ·simp [l2]
    ·simp [l2,e2] at h2
  ·by_cases l1:a<b
   ·by_cases e2:b=c
    ·subst e2;simp [l1]
    ·by_cases l2:b<c
     ·simp [UInt8.lt_trans l1 l2]
     ·simp [l2,e2] at h2
   ·simp [l1,e1] at h1
theorem ordsS:Ords ltS:=by
 refine⟨fun a h=>?_,fun a b c=>ZmT _ _ _,fun a b=>?_⟩
 ·unfold ltS at h
  rw[bl_irr] at h
  cases h
 ·have h:=ZgN a.data.toList b.data.toList
  unfold ltS
  cases h1:Op.bytesLess a.data.toList b.data.toList with
  | true=>exact .inl rfl
  | false =>
   rw[h1] at h
   cases h2:Op.bytesLess b.data.toList a.data.toList with
   | true=>exact .inr (.inr rfl)
   | false =>
    rw[h2] at h
    refine .inr (.inl ?_)
    have:a.data.toList=b.data.toList:=by simpa using h
    cases a with | mk a=>cases b with | mk b=>exact congrArg ByteArray.mk (Array.toList_inj.1 this)
theorem ZCu(a b:ByteArray)(h:ltS a b):¬ ltS b a:=ordsS.asym a b h
theorem ltS_tr(a b c:ByteArray)(h1:¬ ltS b a)(h2:¬ ltS c b):¬ ltS c a:=fun h=>by
 rcases ordsS.tri b c with g | g | g
 ·exact h1 (ordsS.tr _ _ _ g h)
 ·subst g;exact h1 h
 ·exact h2 g
theorem Zc9{y:List ByteArray}{j:Nat}{v:ByteArray}(h:j<y.length):ZI (rS y) [] j 0 (.v (.string v))=rS (y.set j v):=by
 simp only[ZI]
 rw[Yg (e0:=Jd) (c:=fun n:ByteArray=>[ts n]) h]
 exact(UbJ (f:=fun n:ByteArray=>[ts n]) (l:=y) (i:=j) (a:=v)).symm
theorem ZCv(a:ByteArray)(lvl:Nat)(S:Zc):Sem Uch ZcT lvl [iS a] S (iB false) S:=by
 refine Zi ZBY trivial ?_
 simp only[Zmr,Zb,seval,Za,men]
theorem ZCw(a b:ByteArray)(lvl:Nat)(S:Zc):Sem Uch ZcS lvl [iS a,iS b] S (iB (dc (ltS a b))) S:=by
 refine Zi ZBX trivial ?_
 simp only[Zmq,Zb,seval,Za,men]
 refine Zf (ZCv a) ?_
 simp only[Zb,seval,Za,men]
 have:Op.bytesLess a.data.toList b.data.toList=dc (ltS a b):=by
  unfold ltS
  rw[Wb,Bool.decide_eq_true]
 rw[this]
theorem ZCx(l:List ByteArray)(hl:l.length<=12)(lvl:Nat)(S:Zc)(id:Zd)(u:Bool)(hw ver:Nat)(hid:id.1<lvl)(hS:S id=some (.ar 1 (rS l) u hw ver))(srt:List ByteArray)(hsrt:∀ x:List ByteArray,x.Perm l->Wd Jd ltS x l.length->x=srt) :
  Sem Uch Zgw lvl [.hd id [] 0 l.length none hw,iI 0,iI l.length] S (.tu []) (Zl S id (.ar 1 (rS srt) u hw ver)):=by
 have hne:id.1≠lvl:=by omega
 refine Zi ZBW trivial ?_
 simp only[Zmp,Zb,seval,Za,men]
 refine⟨by rw[Zg];omega,?_⟩
 refine Yn (α:=List ByteArray) l.length (fun k x=>⟨lvl,[(0,.hd id [] 0 l.length none hw),(1,iI 0),(2,iI l.length),(6,iI ((k+1:Nat):Int))],[],Zl S id (.ar 1 (rS x) u hw ver)⟩) (fun k x=>x.Perm l/\Wd Jd ltS x (k+1)) l ⟨by simp only[Jv hne,Zb,seval,Za,men],by (simp only[X6 hS,Zb,seval,Za,men]) <;> rfl⟩ ⟨List.Perm.refl _,fun p q h1 h2=>by omega⟩ ?_
 intro k x hk ⟨hA1,hA2⟩
 have hxl:x.length=l.length:=hA1.length_eq
 simp only[Zb,seval,Za,men]
 refine Zs (fun hlt=>?_) (fun hge=>?_)
 ·have hk1:k+1<l.length:=by omega
  refine Yn (α:=List ByteArray) (k+1) (fun m y=>⟨lvl,[(0,.hd id [] 0 l.length none hw),(1,iI 0),(2,iI l.length),(6,iI ((k+1:Nat):Int)),(7,iI ((k+1-m:Nat):Int))],[],Zl S id (.ar 1 (rS y) u hw ver)⟩) (fun m y=>y.Perm l/\ZaY Jd ltS y (k+1) (k+1-m)) x ⟨by simp only[Jv hne,Zb,seval,Za,men],by (simp only[Zb,seval,Za,men]) <;> rfl⟩ ⟨hA1,fun p q h1 h2 h3 h4=>hA2 p q h1 (by omega),fun q h1 h2=>by omega⟩ ?_
  intro m y hm ⟨hB1,hB2⟩
  have hyl:y.length=l.length:=hB1.length_eq
  generalize hj:k+1-m=j at hB2 ⊢
  by_cases hj0:j=0
  ·subst hj0
   simp only[Zb,seval,Za,men]
   exact⟨by rw[Zg];omega,fun h=>absurd h hne,Zu y (by omega) rfl ⟨hB1,ZCo hB2⟩⟩
  ·have g1:(0:Int)<j:=by omega
   have e1:((j:Int)-1)=((j-1:Nat):Int):=by omega
   have gj:=Yg (e0:=Jd) (c:=fun n:ByteArray=>[ts n]) (l:=y) (i:=j) (by omega)
   have gj1:=Yg (e0:=Jd) (c:=fun n:ByteArray=>[ts n]) (l:=y) (i:=j-1) (by omega)
   have l1:j<l.length:=by omega
   have l2:j-1<l.length:=by omega
   simp only[g1,JE hne,YF,e1,gj,gj1,l1,l2,Uax,Zb,seval,Za,men]
   refine⟨by rw[Zg];omega,Zf (ZCw (gS y j) (gS y (j-1))) ?_⟩
   by_cases hlt2:ltS (gS y j) (gS y (j-1))
   ·rw[ZY hlt2]
    have s1:=Zc9 (y:=y) (j:=j) (v:=gS y (j-1)) (by omega)
    have s2:=Zc9 (y:=y.set j (gS y (j-1))) (j:=j-1) (v:=gS y j) (by rw[UaT];omega)
    have gj2:=Yg (e0:=Jd) (c:=fun n:ByteArray=>[ts n]) (l:=y.set j (gS y (j-1))) (i:=j-1) (by rw[UaT];omega)
    simp only[g1,JE hne,Qt hne,Qw,YF,Jv hne,e1,gj,gj1,gj2,s1,s2,l1,l2,Uax,Zb,seval,Za,men]
    subst hj
    refine⟨by rw[Zg];omega,by rw[Zg];omega,by rw[Zg];omega,Zu (Do Jd y (k+1-m)) (by omega) (by rw[show k+1-(m+1)=k+1-m-1 from by omega];rfl) ⟨(ZCr (by omega) (by omega)).trans hB1,?_⟩⟩
    rw[show k+1-(m+1)=k+1-m-1 from by omega]
    exact ZCq ZCu hB2 (by omega) (by omega) (by omega) hlt2
   ·rw[Zt hlt2]
    simp only[Zb,seval,Za,men]
    exact⟨by rw[Zg];omega,fun h=>absurd h hne,Zu y (by omega) rfl ⟨hB1,ZCp ltS_tr hB2 (by omega) (by omega) hlt2⟩⟩
 ·have:k+1=l.length\/k=l.length:=by omega
  have hup:Wd Jd ltS x l.length:=fun p q h1 h2=>hA2 p q h1 (by omega)
  have hx:=hsrt x hA1 hup
  rw[hx]
theorem ZCy(l:List ByteArray)(hl:l.length<=12)(r:Int)(lvl:Nat)(S:Zc)(id:Zd)(u:Bool)(hw ver:Nat)(hid:id.1<lvl)(hS:S id=some (.ar 1 (rS l) u hw ver))(srt:List ByteArray)(hsrt:∀ x:List ByteArray,x.Perm l->Wd Jd ltS x l.length->x=srt) :
  Sem Uch ZaO lvl [.hd id [] 0 l.length none hw,iI 0,iI l.length,iI r] S (.tu []) (Zl S id (.ar 1 (rS srt) u hw ver)):=by
 have hne:id.1≠lvl:=by omega
 refine Zi ZBV trivial ?_
 simp only[Zmo,Zb,seval,Za,men]
 refine Yn (α:=Unit) 0 (fun _ _=>⟨lvl,[(0,.hd id [] 0 l.length none hw),(1,iI 0),(2,iI l.length),(3,iI r),(8,iB true),(9,iB true)],[],S⟩) (fun _ _=>True) () ⟨by simp only[Jv hne,Zb,seval,Za,men],by (simp only[Zb,seval,Za,men]) <;> rfl⟩ trivial ?_
 intro _ _ _ _
 have h12:(l.length:Int)-0<=12:=by omega
 simp only[h12,Zb,seval,Za,men]
 refine⟨by rw[Zg];omega,?_⟩
 simp only[Vl]
 refine X5 [] (Zl S id (.ar 1 (rS srt) u hw ver)) (fun i hi=>by unfold Zl;rw[if_neg (fun e=>hne (by rw[<-e];exact hi))]) (by
  rw[U3 hne]
  exact ZCx l hl (lvl+1) (Zy lvl [] S) id u hw ver (by omega) (by rw[JE hne];exact hS) srt hsrt) ?_
 simp only[Jv hne,Zb,seval,Za,men]
theorem ZCz{v:Int}(h0:0<=v)(h:v<=12):∃ r:Int,∀(lvl:Nat) (S:Zc),Sem Uch Zgf lvl [.tr (.v (.int .u64 v))] S (iI r) S:=by
 have:v=0\/v=1\/v=2\/v=3\/v=4\/v=5\/v=6\/v=7\/v=8\/v=9\/v=10\/v=11\/v=12:=by omega
 rcases this with rfl | rfl | rfl | rfl | rfl | rfl | rfl | rfl | rfl | rfl | rfl | rfl | rfl
 ·refine⟨0,fun lvl S=>Zi Qd trivial ?_⟩
  simp only[V0,Zb,seval,Za,men]
  simp [ZW,IntKind.min,IntKind.max,IntKind.signed,IntKind.bits]
 ·refine⟨1,fun lvl S=>Zi Qd trivial ?_⟩
  simp only[V0,Zb,seval,Za,men]
  simp [ZW,IntKind.min,IntKind.max,IntKind.signed,IntKind.bits]
 ·refine⟨2,fun lvl S=>Zi Qd trivial ?_⟩
  simp only[V0,Zb,seval,Za,men]
  simp [ZW,IntKind.min,IntKind.max,IntKind.signed,IntKind.bits]
 ·refine⟨2,fun lvl S=>Zi Qd trivial ?_⟩
  simp only[V0,Zb,seval,Za,men]
  simp [ZW,IntKind.min,IntKind.max,IntKind.signed,IntKind.bits]
 ·refine⟨3,fun lvl S=>Zi Qd trivial ?_⟩
  simp only[V0,Zb,seval,Za,men]
  simp [ZW,IntKind.min,IntKind.max,IntKind.signed,IntKind.bits]
 ·refine⟨3,fun lvl S=>Zi Qd trivial ?_⟩
  simp only[V0,Zb,seval,Za,men]
  simp [ZW,IntKind.min,IntKind.max,IntKind.signed,IntKind.bits]
 ·refine⟨3,fun lvl S=>Zi Qd trivial ?_⟩
  simp only[V0,Zb,seval,Za,men]
  simp [ZW,IntKind.min,IntKind.max,IntKind.signed,IntKind.bits]
 ·refine⟨3,fun lvl S=>Zi Qd trivial ?_⟩
  simp only[V0,Zb,seval,Za,men]
  simp [ZW,IntKind.min,IntKind.max,IntKind.signed,IntKind.bits]
 ·refine⟨4,fun lvl S=>Zi Qd trivial ?_⟩
  simp only[V0,Zb,seval,Za,men]
  simp [ZW,IntKind.min,IntKind.max,IntKind.signed,IntKind.bits]
 ·refine⟨4,fun lvl S=>Zi Qd trivial ?_⟩
  simp only[V0,Zb,seval,Za,men]
  simp [ZW,IntKind.min,IntKind.max,IntKind.signed,IntKind.bits]
 ·refine⟨4,fun lvl S=>Zi Qd trivial ?_⟩
  simp only[V0,Zb,seval,Za,men]
  simp [ZW,IntKind.min,IntKind.max,IntKind.signed,IntKind.bits]
 ·refine⟨4,fun lvl S=>Zi Qd trivial ?_⟩
  simp only[V0,Zb,seval,Za,men]
  simp [ZW,IntKind.min,IntKind.max,IntKind.signed,IntKind.bits]
 ·refine⟨4,fun lvl S=>Zi Qd trivial ?_⟩
  simp only[V0,Zb,seval,Za,men]
  simp [ZW,IntKind.min,IntKind.max,IntKind.signed,IntKind.bits]
theorem ZgR{v:Int}(h0:0<=v)(h:v<=12):∃ r:Int,∀(lvl:Nat) (S:Zc),Sem Uch ZaF lvl [.tr (.v (.int .u64 v))] S (iI r) S:=by
 obtain⟨r,hr⟩:=ZCz h0 h
 refine⟨r,fun lvl S=>Zi ZAN trivial ?_⟩
 simp only[Zlc,Zb,seval,Za,men]
 refine Zf hr ?_
 simp only[Zb,seval,Za,men]
theorem ZCA(l:List ByteArray)(hl:l.length<=12)(lvl:Nat)(S:Zc)(id:Zd)(u:Bool)(hw ver:Nat)(hid:id.1<lvl)(hS:S id=some (.ar 1 (rS l) u hw ver))(srt:List ByteArray)(hsrt:∀ x:List ByteArray,x.Perm l->Wd Jd ltS x l.length->x=srt) :
  Sem Uch ZaN lvl [.hd id [] 0 l.length none hw] S (.tu []) (Zl S id (.ar 1 (rS srt) u hw ver)):=by
 have hne:id.1≠lvl:=by omega
 obtain⟨r,hr⟩:=ZgR (v:=(l.length:Int)) (by omega) (by omega)
 refine Zi ZBT trivial ?_
 simp only[Zml,Zb,seval,Za,men]
 refine⟨⟨by show (0:Int)<=l.length;omega,by show (l.length:Int)<=18446744073709551615;omega⟩,Zf hr ?_⟩
 simp only[Zb,seval,Za,men]
 refine X5 [] (Zl S id (.ar 1 (rS srt) u hw ver)) (fun i hi=>by unfold Zl;rw[if_neg (fun e=>hne (by rw[<-e];exact hi))]) (by
  rw[U3 hne]
  exact ZCy l hl r (lvl+1) (Zy lvl [] S) id u hw ver (by omega) (by rw[JE hne];exact hS) srt hsrt) ?_
 simp only[Jv hne,Zb,seval,Za,men]
theorem ZCB(l:List ByteArray)(hl:l.length<=4294967290)(lvl:Nat)(S:Zc)(id:Zd)(u:Bool)(hw ver:Nat)(hid:id.1<lvl)(hS:S id=some (.ar 1 (rS l) u hw ver)) :
  ∃ v2,Sem Uch Zgu lvl [.hd id [] 0 l.length none hw] S (.hd id [] 0 (cz (gS l) l.length).length none hw) (Zl S id (.ar 1 (rS (cz (gS l) l.length)) u hw v2)):=by
 have hne:id.1≠lvl:=by omega
 by_cases hd:∀ m,0<m->m<l.length->gS l m≠gS l (m-1)
 ·refine⟨ver,?_⟩
  rw[ZgQ (Ual _) hd,Uaw,X6 hS]
  refine Zi Zmm hid ?_
  simp only[ZgD,Zb,seval,Za,men]
  by_cases h2:(l.length:Int)<2
  ·rw[if_pos h2]
   simp only[Zal hne,Zb,seval,Za,men]
  rw[if_neg h2]
  refine Yn (α:=Unit) l.length (fun k _=>⟨lvl,[(0,.hd id [] 0 l.length none hw),(3,iI ((k+1:Nat):Int))],[],S⟩) (fun k _=>k+1<=l.length) () ⟨by simp only[Jv hne,Zb,seval,Za,men],by (simp only[Zb,seval,Za,men]) <;> rfl⟩ (by omega) ?_
  intro k _ hk hA
  simp only[Zb,seval,Za,men]
  refine Zs (fun hlt=>?_) (fun hge=>?_)
  ·have gj:=Yg (e0:=Jd) (c:=fun n:ByteArray=>[ts n]) (l:=l) (i:=k+1) (by omega)
   have gj1:=Yg (e0:=Jd) (c:=fun n:ByteArray=>[ts n]) (l:=l) (i:=k) (by omega)
   have l1:k+1<l.length:=by omega
   have l2:k<l.length:=by omega
   have hx:=hd (k+1) (by omega) l1
   rw[Nat.add_sub_cancel] at hx
   have e1:(((k+1:Nat):Int)-1)=(k:Int):=by omega
   simp only[JE hne,hS,e1,gj,gj1,l1,l2,hx,Uax,Jv hne,Zb,seval,Za,men]
   exact⟨by rw[Zg];omega,by rw[Zg];omega,Zu () (by omega) rfl (by omega)⟩
  ·simp only[Zal hne,Zb,seval,Za,men]
 ·refine⟨ver+1,?_⟩
  refine Zi Zmm hid ?_
  simp only[ZgD,Zb,seval,Za,men]
  by_cases h2:(l.length:Int)<2
  ·exact absurd (fun m h0 h1=>by omega) hd
  rw[if_neg h2]
  refine Yn (α:=Unit) l.length (fun k _=>⟨lvl,[(0,.hd id [] 0 l.length none hw),(3,iI ((k+1:Nat):Int))],[],S⟩) (fun k _=>k+1<=l.length/\∀ m,0<m->m<k+1->gS l m≠gS l (m-1)) () ⟨by simp only[Jv hne,Zb,seval,Za,men],by (simp only[Zb,seval,Za,men]) <;> rfl⟩ ⟨by omega,fun m h0 h1=>by omega⟩ ?_
  intro k _ hk ⟨hA,hB⟩
  simp only[Zb,seval,Za,men]
  refine Zs (fun hlt=>?_) (fun hge=>?_)
  ·have gj:=Yg (e0:=Jd) (c:=fun n:ByteArray=>[ts n]) (l:=l) (i:=k+1) (by omega)
   have gj1:=Yg (e0:=Jd) (c:=fun n:ByteArray=>[ts n]) (l:=l) (i:=k) (by omega)
   have l1:k+1<l.length:=by omega
   have l2:k<l.length:=by omega
   have e1:(((k+1:Nat):Int)-1)=(k:Int):=by omega
   by_cases hx:gS l (k+1)=gS l k
   ·have hc1:=ZgQ (l:=l) (n:=k+1) (by omega) hB
    have hc2:cz (gS l) (k+1+1)=cz (gS l) (k+1):=ZgP (by omega) (by rw[Nat.add_sub_cancel];exact hx)
    simp only[JE hne,hS,e1,gj,gj1,l1,l2,hx,Uax,Jv hne,Zb,seval,Za,men]
    refine⟨by rw[Zg];omega,by omega,ZaX hne hS,?_⟩
    refine Yn (α:=Nat×List ByteArray) l.length (fun m x=>⟨lvl,[(0,.hd id [] 0 l.length none hw),(3,iI (x.1:Int)),(4,.hd id [] (k+1) (l.length-(k+1)) none hw),(5,iI ((m+1:Nat):Int))],[],Zl S id (.ar 1 (rS x.2) u hw ver)⟩) (fun m x=>k+1+m+1<=l.length/\x.2.length=l.length/\x.1=(cz (gS l) (k+1+m+1)).length/\x.2.take x.1=cz (gS l) (k+1+m+1)/\x.1<=k+1+m/\∀ q,k+1+m<=q->gS x.2 q=gS l q) (k+1,l) ⟨by simp only[Jv hne,Zb,seval,Za,men],by (simp only[X6 hS,Zb,seval,Za,men]) <;> rfl⟩ ⟨by omega,rfl,by rw[Nat.add_zero,hc2,hc1,Uam];omega,by rw[Nat.add_zero,hc2,hc1],by omega,fun _ _=>rfl⟩ ?_
    intro m ⟨i,y⟩ hm ⟨hm1,hy,hi,ht,hle,hq⟩
    dsimp only at hy hi ht hle hq
    simp only[Zb,seval,Za,men]
    refine Zs (fun hlt2=>?_) (fun hge2=>?_)
    ·have b1:k+1+(m+1)<l.length:=by omega
     have b2:m+1<l.length-(k+1):=by omega
     have b3:m<l.length-(k+1):=by omega
     have gy:=Yg (e0:=Jd) (c:=fun n:ByteArray=>[ts n]) (l:=y) (i:=k+1+(m+1)) (by omega)
     have gy1:=Yg (e0:=Jd) (c:=fun n:ByteArray=>[ts n]) (l:=y) (i:=k+1+m) (by omega)
     have q1:=hq (k+1+(m+1)) (by omega)
     have q2:=hq (k+1+m) (by omega)
     have e2:(((m+1:Nat):Int)-1)=(m:Int):=by omega
     have b4:i<l.length:=by omega
     by_cases hx2:gS l (k+1+(m+1))=gS l (k+1+m)
     ·have hc3:cz (gS l) (k+1+(m+1)+1)=cz (gS l) (k+1+m+1):=ZgP (by omega) hx2
      simp only[JE hne,YF,e2,gy,gy1,q1,q2,b2,b3,hx2,Jv hne,Zb,seval,Za,men]
      exact⟨by rw[Zg];omega,by rw[Zg];omega,Zu (i,y) (by omega) rfl ⟨by omega,hy,by rw[show k+1+(m+1)+1=k+1+(m+1)+1 from rfl,hc3];exact hi,by rw[hc3];exact ht,by show i<=k+1+(m+1);omega,fun q hqq=>hq q (by omega)⟩⟩
     ·have hc3:cz (gS l) (k+1+(m+1)+1)=cz (gS l) (k+1+m+1)++[gS l (k+1+(m+1))]:=ZCn hx2
      have s1:=Zc9 (y:=y) (j:=i) (v:=gS l (k+1+(m+1))) (by omega)
      have gy0:=Yg (e0:=Jd) (c:=fun n:ByteArray=>[ts n]) (l:=y) (i:=i) (by omega)
      simp only[JE hne,Qt hne,Qw,YF,e2,gy,gy0,gy1,q1,q2,b2,b3,b4,hx2,s1,Uax,Jv hne,Zb,seval,Za,men]
      exact⟨by rw[Zg];omega,by rw[Zg];omega,by rw[Zg];omega,Zu (i+1,y.set i (gS l (k+1+(m+1)))) (by omega) rfl ⟨by omega,by rw[UaT];exact hy,by rw[hc3,Uad,<-hi];rfl,by rw[ZmN (by omega),ht,hc3],by show i+1<=k+1+(m+1);omega,fun q hqq=>by
       show gx Jd (y.set i (gS l (k+1+(m+1)))) q=_
       rw[Zc7 (by omega),if_neg (by omega)]
       exact hq q (by omega)⟩⟩
    ·have en:k+1+m+1=l.length:=by omega
     rw[en] at hi ht
     refine⟨by omega,ZaX hne (YF ..),?_⟩
     have tk:(rS y).take i=rS (cz (gS l) l.length):=by rw[<-ht];exact(UbK ..).symm
     simp only[JE hne,Qt hne,Qw,YF,tk,Uaa,hy,Zb,seval,Za,men]
     refine⟨by omega,by omega,by omega,by omega,ZaX hne (YF ..),?_⟩
     simp only[Zal hne,Nat.sub_zero,hi,Zb,seval,Za,men]
   ·simp only[JE hne,hS,e1,gj,gj1,l1,l2,hx,Uax,Jv hne,Zb,seval,Za,men]
    exact⟨by rw[Zg];omega,by rw[Zg];omega,Zu () (by omega) rfl ⟨by omega,fun m h0 h1=>by
     by_cases e:m=k+1
     ·subst e;exact hx
     ·exact hB m h0 (by omega)⟩⟩
  ·exact absurd (fun m h0 h1=>hB m h0 (by omega)) hd
theorem ZmU:∀(x y:List UInt8),x<y↔Op.bytesLess x y=true
 | [],[]=>by simp [Op.bytesLess]
 | [],_::_=>by simp [Op.bytesLess]
 | _::_,[]=>by simp [Op.bytesLess]
 | a::x,b::y=>by
  rw[List.cons_lt_cons_iff,ZmU x y]
  simp [Op.bytesLess]
abbrev Vs(s:ByteArray):List UInt8:=s.data.toList
abbrev We(l:List UInt8):ByteArray:=⟨l.toArray⟩
theorem ZmV{s:ByteArray}:We (Vs s)=s:=by simp [We,Vs]
theorem ZmW{l:List ByteArray}:Xn Go.Proofs.encStr (l.map Vs)=rS l:=by
 simp only[Xn,UbU]
 refine UaF fun s _=>?_
 show [Tr.v (Value.string (We (Vs s)))]=_
 rw[ZmV]
theorem ZCC(l:List ByteArray):(l.map Vs).mergeSort (fun x y=>decide (x<=y))=(VF ltS l).map Vs:=by
 have e1:((l.map Vs).mergeSort (fun x y=>decide (x<=y))).map We=VF ltS l:=by
  refine ZaZ ordsS ?_ (Za0 ordsS) (List.Perm.trans ?_ srtG_perm.symm)
  ·rw[Ub2]
   have h:=List.pairwise_mergeSort (le:=fun x y:List UInt8=>decide (x<=y)) (fun a b c h1 h2=>by simp only[decide_eq_true_eq] at *;exact List.le_trans h1 h2) (fun a b=>by simp only[UaU,decide_eq_true_eq];exact List.le_total a b) (l.map Vs)
   refine h.imp fun {x y} h=>?_
   simp only[decide_eq_true_eq] at h
   intro hlt
   exact h ((ZmU y x).2 hlt)
  ·have h:=(List.mergeSort_perm (l.map Vs) (fun x y=>decide (x<=y))).map We
   rw[UbU] at h
   have:l.map (We ∘ Vs)=l:=by
    rw[show (We ∘ Vs)=id from funext fun s=>ZmV]
    exact Ucg l
   rwa [this] at h
 rw[<-e1,UbU]
 rw[show (Vs ∘ We)=id from funext fun s=>by simp [Vs,We]]
 exact(Ucg _).symm
theorem ZCD(l:List ByteArray)(hl:l.length<=4294967296)(lvl:Nat)(S:Zc)(id:Zd)(u:Bool)(hw ver:Nat)(hid:id.1<lvl)(hS:S id=some (.ar 1 (rS l) u hw ver)) :
  Sem Uch ZaN lvl [.hd id [] 0 l.length none hw] S (.tu []) (Zl S id (.ar 1 (rS (VF ltS l)) u hw ver)):=by
 by_cases hs:l.length<=12
 ·exact ZCA l hs lvl S id u hw ver hid hS _ fun x hp hu=>ZCt ordsS hp hu
 ·have h:=ZyM (P:=Uch) (f:=ZaN) (lvl:=lvl) (S:=S) (id:=id) (xs:=l.map Vs) (ys:=(VF ltS l).map Vs) (enc:=Go.Proofs.encStr) (u:=u) (hw:=hw) (ver:=ver) (Xs (by kernel_rfl)) hid (by rw[ZmW];exact hS) (fun _=>rfl) (by rw[Uaa,Uaa,srtG_perm.length_eq])
   (fun h=>absurd (congrArg List.length h) (by rw[Uaa];show ¬ l.length=0;omega))
   (fun _ b cap w hH hb=>by
    have:=Go.Proofs.Any.slices_Sort_string Proofs.Tryz.lays190 b 0 cap (l.map Vs) w hH hb (by rw[Uaa];omega)
    rw[ZCC] at this
    exact this)
  rw[ZmW,Uaa] at h
  exact h
def ZgS(l:Int)(i:Nat)(ls:List Int):Nat->List (Int×Int)
 | 0=>[]
 | k+1=>if g0 ls k=l then ZgS l i ls k++[((i:Int),(k:Int))] else ZgS l i ls k
def ZmX(b:TBigraph)(j:Nat):List Int:=((b.nodes[j]?).map TNode.links).getD []
def ZmY(b:TBigraph)(l:Int):Nat->List (Int×Int)
 | 0=>[]
 | i+1=>ZmY b l i++ZgS l i (ZmX b i) (ZmX b i).length
def ports(b:TBigraph)(l:Int):List (Int×Int):=ZmY b l b.nodes.length
def ZCE(b:TBigraph)(j:Nat):Int:=((b.inner[j]?).map TWire.link).getD 0
def ZCF(b:TBigraph)(j:Nat):ByteArray:=((b.inner[j]?).map TWire.name).getD ⟨#[]⟩
def ZgT(b:TBigraph)(l:Int):Nat->List ByteArray
 | 0=>[]
 | j+1=>if ZCE b j=l then ZgT b l j++[ZCF b j] else ZgT b l j
def ZCG(b:TBigraph)(l:Int):List ByteArray:=ZgT b l b.inner.length
def idle(b:TBigraph)(l:Int):Prop:=(ports b l).length=0/\(ZCG b l).length=0
structure small (b:TBigraph):Prop where
 nodes:b.nodes.length<=8
 links:∀ x∈b.nodes,x.links.length<=1000
 sites:b.sites.length<=4
 outer:b.outer.length<=16
 inner:b.inner.length<=16
 roots:0<=b.roots/\b.roots<=4
 edges:0<=b.edges/\b.edges<=8
theorem ZCH{sig:List TControl}(h:Z2 sig)(c:Int):YY sig c<=3:=by
 unfold YY
 cases e:sig[c.toNat]? with
 | none=>decide
 | some x =>
  obtain⟨hl,rfl⟩:=Uac.1 e
  exact((h.1 _ hl).1).2.1.2
theorem bigOK.small{sig:List TControl}{b:TBigraph}(h:bigOK sig b):small b :=
 ⟨h.nodesL,fun x hx=>by
  obtain⟨k,hk,rfl⟩:=Uao hx
  have h1:=(h.nodes k hk).ports
  have h2:=ZCH h.sg b.nodes[k].control
  omega,h.sitesL,h.outer.2,by have:=h.inn.2;rw[Dn] at this;exact this,h.roots,h.edges⟩
def Z7(n:Nat):List Int:=(List.range n).map fun i:Nat=>(i:Int)
theorem VG{n:Nat}:(Z7 n).length=n:=by simp [Z7]
theorem Yh{es:Row}{n:Nat}(h:es.length=n):cut es 0 n=es:=by
 simp only[cut,Ubw]
 exact Uau (by omega)
def Yq(b:TBigraph)(l:Int):Int×ByteArray:=if l<b.edges then (l,Jd) else (0,gS b.outer (l-b.edges).toNat)
def Jf(l:List ByteArray)(s:ByteArray):Int:=J9 (fun x=>decide (s=x)) l 0
def JT(b:TBigraph)(e:Int)(o:List ByteArray)(T:Int×ByteArray->Int×ByteArray)(l:Int):Int:=if (T (Yq b l)).2=Jd then (T (Yq b l)).1 else e+Jf o (T (Yq b l)).2
def Jk(b:TBigraph)(F:Int->Int)(e:Int)(o:List ByteArray):TBigraph:=⟨b.roots,b.nodes.map fun x=>⟨x.control,x.parent,x.links.map F⟩,b.sites,e,o,b.inner.map fun w=>⟨w.name,F w.link⟩⟩
theorem ZgU{α:Type}{f:α->Bool}:∀{l:List α} {j:Int},(J9 f l j = -1/\∀ x∈l,f x=false)\/∃ i,∃ h:i<l.length,J9 f l j=j+i/\(∀ x∈l.take i,f x=false)/\f l[i]=true
 | [],j=>.inl ⟨rfl,fun _ h=>by cases h⟩
 | x::r,j=>by
  rw[Qy]
  cases hx:f x with
  | true=>exact .inr ⟨0,by simp,by simp,by simp,hx⟩
  | false =>
   rcases ZgU (f:=f) (l:=r) (j:=j+1) with ⟨h1,h2⟩ | ⟨i,h,h1,h2,h3⟩
   ·exact .inl ⟨by simp [h1],fun y hy=>by
     rcases UaE.1 hy with rfl | hy
     ·exact hx
     ·exact h2 y hy⟩
   ·refine .inr ⟨i+1,by simpa using h,by simp only[UaZ,if_false,h1];omega,fun y hy=>?_,by simpa using h3⟩
    rw[List.take_succ_cons] at hy
    rcases UaE.1 hy with rfl | hy
    ·exact hx
    ·exact h2 y hy
theorem ZmZ{α:Type}{f:α->Bool}{l:List α}(h:∀ x∈l,f x=false):(l.filter fun n=>!f n)=l:=List.filter_eq_self.2 fun x hx=>by simp [h x hx]
theorem Zm0{α:Type}{f:α->Bool}{l:List α}{j:Nat}(h:j<l.length):((l.take (j+1)).filter fun n=>!f n)=((l.take j).filter fun n=>!f n)++if f l[j]=true then [] else [l[j]]:=by
 rw[Uaf h,List.filter_append]
 cases hx:f l[j] <;> simp [hx]
theorem Zm1{α:Type}{f:α->Bool}:∀{l:List α} {i:Nat} {j:Int} (h:i<l.length),f l[i]=true->(∀ k (hk:k<i),f (l[k]'(by omega))=false)->J9 f l j=j+i
 | [],_,_,h,_,_=>by simp at h
 | x::r,0,j,_,h1,_=>by
  have:f x=true:=h1
  rw[Qy,if_pos this];omega
 | x::r,i+1,j,h,h1,h2=>by
  have:f x=false:=h2 0 (by omega)
  rw[Qy,this,if_neg (by decide)]
  rw[Zm1 (i:=i) (by simpa using h) (by simpa using h1) fun k hk=>by
   have:=h2 (k+1) (by omega)
   simpa using this]
  omega
theorem Zm2{α:Type}{f:α->Bool}:∀{l:List α} {j:Int},(∀ x∈l,f x=false)->J9 f l j = -1
 | [],_,_=>rfl
 | x::r,j,h=>by
  rw[Qy,h x (by simp),if_neg (by decide)]
  exact Zm2 fun y hy=>h y (by simp [hy])
theorem Zm3{l:List ByteArray}(h:l.Pairwise ltS){i j:Nat}(hi:i<l.length)(hj:j<l.length)(e:l[i]=l[j]):i=j:=by
 rcases Nat.lt_trichotomy i j with g | g | g
 ·have:=Uba.1 h i j hi hj g
  rw[e] at this
  exact absurd this (ordsS.irr _)
 ·exact g
 ·have:=Uba.1 h j i hj hi g
  rw[e] at this
  exact absurd this (ordsS.irr _)
theorem ZCI{l:List ByteArray}(h:l.Pairwise ltS){i:Nat}(hi:i<l.length):Jf l l[i]=i:=by
 unfold Jf
 rw[Zm1 hi (by simp) fun k hk=>by
  simp only[decide_eq_false_iff_not]
  intro e
  have:=Zm3 h hi (by omega) e
  omega]
 omega
theorem Zda{l:List ByteArray}{s:ByteArray}(h:s ∉ l):Jf l s = -1:=Zm2 fun x hx=>by
 simp only[decide_eq_false_iff_not]
 intro e
 exact h (e ▸ hx)
theorem ixS_nn{l:List ByteArray}{s:ByteArray}:0<=Jf l s↔s∈l:=by
 unfold Jf
 rw[Zc0 (Ubu 0)]
 simp
theorem Zdb{l:List ByteArray}{s:ByteArray}(h:s∈l):Jf l s<l.length:=by
 rcases ZgU (f:=fun x=>decide (s=x)) (l:=l) (j:=0) with ⟨_,h2⟩ | ⟨i,hi,h1,_⟩
 ·have:=h2 s h
  simp at this
 ·unfold Jf
  rw[h1];omega
theorem ZgV{l:List ByteArray}(h:Vf l):l.Pairwise ltS:=by
 have key:∀ d i (hi:i+d+1<l.length),ltS (l[i]'(by omega)) (l[i+d+1]'hi):=fun d=>by
  induction d with
  | zero =>
   intro i hi
   exact(h.1 (i+0+1) hi).2 (by omega)
  | succ d ih =>
   intro i hi
   have h1:=ih i (by omega)
   have h2:=(h.1 (i+(d+1)+1) hi).2 (by omega)
   exact ordsS.tr _ _ _ h1 h2
 refine Uba.2 fun i j hi hj hij=>?_
 have:=key (j-i-1) i (by omega)
 simp only[show i+(j-i-1)+1=j from by omega] at this
 exact this
theorem Dq{l:List ByteArray}(h:Vf l){s:ByteArray}(hs:s∈l):s≠Jd:=by
 obtain⟨i,hi,rfl⟩:=Uao hs
 intro e
 have:=(h.1 i hi).1.2.1
 rw[e] at this
 exact absurd this (by decide)
theorem Dr{b:TBigraph}{l:Int}(h:l<b.edges):Yq b l=(l,Jd):=if_pos h
theorem Ds{b:TBigraph}{i:Nat}(h:i<b.outer.length):Yq b (b.edges+i)=(0,b.outer[i]):=by
 unfold Yq
 rw[if_neg (by omega),show (b.edges+(i:Int)-b.edges).toNat=i from by omega]
 rw[show gS b.outer i=b.outer[i] from J3 h]
theorem Qe{b:TBigraph}{l:Int}(h:ZZ b l):(0<=l/\l<b.edges)\/∃ i:Nat,∃ _:i<b.outer.length,l=b.edges+i:=by
 unfold ZZ at h
 by_cases hl:l<b.edges
 ·exact .inl ⟨h.1,hl⟩
 ·exact .inr ⟨(l-b.edges).toNat,by omega,by omega⟩
theorem Zm4{sig:List TControl}{b:TBigraph}(h:bigOK sig b){F F':Int->Int}{e:Int}{o:List ByteArray}(hF:∀ l,ZZ b l->F l=F' l):Jk b F e o=Jk b F' e o:=by
 unfold Jk
 congr 1
 ·refine UaF fun x hx=>?_
  obtain⟨i,hi,rfl⟩:=Uao hx
  have hn:=h.nodes i hi
  congr 1
  exact UaF fun l hl=>hF l (hn.links l hl)
 ·refine UaF fun w hw=>?_
  rw[hF _ (h.inner w hw)]
def V3(b:TBigraph)(f:Int->Int)(g:ByteArray->Int):List Int:=(Z7 b.edges.toNat).map f++b.outer.map g
theorem Xu{b:TBigraph}{f:Int->Int}{g:ByteArray->Int}{l:Int}(h0:0<=l)(h:l<b.edges):g0 (V3 b f g) l.toNat=f l:=by
 have hl:l.toNat<(Z7 b.edges.toNat).length:=by rw[VG];omega
 have hx:l.toNat<((Z7 b.edges.toNat).map f).length:=by rw[Uaa];exact hl
 show (V3 b f g).getD l.toNat 0=_
 unfold V3
 rw[UaH,Uav hx,Uas]
 simp [Z7,Uas,Ubt (show l.toNat<b.edges.toNat by omega)]
 congr 1
 omega
theorem Xv{b:TBigraph}{f:Int->Int}{g:ByteArray->Int}(hb:0<=b.edges){i:Nat}(h:i<b.outer.length):g0 (V3 b f g) (b.edges+i).toNat=g b.outer[i]:=by
 have hl:((Z7 b.edges.toNat).map f).length=b.edges.toNat:=by rw[Uaa,VG]
 show (V3 b f g).getD _ 0=_
 unfold V3
 rw[UaH,Uar (by rw[hl];omega),hl,Uas,show (b.edges+(i:Int)).toNat-b.edges.toNat=i from by omega,Uah h]
 rfl
def JO(o:List ByteArray)(s:ByteArray):List ByteArray:=o.filter fun x=>!decide (x=s)
theorem lessN_mem{o:List ByteArray}{s c:ByteArray}:c∈JO o s↔c∈o/\c≠s:=by simp [JO]
theorem ZCJ{o:List ByteArray}{s:ByteArray}(h:o.Pairwise ltS):(JO o s).Pairwise ltS:=h.filter _
noncomputable def ZM(l:List ByteArray):List ByteArray:=Dp Jd ltS l
def Dt(b:TBigraph)(s:ByteArray)(e:Int×ByteArray):Int×ByteArray:=if e.2=s then (b.edges,Jd) else e
def Qf(b:TBigraph)(s:ByteArray):List Int:=V3 b (fun l=>l) fun x=>if x=s then b.edges else b.edges+1+Jf (JO b.outer s) x
def YZ(b:TBigraph)(s:ByteArray):TBigraph:=Jk b (fun l=>g0 (Qf b s) l.toNat) (b.edges+1) (JO b.outer s)
theorem ZCK{sig:List TControl}{b:TBigraph}{s:ByteArray}(h:bigOK sig b)(hs:s∈b.outer):Jk b (JT b (b.edges+1) (ZM (JO b.outer s)) (Dt b s)) (b.edges+1) (ZM (JO b.outer s))=YZ b s:=by
 have hp:=ZgV h.outer
 have e1:ZM (JO b.outer s)=JO b.outer s:=Zc8 ordsS (ZCJ hp) fun _=>Uby
 rw[e1]
 refine Zm4 h fun l hl=>?_
 unfold Qf
 have hse:=Dq h.outer hs
 rcases Qe hl with ⟨h0,h1⟩ | ⟨i,hi,rfl⟩
 ·rw[Xu h0 h1]
  unfold JT Dt
  rw[Dr h1]
  simp [Ne.symm hse]
 ·rw[Xv h.edges.1 hi]
  unfold JT Dt
  rw[Ds hi]
  have hne:=Dq h.outer (Uak hi)
  by_cases he:b.outer[i]=s
  ·simp [he]
  ·simp [he,hne]
theorem Qz{l:List ByteArray}:ScR (rS l)=True:=eq_true fun e he t ht=>by
 obtain⟨n,_,rfl⟩:=Uaq.1 he
 simp only[UaE,Ubl,or_false] at ht
 subst ht
 rfl
theorem QA{l:List ByteArray}:Zz 1 (rS l)=True:=eq_true (Ug (fun n:ByteArray=>[ts n]) (fun _=>rfl) l)
theorem V4{l:List Int}:ScR (rI l)=True:=eq_true fun e he t ht=>by
 obtain⟨n,_,rfl⟩:=Uaq.1 he
 simp only[UaE,Ubl,or_false] at ht
 subst ht
 rfl
theorem V5{l:List Int}:Zz 1 (rI l)=True:=eq_true (Ug (fun n:Int=>[tv n]) (fun _=>rfl) l)
theorem Za1{l:List TWire}:ScR (l.map ZO)=True:=eq_true fun e he t ht=>by
 obtain⟨n,_,rfl⟩:=Uaq.1 he
 simp only[ZO,UaE,Ubl,or_false] at ht
 rcases ht with rfl | rfl <;> rfl
theorem Za2{l:List TWire}:Zz 2 (l.map ZO)=True:=eq_true (Ug ZO (fun _=>rfl) l)
theorem Zdc(l:List Int)(hl:l.length<=4294967296)(lvl:Nat)(S:Zc):Sem Uch Dc lvl [tI l] S (.ow 1 (rI l) true) S:=by
 refine Zi ZAt trivial ?_
 simp only[ZkV,Uaa,V4,V5,Zb,seval,Za,men]
 exact⟨hl,fun h=>by rw[h]⟩
theorem Zdd(l:List ByteArray)(hl:l.length<=4294967296)(lvl:Nat)(S:Zc):Sem Uch Dd lvl [.tr (.sl (rS l))] S (.ow 1 (rS l) true) S:=by
 refine Zi ZAv trivial ?_
 simp only[ZkX,Uaa,Qz,QA,Zb,seval,Za,men]
 exact⟨hl,fun h=>by rw[h]⟩
theorem ZCL(l:List TWire)(hl:l.length<=4294967296)(lvl:Nat)(S:Zc):Sem Uch ZfS lvl [.tr (.sl (l.map ZO))] S (.ow 2 (l.map ZO) true) S:=by
 refine Zi ZAw trivial ?_
 simp only[ZkY,Uaa,Za1,Za2,Zb,seval,Za,men]
 exact⟨hl,fun h=>by rw[h]⟩
theorem Zm5(l:List ByteArray)(hl:l.length<=4294967290)(lvl:Nat)(S:Zc):Sem Uch ZcL lvl [.tr (.sl (rS l))] S (.ow 1 (rS (ZM l)) true) S:=by
 refine Zi ZBI trivial ?_
 simp only[Zl9,Zb,seval,Za,men]
 refine Zf (Zdd l (by omega)) ?_
 simp only[Zb,seval,Za,men]
 have hp:(VF ltS l).length=l.length:=srtG_perm.length_eq
 have s1:=fun S' hS=>ZCD l (by omega) (lvl+1) S' (lvl,160) true l.length 0 (Ua4 _) hS
 refine Zc6 160 _ (s1 _ ?_) ?_
 ·rw[J7];rfl
 simp only[Zb,seval,Za,men]
 have s2:=fun S' hS=>ZCB (VF ltS l) (by omega) (lvl+1) S' (lvl,160) true l.length 0 (Ua4 _) hS
 rw[show Vl (IV.hd (lvl,160) [] 0 l.length none l.length)=IV.hd (lvl,160) [] 0 (VF ltS l).length none l.length from by rw[hp];rfl]
 refine ZmO 160 _ (s2 _ ?_) fun v=>?_
 ·rw[J7];rfl
 simp only[Uaa,Zb,seval,Za,men]
 rfl
abbrev oE(e:Int×ByteArray):IV:=.ag [iI e.1,iS e.2]
theorem ZCM(b:TBigraph)(l:Int)(he:0<=b.edges)(hl:ZZ b l)(ho:b.outer.length<=4294967296)(hb:b.edges<=4294967296)(lvl:Nat)(S:Zc):Sem Uch Zgr lvl [.ag ((Ze b).map .tr),iI l] S (oE (Yq b l)) S:=by
 refine Zi ZBK (by simp [low,men,Za]) ?_
 simp only[Zmb,Ze,Zb,seval,Za,men]
 rcases Qe hl with ⟨h0,h1⟩ | ⟨i,hi,rfl⟩
 ·rw[Dr h1]
  simp only[h1,Zb,seval,Za,men]
  try rfl
 ·rw[Ds hi]
  have h1:¬ b.edges+(i:Int)<b.edges:=by omega
  have ga:=Yg (e0:=Jd) (c:=fun n:ByteArray=>[ts n]) hi
  have e1:b.edges+(i:Int)-b.edges=i:=by omega
  rw[J3 hi] at ga
  simp only[h1,e1,ga,Zb,seval,Za,men]
  rw[Zg];omega
theorem Zde(b:TBigraph)(hb:Jj 4294967290 b)(lvl:Nat)(S:Zc):Sem Uch Da lvl [.ag ((Ze b).map .tr)] S (Zw b) S:=by
 obtain⟨b1,b2,b3,b4,b5,b6,b7⟩:=hb
 refine Zi ZAh (by simp [Zw,low,men,Za]) ?_
 simp only[ZkM,Ze,Zb,seval,Za,men]
 refine Zf (Zdc b.sites (by omega)) ?_
 simp only[Uaa,Zb,seval,Za,men]
 refine Zf (Zdd b.outer (by omega)) ?_
 simp only[Uaa,Zb,seval,Za,men]
 refine Zf (ZCL b.inner (by omega)) ?_
 simp only[Uaa,Zb,seval,Za,men]
 refine ZJ (α:=Unit) b.nodes.length (fun j _=>[(23,iI j)]) (fun j _=>[(96,.bx [iI b.roots,.hd (lvl,608) [] 0 j none j,.hd (lvl,320) [] 0 b.sites.length none b.sites.length,iI b.edges,.hd (lvl,480) [] 0 b.outer.length none b.outer.length,.hd (lvl,576) [] 0 b.inner.length none b.inner.length]),(608,.ar 3 ((b.nodes.take j).map ZG) true j 0)]) (fun _ _=>True) () (by simp only[Zb,seval,Za,men]) (by (simp only[Zb,seval,Za,men]) <;> rfl) trivial ?_
 intro j _ hj _
 simp only[Uaa,Zb,seval,Za,men]
 refine Zs (fun hlt=>?_) (fun hge=>?_)
 ·have hja:j<b.nodes.length:=by omega
  have ga:=Z6 (c:=ZG) hja
  have k2:b.nodes[j].links.length<=4294967290:=b2 _ (Uak hja)
  have hl1:((b.nodes.take j).map ZG).length=j:=by rw[Uaa,Uam];omega
  have st1:(b.nodes.take j).map ZG++[[Tr.v (Value.int .i64 b.nodes[j].control),Tr.v (Value.int .i64 b.nodes[j].parent),Tr.sl (rI b.nodes[j].links)]]=(b.nodes.take (j+1)).map ZG:=by
   rw[Uaf hja,Uay]
   rfl
  simp only[ga,hja,ZG,Zb,seval,Za,men]
  refine Zf (Zdc b.nodes[j].links (by omega)) ?_
  have hl2:(List.map (fun x=>[Tr.v (Value.int .i64 x.control),Tr.v (Value.int .i64 x.parent),Tr.sl (rI x.links)]) (b.nodes.take j)).length=j:=by rw[Uaa,Uam];omega
  simp only[hl1,st1,ZG,Zb,seval,Za,men]
  exact⟨by omega,by rw[Zg];omega,Zu () hja rfl trivial⟩
 ·have:j=b.nodes.length:=by omega
  subst this
  rw[Uaw]
  exact⟨rfl,rfl⟩
theorem Uv(l:List ByteArray)(s:ByteArray)(hl:l.length<=4294967296)(lvl:Nat)(S:Zc):Sem Uch WP lvl [.tr (.sl (rS l)),iS s] S (iI (Jf l s)) S:=by
 refine Zi ZBa trivial ?_
 simp only[ZlA,Uaa,Zb,seval,Za,men]
 refine ZJ (α:=Unit) l.length (fun j _=>[(5,iI j)]) (fun _ _=>[]) (fun j _=>J9 (fun x=>decide (s=x)) (l.drop j) j=Jf l s) () (by simp only[Zb,seval,Za,men]) (by (simp only[Zb,seval,Za,men]) <;> rfl) rfl ?_
 intro j _ hj hA
 simp only[Uaa,Zb,seval,Za,men]
 refine Zs (fun hlt=>?_) (fun hge=>?_)
 ·have hja:j<l.length:=by omega
  have ga:=Yg (e0:=Jd) (c:=fun n:ByteArray=>[ts n]) hja
  rw[J3 hja] at ga
  rw[ZaS hja,Qy] at hA
  by_cases h:l[j]=s
  ·rw[if_pos (by simp [h])] at hA
   simp only[ga,h,Zb,seval,Za,men]
   rw[<-hA]
  ·rw[if_neg (by simp;exact fun e=>h e.symm)] at hA
   simp only[ga,h,Zb,seval,Za,men]
   exact⟨by rw[Zg];omega,Zu () hja rfl hA⟩
 ·have:j=l.length:=by omega
  subst this
  rw[Ubv] at hA
  rw[<-hA]
  rfl
theorem ZCN{o:List ByteArray}{s:ByteArray}{j:Nat}(h:j<o.length):JO (o.take (j+1)) s=JO (o.take j) s++if o[j]=s then [] else [o[j]]:=by
 unfold JO
 rw[Uaf h,List.filter_append]
 by_cases e:o[j]=s <;> simp [e]
theorem ZCO(o:List ByteArray)(s:ByteArray)(ho:o.length<=4294967290)(lvl:Nat)(S:Zc):Sem Uch Zgj lvl [.tr (.sl (rS o)),iS s] S (.ow 1 (rS (JO o s)) true) S:=by
 refine Zi ZBh trivial ?_
 simp only[ZlH,Uaa,Zb,seval,Za,men]
 refine ZJ (α:=Unit) o.length (fun j _=>[(5,.hd (lvl,224) [] 0 (JO (o.take j) s).length none (JO (o.take j) s).length),(6,iI j)]) (fun j _=>[(224,.ar 1 (rS (JO (o.take j) s)) true (JO (o.take j) s).length 0)]) (fun _ _=>True) () (by simp only[Zb,seval,Za,men]) (by (simp only[Zb,seval,Za,men]) <;> rfl) trivial ?_
 intro j _ hj _
 simp only[Uaa,Zb,seval,Za,men]
 refine Zs (fun hlt=>?_) (fun hge=>?_)
 ·have hja:j<o.length:=by omega
  have ga:=Yg (e0:=Jd) (c:=fun n:ByteArray=>[ts n]) hja
  rw[J3 hja] at ga
  have hs:=ZCN (s:=s) hja
  have hle:(JO (o.take j) s).length<=j:=UaI (Ubz ..) (by rw[Uam];omega)
  by_cases h:o[j]=s
  ·rw[if_pos h,Ubq] at hs
   simp only[ga,h,Zb,seval,Za,men]
   exact⟨by rw[Zg];omega,Zu () hja (by rw[hs];rfl) trivial⟩
  ·rw[if_neg h] at hs
   simp only[ga,h,Uaa,Zb,seval,Za,men]
   exact⟨by omega,by rw[Zg];omega,Zu () hja (by rw[hs,Uad,Us];rfl) trivial⟩
 ·have:j=o.length:=by omega
  subst this
  rw[Uaw]
def YD(a:Int)(n:Nat):List Int:=(List.range n).map fun i:Nat=>a+i
theorem ZCP{a:Int}{n:Nat}:YD a (n+1)=YD a n++[a+n]:=by simp [YD,Ucb]
theorem fromN_len{a:Int}{n:Nat}:(YD a n).length=n:=by simp [YD]
theorem Za3(a:Int)(n:Nat)(ha:-4294967296<=a/\a<=4294967296)(hn:n<=4294967290)(lvl:Nat)(S:Zc):Sem Uch Un lvl [iI a,iI n] S (.ow 1 (rI (YD a n)) true) S:=by
 refine Zi ZBi trivial ?_
 simp only[ZlI,Zb,seval,Za,men]
 refine ZJ (α:=Unit) n (fun j _=>[(5,.hd (lvl,224) [] 0 j none j),(6,iI j)]) (fun j _=>[(224,.ar 1 (rI (YD a j)) true j 0)]) (fun _ _=>True) () (by simp only[Zb,seval,Za,men]) (by (simp only[Zb,seval,Za,men]) <;> rfl) trivial ?_
 intro j _ hj _
 simp only[Uaa,Zb,seval,Za,men]
 refine Zs (fun hlt=>?_) (fun hge=>?_)
 ·have hl:=fromN_len (a:=a) (n:=j)
  have hs:rI (YD a j)++[[Tr.v (.int .i64 (a+j))]]=rI (YD a (j+1)):=by rw[ZCP,Yf];rfl
  simp only[hl,hs,Zb,seval,Za,men]
  exact⟨by rw[Zg];omega,by omega,by rw[Zg];omega,Zu () (by omega) rfl trivial⟩
 ·have:j=n:=by omega
  subst this
  exact⟨fromN_len.symm,rfl⟩
def Jx(a:Int)(n:Nat):List Int:=(List.range n).map fun i:Nat=>-1-a-i
theorem ZCQ{a:Int}{n:Nat}:Jx a (n+1)=Jx a n++[-1-a-n]:=by simp [Jx,Ucb]
theorem rootsN_len{a:Int}{n:Nat}:(Jx a n).length=n:=by simp [Jx]
theorem Zdf(a:Int)(n:Nat)(ha:-4294967296<=a/\a<=4294967296)(hn:n<=4294967290)(lvl:Nat)(S:Zc):Sem Uch Dh lvl [iI a,iI n] S (.ow 1 (rI (Jx a n)) true) S:=by
 refine Zi ZBl trivial ?_
 simp only[ZlM,Zb,seval,Za,men]
 refine ZJ (α:=Unit) n (fun j _=>[(5,.hd (lvl,224) [] 0 j none j),(6,iI j)]) (fun j _=>[(224,.ar 1 (rI (Jx a j)) true j 0)]) (fun _ _=>True) () (by simp only[Zb,seval,Za,men]) (by (simp only[Zb,seval,Za,men]) <;> rfl) trivial ?_
 intro j _ hj _
 simp only[Uaa,Zb,seval,Za,men]
 refine Zs (fun hlt=>?_) (fun hge=>?_)
 ·have hl:=rootsN_len (a:=a) (n:=j)
  have hs:rI (Jx a j)++[[Tr.v (.int .i64 (-1-a-j))]]=rI (Jx a (j+1)):=by rw[ZCQ,Yf];rfl
  simp only[hl,hs,Zb,seval,Za,men]
  exact⟨by rw[Zg];omega,by rw[Zg];omega,by omega,by rw[Zg];omega,Zu () (by omega) rfl trivial⟩
 ·have:j=n:=by omega
  subst this
  exact⟨rootsN_len.symm,rfl⟩
def J4(by_:Int)(ps:List Int)(p:Int):Int:=if p<0 then g0 ps (-1-p).toNat else p+by_
theorem ZgW(p by_:Int)(ps:List Int)(h0:-4294967296<=p/\p<=4294967296)(h1:-4294967296<=by_/\by_<=4294967296)(h2:p<0->(-1-p).toNat<ps.length)(lvl:Nat)(S:Zc):Sem Uch ZaJ lvl [iI p,iI by_,tI ps] S (iI (J4 by_ ps p)) S:=by
 refine Zi ZBq trivial ?_
 simp only[ZlR,Zb,seval,Za,men]
 unfold J4
 refine Zs (fun hlt=>?_) (fun hge=>?_)
 ·rw[if_pos hlt]
  have hk:=h2 hlt
  obtain⟨k,hkk⟩:∃ k:Nat,-1-p=k:=⟨(-1-p).toNat,by omega⟩
  rw[hkk] at hk ⊢
  rw[Int.toNat_natCast] at hk ⊢
  have ga:=YB hk
  simp only[ga,hk,Zb,seval,Za,men]
  rw[Zg];omega
 ·rw[if_neg hge]
  exact⟨by rw[Zg];omega,rfl⟩
theorem Du(b:TBigraph)(by_:Int)(ps:List Int)(hl:b.sites.length<=4294967290)(h1:-4294967296<=by_/\by_<=4294967296)(hp:∀ p∈b.sites,(-4294967296<=p/\p<=4294967296)/\(p<0->(-1-p).toNat<ps.length))(lvl:Nat)(S:Zc):Sem Uch WQ lvl [.ag ((Ze b).map .tr),iI by_,tI ps] S (.ow 1 (rI (b.sites.map (J4 by_ ps))) true) S:=by
 refine Zi ZBn trivial ?_
 simp only[ZlO,Ze,Zb,seval,Za,men]
 refine ZJ (α:=Unit) b.sites.length (fun j _=>[(7,.hd (lvl,288) [] 0 j none j),(8,iI j)]) (fun j _=>[(288,.ar 1 (rI ((b.sites.take j).map (J4 by_ ps))) true j 0)]) (fun _ _=>True) () (by simp only[Zb,seval,Za,men]) (by (simp only[Zb,seval,Za,men]) <;> rfl) trivial ?_
 intro j _ hj _
 simp only[Uaa,Zb,seval,Za,men]
 refine Zs (fun hlt=>?_) (fun hge=>?_)
 ·have hja:j<b.sites.length:=by omega
  have ga:=YB hja
  have e0:g0 b.sites j=b.sites[j]:=by simp [hja]
  have hq:=hp _ (Uak hja)
  rw[<-e0] at hq
  have hl1:(List.map (J4 by_ ps) (b.sites.take j)).length=j:=by rw[Uaa,Uam];omega
  have hl2:(b.sites.take j).length=j:=by rw[Uam];omega
  simp only[ga,hja,Zb,seval,Za,men]
  refine Zf (ZgW (g0 b.sites j) by_ ps hq.1 h1 hq.2) ?_
  have hs:rI ((b.sites.take j).map (J4 by_ ps))++[[Tr.v (.int .i64 (J4 by_ ps (g0 b.sites j)))]]=rI ((b.sites.take (j+1)).map (J4 by_ ps)):=by
   rw[Uaf hja,Uay,Yf,e0];rfl
  simp only[hl1,hl2,hs,Uaa,Zb,seval,Za,men]
  exact⟨by omega,by rw[Zg];omega,Zu () hja rfl trivial⟩
 ·have:j=b.sites.length:=by omega
  subst this
  rw[Uaw]
  exact⟨by simp,rfl⟩
def WS(ls:List Int)(w:TWire):TWire:=⟨w.name,g0 ls w.link.toNat⟩
theorem Zdg(b:TBigraph)(ls:List Int)(hl:b.inner.length<=4294967290)(hp:∀ w∈b.inner,0<=w.link/\w.link<ls.length)(lvl:Nat)(S:Zc):Sem Uch Di lvl [.ag ((Ze b).map .tr),tI ls] S (.ow 2 ((b.inner.map (WS ls)).map ZO) true) S:=by
 refine Zi ZBp trivial ?_
 simp only[ZlQ,Ze,Zb,seval,Za,men]
 refine ZJ (α:=Unit) b.inner.length (fun j _=>[(5,.hd (lvl,224) [] 0 j none j),(6,iI j)]) (fun j _=>[(224,.ar 2 (((b.inner.take j).map (WS ls)).map ZO) true j 0)]) (fun _ _=>True) () (by simp only[Zb,seval,Za,men]) (by (simp only[Zb,seval,Za,men]) <;> rfl) trivial ?_
 intro j _ hj _
 simp only[Uaa,Zb,seval,Za,men]
 refine Zs (fun hlt=>?_) (fun hge=>?_)
 ·have hja:j<b.inner.length:=by omega
  have ga:=Z6 (c:=ZO) hja
  have hq:=hp _ (Uak hja)
  obtain⟨k,hk⟩:∃ k:Nat,b.inner[j].link=k:=⟨b.inner[j].link.toNat,by omega⟩
  have hkl:k<ls.length:=by omega
  have gl:=YB hkl
  have hl2:(b.inner.take j).length=j:=by rw[Uam];omega
  have hs:((b.inner.take j).map (WS ls)).map ZO++[[ts b.inner[j].name,tv (g0 ls k)]]=((b.inner.take (j+1)).map (WS ls)).map ZO:=by
   rw[Uaf hja,Uay,Uay]
   simp [WS,ZO,hk]
  simp only[ga,ZO,hk,gl,hja,hkl,hl2,Uaa,Zb,seval,Za,men]
  exact⟨by omega,by rw[Zg];omega,Zu () hja (by rw[<-hs];rfl) trivial⟩
 ·have:j=b.inner.length:=by omega
  subst this
  rw[Uaw]
  exact⟨by simp,rfl⟩
def Q0(by_:Int)(ps ls:List Int)(x:TNode):TNode:=⟨x.control,J4 by_ ps x.parent,x.links.map fun l=>g0 ls l.toNat⟩
theorem Za4(b:TBigraph)(by_:Int)(ps ls:List Int)(hl:b.nodes.length<=4294967290)(h1:-4294967296<=by_/\by_<=4294967296)(hp:∀ x∈b.nodes,x.links.length<=4294967290/\((-4294967296<=x.parent/\x.parent<=4294967296)/\(x.parent<0->(-1-x.parent).toNat<ps.length))/\∀ l∈x.links,0<=l/\l<ls.length)(lvl:Nat)(S:Zc):Sem Uch Uo lvl [.ag ((Ze b).map .tr),iI by_,tI ps,tI ls] S (.ow 3 ((b.nodes.map (Q0 by_ ps ls)).map ZG) true) S:=by
 refine Zi ZBm trivial ?_
 simp only[ZlN,Ze,Zb,seval,Za,men]
 refine ZJ (α:=Unit) b.nodes.length (fun j _=>[(9,.hd (lvl,416) [] 0 j none j),(10,iI j)]) (fun j _=>[(416,.ar 3 (((b.nodes.take j).map (Q0 by_ ps ls)).map ZG) true j 0)]) (fun _ _=>True) () (by simp only[Zb,seval,Za,men]) (by (simp only[Zb,seval,Za,men]) <;> rfl) trivial ?_
 intro j _ hj _
 simp only[Uaa,Zb,seval,Za,men]
 refine Zs (fun hlt=>?_) (fun hge=>?_)
 ·have hja:j<b.nodes.length:=by omega
  have ga:=Z6 (c:=ZG) hja
  obtain⟨q1,q2,q3⟩:=hp _ (Uak hja)
  have hl2:(b.nodes.take j).length=j:=by rw[Uam];omega
  refine ZJ (α:=Unit) b.nodes[j].links.length (fun k _=>[(11,.hd (lvl,672) [] 0 k none k),(12,iI k)]) (fun k _=>[(672,.ar 1 (rI ((b.nodes[j].links.take k).map fun l=>g0 ls l.toNat)) true k 0)]) (fun _ _=>True) () (by simp only[Zb,seval,Za,men]) (by (simp only[Zb,seval,Za,men]) <;> rfl) trivial ?_
  intro k _ hk _
  simp only[ga,ZG,Uaa,Zb,seval,Za,men]
  refine Zs (fun hlt2=>?_) (fun hge2=>?_)
  ·have hka:k<b.nodes[j].links.length:=by omega
   have gl:=YB hka
   have e0:g0 b.nodes[j].links k=b.nodes[j].links[k]:=by simp [hka]
   have hq:=q3 _ (Uak hka)
   rw[<-e0] at hq
   obtain⟨m,hm⟩:∃ m:Nat,g0 b.nodes[j].links k=m:=⟨(g0 b.nodes[j].links k).toNat,by omega⟩
   have hml:m<ls.length:=by omega
   have gm:=YB hml
   have hl3:(b.nodes[j].links.take k).length=k:=by rw[Uam];omega
   have hs:rI ((b.nodes[j].links.take k).map fun l=>g0 ls l.toNat)++[[tv (g0 ls m)]]=rI ((b.nodes[j].links.take (k+1)).map fun l=>g0 ls l.toNat):=by
    rw[Uaf hka,Uay,Yf,<-e0]
    simp only[Uai,Uaj,hm,Int.toNat_natCast]
   simp only[ga,ZG,gl,hm,gm,hka,hml,hl3,hs,Uaa,Zb,seval,Za,men]
   exact⟨by omega,by rw[Zg];omega,Zu () hka rfl trivial⟩
  ·have:k=b.nodes[j].links.length:=by omega
   subst this
   rw[Uaw]
   refine Zf (ZgW b.nodes[j].parent by_ ps q2.1 h1 q2.2) ?_
   have hs:((b.nodes.take j).map (Q0 by_ ps ls)).map ZG++[[tv b.nodes[j].control,tv (J4 by_ ps b.nodes[j].parent),Tr.sl (rI (b.nodes[j].links.map fun l=>g0 ls l.toNat))]]=((b.nodes.take (j+1)).map (Q0 by_ ps ls)).map ZG:=by
    rw[Uaf hja,Uay,Uay]
    simp [Q0,ZG]
   simp only[ga,ZG,hl2,Uaa,Zb,seval,Za,men]
   exact⟨by omega,by rw[Zg];omega,Zu () hja (by rw[<-hs];rfl) trivial⟩
 ·have:j=b.nodes.length:=by omega
  subst this
  rw[Uaw]
  exact⟨by simp,rfl⟩
end Go.Fd

namespace Go.Fd
open Go.Proofs.Tryz renaming prog->Uch
set_option maxRecDepth 20000
theorem Zm6:Zj Uch ZaL ZcZ=true:=by kernel_rfl
theorem ZCR:Zj Uch ZaH (ZgE ZaL)=true:=by kernel_rfl
theorem Zm7(l:List ByteArray)(s:ByteArray)(hl:l.length<=4294967296)(lvl:Nat)(S:Zc):Sem Uch ZaL lvl [.tr (.sl (rS l)),iS s] S (iI (Jf l s)) S:=Zmx Zm6 Zmw l s (by omega) lvl S
theorem ZgX(l:List ByteArray)(s:ByteArray)(hl:l.length<=4294967296)(lvl:Nat)(S:Zc):Sem Uch ZaH lvl [.tr (.sl (rS l)),iS s] S (iB (dc (s∈l))) S:=by
 have h:=ZB1 ZCR Zm6 Zmw l s (by omega) lvl S
 have e:∀ i:Decidable (s∈l),@decide (s∈l) i=dc (s∈l):=fun i=>(@Wb _ i).symm
 rw[e] at h
 exact h
theorem Uw{l:List ByteArray}{s:ByteArray}:-1<=Jf l s:=by
 by_cases h:s∈l
 ·have:=ixS_nn.2 h;omega
 ·rw[Zda h];omega
theorem WT{l:List ByteArray}{s:ByteArray}:Jf l s<=l.length:=by
 by_cases h:s∈l
 ·have:=Zdb h;omega
 ·rw[Zda h];omega
mutual
theorem ZCS{P Q:Zd->Prop}:∀ x,men P x->men Q x->men (fun i=>P i/\Q i) x
 | .hd ..,h,g=>⟨h,g⟩
 | .ab ..,h,g=>⟨h,g⟩
 | .sv _,h,g=>⟨h,g⟩
 | .ae ..,h,g=>⟨h,g⟩
 | .ag l,h,g=>by simp only[men] at *;exact Za5 l h g
 | .tu l,h,g=>by simp only[men] at *;exact Za5 l h g
 | .fn f l,h,g=>by simp only[men] at *;exact Za5 l h g
 | .un,_,_=>trivial
 | .tr _,_,_=>trivial
 | .cs _,_,_=>trivial
 | .ta _,_,_=>trivial
 | .ow ..,_,_=>trivial
 | .er,_,_=>trivial
theorem Za5{P Q:Zd->Prop}:∀ l,Za P l->Za Q l->Za (fun i=>P i/\Q i) l
 | [],_,_=>trivial
 | x::r,h,g=>⟨ZCS x h.1 g.1,Za5 r h.2 g.2⟩
end
theorem Zm8{B S S':Zc}{loc:List (Nat×Ob)}{lvl l':Nat}{cps:List IV}(h:Za (V9 B S lvl) cps)(h2:Za (V9 (Zy lvl loc S) S' l') cps):Za (V9 B S' l') cps :=
 JN (fun i hi=>⟨hi.2.1,fun ob hb=>hi.2.2 ob (by rw[show Zy lvl loc S i=S i from if_neg (by have:=hi.1.1;omega)];exact hi.1.2 ob hb)⟩) _ (Za5 _ h h2)
theorem Zm9{L S:Zc}{l:Nat}{cps:List IV}(h:Za (XI L S l) cps):Za (V9 L S l) cps:=JN (fun _ hi=>hi.1) _ h
theorem ZCT{B S:Zc}{lvl:Nat}{cps:List IV}(h:Za (V9 B S lvl) cps)(js:List Nat):VQ lvl js cps=True:=eq_true (JN (fun i hi e=>absurd e (by have:=hi.1;omega)) _ h)
theorem ZCU{B S:Zc}{lvl:Nat}{cs:List (List Tr)}:Za (V9 B S lvl) (cs.map IV.ta):=by rw[Y5];trivial
theorem ZCV(b:TBigraph)(l:Int)(e:Int)(o:List ByteArray)(tf:FuncId)(cps:List IV)(B:Zc)(T:Int×ByteArray->Int×ByteArray)(he0:0<=b.edges)(hl:ZZ b l)(ho:b.outer.length<=4294967296)(hb:b.edges<=4294967296)(he:0<=e/\e<=4294967296)(hol:o.length<=4294967296)
  (hT:∀ l' S',Za (V9 B S' l') cps->Sem Uch tf l' (oE (Yq b l)::cps) S' (oE (T (Yq b l))) S')
  (lvl:Nat) (S:Zc) (hcp:Za (V9 B S lvl) cps) (iT iO io:Zd) (c0 c1 c2 c3 c5:IV) (hwo ver:Nat) (u:Bool) (hT1:iT.1<lvl) (hO1:iO.1<lvl) (ho1:io.1<lvl) (sT:S iT=some (.bx [.fn tf cps])) (sO:S iO=some (.bx [c0,c1,c2,c3,.hd io [] 0 o.length none hwo,c5])) (so:S io=some (.ar 1 (rS o) u hwo ver)) :
  Sem Uch ZcM lvl [iI l,.ab iT 0,.ta (Ze b),.ta [tv e],.ab iO 0] S (iI (JT b e o T l)) S:=by
 have hneT:iT.1≠lvl:=by omega
 have hneO:iO.1≠lvl:=by omega
 have hneo:io.1≠lvl:=by omega
 refine Zi ZBJ trivial ?_
 simp only[Zma,Ze,JE hneT,JE hneO,JE hneo,sT,sO,so,Zb,seval,Za,men]
 refine Zf (ZCM b l he0 hl ho hb) ?_
 simp only[Zb,seval,Za,men]
 refine Zb2 (fun l' S' hs=>hT l' S' (Zm8 hcp (Zm9 hs.2))) ?_
 simp only[Zb,seval,Za,men]
 unfold JT
 by_cases h2:(T (Yq b l)).2=Jd
 ·rw[if_pos h2]
  simp only[h2,Zb,seval,Za,men]
 ·rw[if_neg h2]
  simp only[h2,JE hneO,JE hneo,sO,so,Zb,seval,Za,men]
  rw[show cut (rS o) 0 o.length=rS o from Yh (by rw[Uaa])]
  refine Zf (Zm7 o (T (Yq b l)).2 (by omega)) ?_
  have:=Uw (l:=o) (s:=(T (Yq b l)).2)
  have:=WT (l:=o) (s:=(T (Yq b l)).2)
  simp only[Zb,seval,Za,men]
  rw[Zg];omega
theorem ZgY{y:List Int}{j:Nat}{v:Int}(h:j<y.length):ZI (rI y) [] j 0 (.v (.int .i64 v))=rI (y.set j v):=by
 simp only[ZI]
 rw[YB h]
 exact(UbJ (f:=fun n:Int=>[tv n]) (l:=y) (i:=j) (a:=v)).symm
def VH(F:Int->Int)(x:TNode):TNode:=⟨x.control,x.parent,x.links.map F⟩
def Jr(F:Int->Int)(l:List TNode)(j:Nat):List TNode:=(l.take j).map (VH F)++l.drop j
def Jl(F:Int->Int)(l:List Int)(k:Nat):List Int:=(l.take k).map F++l.drop k
theorem Za6{F:Int->Int}{l:List Int}{k:Nat}:(Jl F l k).length=l.length:=by simp [Jl];omega
theorem ZgZ{F:Int->Int}{l:List Int}{k:Nat}(h:k<l.length):g0 (Jl F l k) k=g0 l k:=by
 show (Jl F l k).getD k 0=l.getD k 0
 have:((l.take k).map F).length=k:=by rw[Uaa,Uam];omega
 rw[UaH,UaH,Jl,Uar (by omega),this,UaK]
 simp
theorem Zg0{F:Int->Int}{l:List Int}{k:Nat}(h:k<l.length):(Jl F l k).set k (F (g0 l k))=Jl F l (k+1):=by
 have hl:((l.take k).map F).length=k:=by rw[Uaa,Uam];omega
 have e:g0 l k=l[k]:=by simp [h]
 unfold Jl
 rw[Ubh _ _ (by omega),hl,Ubn,UaJ h,List.set_cons_zero,Uaf h,Uay,e,UaA]
 rfl
theorem Zdh{F:Int->Int}{l:List TNode}{j:Nat}:(Jr F l j).length=l.length:=by simp [Jr];omega
theorem Zg1{F:Int->Int}{l:List TNode}{j:Nat}(h:j<l.length):(Jr F l j)[j]? = some l[j]:=by
 have:((l.take j).map (VH F)).length=j:=by rw[Uaa,Uam];omega
 rw[Jr,Uar (by omega),this,UaK]
 simp [h]
theorem Zna{F:Int->Int}{l:List TNode}{j:Nat}(h:j<l.length):(Jr F l j).set j (VH F l[j])=Jr F l (j+1):=by
 have hl:((l.take j).map (VH F)).length=j:=by rw[Uaa,Uam];omega
 unfold Jr
 rw[Ubh _ _ (by omega),hl,Ubn,UaJ h,List.set_cons_zero,Uaf h,Uay,UaA]
 rfl
def JF(F:Int->Int)(w:TWire):TWire:=⟨w.name,F w.link⟩
def Yy(F:Int->Int)(l:List TWire)(j:Nat):List TWire:=(l.take j).map (JF F)++l.drop j
theorem ZCW{F:Int->Int}{l:List TWire}{j:Nat}:(Yy F l j).length=l.length:=by simp [Yy];omega
theorem Zg2{F:Int->Int}{l:List TWire}{j:Nat}(h:j<l.length):(Yy F l j)[j]? = some l[j]:=by
 have:((l.take j).map (JF F)).length=j:=by rw[Uaa,Uam];omega
 rw[Yy,Uar (by omega),this,UaK]
 simp [h]
theorem Zg3{F:Int->Int}{l:List TWire}{j:Nat}(h:j<l.length):(Yy F l j).set j (JF F l[j])=Yy F l (j+1):=by
 have hl:((l.take j).map (JF F)).length=j:=by rw[Uaa,Uam];omega
 unfold Yy
 rw[Ubh _ _ (by omega),hl,Ubn,UaJ h,List.set_cons_zero,Uaf h,Uay,UaA]
 rfl
theorem Znb{X:List TNode}{j k:Nat}{x:TNode}{v:Int}(h:X[j]? = some x)(hk:k<x.links.length):ZI (X.map ZG) [(j,2)] k 0 (.v (.int .i64 v))=(X.set j ⟨x.control,x.parent,x.links.set k v⟩).map ZG:=by
 have h1:=ZgY (y:=x.links) (j:=k) (v:=v) hk
 have e1:ZI (X.map ZG) [(j,2)] k 0 (.v (.int .i64 v))=(X.map ZG).set j [tv x.control,tv x.parent,Tr.sl (ZI (rI x.links) [] k 0 (.v (.int .i64 v)))]:=by
  simp only[ZI,Uas,h,Option.map_some,ZG,List.getElem?_cons_succ,List.getElem?_cons_zero,List.set_cons_succ,List.set_cons_zero]
 rw[e1,h1,UbJ]
 rfl
theorem Znc(b:TBigraph)(e:Int)(o:List ByteArray)(tf:FuncId)(cps:List IV)(B:Zc)(T:Int×ByteArray->Int×ByteArray)(he0:0<=b.edges)(hbd:Jj 4294967290 b)(hb:b.edges<=4294967296)(he:0<=e/\e<=4294967296)(ho:o.length<=4294967290)
  (hln:∀ x∈b.nodes,∀ l∈x.links,ZZ b l) (hlw:∀ w∈b.inner,ZZ b w.link) (hT:∀ l,ZZ b l->∀ l' S',Za (V9 B S' l') cps->Sem Uch tf l' (oE (Yq b l)::cps) S' (oE (T (Yq b l))) S')
  (lvl:Nat) (S:Zc) (hcp:Za (V9 B S lvl) cps):Sem Uch X8 lvl [.ag ((Ze b).map .tr),iI e,.tr (.sl (rS o)),.fn tf cps] S (Zw (Jk b (JT b e (ZM o) T) e (ZM o))) S:=by
 have hok:=ZCT hcp
 refine Zi ZA6 (by simp [Zw,low,men,Za]) ?_
 simp only[Zlw,Ze,Zb,seval,Za,men]
 refine Zf (Zde b hbd) ?_
 simp only[Zw,Ze,Uaa,Zb,seval,Za,men]
 refine Zf (Zm5 o ho) ?_
 obtain⟨b1,b2,b3,b4,b5,b6,b7⟩:=hbd
 simp only[Uaa,Zb,seval,Za,men]
 have hFdef:∃ F,F=JT b e (ZM o) T:=⟨_,rfl⟩
 obtain⟨F,hF⟩:=hFdef
 rw[<-hF]
 have hsl:(ZM o).length<=4294967296:=UaI ZmS (by omega)
 have hc:∀(loc:List (Nat×Ob)) (l:Int),ZZ b l->lkO 224 loc=some (.bx [.fn tf cps])->lkO 288 loc=some (.bx [iI b.roots,.hd (lvl,576) [] 0 b.nodes.length none b.nodes.length,.hd (lvl,577) [] 0 b.sites.length none b.sites.length,iI e,.hd (lvl,672) [] 0 (ZM o).length none (ZM o).length,.hd (lvl,579) [] 0 b.inner.length none b.inner.length])->lkO 672 loc=some (.ar 1 (rS (ZM o)) true (ZM o).length 0) ->
   ∀ l' S',Za (XI (Zy lvl loc S) S' l') [iI l,.ab (lvl,224) 0,.ta (Ze b),.ta [tv e],.ab (lvl,288) 0]->Sem Uch ZcM l' [iI l,.ab (lvl,224) 0,.ta (Ze b),.ta [tv e],.ab (lvl,288) 0] S' (iI (F l)) S':=fun loc l hl h1 h2 h3 l' S' hs=>by
  simp only[Za,men] at hs
  obtain⟨_,h224,_,_,h288,_⟩:=hs
  have sT:=h224.1.2 _ (by rw[J7];exact h1)
  have hc2:=h224.2 _ (by rw[J7];exact h1)
  simp only[Za,men,and_true] at hc2
  have sO:=h288.1.2 _ (by rw[J7];exact h2)
  have hm:=h288.2 _ (by rw[J7];exact h2)
  simp only[Za,men] at hm
  obtain⟨_,_,_,_,h672,_,_⟩:=hm
  have so:=h672.2 _ (by rw[J7];exact h3)
  rw[hF]
  exact ZCV b l e (ZM o) tf cps B T he0 hl (by omega) hb he hsl (hT l hl) l' S' (Zm8 hcp hc2) (lvl,224) (lvl,288) (lvl,672) _ _ _ _ _ _ _ _ h224.1.1 h288.1.1 h672.1 sT sO so
 refine ZJ (α:=Unit) b.nodes.length (fun j _=>[(28,iI j)]) (fun j _=>[(576,.ar 3 ((Jr F b.nodes j).map ZG) true b.nodes.length 0)]) (fun _ _=>True) () (by simp only[hok,Zb,seval,Za,men]) (by (simp only[Zb,seval,Za,men]) <;> rfl) trivial ?_
 intro j _ hj _
 simp only[Uaa,Zb,seval,Za,men]
 refine Zs (fun hlt=>?_) (fun hge=>?_)
 ·have hja:j<b.nodes.length:=by omega
  have gp:=Zg1 (F:=F) hja
  have ga:((Jr F b.nodes j).map ZG)[j]? = some [Tr.v (.int .i64 b.nodes[j].control),Tr.v (.int .i64 b.nodes[j].parent),Tr.sl (rI b.nodes[j].links)]:=by rw[Uas,gp];rfl
  have hkl:b.nodes[j].links.length<=4294967290:=b2 _ (Uak hja)
  simp only[ga,hja,Uaa,Zb,seval,Za,men]
  have e0:(Jr F b.nodes j).set j ⟨b.nodes[j].control,b.nodes[j].parent,Jl F b.nodes[j].links 0⟩=Jr F b.nodes j:=by
   have:(⟨b.nodes[j].control,b.nodes[j].parent,Jl F b.nodes[j].links 0⟩:TNode)=b.nodes[j]:=by simp [Jl]
   rw[this]
   have hl:j<(Jr F b.nodes j).length:=by rw[Zdh];exact hja
   have e:b.nodes[j]=(Jr F b.nodes j)[j]:=by
    have:=gp
    rw[Uah hl] at this
    exact(UaC this).symm
   rw[e]
   exact UbA hl
  refine ZJ (α:=Unit) b.nodes[j].links.length (fun k _=>[(35,iI k)]) (fun k _=>[(576,.ar 3 (((Jr F b.nodes j).set j ⟨b.nodes[j].control,b.nodes[j].parent,Jl F b.nodes[j].links k⟩).map ZG) true b.nodes.length 0)]) (fun _ _=>True) () (by simp only[hok,Zb,seval,Za,men]) (by (simp only[e0,Zb,seval,Za,men]) <;> rfl) trivial ?_
  intro k _ hk _
  have gq:((Jr F b.nodes j).set j ⟨b.nodes[j].control,b.nodes[j].parent,Jl F b.nodes[j].links k⟩)[j]? = some ⟨b.nodes[j].control,b.nodes[j].parent,Jl F b.nodes[j].links k⟩:=by
   rw[Ube (by rw[Zdh];exact hja)]
  have hgp:(((Jr F b.nodes j).set j ⟨b.nodes[j].control,b.nodes[j].parent,Jl F b.nodes[j].links k⟩).map ZG)[j]? = some [Tr.v (.int .i64 b.nodes[j].control),Tr.v (.int .i64 b.nodes[j].parent),Tr.sl (rI (Jl F b.nodes[j].links k))]:=by rw[Uas,gq];rfl
  simp only[hgp,Uaa,Zb,seval,Za,men]
  refine Zs (fun hlt2=>?_) (fun hge2=>?_)
  ·have hka:k<b.nodes[j].links.length:=by omega
   have hpl:=Za6 (F:=F) (l:=b.nodes[j].links) (k:=k)
   have gk:(rI (Jl F b.nodes[j].links k))[k]? = some [tv (g0 b.nodes[j].links k)]:=by rw[YB (by omega),ZgZ hka]
   have hlk:ZZ b (g0 b.nodes[j].links k):=hln _ (Uak hja) _ (by simp [hka])
   have hsp:=Znb (v:=F (g0 b.nodes[j].links k)) gq (k:=k) (by show k<(Jl F b.nodes[j].links k).length;omega)
   simp only[hgp,gk,hka,hpl,Uax,Uaa,Zb,seval,Za,men]
   refine Zb2 (hc _ (g0 b.nodes[j].links k) hlk rfl rfl rfl) ?_
   have hst:((Jr F b.nodes j).set j ⟨b.nodes[j].control,b.nodes[j].parent,Jl F b.nodes[j].links k⟩).set j ⟨b.nodes[j].control,b.nodes[j].parent,(Jl F b.nodes[j].links k).set k (F (g0 b.nodes[j].links k))⟩=(Jr F b.nodes j).set j ⟨b.nodes[j].control,b.nodes[j].parent,Jl F b.nodes[j].links (k+1)⟩:=by
    rw[Ubo,Zg0 hka]
   rw[hst] at hsp
   simp only[hgp,gk,hka,hpl,hsp,hok,Uax,Uaa,Zb,seval,Za,men]
   exact⟨by rw[Zg];omega,Zu () hka rfl trivial⟩
  ·have:k=b.nodes[j].links.length:=by omega
   subst this
   have hst:(Jr F b.nodes j).set j ⟨b.nodes[j].control,b.nodes[j].parent,Jl F b.nodes[j].links b.nodes[j].links.length⟩=Jr F b.nodes (j+1):=by
    rw[<-Zna hja]
    congr 1
    simp [VH,Jl]
   rw[hst]
   simp only[hok,Zb,seval,Za,men]
   exact⟨by rw[Zg];omega,Zu () hja rfl trivial⟩
 ·have:j=b.nodes.length:=by omega
  subst this
  have hpn:Jr F b.nodes b.nodes.length=(Jk b F e (ZM o)).nodes:=by simp [Jr,Jk,VH]
  rw[hpn]
  refine ZJ (α:=Unit) b.inner.length (fun j _=>[(52,iI j)]) (fun j _=>[(579,.ar 2 ((Yy F b.inner j).map ZO) true b.inner.length 0)]) (fun _ _=>True) () (by simp only[hok,Zb,seval,Za,men]) (by (simp only[Zb,seval,Za,men]) <;> rfl) trivial ?_
  intro j _ hj _
  simp only[Uaa,Zb,seval,Za,men]
  refine Zs (fun hlt=>?_) (fun hge=>?_)
  ·have hja:j<b.inner.length:=by omega
   have gp:=Zg2 (F:=F) hja
   have ga:((Yy F b.inner j).map ZO)[j]? = some [ts b.inner[j].name,tv b.inner[j].link]:=by rw[Uas,gp];rfl
   have hsp:ZI ((Yy F b.inner j).map ZO) [] j 1 (.v (.int .i64 (F b.inner[j].link)))=(Yy F b.inner (j+1)).map ZO:=by
    simp only[ZI]
    rw[ga,<-Zg3 hja,UbJ]
    rfl
   have hlk:ZZ b b.inner[j].link:=hlw _ (Uak hja)
   simp only[ga,hja,Uax,Uaa,Zb,seval,Za,men]
   refine Zb2 (hc _ b.inner[j].link hlk rfl rfl rfl) ?_
   simp only[ga,hja,hsp,hok,Uax,Uaa,Zb,seval,Za,men]
   exact⟨by rw[Zg];omega,Zu () hja rfl trivial⟩
  ·have:j=b.inner.length:=by omega
   subst this
   have hpw:Yy F b.inner b.inner.length=(Jk b F e (ZM o)).inner:=by simp [Yy,Jk,JF]
   rw[hpw]
   exact⟨by simp [Jk],by simp [Jk],rfl⟩
theorem Zdi(b:TBigraph)(e:Int)(o:List ByteArray)(tf:FuncId)(cs:List (List Tr))(T:Int×ByteArray->Int×ByteArray)(he0:0<=b.edges)(hbd:Jj 4294967290 b)(hb:b.edges<=4294967296)(he:0<=e/\e<=4294967296)(ho:o.length<=4294967290)
  (hln:∀ x∈b.nodes,∀ l∈x.links,ZZ b l) (hlw:∀ w∈b.inner,ZZ b w.link) (hT:∀ l,ZZ b l->∀ lvl S,Sem Uch tf lvl (oE (Yq b l)::cs.map IV.ta) S (oE (T (Yq b l))) S)
  (lvl:Nat) (S:Zc):Sem Uch X8 lvl [.ag ((Ze b).map .tr),iI e,.tr (.sl (rS o)),.fn tf (cs.map IV.ta)] S (Zw (Jk b (JT b e (ZM o) T) e (ZM o))) S :=
 Znc b e o tf (cs.map IV.ta) (fun _=>none) T he0 hbd hb he ho hln hlw (fun l hl l' S' _=>hT l hl l' S') lvl S ZCU
end Go.Fd

namespace Go.Fd
open Go.Proofs.Tryz renaming prog->Uch
set_option maxRecDepth 20000
theorem ZCX:Zj Uch Zct (QY 1 none)=true:=by kernel_rfl
theorem ZCY(l:List ByteArray)(hl:l.length<=4294967290)(f:ByteArray->Bool){fe:FuncId}{cs:List (List Tr)}(hf:∀ x lvl S,Sem Uch fe lvl (iS x::cs.map IV.ta) S (iB (f x)) S)(lvl:Nat)(S:Zc)(id:Zd)(u:Bool)(hw ver:Nat)(hid:id.1<lvl)(hS:S id=some (.ar 1 (rS l) u hw ver)) :
  ∃ v2,Sem Uch Zgt lvl [.hd id [] 0 l.length none hw,.fn fe (cs.map IV.ta)] S (.hd id [] 0 (l.filter fun n=>!f n).length none hw) (Zl S id (.ar 1 (rS (l.filter fun n=>!f n)) u hw v2)):=by
 have hne:id.1≠lvl:=by omega
 have hix:=Zms (P:=Uch) ZCX (t:=fun n:ByteArray=>ts n) (f:=f) (fe:=fe) (cs:=cs) l (by omega) (fun x _ lvl S=>hf x lvl S)
 rcases ZgU (f:=f) (l:=l) (j:=0) with ⟨h1,h2⟩ | ⟨i0,h,h1,h2,h3⟩
 ·refine⟨ver,?_⟩
  rw[ZmZ h2,X6 hS]
  refine Zi Zmj hid ?_
  simp only[ZgC,V1,Y5,JE hne,hS,Zb,seval,Za,men]
  rw[show cut (rS l) 0 l.length=rS l from Yh (by rw[Uaa])]
  refine Zf hix ?_
  simp only[h1,Zal hne,Zb,seval,Za,men]
 ·refine⟨ver+1,?_⟩
  rw[Int.zero_add] at h1
  refine Zi Zmj hid ?_
  simp only[ZgC,V1,Y5,JE hne,hS,Zb,seval,Za,men]
  rw[show cut (rS l) 0 l.length=rS l from Yh (by rw[Uaa])]
  refine Zf hix ?_
  have hm1:¬ (i0:Int) = -1:=by omega
  simp only[h1,hm1,Zb,seval,Za,men]
  refine⟨by rw[Zg];omega,?_⟩
  have f0:(l.take i0).filter (fun n=>!f n)=l.take i0:=ZmZ h2
  have f1:(l.take (i0+1)).filter (fun n=>!f n)=l.take i0:=by rw[Zm0 h,f0,if_pos h3,Ubq]
  refine Yn (α:=Nat×List ByteArray) l.length (fun m x=>⟨lvl,[(0,.hd id [] 0 l.length none hw),(1,.fn fe (cs.map IV.ta)),(5,iI (x.1:Int)),(6,iI ((i0+1+m:Nat):Int))],[],Zl S id (.ar 1 (rS x.2) u hw ver)⟩) (fun m x=>i0+1+m<=l.length/\x.2.length=l.length/\x.1=((l.take (i0+1+m)).filter fun n=>!f n).length/\x.2.take x.1=(l.take (i0+1+m)).filter (fun n=>!f n)/\x.1<=i0+m/\∀ q,i0+1+m<=q->gS x.2 q=gS l q) (i0,l) ⟨by simp only[Jv hne,Ye,Zb,seval,Za,men],by (simp only[X6 hS,Zb,seval,Za,men]) <;> rfl⟩ ⟨by omega,rfl,by rw[Nat.add_zero,f1,Uam];omega,by rw[Nat.add_zero,f1],by omega,fun _ _=>rfl⟩ ?_
  intro m ⟨i,y⟩ hm ⟨hm1,hy,hi,ht,hle,hq⟩
  dsimp only at hy hi ht hle hq
  simp only[Zb,seval,Za,men]
  refine Zs (fun hlt2=>?_) (fun hge2=>?_)
  ·have b1:i0+1+m<l.length:=by omega
   have gy:=Yg (e0:=Jd) (c:=fun n:ByteArray=>[ts n]) (l:=y) (i:=i0+1+m) (by omega)
   have q1:=hq (i0+1+m) (by omega)
   have b4:i<l.length:=by omega
   have e0:gS l (i0+1+m)=l[i0+1+m]:=J3 b1
   have fs:=Zm0 (f:=f) b1
   simp only[JE hne,YF,gy,q1,b1,Jv hne,V1,Y5,Uax,Zb,seval,Za,men]
   refine Zf (hf (gS l (i0+1+m))) ?_
   rw[<-e0] at fs
   cases hx:f (gS l (i0+1+m)) with
   | true =>
    rw[if_pos hx,Ubq] at fs
    simp only[hx,Jv hne,Ye,Zb,seval,Za,men]
    exact⟨by rw[Zg];omega,Zu (i,y) (by omega) rfl ⟨by omega,hy,by rw[show i0+1+(m+1)=i0+1+m+1 from rfl,fs];exact hi,by rw[show i0+1+(m+1)=i0+1+m+1 from rfl,fs];exact ht,by show i<=i0+(m+1);omega,fun q hqq=>hq q (by omega)⟩⟩
   | false =>
    rw[if_neg (by rw[hx];decide)] at fs
    have s1:=Zc9 (y:=y) (j:=i) (v:=gS l (i0+1+m)) (by omega)
    have gy0:=Yg (e0:=Jd) (c:=fun n:ByteArray=>[ts n]) (l:=y) (i:=i) (by omega)
    simp only[JE hne,Qt hne,Qw,YF,gy,gy0,q1,b1,b4,s1,hx,Uax,Jv hne,Ye,Zb,seval,Za,men]
    exact⟨by rw[Zg];omega,by rw[Zg];omega,Zu (i+1,y.set i (gS l (i0+1+m))) (by omega) rfl ⟨by omega,by rw[UaT];exact hy,by rw[show i0+1+(m+1)=i0+1+m+1 from rfl,fs,Uad,<-hi];rfl,by rw[ZmN (by omega),ht,show i0+1+(m+1)=i0+1+m+1 from rfl,fs],by show i+1<=i0+(m+1);omega,fun q hqq=>by
     show gx Jd (y.set i (gS l (i0+1+m))) q=_
     rw[Zc7 (by omega),if_neg (by omega)]
     exact hq q (by omega)⟩⟩
  ·have en:i0+1+m=l.length:=by omega
   rw[en,Uaw] at hi ht
   refine⟨by omega,ZaX hne (YF ..),?_⟩
   have tk:(rS y).take i=rS (l.filter fun n=>!f n):=by rw[<-ht];exact(UbK ..).symm
   simp only[JE hne,Qt hne,Qw,YF,tk,Uaa,hy,Zb,seval,Za,men]
   refine⟨by omega,by omega,by omega,by omega,ZaX hne (YF ..),?_⟩
   simp only[Zal hne,Nat.sub_zero,hi,Zb,seval,Za,men]
theorem ZCZ(x s:ByteArray)(lvl:Nat)(S:Zc):Sem Uch ZcR lvl [iS x,.ta [ts s]] S (iB (decide (x=s))) S:=by
 refine Zi ZBS trivial ?_
 simp only[Zmk,Zb,seval,Za,men]
theorem ZC0(o:List ByteArray)(s:ByteArray)(ho:o.length<=4294967290)(lvl:Nat)(S:Zc):Sem Uch Zgq lvl [.tr (.sl (rS o)),iS s] S (.ow 1 (rS (JO o s)) true) S:=by
 refine Zi ZBG trivial ?_
 simp only[Zl7,Zb,seval,Za,men]
 refine Zf (Zdd o (by omega)) ?_
 simp only[Zb,seval,Za,men]
 have h1:=fun S' hS=>ZCY o ho (fun n=>decide (n=s)) (fe:=ZcR) (cs:=[[ts s]]) (fun n lvl S=>ZCZ n s lvl S) (lvl+1) S' (lvl,192) true o.length 0 (Ua4 _) hS
 refine ZmO 192 _ (h1 _ ?_) fun v=>?_
 ·rw[J7];rfl
 simp only[Uaa,Zb,seval,Za,men]
 rfl
theorem ZC1(b:TBigraph)(s:ByteArray)(e:Int×ByteArray)(lvl:Nat)(S:Zc):Sem Uch ZcK lvl [oE e,.ta [ts s],.ta (Ze b)] S (oE (Dt b s e)) S:=by
 refine Zi ZBH (by simp [low,men,Za]) ?_
 simp only[Zl8,Ze,Zb,seval,Za,men]
 unfold Dt
 by_cases h:e.2=s
 ·rw[if_pos h]
  simp only[h,Zb,seval,Za,men]
  try rfl
 ·rw[if_neg h]
  simp only[h,Zb,seval,Za,men]
  try rfl
theorem Zdj(sig:List TControl)(b:TBigraph)(hn:sig.length<=4294967296)(hbs:∀ y∈sig,Jc 4294967296 y)(hb:Jj 4294967290 b)(hf:JJ b)(lvl:Nat)(S:Zc):Sem Uch Dg lvl [.tr (.sl (sig.map Zr)),.ag ((Ze b).map .tr)] S (.tu [Zw (@ite TBigraph (bigOK sig b) (Classical.propDecidable _) b ⟨0,[],[],0,[],[]⟩),iB (dc (bigOK sig b))]) S:=by
 have hb2:Jj 4294967296 b:=by
  obtain⟨b1,b2,b3,b4,b5,b6,b7⟩:=hb
  exact⟨by omega,fun y hy=>UaI (b2 y hy) (by omega),by omega,by omega,fun y hy=>UaI (b5 y hy) (by omega),by omega,fun y hy=>UaI (b7 y hy) (by omega)⟩
 refine Zi ZA3 (by simp [Zw,low,men,Za]) ?_
 simp only[Zlt,Ze,Zb,seval,Za,men]
 refine Zf (Uu sig b hn hbs hb2) ?_
 cases h:dc (bigOK sig b)
 ·rw[if_neg (dc_not.1 h)]
  simp only[Zb,seval,Za,men]
  try rfl
 ·rw[if_pos (dc_iff.1 h)]
  simp only[Ze,Zb,seval,Za,men]
  refine Zf (Zde b hb) ?_
  simp only[Zw,Ze,Uaa,Zb,seval,Za,men]
  try rfl
theorem ZC2{n:Nat}{k:Nat}(h:k<n):g0 (Jx 0 n) k = -1-(k:Int):=by
 show (Jx 0 n).getD k 0=_
 rw[UaH,Jx,Uas,Ubt h]
 simp
theorem Zdk{b:TBigraph}{n:Nat}(hn:b.roots=n){p:Int}(h:-b.roots<=p):J4 0 (Jx 0 n) p=p:=by
 unfold J4
 split
 ·rw[ZC2 (by omega)];omega
 ·omega
theorem Yr{sig:List TControl}{b:TBigraph}{p below:Int}(hr:0<=b.roots)(h:YC sig b p below):-b.roots<=p:=by
 rcases h with h | h <;> omega
theorem ZC3(sig:List TControl)(b:TBigraph)(h:bigOK sig b)(ls:List Int)(e:Int)(o:List ByteArray)(hb:Jj 4294967296 b)(hls:∀ l,ZZ b l->l<ls.length)(ho:o.length<=4294967290)(lvl:Nat)(S:Zc):Sem Uch Zgk lvl [.ag ((Ze b).map .tr),tI ls,iI e,.tr (.sl (rS o))] S (Zw (Jk b (fun l=>g0 ls l.toNat) e o)) S:=by
 obtain⟨n,hn⟩:∃ n:Nat,b.roots=n:=⟨b.roots.toNat,by have:=h.roots;omega⟩
 have hr:=h.roots
 have hsm:=h.small
 have hpar:∀ p,-b.roots<=p->p<=100->(-4294967296<=p/\p<=4294967296)/\(p<0->(-1-p).toNat<(Jx 0 n).length):=fun p h1 h2=>⟨by omega,fun h3=>by rw[rootsN_len];omega⟩
 have hN:∀ x∈b.nodes,x.links.length<=4294967290/\((-4294967296<=x.parent/\x.parent<=4294967296)/\(x.parent<0->(-1-x.parent).toNat<(Jx 0 n).length))/\∀ l∈x.links,0<=l/\l<ls.length:=fun x hx=>by
  obtain⟨k,hk,rfl⟩:=Uao hx
  have hnode:=h.nodes k hk
  have hl:=hsm.links _ hx
  have hnl:=h.nodesL
  refine⟨by omega,hpar _ (Yr hr.1 hnode.par) ?_,fun l hl=>⟨(hnode.links l hl).1,hls l (hnode.links l hl)⟩⟩
  have:=hnode.par
  unfold YC at this
  omega
 have hP:∀ p∈b.sites,(-4294967296<=p/\p<=4294967296)/\(p<0->(-1-p).toNat<(Jx 0 n).length):=fun p hp=>by
  have hu:=h.sites p hp
  have hnl:=h.nodesL
  refine hpar _ (Yr hr.1 hu) ?_
  unfold YC at hu
  omega
 have hW:∀ w∈b.inner,0<=w.link/\w.link<ls.length:=fun w hw=>⟨(h.inner w hw).1,hls _ (h.inner w hw)⟩
 have e1:b.nodes.map (Q0 0 (Jx 0 n) ls)=(Jk b (fun l=>g0 ls l.toNat) e o).nodes:=by
  unfold Jk
  refine UaF fun x hx=>?_
  obtain⟨k,hk,rfl⟩:=Uao hx
  unfold Q0
  rw[Zdk hn (Yr hr.1 (h.nodes k hk).par)]
 have e2:b.sites.map (J4 0 (Jx 0 n))=b.sites:=by
  have:b.sites.map (J4 0 (Jx 0 n))=b.sites.map id:=UaF fun p hp=>Zdk hn (Yr hr.1 (h.sites p hp))
  rw[this,Ucg]
 have s1:=hsm.nodes;have s2:=hsm.sites;have s3:=hsm.inner
 refine Zi ZBj (by simp [Zw,low,men,Za]) ?_
 simp only[ZlK,Ze,hn,Zb,seval,Za,men]
 refine Zf (Zdf 0 n (by omega) (by omega)) ?_
 simp only[Ze,Zb,seval,Za,men]
 have q1:=Za4 b 0 (Jx 0 n) ls (by omega) (by omega) hN
 rw[e1] at q1
 simp only[Ze,hn,Uai,Uaj] at q1
 refine Zf q1 ?_
 simp only[Uaa,Zb,seval,Za,men]
 have q2:=Du b 0 (Jx 0 n) (by omega) (by omega) hP
 rw[e2] at q2
 simp only[Ze,hn,Uai,Uaj] at q2
 refine Zf q2 ?_
 simp only[Qz,QA,Uaa,Zb,seval,Za,men]
 refine⟨by omega,?_⟩
 have q3:=Zdg b ls (by omega) hW
 rw[show b.inner.map (WS ls)=(Jk b (fun l=>g0 ls l.toNat) e o).inner from rfl] at q3
 simp only[Ze,hn,Uai,Uaj] at q3
 refine Zf q3 ?_
 simp only[Uaa,Zb,seval,Za,men]
 rw[<-hn]
 rfl
def JL:TBigraph:=⟨0,[],[],0,[],[]⟩
theorem Znd(sig:List TControl)(b:TBigraph)(hn:sig.length<=4294967296)(hbs:∀ y∈sig,Jc 4294967296 y)(hb:Jj 4294967296 b)(hf:JJ b)(hG:bigOK sig b)(lvl:Nat)(S:Zc):Sem Uch ZaI lvl [.tr (.sl (sig.map Zr)),.ag ((Ze b).map .tr)] S (.tu [.ag ((Ze b).map .tr),iB true]) S:=by
 refine Zi ZlJ (by simp [Ze,low,men,Za]) ?_
 simp only[ZgB,Ze,Zb,seval,Za,men]
 refine Zf (Ut sig b hn hbs hb hf) ?_
 rw[ZY hG]
 simp only[Ze,Zb,seval,Za,men]
theorem Zne(sig:List TControl)(b:TBigraph)(hn:sig.length<=4294967296)(hbs:∀ y∈sig,Jc 4294967296 y)(hb:Jj 4294967296 b)(hf:JJ b)(hG:¬ bigOK sig b)(lvl:Nat)(S:Zc):Sem Uch ZaI lvl [.tr (.sl (sig.map Zr)),.ag ((Ze b).map .tr)] S (.tu [Zw JL,iB false]) S:=by
 refine Zi ZlJ (by simp [Zw,low,men,Za]) ?_
 simp only[ZgB,Ze,Zb,seval,Za,men]
 refine Zf (Ut sig b hn hbs hb hf) ?_
 rw[Zt hG]
 simp only[Ze,Zb,seval,Za,men]
 rfl
def VI(sig:List TControl)(b:TBigraph)(s:ByteArray):Prop:=bigOK sig b/\s∈b.outer/\bigOK sig (YZ b s)
theorem ZC4{b:TBigraph}{s:ByteArray}(h:0<=b.edges):((Qf b s).length:Int)=b.edges+b.outer.length:=by
 unfold Qf V3
 rw[Uad,Uaa,Uaa,VG]
 omega
theorem ZC5{sig:List TControl}{b:TBigraph}{s:ByteArray}(h:bigOK sig b){l:Int}(hl:ZZ b l):0<=g0 (Qf b s) l.toNat/\g0 (Qf b s) l.toNat<=100:=by
 have he:=h.edges
 have ho:=h.outer.2
 unfold Qf
 rcases Qe hl with ⟨h0,h1⟩ | ⟨i,hi,rfl⟩
 ·rw[Xu h0 h1];omega
 ·rw[Xv h.edges.1 hi]
  split
  ·omega
  ·rename_i hne
   have h1:b.outer[i]∈JO b.outer s:=lessN_mem.2 ⟨Uak hi,hne⟩
   have:=ixS_nn.2 h1
   have:=Zdb h1
   have:(JO b.outer s).length<=b.outer.length:=Ubz ..
   omega
theorem Zg4{sig:List TControl}{b:TBigraph}(h:bigOK sig b){F:Int->Int}{e:Int}{o:List ByteArray}(hb:Jj 4294967296 b)(ho:o.length<=100)(hos:∀ y∈o,y.size<=4294967290):Jj 4294967290 (Jk b F e o):=by
 obtain⟨b1,b2,b3,b4,b5,b6,b7⟩:=hb
 have hs:=h.small
 have s1:=hs.nodes;have s2:=hs.sites;have s3:=hs.inner
 refine⟨by simp only[Jk,Uaa];omega,fun y hy=>?_,by simp only[Jk];omega,by simp only[Jk];omega,hos,by simp only[Jk,Uaa];omega,fun y hy=>?_⟩
 ·obtain⟨x,hx,rfl⟩:=Uaq.1 hy
  have:=hs.links x hx
  simp only[Zav,Uaa]
  omega
 ·obtain⟨w,hw,rfl⟩:=Uaq.1 hy
  have hn:w.name∈inn b:=Uaq.2 ⟨w,hw,rfl⟩
  obtain⟨i,hi,hie⟩:=Uao hn
  have:=(h.inn.1 i hi).1.2.2
  rw[hie] at this
  simp only[WO]
  omega
theorem Znf{sig:List TControl}{b:TBigraph}(h:bigOK sig b){F:Int->Int}{e:Int}{o:List ByteArray}(hf:JJ b)(hF:∀ l,ZZ b l->0<=F l/\F l<=100)(he:ZW .i64 e):JJ (Jk b F e o):=by
 obtain⟨f1,f2,f3,f4,f5⟩:=hf
 refine⟨f1,fun y hy=>?_,f3,he,fun y hy=>?_⟩
 ·obtain⟨x,hx,rfl⟩:=Uaq.1 hy
  have hq:=f2 x hx
  obtain⟨i,hi,hie⟩:=Uao hx
  refine⟨hq.1,hq.2.1,fun l hl=>?_⟩
  obtain⟨l0,hl0,rfl⟩:=Uaq.1 hl
  have:=hF l0 ((h.nodes i hi).links l0 (by rw[hie];exact hl0))
  rw[Zg];omega
 ·obtain⟨w,hw,rfl⟩:=Uaq.1 hy
  have:=hF _ (h.inner w hw)
  show ZW .i64 (F w.link)
  rw[Zg];omega
theorem QB{l:List ByteArray}(h:Vf l){s:ByteArray}(hs:s∈l):s.size<=4:=by
 obtain⟨i,hi,rfl⟩:=Uao hs
 exact(h.1 i hi).1.2.2
theorem Zg5{sig:List TControl}{b:TBigraph}{s:ByteArray}(h:bigOK sig b)(hb:Jj 4294967296 b):Jj 4294967290 (YZ b s) :=
 Zg4 h hb (UaI (Ubz ..) (by have:=h.outer.2;omega)) fun y hy=>by
  have:=QB h.outer (lessN_mem.1 hy).1
  omega
theorem Zg6{sig:List TControl}{b:TBigraph}{s:ByteArray}(h:bigOK sig b)(hf:JJ b):JJ (YZ b s) :=
 Znf h hf (fun l hl=>ZC5 h hl) (by have:=h.edges;rw[Zg];omega)
end Go.Fd

namespace Go.Fd
open Go.Proofs.Tryz renaming prog->Uch
set_option maxRecDepth 20000
open Classical in
noncomputable def Xw(sig:List TControl)(b:TBigraph)(s:ByteArray):TBigraph:=if VI sig b s then YZ b s else JL
noncomputable def Xx(sig:List TControl)(b:TBigraph)(s:ByteArray):Bool:=dc (VI sig b s)
theorem VJ{a c:Nat}{b:TBigraph}(h:a<=c)(hb:Jj a b):Jj c b:=by
 obtain⟨b1,b2,b3,b4,b5,b6,b7⟩:=hb
 exact⟨by omega,fun y hy=>UaI (b2 y hy) h,by omega,by omega,fun y hy=>UaI (b5 y hy) h,by omega,fun y hy=>UaI (b7 y hy) h⟩
theorem Q1{sig:List TControl}{b:TBigraph}(h:bigOK sig b):Jj 1000 b:=by
 have hs:=h.small
 have s1:=hs.nodes;have s2:=hs.sites;have s3:=hs.inner;have s4:=hs.outer
 refine⟨by omega,fun y hy=>hs.links y hy,by omega,by omega,fun y hy=>?_,by omega,fun w hw=>?_⟩
 ·have:=QB h.outer hy;omega
 ·have hn:w.name∈inn b:=Uaq.2 ⟨w,hw,rfl⟩
  have:=QB h.inn hn
  simp only[WO]
  omega
theorem ZC6(sig:List TControl)(b:TBigraph)(s:ByteArray)(h:bigOK sig b)(hs:s∈b.outer)(lvl:Nat)(S:Zc):Sem Uch Zgd lvl [.ag ((Ze b).map .tr),iS s] S (Zw (YZ b s)) S:=by
 have hsm:=h.small
 have s4:=hsm.outer
 have he:=h.edges
 have hle:(JO b.outer s).length<=16:=UaI (Ubz ..) s4
 refine Zi ZA5 (by simp [Zw,low,men,Za]) ?_
 simp only[Zlv,Ze,Zb,seval,Za,men]
 refine⟨by rw[Zg];omega,?_⟩
 refine Zf (ZC0 b.outer s (by omega)) ?_
 simp only[Ze,Zb,seval,Za,men]
 have q:=Zdi b (b.edges+1) (JO b.outer s) ZcK [[ts s],Ze b] (Dt b s) he.1 (VJ (by omega) (Q1 h)) (by omega) (by omega) (by omega) (fun x hx l hl=>by
  obtain⟨k,hk,rfl⟩:=Uao hx
  exact(h.nodes k hk).links l hl) h.inner (fun l hl lvl S=>ZC1 b s (Yq b l) lvl S)
 rw[ZCK h hs] at q
 simp only[Ze,Uai,Uaj] at q
 refine Zf q ?_
 simp only[Zw,Uaa,Zb,seval,Za,men]
theorem ZC7(sig:List TControl)(b:TBigraph)(s:ByteArray)(hn:sig.length<=4294967296)(hbs:∀ y∈sig,Jc 4294967296 y)(hb:Jj 4294967296 b)(_hs:s.size<=4294967296)(hf:JJ b)(lvl:Nat)(S:Zc):Sem Uch ZfZ lvl [.tr (.sl (sig.map Zr)),.ag ((Ze b).map .tr),iS s] S (.tu [Zw (Xw sig b s),iB (Xx sig b s)]) S:=by
 refine Zi ZAJ (by simp [Zw,low,men,Za]) ?_
 simp only[Zk9,Ze,Zb,seval,Za,men]
 refine Zf (Uu sig b hn hbs hb) ?_
 unfold Xw Xx
 cases h1:dc (bigOK sig b)
 ·have hno:¬ VI sig b s:=fun g=>dc_not.1 h1 g.1
  rw[if_neg hno,Zt hno]
  simp only[Zb,seval,Za,men]
  rfl
 have hG:=dc_iff.1 h1
 simp only[Ze,Zb,seval,Za,men]
 refine Zf (ZgX b.outer s (by have:=hb.2.2.2.1;omega)) ?_
 cases h2:dc (s∈b.outer)
 ·have hno:¬ VI sig b s:=fun g=>dc_not.1 h2 g.2.1
  rw[if_neg hno,Zt hno]
  simp only[Zb,seval,Za,men]
  rfl
 have hM:=dc_iff.1 h2
 simp only[Ze,Zb,seval,Za,men]
 have q:=ZC6 sig b s hG hM
 simp only[Ze,Uai,Uaj] at q
 refine Zf q ?_
 simp only[Zw,Uaa,Zb,seval,Za,men]
 have qv:=Zdj sig (YZ b s) hn hbs (Zg5 hG hb) (Zg6 hG hf)
 simp only[Ze,Uai,Uaj] at qv
 refine Zf qv ?_
 cases h3:dc (bigOK sig (YZ b s))
 ·have hno:¬ VI sig b s:=fun g=>dc_not.1 h3 g.2.2
  rw[if_neg hno,Zt hno,if_neg (dc_not.1 h3)]
  simp only[Zw,Uaa,Zb,seval,Za,men]
  rfl
 ·have hyes:VI sig b s:=⟨hG,hM,dc_iff.1 h3⟩
  rw[if_pos hyes,ZY hyes,if_pos (dc_iff.1 h3)]
  simp only[Zw,Uaa,Zb,seval,Za,men]
theorem Zng{n:Nat}:YD 0 n=(Z7 n).map fun l=>l:=by simp [YD,Z7]
theorem ZC8{o:List ByteArray}{s:ByteArray}(hp:o.Pairwise ltS)(hs:s∈o){j:Nat}(h:j<o.length):(j:Int)=Jf o s↔o[j]=s:=by
 obtain⟨k,hk,rfl⟩:=Uao hs
 rw[ZCI hp hk]
 constructor
 ·intro e
  have:j=k:=by omega
  subst this;rfl
 ·intro e
  have:=Zm3 hp h hk e
  omega
def Qg(b:TBigraph)(g:ByteArray->Int)(j:Nat):List Int:=(Z7 b.edges.toNat).map (fun l=>l)++(b.outer.take j).map g
theorem ZC9{b:TBigraph}{g:ByteArray->Int}{j:Nat}(h:j<=b.outer.length):(Qg b g j).length=b.edges.toNat+j:=by
 unfold Qg
 rw[Uad,Uaa,Uaa,VG,Uam]
 omega
theorem ZDa{b:TBigraph}{g:ByteArray->Int}{j:Nat}(h:j<b.outer.length):Qg b g (j+1)=Qg b g j++[g b.outer[j]]:=by
 unfold Qg
 rw[Uaf h,Uay,UaA]
 rfl
theorem ZDb(sig:List TControl)(b:TBigraph)(s:ByteArray)(hn:sig.length<=4294967296)(hbs:∀ y∈sig,Jc 4294967296 y)(hb:Jj 4294967296 b)(hf:JJ b)(hno:¬ (bigOK sig b/\s∈b.outer))(lvl:Nat)(S:Zc):Sem Uch Df lvl [.tr (.sl (sig.map Zr)),.ag ((Ze b).map .tr),iS s] S (.tu [Zw JL,iB false]) S:=by
 refine Zi Zlh (by simp [Zw,low,men,Za]) ?_
 simp only[ZgA,Ze,Zb,seval,Za,men]
 refine Zf (Uv b.outer s (by have:=hb.2.2.2.1;omega)) ?_
 simp only[Ze,Zb,seval,Za,men]
 refine Zf (Ut sig b hn hbs hb hf) ?_
 cases h1:dc (bigOK sig b)
 ·simp only[Zb,seval,Za,men]
  rfl
 have hG:=dc_iff.1 h1
 have hm:s ∉ b.outer:=fun g=>hno ⟨hG,g⟩
 have e:=Zda hm
 simp only[e,Zb,seval,Za,men]
 rfl
theorem Znh(sig:List TControl)(b:TBigraph)(s:ByteArray)(hn:sig.length<=4294967296)(hbs:∀ y∈sig,Jc 4294967296 y)(hb:Jj 4294967296 b)(hf:JJ b)(hG:bigOK sig b)(hM:s∈b.outer)
  (lvl:Nat) (S:Zc):Sem Uch Df lvl [.tr (.sl (sig.map Zr)),.ag ((Ze b).map .tr),iS s] S (.tu [@ite IV (bigOK sig (YZ b s)) (Classical.propDecidable _) (.ag ((Ze (YZ b s)).map .tr)) (Zw JL),iB (dc (bigOK sig (YZ b s)))]) S:=by
 have hsm:=hG.small
 have s4:=hsm.outer
 have he:=hG.edges
 have hp:=ZgV hG.outer
 have hix:=ixS_nn.2 hM
 have hle:(JO b.outer s).length<=16:=UaI (Ubz ..) s4
 refine Zi Zlh (by split <;> simp [Zw,Ze,low,men,Za]) ?_
 simp only[ZgA,Ze,Zb,seval,Za,men]
 refine Zf (Uv b.outer s (by omega)) ?_
 simp only[Ze,Zb,seval,Za,men]
 refine Zf (Ut sig b hn hbs hb hf) ?_
 rw[ZY hG]
 have hnl:¬ Jf b.outer s<0:=by omega
 simp only[hnl,Ze,Zb,seval,Za,men]
 refine Zf (ZCO b.outer s (by omega)) ?_
 simp only[Ze,Zb,seval,Za,men]
 obtain⟨n,hn2⟩:∃ n:Nat,b.edges=n:=⟨b.edges.toNat,by omega⟩
 have qE:=Za3 0 n (by omega) (by omega)
 obtain⟨g,hg⟩:∃ g:ByteArray->Int,g=fun x=>if x=s then b.edges else b.edges+1+Jf (JO b.outer s) x:=⟨_,rfl⟩
 have e0:YD 0 n=Qg b g 0:=by
  unfold Qg
  rw[Zng,show b.edges.toNat=n from by omega]
  simp
 rw[<-hn2,e0] at qE
 refine Zf qE ?_
 simp only[Uaa,Zb,seval,Za,men]
 refine ZJ (α:=Unit) b.outer.length (fun j _=>[(10,.hd (lvl,992) [] 0 (Qg b g j).length none (Qg b g j).length),(11,iI j)]) (fun j _=>[(992,.ar 1 (rI (Qg b g j)) true (Qg b g j).length 0)]) (fun _ _=>True) () (by simp only[Zb,seval,Za,men]) (by (simp only[Zb,seval,Za,men]) <;> rfl) trivial ?_
 intro j _ hj _
 simp only[Uaa,Zb,seval,Za,men]
 refine Zs (fun hlt=>?_) (fun hge=>?_)
 ·have hja:j<b.outer.length:=by omega
  have ga:=Yg (e0:=Jd) (c:=fun n:ByteArray=>[ts n]) hja
  rw[J3 hja] at ga
  have htl:=ZC9 (b:=b) (g:=g) hj
  have hs:=ZDa (b:=b) (g:=g) hja
  have hiff:=ZC8 hp hM hja
  by_cases hx:b.outer[j]=s
  ·have hx2:=hiff.2 hx
   have hgx:g b.outer[j]=b.edges:=by rw[hg];simp [hx]
   rw[hgx] at hs
   have hx3:Jf b.outer s=(j:Int):=hx2.symm
   simp only[hx3,Uaa,Zb,seval,Za,men]
   exact⟨by omega,by rw[Zg];omega,Zu () hja (by rw[hs,Uad,Yf];rfl) trivial⟩
  ·have hx3:¬ (j:Int)=Jf b.outer s:=fun e=>hx (hiff.1 e)
   have hgx:g b.outer[j]=b.edges+1+Jf (JO b.outer s) b.outer[j]:=by rw[hg];simp [hx]
   rw[hgx] at hs
   have hm:b.outer[j]∈JO b.outer s:=lessN_mem.2 ⟨Uak hja,hx⟩
   have:=ixS_nn.2 hm
   have:=Zdb hm
   simp only[hx3,ga,hja,Uaa,Zb,seval,Za,men]
   refine⟨by rw[Zg];omega,?_⟩
   refine Zf (Uv (JO b.outer s) b.outer[j] (by omega)) ?_
   simp only[Uaa,Zb,seval,Za,men]
   have:(JO b.outer s).length<=16:=hle
   exact⟨by rw[Zg];omega,by omega,by rw[Zg];omega,Zu () hja (by rw[hs,Uad,Yf];rfl) trivial⟩
 ·have:j=b.outer.length:=by omega
  subst this
  have hfin:Qg b g b.outer.length=Qf b s:=by rw[hg,Qg,Uaw];rfl
  rw[hfin]
  refine⟨by rw[Zg];omega,?_⟩
  rw[show cut (rI (Qf b s)) 0 (Qf b s).length=rI (Qf b s) from Yh (by rw[Uaa])]
  have qR:=ZC3 sig b hG (Qf b s) (b.edges+1) (JO b.outer s) hb (fun l hl=>by rw[ZC4 he.1];have:=hl.2;omega) (by omega)
  rw[show Jk b (fun l=>g0 (Qf b s) l.toNat) (b.edges+1) (JO b.outer s)=YZ b s from rfl] at qR
  simp only[Ze,Uai,Uaj] at qR
  refine Zf qR ?_
  simp only[Zw,Ze,Uaa,Zb,seval,Za,men]
  by_cases hq:bigOK sig (YZ b s)
  ·have qG:=Znd sig (YZ b s) hn hbs (VJ (by omega) (Zg5 hG hb)) (Zg6 hG hf) hq
   simp only[Ze,Uai,Uaj] at qG
   rw[if_pos hq,ZY hq]
   refine Zf qG ?_
   simp only[Zw,Ze,Uaa,Zb,seval,Za,men]
  ·have qG:=Zne sig (YZ b s) hn hbs (VJ (by omega) (Zg5 hG hb)) (Zg6 hG hf) hq
   simp only[Ze,Uai,Uaj] at qG
   rw[if_neg hq,Zt hq]
   refine Zf qG ?_
   simp only[Zw,Ze,Uaa,Zb,seval,Za,men]
   try rfl
theorem ZDc(sig:List TControl)(b:TBigraph)(s:ByteArray)(hn:sig.length<=4294967296)(hbs:∀ y∈sig,Jc 4294967296 y)(hb:Jj 4294967296 b)(_hs:s.size<=4294967296)(hf:JJ b)(hB:VI sig b s)(lvl:Nat)(S:Zc):Sem Uch Df lvl [.tr (.sl (sig.map Zr)),.ag ((Ze b).map .tr),iS s] S (.tu [.ag ((Ze (Xw sig b s)).map .tr),iB (Xx sig b s)]) S:=by
 have h:=Znh sig b s hn hbs hb hf hB.1 hB.2.1 lvl S
 unfold Xw Xx
 rw[if_pos hB,ZY hB]
 rw[if_pos hB.2.2,ZY hB.2.2] at h
 exact h
theorem ZDd(sig:List TControl)(b:TBigraph)(s:ByteArray)(hn:sig.length<=4294967296)(hbs:∀ y∈sig,Jc 4294967296 y)(hb:Jj 4294967296 b)(_hs:s.size<=4294967296)(hf:JJ b)(hB:¬ VI sig b s)(lvl:Nat)(S:Zc):Sem Uch Df lvl [.tr (.sl (sig.map Zr)),.ag ((Ze b).map .tr),iS s] S (.tu [Zw (Xw sig b s),iB (Xx sig b s)]) S:=by
 unfold Xw Xx
 rw[if_neg hB,Zt hB]
 by_cases hl:bigOK sig b/\s∈b.outer
 ·have h:=Znh sig b s hn hbs hb hf hl.1 hl.2 lvl S
  have hq:¬ bigOK sig (YZ b s):=fun g=>hB ⟨hl.1,hl.2,g⟩
  rw[if_neg hq,Zt hq] at h
  exact h
 ·exact ZDb sig b s hn hbs hb hf hl lvl S
end Go.Fd

namespace Go.Fd
open Go.Proofs.Tryz renaming prog->Uch
set_option maxRecDepth 20000
theorem Zg7{n k:Nat}(h:k<n):g0 (Z7 n) k=k:=by
 show (Z7 n).getD k 0=_
 rw[UaH,Z7,Uas,Ubt h]
 simp
theorem Zni(p:Int)(n:Nat)(h:p<n)(lvl:Nat)(S:Zc):Sem Uch Zcp lvl [iI p,tI (Z7 n)] S (iI p) S:=by
 refine Zi ZAD trivial ?_
 simp only[Zk3,Zb,seval,Za,men]
 refine Zs (fun hlt=>?_) (fun hge=>?_)
 ·trivial
 ·obtain⟨k,rfl⟩:∃ k:Nat,p=k:=⟨p.toNat,by omega⟩
  have hk:k<(Z7 n).length:=by rw[VG];omega
  have ga:=YB hk
  rw[Zg7 (by omega)] at ga
  simp only[ga,Zb,seval,Za,men]
  try rfl
theorem Znj(b:TBigraph)(l:Int)(n:Nat)(hn:b.edges=n)(h:0<=l)(lvl:Nat)(S:Zc):Sem Uch Zco lvl [.ag ((Ze b).map .tr),iI l,tI (Z7 n)] S (iI l) S:=by
 refine Zi ZAC trivial ?_
 simp only[Zk2,Ze,hn,Zb,seval,Za,men]
 refine Zs (fun hlt=>?_) (fun hge=>?_)
 ·trivial
 ·obtain⟨k,rfl⟩:∃ k:Nat,l=k:=⟨l.toNat,by omega⟩
  have hk:k<(Z7 n).length:=by rw[VG];omega
  have ga:=YB hk
  rw[Zg7 (by omega)] at ga
  simp only[ga,Zb,seval,Za,men]
  try rfl
def VK(l:List TNode)(j:Nat):Row:=(l.take j).map ZG++List.replicate (l.length-j) [tv 0,tv 0,Tr.sl []]
theorem ZDe{l:List TNode}:List.replicate l.length [tv 0,tv 0,Tr.sl []]=VK l 0:=by simp [VK]
theorem ZDf{l:List TNode}:VK l l.length=l.map ZG:=by simp [VK]
theorem ZDg{l:List TNode}{j:Nat}(h:j<=l.length):(VK l j).length=l.length:=by simp [VK];omega
theorem ZDh{l:List TNode}{j:Nat}(h:j<l.length):(VK l j)[j]? = some [tv 0,tv 0,Tr.sl []]:=by
 have:(((l.take j).map ZG)).length=j:=by rw[Uaa,Uam];omega
 rw[VK,Uar (by omega),this,Ubk]
 rw[if_pos (by omega)]
theorem ZDi{l:List TNode}{j:Nat}(h:j<l.length):(VK l j).set j (ZG l[j])=VK l (j+1):=by
 have e:(((l.take j).map ZG)).length=j:=by rw[Uaa,Uam];omega
 rw[VK,Ubh _ _ (by omega),e,Ubn]
 rw[show l.length-j=(l.length-(j+1))+1 by omega,List.replicate_succ,List.set_cons_zero,VK,Uaf h,Uay,UaA]
 rfl
theorem Zdl{R:Row}{j k:Nat}{e:List Tr}{t:Tr}(h:R[j]? = some e):ZI R [] j k t=R.set j (e.set k t):=by
 simp only[ZI,h]
theorem Zdm{R:Row}{j:Nat}{e:List Tr}(h:j<R.length):(R.set j e)[j]? = some e:=Ube h
theorem ZDj(b:TBigraph)(n E:Nat)(hn:b.nodes.length=n)(hE:b.edges=E)(hbd:Jj 4294967290 b)(hE2:E<=4294967290)(hp:∀ x∈b.nodes,x.parent<n/\∀ l∈x.links,0<=l)(hs:∀ p∈b.sites,p<n)(hw:∀ w∈b.inner,0<=w.link)(lvl:Nat)(S:Zc):Sem Uch ZfM lvl [.ag ((Ze b).map .tr),tI (Z7 n),tI (Z7 E)] S (Zw b) S:=by
 refine Zi ZAl (by simp [Zw,low,men,Za]) ?_
 simp only[ZkP,Ze,Qz,QA,UbV,Uaa,Zb,seval,Za,men]
 obtain⟨b1,b2,b3,b4,b5,b6,b7⟩:=hbd
 refine⟨by omega,by omega,?_⟩
 refine ZJ (α:=Unit) b.nodes.length (fun j _=>[(8,iI j)]) (fun j _=>[(576,.ar 3 (VK b.nodes j) true b.nodes.length j)]) (fun _ _=>True) () (by simp only[Zb,seval,Za,men]) (by (simp only[ZDe,Zb,seval,Za,men]) <;> rfl) trivial ?_
 intro j _ hj _
 simp only[Uaa,Zb,seval,Za,men]
 refine Zs (fun hlt=>?_) (fun hge=>?_)
 ·have hja:j<b.nodes.length:=by omega
  have ga:=Z6 (c:=ZG) hja
  have hkl:b.nodes[j].links.length<=4294967290:=b2 _ (Uak hja)
  obtain⟨p1,p2⟩:=hp _ (Uak hja)
  refine ZJ (α:=Unit) b.nodes[j].links.length (fun k _=>[(9,.hd (lvl,1056) [] 0 k none k),(10,iI k)]) (fun k _=>[(1056,.ar 1 (rI (b.nodes[j].links.take k)) true k 0)]) (fun _ _=>True) () (by simp only[Zb,seval,Za,men]) (by (simp only[Zb,seval,Za,men]) <;> rfl) trivial ?_
  intro k _ hk _
  simp only[ga,ZG,Uaa,Zb,seval,Za,men]
  refine Zs (fun hlt2=>?_) (fun hge2=>?_)
  ·have hka:k<b.nodes[j].links.length:=by omega
   have gl:=YB hka
   have e0:g0 b.nodes[j].links k=b.nodes[j].links[k]:=by simp [hka]
   have hq:=p2 _ (Uak hka)
   rw[<-e0] at hq
   have hl3:(b.nodes[j].links.take k).length=k:=by rw[Uam];omega
   have hs:rI (b.nodes[j].links.take k)++[[tv (g0 b.nodes[j].links k)]]=rI (b.nodes[j].links.take (k+1)):=by
    rw[Uaf hka,Yf,<-e0]
    rfl
   simp only[ga,ZG,gl,hka,hl3,hs,Uaa,Zb,seval,Za,men]
   have q:=Znj b (g0 b.nodes[j].links k) E hE hq
   simp only[Ze,Uai,Uaj] at q
   refine Zf q ?_
   simp only[ga,ZG,gl,hka,hl3,hs,Uaa,Zb,seval,Za,men]
   exact⟨by omega,by rw[Zg];omega,Zu () hka rfl trivial⟩
  ·have:k=b.nodes[j].links.length:=by omega
   subst this
   rw[Uaw]
   rw[<-hn] at p1
   have hj2:(Z7 n).length=n:=VG
   have gu:=YB (l:=Z7 n) (i:=j) (by omega)
   rw[Zg7 (by omega)] at gu
   have q:=Zni b.nodes[j].parent n (by omega)
   have g1:=ZDh hja
   have hfl:=ZDg (Nat.le_of_lt hja)
   have hst:=ZDi hja
   simp only[ga,ZG,gu,g1,hja,Uaa,Zb,seval,Za,men]
   refine Zf q ?_
   have t1:=Zdl (k:=0) (t:=Tr.v (.int .i64 b.nodes[j].control)) g1
   simp only[List.set_cons_zero] at t1
   have t2:=Zdl (k:=1) (t:=Tr.v (.int .i64 b.nodes[j].parent)) (Zdm (e:=[Tr.v (.int .i64 b.nodes[j].control),tv 0,Tr.sl []]) (by rw[hfl];exact hja))
   simp only[List.set_cons_zero,List.set_cons_succ,Ubo] at t2
   have t3:=Zdl (k:=2) (t:=Tr.sl (rI b.nodes[j].links)) (Zdm (e:=[Tr.v (.int .i64 b.nodes[j].control),Tr.v (.int .i64 b.nodes[j].parent),Tr.sl []]) (by rw[hfl];exact hja))
   simp only[List.set_cons_zero,List.set_cons_succ,Ubo] at t3
   have hst':(VK b.nodes j).set j [Tr.v (.int .i64 b.nodes[j].control),Tr.v (.int .i64 b.nodes[j].parent),Tr.sl (rI b.nodes[j].links)]=VK b.nodes (j+1):=hst
   rw[hst'] at t3
   have g2:=Zdm (e:=[Tr.v (.int .i64 b.nodes[j].control),tv 0,Tr.sl []]) (by rw[hfl];exact hja)
   have g3:=Zdm (e:=[Tr.v (.int .i64 b.nodes[j].control),Tr.v (.int .i64 b.nodes[j].parent),Tr.sl []]) (by rw[hfl];exact hja)
   simp only[ga,ZG,gu,g1,g2,g3,t1,t2,t3,hja,Uaa,Zb,seval,Za,men]
   exact⟨by rw[Zg];omega,Zu () hja rfl trivial⟩
 ·have:j=b.nodes.length:=by omega
  subst this
  rw[ZDf]
  refine ZJ (α:=Unit) b.sites.length (fun j _=>[(11,iI j)]) (fun j _=>[(224,.bx [iI b.roots,.hd (lvl,576) [] 0 b.nodes.length none b.nodes.length,.hd (lvl,800) [] 0 j none j,iI b.edges,.hd (lvl,672) [] 0 b.outer.length none b.outer.length,.hd (lvl,801) [] 0 0 none 0]),(800,.ar 1 (rI (b.sites.take j)) true j 0)]) (fun _ _=>True) () (by simp only[Zb,seval,Za,men]) (by (simp only[Zb,seval,Za,men]) <;> rfl) trivial ?_
  intro j _ hj _
  simp only[Uaa,Zb,seval,Za,men]
  refine Zs (fun hlt=>?_) (fun hge=>?_)
  ·have hja:j<b.sites.length:=by omega
   have ga:=YB hja
   have e0:g0 b.sites j=b.sites[j]:=by simp [hja]
   have hq:=hs _ (Uak hja)
   rw[<-e0] at hq
   have hl3:(b.sites.take j).length=j:=by rw[Uam];omega
   have hs:rI (b.sites.take j)++[[tv (g0 b.sites j)]]=rI (b.sites.take (j+1)):=by
    rw[Uaf hja,Yf,<-e0]
    rfl
   simp only[ga,hja,hl3,hs,Uaa,Zb,seval,Za,men]
   refine Zf (Zni (g0 b.sites j) n hq) ?_
   simp only[ga,hja,hl3,hs,Uaa,Zb,seval,Za,men]
   exact⟨by omega,by rw[Zg];omega,Zu () hja rfl trivial⟩
  ·have:j=b.sites.length:=by omega
   subst this
   rw[Uaw]
   refine ZJ (α:=Unit) b.inner.length (fun j _=>[(12,iI j)]) (fun j _=>[(224,.bx [iI b.roots,.hd (lvl,576) [] 0 b.nodes.length none b.nodes.length,.hd (lvl,800) [] 0 b.sites.length none b.sites.length,iI b.edges,.hd (lvl,672) [] 0 b.outer.length none b.outer.length,.hd (lvl,801) [] 0 j none j]),(801,.ar 2 ((b.inner.take j).map ZO) true j 0)]) (fun _ _=>True) () (by simp only[Zb,seval,Za,men]) (by (simp only[Zb,seval,Za,men]) <;> rfl) trivial ?_
   intro j _ hj _
   simp only[Uaa,Zb,seval,Za,men]
   refine Zs (fun hlt=>?_) (fun hge=>?_)
   ·have hja:j<b.inner.length:=by omega
    have ga:=Z6 (c:=ZO) hja
    have hq:=hw _ (Uak hja)
    have hl3:(b.inner.take j).length=j:=by rw[Uam];omega
    have hs:(b.inner.take j).map ZO++[[ts b.inner[j].name,tv b.inner[j].link]]=(b.inner.take (j+1)).map ZO:=by
     rw[Uaf hja,Uay]
     rfl
    simp only[ga,ZO,hja,hl3,hs,Uaa,Zb,seval,Za,men]
    have q:=Znj b b.inner[j].link E hE hq
    simp only[Ze,Uai,Uaj] at q
    refine Zf q ?_
    simp only[ga,ZO,hja,hl3,hs,Uaa,Zb,seval,Za,men]
    exact⟨by omega,by rw[Zg];omega,Zu () hja rfl trivial⟩
   ·have:j=b.inner.length:=by omega
    subst this
    rw[Uaw]
    exact⟨rfl,rfl⟩
theorem Zg8(b:TBigraph)(E:Nat)(hE:b.edges=E)(hbd:Jj 4294967290 b)(hE2:E<=4294967290)(hp:∀ x∈b.nodes,x.parent<b.nodes.length/\∀ l∈x.links,0<=l)(hs:∀ p∈b.sites,p<b.nodes.length)(hw:∀ w∈b.inner,0<=w.link)(lvl:Nat)(S:Zc):Sem Uch U9 lvl [.ag ((Ze b).map .tr)] S (Zw b) S:=by
 refine Zi ZAa (by simp [Zw,low,men,Za]) ?_
 simp only[ZkG,Ze,Uaa,Zb,seval,Za,men]
 have b1:=hbd.1
 refine ZJ (α:=Unit) b.nodes.length (fun j _=>[(3,.hd (lvl,224) [] 0 j none j),(5,iI j)]) (fun j _=>[(224,.ar 1 (rI (Z7 j)) true j 0)]) (fun _ _=>True) () (by simp only[Zb,seval,Za,men]) (by (simp only[Zb,seval,Za,men]) <;> rfl) trivial ?_
 intro j _ hj _
 simp only[Uaa,Zb,seval,Za,men]
 refine Zs (fun hlt=>?_) (fun hge=>?_)
 ·have hja:j<b.nodes.length:=by omega
  have hl:(Z7 j).length=j:=VG
  have hs:rI (Z7 j)++[[tv (j:Int)]]=rI (Z7 (j+1)):=by simp [Z7,rI,Ucb]
  simp only[hja,hl,hs,Uaa,Zb,seval,Za,men]
  exact⟨by omega,by rw[Zg];omega,Zu () hja rfl trivial⟩
 ·have:j=b.nodes.length:=by omega
  subst this
  refine ZJ (α:=Unit) E (fun j _=>[(4,.hd (lvl,256) [] 0 j none j),(6,iI j)]) (fun j _=>[(256,.ar 1 (rI (Z7 j)) true j 0)]) (fun _ _=>True) () (by simp only[Zb,seval,Za,men]) (by (simp only[Zb,seval,Za,men]) <;> rfl) trivial ?_
  intro j _ hj _
  simp only[hE,Uaa,Zb,seval,Za,men]
  refine Zs (fun hlt=>?_) (fun hge=>?_)
  ·have hja:j<E:=by omega
   have hl:(Z7 j).length=j:=VG
   have hs:rI (Z7 j)++[[tv (j:Int)]]=rI (Z7 (j+1)):=by simp [Z7,rI,Ucb]
   simp only[hja,hl,hs,Uaa,Zb,seval,Za,men]
   exact⟨by omega,by rw[Zg];omega,Zu () hja rfl trivial⟩
  ·have:j=E:=by omega
   subst this
   have l1:(Z7 b.nodes.length).length=b.nodes.length:=VG
   have l2:(Z7 j).length=j:=VG
   have q:=ZDj b b.nodes.length j rfl hE hbd hE2 hp hs hw
   simp only[Ze,Uai,Uaj,hE] at q
   rw[show cut (rI (Z7 b.nodes.length)) 0 b.nodes.length=rI (Z7 b.nodes.length) from Yh (by rw[Uaa,l1]),show cut (rI (Z7 j)) 0 j=rI (Z7 j) from Yh (by rw[Uaa,l2])]
   refine⟨by omega,by omega,Zf q ?_⟩
   simp only[Zw,hE,Uaa,Zb,seval,Za,men]
   try rfl
theorem ZDk{F:Int->Int}{l:List TNode}{j:Nat}(h:j<l.length):(Jr F l j).set j ⟨l[j].control,l[j].parent,Jl F l[j].links 0⟩=Jr F l j:=by
 have:(⟨l[j].control,l[j].parent,Jl F l[j].links 0⟩:TNode)=l[j]:=by simp [Jl]
 rw[this]
 have hl:j<(Jr F l j).length:=by rw[Zdh];exact h
 have e:l[j]=(Jr F l j)[j]:=by
  have:=Zg1 (F:=F) h
  rw[Uah hl] at this
  exact(UaC this).symm
 rw[e]
 exact UbA hl
theorem ZDl{F:Int->Int}{l:List Int}{k:Nat}(h:k<l.length)(hf:F (g0 l k)=g0 l k):Jl F l (k+1)=Jl F l k:=by
 rw[<-Zg0 h,hf]
 have e:g0 l k=(Jl F l k)[k]'(by rw[Za6];exact h):=by
  have:=ZgZ (F:=F) h
  rw[<-this]
  simp [Za6,h]
 rw[e]
 exact UbA _
theorem ZDm{F:Int->Int}{l:List TWire}{j:Nat}(h:j<l.length)(hf:F l[j].link=l[j].link):Yy F l (j+1)=Yy F l j:=by
 rw[<-Zg3 h]
 have hl:j<(Yy F l j).length:=by rw[ZCW];exact h
 have e:JF F l[j]=(Yy F l j)[j]:=by
  have:=Zg2 (F:=F) h
  rw[Uah hl] at this
  rw[UaC this,JF,hf]
 rw[e]
 exact UbA hl
def Xy(b:TBigraph)(names o:List ByteArray)(l:Int):Int:=if b.edges<=l then b.edges+Jf o (gS names (l-b.edges).toNat) else l
theorem ZDn(b:TBigraph)(names o:List ByteArray)(E:Nat)(hE:b.edges=E)(hbd:Jj 4294967290 b)(hE2:E<=4294967290)(hp:∀ x∈b.nodes,x.parent<b.nodes.length/\∀ l∈x.links,0<=l/\l<E+names.length)(hs:∀ p∈b.sites,p<b.nodes.length)(hw:∀ w∈b.inner,0<=w.link/\w.link<E+names.length)(hn:names.length<=4294967290)(ho:o.length<=4294967290)(lvl:Nat)(S:Zc):Sem Uch Zcz lvl [.ag ((Ze b).map .tr),.tr (.sl (rS names)),.tr (.sl (rS o))] S (Zw (Jk b (Xy b names o) b.edges o)) S:=by
 refine Zi ZBk (by simp [Zw,low,men,Za]) ?_
 simp only[ZlL,Ze,Uaa,Zb,seval,Za,men]
 have q:=Zg8 b E hE hbd hE2 (fun x hx=>⟨(hp x hx).1,fun l hl=>((hp x hx).2 l hl).1⟩) hs (fun w hh=>(hw w hh).1)
 simp only[Ze,Uai,Uaj] at q
 refine Zf q ?_
 simp only[Zw,Ze,Qz,QA,UbV,Uaa,Zb,seval,Za,men]
 obtain⟨b1,b2,b3,b4,b5,b6,b7⟩:=hbd
 refine⟨by omega,?_⟩
 have hFdef:∃ F,F=Xy b names o:=⟨_,rfl⟩
 obtain⟨F,hF⟩:=hFdef
 rw[<-hF]
 refine ZJ (α:=Unit) b.nodes.length (fun j _=>[(8,iI j)]) (fun j _=>[(448,.ar 3 ((Jr F b.nodes j).map ZG) true b.nodes.length 0)]) (fun _ _=>True) () (by simp only[Ye,Zb,seval,Za,men]) (by (simp only[Zb,seval,Za,men]) <;> rfl) trivial ?_
 intro j _ hj _
 simp only[Uaa,Zb,seval,Za,men]
 refine Zs (fun hlt=>?_) (fun hge=>?_)
 ·have hja:j<b.nodes.length:=by omega
  have gp:=Zg1 (F:=F) hja
  have ga:((Jr F b.nodes j).map ZG)[j]? = some [Tr.v (.int .i64 b.nodes[j].control),Tr.v (.int .i64 b.nodes[j].parent),Tr.sl (rI b.nodes[j].links)]:=by rw[Uas,gp];rfl
  have hkl:b.nodes[j].links.length<=4294967290:=b2 _ (Uak hja)
  have e0:(Jr F b.nodes j).set j ⟨b.nodes[j].control,b.nodes[j].parent,Jl F b.nodes[j].links 0⟩=Jr F b.nodes j:=ZDk hja
  refine ZJ (α:=Unit) b.nodes[j].links.length (fun k _=>[(9,iI k)]) (fun k _=>[(448,.ar 3 (((Jr F b.nodes j).set j ⟨b.nodes[j].control,b.nodes[j].parent,Jl F b.nodes[j].links k⟩).map ZG) true b.nodes.length 0)]) (fun _ _=>True) () (by simp only[Ye,Zb,seval,Za,men]) (by (simp only[e0,Zb,seval,Za,men]) <;> rfl) trivial ?_
  intro k _ hk _
  have gq:((Jr F b.nodes j).set j ⟨b.nodes[j].control,b.nodes[j].parent,Jl F b.nodes[j].links k⟩)[j]? = some ⟨b.nodes[j].control,b.nodes[j].parent,Jl F b.nodes[j].links k⟩:=by
   rw[Ube (by rw[Zdh];exact hja)]
  have hgp:(((Jr F b.nodes j).set j ⟨b.nodes[j].control,b.nodes[j].parent,Jl F b.nodes[j].links k⟩).map ZG)[j]? = some [Tr.v (.int .i64 b.nodes[j].control),Tr.v (.int .i64 b.nodes[j].parent),Tr.sl (rI (Jl F b.nodes[j].links k))]:=by rw[Uas,gq];rfl
  simp only[hgp,hja,Uaa,Zb,seval,Za,men]
  refine Zs (fun hlt2=>?_) (fun hge2=>?_)
  ·have hpl:=Za6 (F:=F) (l:=b.nodes[j].links) (k:=k)
   have hka:k<b.nodes[j].links.length:=by omega
   have gk:(rI (Jl F b.nodes[j].links k))[k]? = some [tv (g0 b.nodes[j].links k)]:=by rw[YB (by omega),ZgZ hka]
   have hlk:=(hp _ (Uak hja)).2 _ (show g0 b.nodes[j].links k∈b.nodes[j].links by simp [hka])
   have hsp:=Znb (v:=F (g0 b.nodes[j].links k)) gq (k:=k) (by show k<(Jl F b.nodes[j].links k).length;omega)
   have hst:((Jr F b.nodes j).set j ⟨b.nodes[j].control,b.nodes[j].parent,Jl F b.nodes[j].links k⟩).set j ⟨b.nodes[j].control,b.nodes[j].parent,(Jl F b.nodes[j].links k).set k (F (g0 b.nodes[j].links k))⟩=(Jr F b.nodes j).set j ⟨b.nodes[j].control,b.nodes[j].parent,Jl F b.nodes[j].links (k+1)⟩:=by
    rw[Ubo,Zg0 hka]
   rw[hst] at hsp
   simp only[hgp,gk,hja,hka,hpl,Uax,Uaa,Zb,seval,Za,men]
   refine Zs (fun hl1=>?_) (fun hl1=>?_)
   ·obtain⟨i,hi⟩:∃ i:Nat,g0 b.nodes[j].links k-b.edges=i:=⟨(g0 b.nodes[j].links k-b.edges).toNat,by omega⟩
    have hin:i<names.length:=by omega
    have gn:=Yg (e0:=Jd) (c:=fun n:ByteArray=>[ts n]) hin
    have hFe:F (g0 b.nodes[j].links k)=b.edges+Jf o (gS names i):=by rw[hF,Xy,if_pos hl1,hi,Int.toNat_natCast]
    have x1:=Uw (l:=o) (s:=gS names i)
    have x2:=WT (l:=o) (s:=gS names i)
    rw[hFe] at hsp
    simp only[hgp,gk,hja,hka,hpl,hi,gn,hin,Uax,Uaa,Zb,seval,Za,men]
    refine⟨by rw[Zg];omega,?_⟩
    refine Zf (Uv o (gS names i) (by omega)) ?_
    simp only[hgp,gk,hja,hka,hpl,hsp,Ye,Uax,Uaa,Zb,seval,Za,men]
    exact⟨by rw[Zg];omega,by rw[Zg];omega,Zu () hka rfl trivial⟩
   ·have hFe:F (g0 b.nodes[j].links k)=g0 b.nodes[j].links k:=by rw[hF,Xy,if_neg hl1]
    exact⟨by rw[Zg];omega,Zu () hka (by rw[ZDl hka hFe];rfl) trivial⟩
  ·have:k=b.nodes[j].links.length:=by
    have hpl:=Za6 (F:=F) (l:=b.nodes[j].links) (k:=k)
    omega
   subst this
   have hst:(Jr F b.nodes j).set j ⟨b.nodes[j].control,b.nodes[j].parent,Jl F b.nodes[j].links b.nodes[j].links.length⟩=Jr F b.nodes (j+1):=by
    rw[<-Zna hja]
    congr 1
    simp [VH,Jl]
   rw[hst]
   exact⟨by rw[Zg];omega,Zu () hja rfl trivial⟩
 ·have:j=b.nodes.length:=by omega
  subst this
  have hpn:Jr F b.nodes b.nodes.length=(Jk b F b.edges o).nodes:=by simp [Jr,Jk,VH]
  rw[hpn]
  refine ZJ (α:=Unit) b.inner.length (fun j _=>[(11,iI j)]) (fun j _=>[(451,.ar 2 ((Yy F b.inner j).map ZO) true b.inner.length 0)]) (fun _ _=>True) () (by simp only[Ye,Zb,seval,Za,men]) (by (simp only[Zb,seval,Za,men]) <;> rfl) trivial ?_
  intro j _ hj _
  simp only[Uaa,Zb,seval,Za,men]
  refine Zs (fun hlt=>?_) (fun hge=>?_)
  ·have hja:j<b.inner.length:=by omega
   have gp:=Zg2 (F:=F) hja
   have ga:((Yy F b.inner j).map ZO)[j]? = some [ts b.inner[j].name,tv b.inner[j].link]:=by rw[Uas,gp];rfl
   have hsp:ZI ((Yy F b.inner j).map ZO) [] j 1 (.v (.int .i64 (F b.inner[j].link)))=(Yy F b.inner (j+1)).map ZO:=by
    simp only[ZI]
    rw[ga,<-Zg3 hja,UbJ]
    rfl
   have hlk:=hw _ (Uak hja)
   simp only[ga,hja,Uax,Uaa,Zb,seval,Za,men]
   refine Zs (fun hl1=>?_) (fun hl1=>?_)
   ·obtain⟨i,hi⟩:∃ i:Nat,b.inner[j].link-b.edges=i:=⟨(b.inner[j].link-b.edges).toNat,by omega⟩
    have hin:i<names.length:=by omega
    have gn:=Yg (e0:=Jd) (c:=fun n:ByteArray=>[ts n]) hin
    have hFe:F b.inner[j].link=b.edges+Jf o (gS names i):=by rw[hF,Xy,if_pos hl1,hi,Int.toNat_natCast]
    have x1:=Uw (l:=o) (s:=gS names i)
    have x2:=WT (l:=o) (s:=gS names i)
    rw[hFe] at hsp
    simp only[ga,hja,hi,gn,hin,Uax,Uaa,Zb,seval,Za,men]
    refine⟨by rw[Zg];omega,?_⟩
    refine Zf (Uv o (gS names i) (by omega)) ?_
    simp only[ga,hja,hsp,Ye,Uax,Uaa,Zb,seval,Za,men]
    exact⟨by rw[Zg];omega,by rw[Zg];omega,Zu () hja rfl trivial⟩
   ·have hFe:F b.inner[j].link=b.inner[j].link:=by rw[hF,Xy,if_neg hl1]
    exact⟨by rw[Zg];omega,Zu () hja (by rw[ZDm hja hFe];rfl) trivial⟩
  ·have:j=b.inner.length:=by omega
   subst this
   have hpw:Yy F b.inner b.inner.length=(Jk b F b.edges o).inner:=by simp [Yy,Jk,JF]
   rw[hpw]
   exact⟨by simp [Jk],by simp [Jk],rfl⟩
theorem Xz{sig:List TControl}{b:TBigraph}(h:bigOK sig b){x:TNode}(hx:x∈b.nodes):x.parent<b.nodes.length/\∀ l∈x.links,0<=l/\l<b.edges+b.outer.length:=by
 obtain⟨k,hk,rfl⟩:=Uao hx
 have q:=h.nodes k hk
 refine⟨?_,fun l hl=>?_⟩
 ·rcases q.par with p | p <;> omega
 ·have:=q.links l hl
  unfold ZZ at this
  omega
theorem XA{sig:List TControl}{b:TBigraph}(h:bigOK sig b){p:Int}(hp:p∈b.sites):p<b.nodes.length:=by
 rcases h.sites p hp with q | q <;> omega
theorem ZDo(sig:List TControl)(b:TBigraph)(h:bigOK sig b)(lvl:Nat)(S:Zc):Sem Uch U9 lvl [.ag ((Ze b).map .tr)] S (Zw b) S:=by
 have he:=h.edges
 exact Zg8 b b.edges.toNat (by omega) (VJ (by omega) (Q1 h)) (by omega) (fun x hx=>⟨(Xz h hx).1,fun l hl=>((Xz h hx).2 l hl).1⟩) (fun p hp=>XA h hp) (fun w hw=>(h.inner w hw).1) lvl S
theorem ZDp(sig:List TControl)(b:TBigraph)(h:bigOK sig b)(names o:List ByteArray)(hn:names.length=b.outer.length)(ho:o.length<=4294967290)(lvl:Nat)(S:Zc):Sem Uch Zcz lvl [.ag ((Ze b).map .tr),.tr (.sl (rS names)),.tr (.sl (rS o))] S (Zw (Jk b (Xy b names o) b.edges o)) S:=by
 have he:=h.edges
 have h4:=h.small.outer
 refine ZDn b names o b.edges.toNat (by omega) (VJ (by omega) (Q1 h)) (by omega) (fun x hx=>⟨(Xz h hx).1,fun l hl=>?_⟩) (fun p hp=>XA h hp) (fun w hw=>?_) (by omega) ho lvl S
 ·have:=(Xz h hx).2 l hl
  omega
 ·have:=h.inner w hw
  unfold ZZ at this
  omega
theorem ZDq{O:List ByteArray}{x:ByteArray}{k:Nat}(hp:O.Pairwise ltS)(h1:∀ y∈O.take k,ltS y x)(h2:∀ y∈O.drop k,ltS x y):(O.take k++([x]++O.drop k)).Pairwise ltS:=by
 refine Ua9.2 ⟨hp.sublist (List.take_sublist ..),Ua9.2 ⟨List.pairwise_singleton ..,hp.sublist (List.drop_sublist ..),fun a ha b hb=>?_⟩,fun a ha b hb=>?_⟩
 ·rw[UaN.1 ha];exact h2 b hb
 ·rcases Uap.1 hb with hb | hb
  ·rw[UaN.1 hb];exact h1 a ha
  ·have q:=hp
   rw[<-Ua8 k O] at q
   exact(Ua9.1 q).2.2 a ha b hb
theorem Zdn{l:List ByteArray}:(ZM l).Pairwise ltS:=ZmR ordsS
theorem setS_mem{l:List ByteArray}{c:ByteArray}:c∈ZM l↔c∈l:=setG_mem
theorem Dv{l:List ByteArray}:(ZM l).length<=l.length:=ZmS
theorem Znk{l:List ByteArray}{i k:Nat}(hi:i<l.length)(h1:∀ y∈(ZM (l.take i)).take k,ltS y l[i])(h2:∀ y∈(ZM (l.take i)).drop k,ltS l[i] y):ZM (l.take (i+1))=(ZM (l.take i)).take k++([l[i]]++(ZM (l.take i)).drop k):=by
 refine Zc8 ordsS (ZDq Zdn h1 h2) fun c=>?_
 rw[Uaf hi]
 have e:c∈ZM (l.take i)↔c∈l.take i:=setS_mem
 rw[<-Ua8 k (ZM (l.take i)),Uap] at e
 simp only[Uap,<-e]
 constructor
 ·rintro((h | h) | h)
  ·exact .inl h
  ·exact .inr (.inr h)
  ·exact .inr (.inl h)
 ·rintro(h | h | h)
  ·exact .inl (.inl h)
  ·exact .inr h
  ·exact .inl (.inr h)
theorem ZDr{l:List ByteArray}{i:Nat}(hi:i<l.length)(h:l[i]∈ZM (l.take i)):ZM (l.take (i+1))=ZM (l.take i):=by
 refine Zc8 ordsS Zdn fun c=>?_
 rw[Uaf hi,Uap,setS_mem]
 constructor
 ·rintro(h2 | h2)
  ·exact h2
  ·rw[UaN.1 h2];exact setS_mem.1 h
 ·exact .inl
theorem Znl{l:List ByteArray}{j:Nat}:cut (rS l) 0 (j-0)=rS (l.take j):=by simp [cut,rS,UbK]
theorem Znm{l:List ByteArray}{j:Nat}:cut (rS l) j (l.length-j)=rS (l.drop j):=by
 simp only[cut,rS,<-List.map_drop]
 rw[<-UbK,Uau (by rw[UaW];omega)]
theorem Znn{a b:List ByteArray}{x:ByteArray}:rS a++[[Tr.v (Value.string x)]]++rS b=rS (a++([x]++b)):=by simp [rS]
theorem Zno{a:List ByteArray}:(rS a).length=a.length:=by simp [rS]
theorem ZDs:ZM []=[]:=Zc8 ordsS List.Pairwise.nil fun c=>Uby
theorem Zdo(l:List ByteArray)(hl:l.length<=4294967290)(lvl:Nat)(S:Zc):Sem Uch De lvl [.tr (.sl (rS l))] S (.ow 1 (rS (ZM l)) true) S:=by
 refine Zi ZAO (by simp [low,men,Za]) ?_
 simp only[Zld,Uaa,Zb,seval,Za,men]
 refine ZJ (α:=Unit) l.length (fun j _=>[(3,.hd (lvl,96) [] 0 (ZM (l.take j)).length none (ZM (l.take j)).length),(4,iI j)]) (fun j _=>[(96,.ar 1 (rS (ZM (l.take j))) true (ZM (l.take j)).length 0)]) (fun _ _=>True) () (by simp only[Zb,seval,Za,men]) (by rw[List.take_zero,ZDs]; (simp only[Zb,seval,Za,men]) <;> rfl) trivial ?_
 intro j _ hj _
 simp only[Uaa,Zb,seval,Za,men]
 refine Zs (fun hlt=>?_) (fun hge=>?_)
 ·have hja:j<l.length:=by omega
  have ga:=Yg (e0:=Jd) (c:=fun n:ByteArray=>[ts n]) hja
  rw[J3 hja] at ga
  obtain⟨O,hO⟩:∃ O,O=ZM (l.take j):=⟨_,rfl⟩
  have hOl:O.length<=j:=by rw[hO];exact UaI Dv (by rw[Uam];omega)
  have hOp:O.Pairwise ltS:=by rw[hO];exact Zdn
  rw[<-hO]
  refine ZJ (α:=Unit) O.length (fun k _=>[(5,iI k)]) (fun _ _=>[]) (fun k _=>∀ y∈O.take k,ltS y l[j]) () (by simp only[Zb,seval,Za,men]) (by (simp only[Zb,seval,Za,men]) <;> rfl) (by simp) ?_
  intro k _ hk hK
  simp only[Uaa,Zb,seval,Za,men]
  refine Zs (fun hlt2=>?_) (fun hge2=>?_)
  ·have hka:k<O.length:=by omega
   have gk:=Yg (e0:=Jd) (c:=fun n:ByteArray=>[ts n]) hka
   rw[J3 hka] at gk
   have hm:min k O.length=k:=by omega
   have hq1:k+1+(O.length-k)=O.length+1:=by omega
   have hq2:max (max (max 0 k) (k+1)) (O.length+1)=O.length+1:=by omega
   have hq3:k+(O.length-k)=O.length:=by omega
   simp only[ga,gk,hja,hka,hm,hq1,hq2,hq3,Znl,Znm,Qz,QA,Znn,Zno,Uad,Uam,UaW,Uaa,Zb,seval,Za,men]
   refine Zs (fun h1=>?_) (fun h1=>?_)
   ·exact⟨by rw[Zg];omega,Zu () hka rfl fun y hy=>by
     rw[Uaf hka] at hy
     rcases Uap.1 hy with hy | hy
     ·exact hK y hy
     ·rw[UaN.1 hy];exact h1⟩
   ·have hkn:decide ((k:Int)=(O.length:Int))=false:=by simp;omega
    rw[if_pos hkn]
    refine Zs (fun h2=>?_) (fun h2=>?_)
    ·have h3:ltS l[j] O[k]:=by
      rcases ordsS.tri l[j] O[k] with q | q | q
      ·exact q
      ·exact absurd q.symm h2
      ·exact absurd q h1
     have hput:=Znk (k:=k) hja (by rw[<-hO];exact hK) (by
      rw[<-hO]
      intro y hy
      rw[UaJ hka] at hy
      rcases UaE.1 hy with rfl | hy
      ·exact h3
      ·have q:=hOp
       rw[<-Ua8 k O,UaJ hka] at q
       exact ordsS.tr _ _ _ h3 ((Ua5.1 (Ua9.1 q).2.1).1 y hy))
     rw[<-hO] at hput
     have hpl:(O.take k++([l[j]]++O.drop k)).length=O.length+1:=by
      simp only[Uad,Uam,UaW,List.length_cons,List.length_nil]
      omega
     have hfit:ZW .i64 ((j:Int)+1):=by rw[Zg];omega
     and_intros
     all_goals try first | omega | exact fun _=>trivial
     ·exact hfit.1
     ·exact hfit.2
     ·exact Zu () hja (by rw[hput,hpl];rfl) trivial
    ·have hkeep:=ZDr hja (by rw[<-hO,<-(Classical.not_not.1 h2)];exact Uak hka)
     rw[<-hO] at hkeep
     exact⟨by rw[Zg];omega,Zu () hja (by rw[hkeep];rfl) trivial⟩
  ·have:k=O.length:=by omega
   subst this
   have hq1:O.length+1+(O.length-O.length)=O.length+1:=by omega
   have hq2:max (max (max 0 O.length) (O.length+1)) (O.length+1)=O.length+1:=by omega
   simp only[ga,hja,hq1,hq2,Znl,Znm,Qz,QA,Znn,Zno,Uad,Uam,UaW,Uaa,Zb,seval,Za,men]
   have hput:=Znk (k:=O.length) hja (by rw[<-hO];exact hK) (by
    rw[<-hO,Ubv]
    intro y hy
    cases hy)
   rw[<-hO] at hput
   rw[Uaw] at hput
   have hpl:(O++([l[j]]++O.drop O.length)).length=O.length+1:=by
    simp only[Uad,UaW,List.length_cons,List.length_nil]
    omega
   have hfit:ZW .i64 ((j:Int)+1):=by rw[Zg];omega
   and_intros
   all_goals try first | omega | exact fun _=>trivial
   ·exact hfit.1
   ·exact hfit.2
   ·exact Zu () hja (by rw[hput,hpl];rfl) trivial
 ·have:j=l.length:=by omega
  subst this
  rw[Uaw]
theorem Za7(names:List ByteArray)(e:Int)(o:List ByteArray)(hn:names.length<=4294967290)(he:-4294967296<=e/\e<=4294967296)(ho:o.length<=4294967290)(lvl:Nat)(S:Zc):Sem Uch Ul lvl [.tr (.sl (rS names)),iI e,.tr (.sl (rS o))] S (.ow 1 (rI (names.map fun x=>e+Jf o x)) true) S:=by
 refine Zi ZAP trivial ?_
 simp only[Zle,Uaa,Zb,seval,Za,men]
 refine ZJ (α:=Unit) names.length (fun j _=>[(7,.hd (lvl,288) [] 0 j none j),(8,iI j)]) (fun j _=>[(288,.ar 1 (rI ((names.take j).map fun x=>e+Jf o x)) true j 0)]) (fun _ _=>True) () (by simp only[Zb,seval,Za,men]) (by (simp only[Zb,seval,Za,men]) <;> rfl) trivial ?_
 intro j _ hj _
 simp only[Uaa,Zb,seval,Za,men]
 refine Zs (fun hlt=>?_) (fun hge=>?_)
 ·have hja:j<names.length:=by omega
  have ga:=Yg (e0:=Jd) (c:=fun n:ByteArray=>[ts n]) hja
  rw[J3 hja] at ga
  have hl2:(names.take j).length=j:=by rw[Uam];omega
  have x1:=Uw (l:=o) (s:=names[j])
  have x2:=WT (l:=o) (s:=names[j])
  have hs:rI ((names.take j).map fun x=>e+Jf o x)++[[tv (e+Jf o names[j])]]=rI ((names.take (j+1)).map fun x=>e+Jf o x):=by
   rw[Uaf hja,Uay,Yf]
   rfl
  simp only[ga,hja,Uaa,Zb,seval,Za,men]
  refine Zf (Uv o names[j] (by omega)) ?_
  simp only[ga,hja,hl2,hs,Uaa,Zb,seval,Za,men]
  exact⟨by rw[Zg];omega,by omega,by rw[Zg];omega,Zu () hja rfl trivial⟩
 ·have:j=names.length:=by omega
  subst this
  rw[Uaw]
  exact⟨by simp,rfl⟩
theorem ZDt{b:TBigraph}{l:Int}(he:0<=b.edges/\b.edges<=8)(hl:ZZ b l):-4294967296<=(Yq b l).1/\(Yq b l).1<=4294967296:=by
 rcases Qe hl with ⟨h0,h1⟩ | ⟨i,hi,rfl⟩
 ·rw[Dr h1];dsimp only;omega
 ·rw[Ds hi];dsimp only;omega
theorem ZDu{sig:List TControl}{b:TBigraph}(h:bigOK sig b){F:Int->Int}{e:Int}{o:List ByteArray}(ho:o.length<=100)(hos:∀ y∈o,y.size<=4294967296):Jj 4294967296 (Jk b F e o):=by
 obtain⟨b1,b2,b3,b4,b5,b6,b7⟩:=Zg4 (F:=F) (e:=e) (o:=[]) h (VJ (by omega) (Q1 h)) (by simp) (by simp)
 refine⟨UaI (show (Jk b F e o).nodes.length<=4294967290 from b1) (by omega),fun y hy=>?_,UaI (show (Jk b F e o).sites.length<=4294967290 from b3) (by omega),by show o.length<=_;omega,hos,UaI (show (Jk b F e o).inner.length<=4294967290 from b6) (by omega),fun y hy=>?_⟩
 ·have:=b2 y hy
  simp only[Zav] at this ⊢
  omega
 ·have:=b7 y hy
  simp only[WO] at this ⊢
  omega
def Vg(a b:TBigraph)(roots:Int)(ss:List Int)(o:List ByteArray)(FL FR mv:Int->Int):TBigraph :=
 ⟨roots,a.nodes.map (VH FL)++b.nodes.map (fun x=>⟨x.control,mv x.parent,x.links.map FR⟩),ss++b.sites.map mv,a.edges+b.edges,o,b.inner.map (JF FR)⟩
theorem Znp{sig:List TControl}{a b:TBigraph}(ha:bigOK sig a)(hb:bigOK sig b){roots:Int}{ss:List Int}{o:List ByteArray}{FL FR mv FL' FR' mv':Int->Int}(hL:∀ l,ZZ a l->FL l=FL' l)(hR:∀ l,ZZ b l->FR l=FR' l)(hm:∀ p,-b.roots<=p->mv p=mv' p) :
  Vg a b roots ss o FL FR mv=Vg a b roots ss o FL' FR' mv':=by
 have hr:=hb.roots.1
 unfold Vg
 have e1:a.nodes.map (VH FL)=a.nodes.map (VH FL'):=UaF fun x hx=>by
  obtain⟨i,hi,rfl⟩:=Uao hx
  unfold VH
  congr 1
  exact UaF fun l hl=>hL l ((ha.nodes i hi).links l hl)
 have e2:b.nodes.map (fun x=>(⟨x.control,mv x.parent,x.links.map FR⟩:TNode))=b.nodes.map (fun x=>⟨x.control,mv' x.parent,x.links.map FR'⟩):=UaF fun x hx=>by
  obtain⟨i,hi,rfl⟩:=Uao hx
  have hn:=hb.nodes i hi
  rw[hm _ (Yr hr hn.par)]
  congr 1
  exact UaF fun l hl=>hR l (hn.links l hl)
 have e3:b.sites.map mv=b.sites.map mv':=UaF fun p hp=>hm p (Yr hr (hb.sites p hp))
 have e4:b.inner.map (JF FR)=b.inner.map (JF FR'):=UaF fun w hw=>by
  unfold JF
  rw[hR _ (hb.inner w hw)]
 rw[e1,e2,e3,e4]
def V6(a:TBigraph)(e:Int)(o:List ByteArray):List Int:=V3 a (fun l=>l) fun x=>e+Jf o x
def Q3(a b:TBigraph)(g:ByteArray->Int):List Int:=V3 b (fun l=>a.edges+l) g
theorem ZDv{c:Int}{n:Nat}:YD c n=(Z7 n).map fun l=>c+l:=by simp [YD,Z7]
theorem Znq{a:TBigraph}{e:Int}{o:List ByteArray}{n:Nat}(hn:a.edges=n):YD 0 n++a.outer.map (fun x=>e+Jf o x)=V6 a e o:=by
 rw[V6,V3,Zng,hn,Int.toNat_natCast]
theorem Znr{a b:TBigraph}{g:ByteArray->Int}{n:Nat}(hn:b.edges=n):YD a.edges n++b.outer.map g=Q3 a b g:=by
 rw[Q3,V3,ZDv,hn,Int.toNat_natCast]
theorem Zns{b:TBigraph}{f:Int->Int}{g:ByteArray->Int}(h:0<=b.edges):((V3 b f g).length:Int)=b.edges+b.outer.length:=by
 rw[V3,Uad,Uaa,Uaa,VG]
 omega
theorem Za8{sig:List TControl}{a:TBigraph}(ha:bigOK sig a){e:Int}{o:List ByteArray}{l:Int}(hl:ZZ a l):JT a e o (fun x=>x) l=g0 (V6 a e o) l.toNat:=by
 have he:=ha.edges
 unfold JT V6
 rcases Qe hl with ⟨h0,h1⟩ | ⟨i,hi,rfl⟩
 ·rw[Xu h0 h1,Dr h1,if_pos rfl]
 ·rw[Xv he.1 hi,Ds hi,if_neg (Dq ha.outer (Uak hi))]
def QC(a:TBigraph)(nm:ByteArray->Int×ByteArray)(x:Int×ByteArray):Int×ByteArray:=if x.2=Jd then (x.1+a.edges,Jd) else nm x.2
theorem Znt{sig:List TControl}{a b:TBigraph}(hb:bigOK sig b){e:Int}{o:List ByteArray}{nm:ByteArray->Int×ByteArray}{g:ByteArray->Int}(hg:∀ i (h:i<b.outer.length),(if (nm b.outer[i]).2=Jd then (nm b.outer[i]).1 else e+Jf o (nm b.outer[i]).2)=g b.outer[i]){l:Int}(hl:ZZ b l):JT b e o (QC a nm) l=g0 (Q3 a b g) l.toNat:=by
 have he:=hb.edges
 unfold JT Q3
 rcases Qe hl with ⟨h0,h1⟩ | ⟨i,hi,rfl⟩
 ·rw[Xu h0 h1,Dr h1]
  unfold QC
  rw[if_pos rfl,if_pos rfl]
  omega
 ·rw[Xv he.1 hi,Ds hi]
  unfold QC
  rw[if_neg (Dq hb.outer (Uak hi)),hg i hi]
def Zdp(a b:TBigraph)(o:List ByteArray)(L R:List Int):TBigraph:=Vg a b a.roots [] o (fun l=>g0 L l.toNat) (fun l=>g0 R l.toNat) (J4 a.nodes.length a.sites)
def Zdq(a:TBigraph)(p:Int):Int:=if 0<=p then p+a.nodes.length else g0 a.sites (-1-p).toNat
theorem ZDw{a:TBigraph}{p:Int}:Zdq a p=J4 a.nodes.length a.sites p:=by
 unfold Zdq J4
 by_cases h:0<=p
 ·rw[if_pos h,if_neg (by omega)]
 ·rw[if_neg h,if_pos (by omega)]
noncomputable def Jh(a b:TBigraph):List ByteArray:=ZM (a.outer++b.outer)
noncomputable def YO(a b:TBigraph):TBigraph:=Zdp a b (Jh a b) (V6 a (a.edges+b.edges) (Jh a b)) (Q3 a b fun x=>a.edges+b.edges+Jf (Jh a b) x)
theorem ZDx{sig:List TControl}{a b:TBigraph}(ha:bigOK sig a)(hb:bigOK sig b) :
  Vg a b a.roots [] (Jh a b) (JT a (a.edges+b.edges) (Jh a b) fun x=>x) (JT b (a.edges+b.edges) (Jh a b) (QC a fun s=>(0,s))) (Zdq a)=YO a b :=
 Znp ha hb (fun l hl=>Za8 ha hl) (fun l hl=>Znt hb (fun i hi=>if_neg (Dq hb.outer (Uak hi))) hl) fun p _=>ZDw
theorem Znu{sig:List TControl}{b:TBigraph}(h:bigOK sig b){ps:List Int}(hp:(ps.length:Int)=b.roots){p:Int}(h1:-b.roots<=p)(h2:p<b.nodes.length):(-4294967296<=p/\p<=4294967296)/\(p<0->(-1-p).toNat<ps.length):=by
 have hr:=h.roots
 have hn:=h.small.nodes
 exact⟨by omega,fun h3=>by omega⟩
theorem Zdr{sig:List TControl}{b:TBigraph}(h:bigOK sig b){ps ls:List Int}(hp:(ps.length:Int)=b.roots)(hl:(ls.length:Int)=b.edges+b.outer.length):∀ x∈b.nodes,x.links.length<=4294967290/\((-4294967296<=x.parent/\x.parent<=4294967296)/\(x.parent<0->(-1-x.parent).toNat<ps.length))/\∀ l∈x.links,0<=l/\l<ls.length:=fun x hx=>by
 have hl2:=h.small.links _ hx
 have hb:=Xz h hx
 obtain⟨k,hk,rfl⟩:=Uao hx
 refine⟨by omega,Znu h hp (Yr h.roots.1 (h.nodes k hk).par) hb.1,fun l hl3=>?_⟩
 have:=hb.2 l hl3
 omega
theorem Zds{sig:List TControl}{b:TBigraph}(h:bigOK sig b){ps:List Int}(hp:(ps.length:Int)=b.roots):∀ p∈b.sites,(-4294967296<=p/\p<=4294967296)/\(p<0->(-1-p).toNat<ps.length):=fun p hq=>Znu h hp (Yr h.roots.1 (h.sites p hq)) (XA h hq)
theorem Zg9{sig:List TControl}{b:TBigraph}(h:bigOK sig b){ls:List Int}(hl:(ls.length:Int)=b.edges+b.outer.length):∀ w∈b.inner,0<=w.link/\w.link<ls.length:=fun w hw=>by
 have:=h.inner w hw
 unfold ZZ at this
 omega
theorem Znv{sig:List TControl}{b:TBigraph}(h:bigOK sig b){n:Nat}(hn:b.roots=n){ls:List Int}:b.nodes.map (Q0 0 (Jx 0 n) ls)=b.nodes.map (VH fun l=>g0 ls l.toNat):=UaF fun x hx=>by
 obtain⟨k,hk,rfl⟩:=Uao hx
 unfold Q0 VH
 rw[Zdk hn (Yr h.roots.1 (h.nodes k hk).par)]
theorem Znw{sig:List TControl}{b:TBigraph}(h:bigOK sig b){n:Nat}(hn:b.roots=n):b.sites.map (J4 0 (Jx 0 n))=b.sites:=by
 have:b.sites.map (J4 0 (Jx 0 n))=b.sites.map id:=UaF fun p hp=>Zdk hn (Yr h.roots.1 (h.sites p hp))
 rw[this,Ucg]
theorem Znx{l:List TNode}:Zz 3 (l.map ZG)=True:=eq_true (Ug ZG (fun _=>rfl) l)
abbrev Wf(b:TBigraph)(u:Bool):IV:=.ag [iI b.roots,.ow 3 (b.nodes.map ZG) u,.ow 1 (rI b.sites) true,iI b.edges,.ow 1 (rS b.outer) true,.ow 2 (b.inner.map ZO) true]
theorem ZDy(sig:List TControl)(a b:TBigraph)(o:List ByteArray)(above below:List Int)(ha:bigOK sig a)(hb:bigOK sig b)(hf:(a.sites.length:Int)=b.roots)(hA:above.length=a.outer.length)(hB:below.length=b.outer.length)(ho:o.length<=4294967290)(L R:List Int)(hL:∀ n:Nat,a.edges=n->YD 0 n++above=L)(hR:∀ n:Nat,b.edges=n->YD a.edges n++below=R)
  (lvl:Nat) (S:Zc):Sem Uch Zgg lvl [.ag ((Ze a).map .tr),.ag ((Ze b).map .tr),.tr (.sl (rS o)),tI above,tI below] S (Wf (Zdp a b o L R) false) S:=by
 have ra:=ha.roots;have rb:=hb.roots
 have ea:=ha.edges;have eb:=hb.edges
 have sa:=ha.small;have sb:=hb.small
 have a1:=sa.nodes;have a2:=sa.sites;have a3:=sa.inner;have a4:=sa.outer
 have b1:=sb.nodes;have b2:=sb.sites;have b3:=sb.inner;have b4:=sb.outer
 obtain⟨n,hn⟩:∃ n:Nat,a.roots=n:=⟨a.roots.toNat,by omega⟩
 obtain⟨m,hm⟩:∃ m:Nat,a.edges=m:=⟨a.edges.toNat,by omega⟩
 obtain⟨k,hk⟩:∃ k:Nat,b.edges=k:=⟨b.edges.toNat,by omega⟩
 have hLL:=hL m hm
 have hRR:=hR k hk
 have lenL:(L.length:Int)=a.edges+a.outer.length:=by rw[<-hLL,Uad,fromN_len,hA];omega
 have lenR:(R.length:Int)=b.edges+b.outer.length:=by rw[<-hRR,Uad,fromN_len,hB];omega
 have w1:rI (YD 0 m)++rI above=rI L:=by rw[<-Yf,hLL]
 have w2:m+above.length=L.length:=by rw[<-hLL,Uad,fromN_len]
 have w3:rI (YD (m:Int) k)++rI below=rI R:=by rw[<-Yf,<-hm,hRR]
 have w4:k+below.length=R.length:=by rw[<-hRR,Uad,fromN_len]
 have w5:max m L.length=L.length:=by omega
 have w6:max k R.length=R.length:=by omega
 have c1:cut (rI L) 0 L.length=rI L:=Yh (by rw[Uaa])
 have c2:cut (rI R) 0 R.length=rI R:=Yh (by rw[Uaa])
 refine Zi ZBb (by simp [low,men,Za]) ?_
 simp only[ZlB,Ze,hn,Zb,seval,Za,men]
 refine Zf (Zdf 0 n (by omega) (by omega)) ?_
 simp only[Ze,hm,Uaa,Zb,seval,Za,men]
 refine Zf (Za3 0 m (by omega) (by omega)) ?_
 simp only[Ze,V4,V5,hm,hk,w1,w2,w5,fromN_len,Uad,Uaa,Zb,seval,Za,men]
 refine⟨by omega,Zf (Za3 m k (by omega) (by omega)) ?_⟩
 simp only[Ze,V4,V5,hm,hk,w3,w4,w6,fromN_len,Uad,Uaa,Zb,seval,Za,men]
 refine⟨by omega,?_⟩
 have q1:=Du a 0 (Jx 0 n) (by omega) (by omega) (Zds ha (by rw[rootsN_len];omega))
 rw[Znw ha hn] at q1
 simp only[Ze,hn,hm,Uai,Uaj] at q1
 refine Zf q1 ?_
 simp only[Ze,hm,hk,c1,c2,Uaa,Zb,seval,Za,men]
 have q2:=Za4 a 0 (Jx 0 n) L (by omega) (by omega) (Zdr ha (by rw[rootsN_len];omega) lenL)
 rw[Znv ha hn] at q2
 simp only[Ze,hn,hm,Uai,Uaj] at q2
 refine Zf q2 ?_
 simp only[Ze,hm,hk,c1,c2,Uaa,Zb,seval,Za,men]
 have q3:=Za4 b a.nodes.length a.sites R (by omega) (by omega) (Zdr hb hf lenR)
 simp only[Ze,hm,hk,Uai,Uaj] at q3
 refine Zf q3 ?_
 simp only[Ze,Znx,hm,hk,c1,c2,Uad,Uaa,Zb,seval,Za,men]
 refine⟨by omega,?_⟩
 have q4:=Du b a.nodes.length a.sites (by omega) (by omega) (Zds hb hf)
 simp only[Ze,hm,hk,Uai,Uaj] at q4
 refine Zf q4 ?_
 simp only[Ze,Qz,QA,hm,hk,c1,c2,Uad,Uaa,Zb,seval,Za,men]
 refine⟨by rw[Zg];omega,by omega,?_⟩
 have q5:=Zdg b R (by omega) (Zg9 hb lenR)
 simp only[Ze,hm,hk,Uai,Uaj] at q5
 refine Zf q5 ?_
 simp only[Ze,Qz,QA,hm,hk,c1,c2,Uad,Uaa,Zb,seval,Za,men]
 simp only[Wf,Zdp,Vg,Uay,List.nil_append,hn,hm,hk]
 rfl
theorem Zny{sig:List TControl}{a b:TBigraph}(ha:bigOK sig a)(hb:bigOK sig b){roots:Int}{ss:List Int}{o:List ByteArray}{FL FR mv:Int->Int}(hs:ss.length<=4)(ho:o.length<=100)(hos:∀ y∈o,y.size<=4294967290):Jj 4294967290 (Vg a b roots ss o FL FR mv):=by
 have sa:=ha.small;have sb:=hb.small
 have a1:=sa.nodes;have a2:=sa.sites;have a3:=sa.inner
 have b1:=sb.nodes;have b2:=sb.sites;have b3:=sb.inner
 refine⟨by simp only[Vg,Uaa,Uad];omega,fun y hy=>?_,by simp only[Vg,Uaa,Uad];omega,by show o.length<=_;omega,hos,by simp only[Vg,Uaa];omega,fun y hy=>?_⟩
 ·rcases Uap.1 hy with hy | hy
  ·obtain⟨x,hx,rfl⟩:=Uaq.1 hy
   have:=sa.links x hx
   simp only[Zav,VH,Uaa]
   omega
  ·obtain⟨x,hx,rfl⟩:=Uaq.1 hy
   have:=sb.links x hx
   simp only[Zav,Uaa]
   omega
 ·obtain⟨w,hw,rfl⟩:=Uaq.1 hy
  have hn:w.name∈inn b:=Uaq.2 ⟨w,hw,rfl⟩
  have:=QB hb.inn hn
  simp only[WO,JF]
  omega
def sm(n:Int):Prop:=-1000<=n/\n<=1000
theorem Wg{n:Int}(h:sm n):ZW .i64 n:=by
 unfold sm at h
 rw[Zg];omega
theorem Znz{sig:List TControl}{a b:TBigraph}(ha:bigOK sig a)(hb:bigOK sig b)(fa:JJ a)(fb:JJ b){roots:Int}{ss:List Int}{o:List ByteArray}{FL FR mv:Int->Int}(hr:sm roots)(hs:∀ p∈ss,sm p)(hL:∀ l,ZZ a l->sm (FL l))(hR:∀ l,ZZ b l->sm (FR l))(hm:∀ p,-b.roots<=p->p<b.nodes.length->sm (mv p)):JJ (Vg a b roots ss o FL FR mv):=by
 have ea:=ha.edges;have eb:=hb.edges
 refine⟨Wg hr,fun y hy=>?_,fun p hp=>?_,by show ZW .i64 (a.edges+b.edges);rw[Zg];omega,fun y hy=>?_⟩
 ·rcases Uap.1 hy with hy | hy
  ·obtain⟨x,hx,rfl⟩:=Uaq.1 hy
   have hq:=fa.2.1 x hx
   obtain⟨i,hi,hie⟩:=Uao hx
   refine⟨hq.1,hq.2.1,fun l hl=>?_⟩
   obtain⟨l0,hl0,rfl⟩:=Uaq.1 hl
   exact Wg (hL l0 ((ha.nodes i hi).links l0 (by rw[hie];exact hl0)))
  ·obtain⟨x,hx,rfl⟩:=Uaq.1 hy
   have hq:=fb.2.1 x hx
   have hbp:=Xz hb hx
   obtain⟨i,hi,hie⟩:=Uao hx
   refine⟨hq.1,Wg (hm _ (Yr hb.roots.1 (by rw[<-hie];exact(hb.nodes i hi).par)) hbp.1),fun l hl=>?_⟩
   obtain⟨l0,hl0,rfl⟩:=Uaq.1 hl
   exact Wg (hR l0 ((hb.nodes i hi).links l0 (by rw[hie];exact hl0)))
 ·rcases Uap.1 hp with hp | hp
  ·exact Wg (hs p hp)
  ·obtain⟨x,hx,rfl⟩:=Uaq.1 hp
   exact Wg (hm _ (Yr hb.roots.1 (hb.sites x hx)) (XA hb hx))
 ·obtain⟨w,hw,rfl⟩:=Uaq.1 hy
  exact Wg (hR _ (hb.inner w hw))
theorem ZDz{sig:List TControl}{a b:TBigraph}(ha:bigOK sig a)(hb:bigOK sig b)(hf:(a.sites.length:Int)=b.roots){p:Int}(h1:-b.roots<=p)(h2:p<b.nodes.length):sm (J4 a.nodes.length a.sites p):=by
 have a1:=ha.small.nodes;have b1:=hb.small.nodes
 have ra:=ha.roots
 unfold J4 sm
 split
 ·rename_i h
  have hl:(-1-p).toNat<a.sites.length:=by omega
  have hg:g0 a.sites (-1-p).toNat=a.sites[(-1-p).toNat]:=by simp [hl]
  have hm:=Uak hl
  have:=Yr ra.1 (ha.sites _ hm)
  have:=XA ha hm
  rw[hg];omega
 ·omega
theorem ZDA{sig:List TControl}{a:TBigraph}(ha:bigOK sig a){e:Int}(he:0<=e/\e<=100){o:List ByteArray}(ho:o.length<=100){l:Int}(hl:ZZ a l):sm (g0 (V6 a e o) l.toNat):=by
 have ea:=ha.edges
 unfold V6 sm
 rcases Qe hl with ⟨h0,h1⟩ | ⟨i,hi,rfl⟩
 ·rw[Xu h0 h1];omega
 ·rw[Xv ea.1 hi]
  have:=Uw (l:=o) (s:=a.outer[i])
  have:=WT (l:=o) (s:=a.outer[i])
  omega
theorem ZnA{sig:List TControl}{a b:TBigraph}(ha:bigOK sig a)(hb:bigOK sig b){g:ByteArray->Int}(hg:∀ x∈b.outer,sm (g x)){l:Int}(hl:ZZ b l):sm (g0 (Q3 a b g) l.toNat):=by
 have ea:=ha.edges;have eb:=hb.edges
 unfold Q3
 rcases Qe hl with ⟨h0,h1⟩ | ⟨i,hi,rfl⟩
 ·rw[Xu h0 h1]
  unfold sm
  omega
 ·rw[Xv eb.1 hi]
  exact hg _ (Uak hi)
end Go.Fd
