/-
  NAMES AND SIGNATURES, BOTH SIDES. Own work.
-/
import Derived.Test.YtlklehpkgnpkpaaGreatDoorT04
import Derived.Shelf.Strconv.Itoa3
import Derived.Test.YtlklehpkgnpkpaaGreatDoorProg
import Derived.Shelf.Strings.OnBuilder
import Derived.Lib.AppendIntMem
import Derived.MakeChecks
import Derived.KernelRfl
set_option linter.all false
namespace Go.Fd
set_option maxRecDepth 20000
def Zlz(P:Program)(f:FuncId):Bool:=match P.funcs[f]? with | some fn=>fn.body.isSome && !(fn.name == "runtime.NumGoroutine") | none=>false
theorem ZbK{P:Program}{f:FuncId}(h:Zlz P f=true):Wp P f:=by
 unfold Zlz at h
 split at h
 ·rename_i fn hf
  simp only[Bool.and_eq_true,Bool.not_eq_true'] at h
  exact⟨fn,hf,h.1,h.2⟩
 ·cases h
abbrev AZ:ByteArray:=⟨#[97,98,99,100,101,102,103,104,105,106,107,108,109,110,111,112,113,114,115,116,117,118,119,120,121,122]⟩
theorem ZgV(s:ByteArray)(hs:s.size<=9223372036854775807)(lvl:Nat)(S:Sto):Sem Proofs.Tryz.prog QT lvl [iS s,iS AZ] S (iS ⟨(Lib.trimS s.data.toList AZ.data.toList).toArray⟩) S :=
 Zdm (xs:=[.string s,.string AZ]) (ZbK (by kernel_rfl)) rfl (fun w=>Go.Proofs.Any.strings_Trim_laid Proofs.Tryz.lays160 (by kernel_rfl) s AZ w hs (by decide) (Go.Proofs.ascii_of_all (by decide)))
def ZfH(s:ByteArray):Prop:=(∀ b∈s.data.toList,97<=b.toNat/\b.toNat<=122)/\1<=s.size/\s.size<=4
theorem DE(s:ByteArray):s.size=s.data.toList.length:=by rw[Array.length_toList];rfl
theorem Zhl(b:UInt8):b∈AZ.data.toList↔97<=b.toNat/\b.toNat<=122:=by
 have:∀ n:Fin 256,(UInt8.ofNat n.val)∈AZ.data.toList↔97<=n.val/\n.val<=122:=by decide +kernel
 have h:UInt8.ofNat b.toNat∈AZ.data.toList↔97<=b.toNat/\b.toNat<=122:=this ⟨b.toNat,b.toNat_lt⟩
 rw[show UInt8.ofNat b.toNat=b from UInt8.ofNat_toNat] at h
 exact h
theorem ZfI{p:UInt8->Bool}:∀{l:List UInt8},l.dropWhile p=[]↔∀ b∈l,p b=true
 | []=>by simp
 | x::r=>by
  simp only[List.dropWhile_cons,List.mem_cons,forall_eq_or_imp]
  cases h:p x with
  | true=>simp [ZfI (l:=r)]
  | false=>simp
theorem Zhm{p:UInt8->Bool}{b:UInt8}:∀{l:List UInt8},b∈l.takeWhile p->p b=true
 | [],h=>by simp at h
 | x::r,h=>by
  rw[List.takeWhile_cons] at h
  split at h
  ·rename_i hx
   rcases List.mem_cons.1 h with rfl | h
   ·exact hx
   ·exact Zhm h
  ·cases h
theorem ZgW{l cs:List UInt8}(h:∀ b∈l,b∈cs):l.dropWhile (cs.contains ·)=[]:=by
 rw[ZfI]
 intro b hb
 simpa using h b hb
theorem trimS_nil{l cs:List UInt8}:Lib.trimS l cs=[]↔∀ b∈l,b∈cs:=by
 unfold Lib.trimS Lib.trimLeftS Lib.trimRightS
 constructor
 ·intro h b hb
  rw[ZfI] at h
  have hrev:∀ x∈(l.reverse.dropWhile (cs.contains ·)),x∈cs:=fun x hx=>by
   have:=h x (by simpa using hx)
   simpa using this
  have hsplit:l.reverse=l.reverse.takeWhile (cs.contains ·)++l.reverse.dropWhile (cs.contains ·):=(List.takeWhile_append_dropWhile).symm
  have hb2:b∈l.reverse:=by simpa using hb
  rw[hsplit] at hb2
  rcases List.mem_append.1 hb2 with h1 | h1
  ·have:=Zhm h1
   simpa using this
  ·exact hrev b h1
 ·intro h
  rw[ZgW (l:=l.reverse) (fun b hb=>h b (by simpa using hb))]
  rfl
theorem ZaE(s:ByteArray)(hs:s.size<=9223372036854775807)(lvl:Nat)(S:Sto):Sem Proofs.Tryz.prog YA lvl [iS s] S (iB (dc (ZfH s))) S:=by
 refine Zc ZbF trivial ?_
 simp only[WO,EVA,seval]
 refine ZI (α:=Unit) s.size (fun j _=>[(3,iI j)]) (fun _ _=>[]) (fun j _=>∀ b∈s.data.toList.take j,97<=b.toNat/\b.toNat<=122) () (by simp only[EVA,seval]) (by (simp only[EVA,seval]) <;> rfl) (fun b hb=>by simp at hb) ?_
 intro j _ hj hA
 simp only[EVA,seval,Zf,men]
 refine Zn (fun hlt=>?_) (fun hge=>?_)
 ·have hja:j<s.data.toList.length:=by rw[<-DE];omega
  have ga:s.data.toList[j]? = some (s.data.toList[j]):=List.getElem?_eq_getElem hja
  have hno:¬ (97<=(s.data.toList[j]).toNat/\(s.data.toList[j]).toNat<=122) -> ¬ ZfH s:=fun h hn=>h (hn.1 _ (List.getElem_mem hja))
  by_cases h1:((s.data.toList[j]).toNat:Int)<97
  ·simp only[ga,h1,EVA,seval]
   rw[Zg (hno (by omega))]
  by_cases h2:(122:Int)<(s.data.toList[j]).toNat
  ·simp only[ga,h1,h2,EVA,seval]
   rw[Zg (hno (by omega))]
  ·simp only[ga,h1,h2,EVA,seval]
   refine⟨by rw[Zd];omega,Ze () (by omega) rfl ?_⟩
   intro b hb
   rw[List.take_succ_eq_append_getElem hja] at hb
   rcases List.mem_append.1 hb with h | h
   ·exact hA b h
   ·have:b=s.data.toList[j]:=by simpa using h
    subst this
    omega
 ·have:j=s.size:=by omega
  subst this
  rw[DE,List.take_length] at hA
  refine Za (YR s.size 1 4) ?_
  simp only[EVA,seval]
  rw[Ja (q:=1<=s.size/\s.size<=4) ⟨fun h=>h.2,fun h=>⟨hA,h⟩⟩]
  by_cases h:1<=s.size/\s.size<=4
  ·rw[Va h,inB_iff.2 (by omega)]
  ·rw[Zg h,inB_not.2 (by omega)]
theorem ZaF(s:ByteArray)(hs:s.size<=9223372036854775807)(lvl:Nat)(S:Sto):Sem Proofs.Tryz.prog YB lvl [iS s] S (iB (dc (ZfH s))) S:=by
 refine Zc ZbH trivial ?_
 simp only[WU,EVA,seval,Zf,men]
 refine Za (JO s.size 1 4) ?_
 simp only[EVA,seval,Zf,men]
 cases hin:inB (s.size:Int) 1 4 with
 | false =>
  have:¬ ZfH s:=fun h=>(inB_not.1 hin) (by have:=h.2;omega)
  rw[Zg this]
  simp only[EVA,seval]
 | true =>
  have hin':=inB_iff.1 hin
  simp only[seval]
  refine Za (ZgV s hs) ?_
  simp only[EVA,seval]
  by_cases h:ZfH s
  ·have:Lib.trimS s.data.toList AZ.data.toList=[]:=trimS_nil.2 (fun b hb=>(Zhl b).2 (h.1 b hb))
   rw[Va h,this]
   rfl
  ·have:¬ Lib.trimS s.data.toList AZ.data.toList=[]:=fun e=>h ⟨fun b hb=>(Zhl b).1 (trimS_nil.1 e b hb),by omega,by omega⟩
   rw[Zg h]
   have h2:¬ (⟨(Lib.trimS s.data.toList AZ.data.toList).toArray⟩:ByteArray)=⟨#[]⟩:=fun e=>this (by
    have:=congrArg (fun b:ByteArray=>b.data.toList) e
    simpa using this)
   simp [h2]
def ZiL(c:TControl):Prop:=ZfH c.name/\(0<=c.ports/\c.ports<=3)/\0<=c.kind_/\c.kind_<=2
def ZfJ(sig:List TControl)(i:Nat):Prop:=∀ h:i<sig.length,ZiL sig[i]/\∀ k (hk:k<i),(sig[k]'(by omega)).name≠sig[i].name
def Wb(sig:List TControl):Prop:=(∀ i,ZfJ sig i)/\1<=sig.length/\sig.length<=6
theorem Uq(c d:TControl)(lvl:Nat)(S:Sto):Sem Proofs.Tryz.prog Z3 lvl [.ag ((Zj d).map .tr),.ta (Zj c)] S (iB (decide (d.name=c.name))) S:=by
 refine Zc XU trivial ?_
 simp only[Vc,Zj,EVA,seval]
theorem ZcA:ZR Proofs.Tryz.prog ZF (ZgS 3 (some 3))=true:=by kernel_rfl
theorem ZcB:ZR Proofs.Tryz.prog ZA (ZiJ ZF)=true:=by kernel_rfl
theorem ZfK(sig:List TControl)(hl:sig.length<=9223372036854775807)(hb:∀ y∈sig,Zu 9223372036854775807 y)(lvl:Nat)(S:Sto):Sem Proofs.Tryz.prog V8 lvl [.tr (.sl (sig.map Zj))] S (iB (dc (Wb sig))) S:=by
 refine Zc Zcx trivial ?_
 simp only[UH,EVA,seval]
 refine ZI (α:=Unit) sig.length (fun j _=>[(3,iI j)]) (fun _ _=>[]) (fun j _=>∀ i,i<j->ZfJ sig i) () (by simp only[EVA,seval]) (by (simp only[EVA,seval]) <;> rfl) (fun i hi=>by omega) ?_
 intro j _ hj hA
 simp only[List.length_map,EVA,seval,Zf,men]
 refine Zn (fun hlt=>?_) (fun hge=>?_)
 ·have hja:j<sig.length:=by omega
  have ga:=Q1 (c:=Zj) hja
  have hbj:sig[j].name.size<=9223372036854775807:=hb _ (List.getElem_mem hja)
  have hno:¬ ZiL sig[j] -> ¬ Wb sig:=fun h hs=>h (hs.1 j hja).1
  simp only[ga,Zj,EVA,seval,Zf,men]
  refine Za (ZaE sig[j].name hbj) ?_
  simp only[ga,Zj,EVA,seval,Zf,men]
  cases hn:dc (ZfH sig[j].name) with
  | false =>
   simp only[EVA,seval]
   rw[Zg (hno fun h=>dc_not.1 hn h.1)]
  | true =>
   have hn':=dc_iff.1 hn
   simp only[EVA,seval]
   refine Za (YR sig[j].ports 0 3) ?_
   simp only[ga,Zj,EVA,seval,Zf,men]
   cases hp:inB sig[j].ports 0 3 with
   | false =>
    simp only[EVA,seval]
    rw[Zg (hno fun h=>inB_not.1 hp h.2.1)]
   | true =>
    have hp':=inB_iff.1 hp
    simp only[EVA,seval]
    refine Za (YR sig[j].kind_ 0 2) ?_
    simp only[EVA,seval]
    cases hk:inB sig[j].kind_ 0 2 with
    | false =>
     simp only[seval]
     rw[Zg (hno fun h=>inB_not.1 hk h.2.2)]
    | true =>
     have hk':=inB_iff.1 hk
     simp only[EVA,seval]
     refine ZI (α:=Unit) j (fun k _=>[(4,iI k)]) (fun _ _=>[]) (fun k _=>∀ i (hi:i<k),k<=j->∀ hi2:i<sig.length,(sig[i]'hi2).name≠sig[j].name) () (by simp only[EVA,seval]) (by (simp only[EVA,seval]) <;> rfl) (fun i hi=>by omega) ?_
     intro k _ hkj hB
     simp only[EVA,seval]
     refine Zn (fun hlt2=>?_) (fun hge2=>?_)
     ·have hka:k<sig.length:=by omega
      have gb:=Q1 (c:=Zj) hka
      simp only[ga,gb,Zj,EVA,seval]
      refine Zn (fun he=>?_) (fun hne=>?_)
      ·rw[Zg (fun hs:Wb sig=>(hs.1 j hja).2 k (by omega) he)]
      ·refine⟨by rw[Zd];omega,Ze () (by omega) rfl (fun i hi _ hi2=>?_)⟩
       by_cases e:i=k
       ·subst e;exact hne
       ·exact hB i (by omega) (by omega) hi2
     ·have:k=j:=by omega
      subst this
      refine⟨by rw[Zd];omega,Ze () hja rfl (fun i hi=>?_)⟩
      by_cases e:i=k
      ·subst e
       exact fun h=>⟨⟨hn',hp',hk'⟩,fun q hq=>hB q hq (Nat.le_refl _) (by omega)⟩
      ·exact hA i (by omega)
 ·have:j=sig.length:=by omega
  subst this
  refine Za (YR sig.length 1 6) ?_
  simp only[EVA,seval]
  have hall:∀ i,ZfJ sig i:=fun i h=>hA i h h
  rw[Ja (q:=1<=sig.length/\sig.length<=6) ⟨fun h=>h.2,fun h=>⟨hall,h⟩⟩]
  by_cases h:1<=sig.length/\sig.length<=6
  ·rw[Va h,inB_iff.2 (by omega)]
  ·rw[Zg h,inB_not.2 (by omega)]
theorem XV(sig:List TControl)(hl:sig.length<=9223372036854775807)(hb:∀ y∈sig,Zu 9223372036854775807 y)(lvl:Nat)(S:Sto):Sem Proofs.Tryz.prog JT lvl [.tr (.sl (sig.map Zj))] S (iB (dc (Wb sig))) S:=by
 refine Zc WP trivial ?_
 simp only[V0,List.length_map,EVA,seval,Zf,men]
 refine Za (JO sig.length 1 6) ?_
 simp only[List.length_map,EVA,seval]
 refine Zn (fun h=>?_) (fun h=>?_)
 ·rw[Zg (fun hs:Wb sig=>(inB_not.1 h) (by have:=hs.2;omega))]
 have hln:=inB_iff.1 (by simpa using h)
 refine ZI (α:=Unit) sig.length (fun j _=>[(11,iI j)]) (fun _ _=>[]) (fun j _=>∀ i,i<j->ZfJ sig i) () (by simp only[EVA,seval]) (by (simp only[EVA,seval]) <;> rfl) (fun i hi=>by omega) ?_
 intro j _ hj hA
 simp only[EVA,seval]
 refine Zn (fun hlt=>?_) (fun hge=>?_)
 ·have hja:j<sig.length:=by omega
  have ga:=Q1 (c:=Zj) hja
  have hbj:sig[j].name.size<=9223372036854775807:=hb _ (List.getElem_mem hja)
  have hno:¬ ZiL sig[j] -> ¬ Wb sig:=fun h hs=>h (hs.1 j hja).1
  simp only[ga,Zj,EVA,seval,Zf,men]
  refine Za (ZaF sig[j].name hbj) ?_
  simp only[EVA,seval,Zf,men]
  cases hn:dc (ZfH sig[j].name) with
  | false =>
   simp only[EVA,seval]
   rw[Zg (hno fun h=>dc_not.1 hn h.1)]
  | true =>
   have hn':=dc_iff.1 hn
   simp only[EVA,seval]
   refine Za (JO sig[j].ports 0 3) ?_
   simp only[EVA,seval,Zf,men]
   cases hp:inB sig[j].ports 0 3 with
   | false =>
    simp only[EVA,seval]
    rw[Zg (hno fun h=>inB_not.1 hp h.2.1)]
   | true =>
    have hp':=inB_iff.1 hp
    simp only[EVA,seval]
    refine Za (JO sig[j].kind_ 0 2) ?_
    simp only[EVA,seval,Zf,men]
    cases hk:inB sig[j].kind_ 0 2 with
    | false =>
     simp only[EVA,seval]
     rw[Zg (hno fun h=>inB_not.1 hk h.2.2)]
    | true =>
     have hk':=inB_iff.1 hk
     have hjl:j<=sig.length:=by omega
     simp only[hjl,EVA,seval]
     have hc:=Zd3 (P:=Proofs.Tryz.prog) ZcB ZcA UG (f:=fun d:TControl=>decide (d.name=sig[j].name)) (fe:=Z3) (cs:=[Zj sig[j]]) (sig.take j) (by rw[List.length_take];omega) (fun d _ lvl S=>Uq sig[j] d lvl S)
     rw[<-ZfE] at hc
     refine⟨fun h=>h.elim,Nat.zero_le _,Za hc ?_⟩
     simp only[EVA,seval]
     cases ha:(sig.take j).any (fun d:TControl=>decide (d.name=sig[j].name)) with
     | true =>
      simp only[seval]
      obtain⟨d,hd,he⟩:=List.any_eq_true.1 ha
      obtain⟨q,hq,rfl⟩:=List.getElem_of_mem hd
      rw[List.length_take] at hq
      rw[Zg (fun hs:Wb sig=>(hs.1 j hja).2 q (by omega) (by simpa using he))]
     | false =>
      simp only[EVA,seval]
      refine⟨by rw[Zd];omega,Ze () hja rfl (fun i hi=>?_)⟩
      by_cases e:i=j
      ·subst e
       refine fun h=>⟨⟨hn',hp',hk'⟩,fun q hq=>?_⟩
       have:=(List.any_eq_false.1 ha) sig[q] (by
        rw[List.mem_take_iff_getElem]
        exact⟨q,by omega,rfl⟩)
       simpa using this
      ·exact hA i (by omega)
 ·have:j=sig.length:=by omega
  subst this
  have hall:∀ i,ZfJ sig i:=fun i h=>hA i h h
  rw[Va (p:=Wb sig) ⟨hall,by omega,by omega⟩]
theorem Zd4(a b:List Int):rI (a++b)=rI a++rI b:=List.map_append
theorem ZfL:ZR Proofs.Tryz.prog Jz (ZgS 1 none)=true:=by kernel_rfl
theorem ZfM:ZR Proofs.Tryz.prog Zy (ZiJ Jz)=true:=by kernel_rfl
end Go.Fd

/-
  WHAT A SIZE THAT IS LEFT SAYS OF BOUNDS (printed by lawgen.py). Own work.
-/
namespace Go.Fd
def Zm(s:Int->Int)(P:Prop):Prop:=∀ l:Int,0<=l->l<=1048576->s l<=l/\(0<=s l->P)
theorem ZfN:Zm (fun l=>l) True:=fun _ _ _=>⟨Int.le_refl _,fun _=>trivial⟩
theorem Zag{s g:Int->Int}{P Q:Prop}(hs:Zm s P)(hg:Zm g Q):Zm (fun l=>Xg (s l) g) (P/\Q):=fun l h0 h1=>by
 have a:=hs l h0 h1
 by_cases h:s l<0
 ·simp only[Xg,if_pos h]
  exact⟨by omega,fun h=>by omega⟩
 ·simp only[Xg,if_neg h]
  have b:=hg (s l) (by omega) (by omega)
  exact⟨by omega,fun h2=>⟨a.2 (by omega),b.2 h2⟩⟩
theorem ZpI(n:Nat):Zm (fun l=>szN n l) (n<=4294967296):=fun l h0 h1=>by
 simp only[szN]
 split
 ·exact⟨by omega,fun h=>by omega⟩
 ·exact⟨by omega,fun h=>by omega⟩
theorem ZfO(n:Nat):Zm (fun l=>l-n) (n<=4294967296):=fun l h0 h1=>⟨by simp only;omega,fun h=>by simp only at h;omega⟩
theorem Zqh{α:Type}{f:α->Int->Int}{P:α->Prop}(hf:∀ x,Zm (f x) (P x)):∀(a:List α),Zm (fun l=>szF f a l) (∀ y∈a,P y)
 | []=>fun l _ _=>⟨Int.le_refl l,fun _ y hy=>by cases hy⟩
 | x::r=>fun l h0 h1=>by
  simp only[szF]
  have a:=hf x l h0 h1
  split
  ·exact⟨by omega,fun h=>by omega⟩
  ·have b:=Zqh hf r (f x l) (by omega) (by omega)
   refine⟨by simp only at b;omega,fun h y hy=>?_⟩
   cases hy with
   | head=>exact a.2 (by omega)
   | tail _ hy=>exact b.2 h y hy
theorem ZlS{α:Type}{f:α->Int->Int}{P:α->Prop}(hf:∀ x,Zm (f x) (P x))(a:List α):Zm (fun l=>szL f a l) (a.length<=4294967296/\∀ y∈a,P y):=fun l h0 h1=>by
 simp only[szL]
 split
 ·exact⟨by omega,fun h=>by omega⟩
 ·have b:=Zqh hf a (l-a.length) (by omega) (by omega)
  simp only at b
  exact⟨by omega,fun h=>⟨by omega,b.2 h⟩⟩
theorem ZcC{s:Int->Int}{P Q:Prop}(h:Zm s P)(hq:P->Q):Zm s Q:=fun l h0 h1=>⟨(h l h0 h1).1,fun h2=>hq ((h l h0 h1).2 h2)⟩
theorem ZlA(x:TNode):Zm (fun l=>Xi x l) (Xh 4294967296 x):=by
 unfold Xi
 exact ZcC (Zag (ZpI _) ZfN) (fun h=>by unfold Xh;simp only[and_assoc,and_true,true_and,implies_true,forall_const] at h ⊢;try exact h)
theorem ZlB(x:TWire):Zm (fun l=>Xj x l) (QP 4294967296 x):=by
 unfold Xj
 exact ZcC (Zag (ZfO _) ZfN) (fun h=>by unfold QP;simp only[and_assoc,and_true,true_and,implies_true,forall_const] at h ⊢;try exact h)
theorem ZcD(x:TBigraph):Zm (fun l=>J2 x l) (Jb 4294967296 x):=by
 unfold J2
 exact ZcC (Zag (ZlS (fun y=>(ZlA _)) _) (Zag (ZpI _) (Zag (ZlS (fun y=>(ZfO _)) _) (Zag (ZlS (fun y=>(ZlB _)) _) ZfN)))) (fun h=>by unfold Jb;simp only[and_assoc,and_true,true_and,implies_true,forall_const] at h ⊢;try exact h)
theorem ZlC(x:TRule):Zm (fun l=>ZaC x l) (QQ 4294967296 x):=by
 unfold ZaC
 exact ZcC (Zag (ZcD _) (Zag (ZcD _) (Zag (ZpI _) ZfN))) (fun h=>by unfold QQ;simp only[and_assoc,and_true,true_and,implies_true,forall_const] at h ⊢;try exact h)
theorem ZfP(x:TControl):Zm (fun l=>Jl x l) (Zu 4294967296 x):=by
 unfold Jl
 exact ZcC (Zag (ZfO _) ZfN) (fun h=>by unfold Zu;simp only[and_assoc,and_true,true_and,implies_true,forall_const] at h ⊢;try exact h)
theorem ZiM{a:Nat}(h:a<=4294967296):a<=9223372036854775807:=by omega
theorem DF{x:TControl}(h:Zu 4294967296 x):Zu 9223372036854775807 x:=by
 exact(ZiM h)
end Go.Fd

/-
  SORTINGS, BOTH SIDES: VALID, FREE, FINER. Own work.
-/
namespace Go.Fd
set_option maxRecDepth 20000
theorem ZfQ{es:Row}{n:Nat}(h:es.length=n):cut es 0 n=es:=by
 simp only[cut,List.drop_zero]
 exact List.take_of_length_le (by omega)
end Go.Fd

/-
  WHAT A VALID SORTING IS, BOTH SIDES. Own work.
-/
namespace Go.Fd
set_option maxRecDepth 20000
end Go.Fd

/-
  A VALID SORTING, THE PROGRAM'S SIDE. Own work.
-/
namespace Go.Fd
set_option maxRecDepth 20000
end Go.Fd

/-
  TEXTS OF SORTINGS: WHAT THEY ARE. Own work.
-/
namespace Go.Fd
set_option maxRecDepth 20000
def bl(s:ByteArray):List UInt8:=s.data.toList
theorem Xv(a b:ByteArray):bl (a++b)=bl a++bl b:=by simp [bl,ByteArray.data_append]
theorem ZaG{a b:ByteArray}(h:bl a=bl b):a=b:=by
 cases a with | mk a=>cases b with | mk b=>exact congrArg ByteArray.mk (Array.toList_inj.1 h)
theorem ZcE(l:List UInt8):bl ⟨l.toArray⟩=l:=by simp [bl]
theorem Xw(a:ByteArray):(bl a).length=a.size:=(DE a).symm
def ZcY(n:Int):ByteArray:=⟨(Lib.decDigits n.toNat).toArray⟩
theorem dd1{u:Nat}(h:u<10):Lib.decDigits u=[UInt8.ofNat (48+u)]:=by rw[Lib.decDigits,dif_pos h]
theorem dd2{u:Nat}(h0:10<=u)(h:u<100):Lib.decDigits u=[UInt8.ofNat (48+u / 10),UInt8.ofNat (48+u % 10)]:=by
 rw[Lib.decDigits,dif_neg (by omega),dd1 (by omega)]
 rfl
theorem DG{n:Int}(h0:0<=n)(h1:n<100):(ZcY n).size<=2:=by
 rw[<-Xw,ZcY,ZcE]
 by_cases h:n.toNat<10
 ·rw[dd1 h];simp
 ·rw[dd2 (by omega) (by omega)];simp
abbrev DIG:ByteArray:=⟨#[48,49,50,51,52,53,54,55,56,57]⟩
theorem Zqi:∀ n:Fin 10,bl (DIG.extract n.val (n.val+1))=[UInt8.ofNat (48+n.val)]:=by decide +kernel
theorem Zrz{n:Nat}(h:n<10):DIG.extract n (n+1)=ZcY n:=ZaG (by
 rw[Zqi ⟨n,h⟩,ZcY,ZcE,Int.toNat_natCast,dd1 h])
theorem ZrA{n:Nat}(h0:10<=n)(h:n<100):ZcY ((n / 10:Nat):Int)++DIG.extract (n % 10) (n % 10+1)=ZcY n:=ZaG (by
 rw[Xv,Zqi ⟨n % 10,by omega⟩,ZcY,ZcE,Int.toNat_natCast,dd1 (by omega),ZcY,ZcE,Int.toNat_natCast,dd2 h0 h]
 rfl)
def VN(f:Int->ByteArray)(w:ByteArray)(l:List Int):ByteArray:=l.foldl (fun w k=>w++f k) w
theorem ZaH{f:Int->ByteArray}{w:ByteArray}{l:List Int}{j:Nat}(h:j<l.length):VN f w (l.take (j+1))=VN f w (l.take j)++f (g0 l j):=by
 have e:g0 l j=l[j]:=by simp [h]
 unfold VN
 rw[List.take_succ_eq_append_getElem h,List.foldl_append,e]
 rfl
theorem U4(f:Int->ByteArray):∀(l:List Int) (w:ByteArray),bl (VN f w l)=bl w++l.flatMap fun k=>bl (f k)
 | [],w=>by simp [VN]
 | k::r,w=>by
  have:=U4 f r (w++f k)
  unfold VN at this ⊢
  rw[List.foldl_cons,this,Xv,List.flatMap_cons,List.append_assoc]
theorem JP{f:Int->ByteArray}{B:Nat}:∀(l:List Int) (w:ByteArray),(∀ k∈l,(f k).size<=B)->(VN f w l).size<=w.size+l.length*B
 | [],w,_=>by simp [VN]
 | k::r,w,h=>by
  have ih:=JP (f:=f) (B:=B) r (w++f k) fun q hq=>h q (by simp [hq])
  have h1:=h k (by simp)
  unfold VN at ih ⊢
  rw[List.foldl_cons]
  rw[ByteArray.size_append] at ih
  rw[List.length_cons,Nat.succ_mul]
  omega
def WW(sig:List TControl)(k:Int):ByteArray:=((sig[k.toNat]?).map TControl.name).getD ⟨#[]⟩
theorem ZcF{sig:List TControl}{k:Nat}(h:k<sig.length):WW sig k=sig[k].name:=by simp [WW,h]
theorem Wc{sig:List TControl}(h:Wb sig)(k:Int):(WW sig k).size<=4:=by
 unfold WW
 cases e:sig[k.toNat]? with
 | none=>decide
 | some x =>
  obtain⟨hl,rfl⟩:=List.getElem?_eq_some_iff.1 e
  exact((h.1 _ hl).1).1.2.2
end Go.Fd

/-
  NUMBERS OF LIBRARY FUNCTIONS IN THIS PROGRAM, as the guide's shelf lays them (printed by lay.py out of the kit's own command).
-/
namespace Go.Proofs
open Go.Shelf
end Go.Proofs

/-
  NUMBERS OF LIBRARY FUNCTIONS IN THIS PROGRAM, as the guide's shelf lays them (printed by lay.py out of the kit's own command).
-/
namespace Go.Proofs
open Go.Shelf
def Tryz.lays156_ren:Go.Shelf.Ren:=⟨fun | 156=>66 | 165=>84 | 166=>85 | 169=>86 | 240=>94 | 241=>95 | 276=>99 | 277=>100 | n=>n,fun | 31=>25 | 9=>9 | 3=>3 | 4=>4 | 0=>0 | 20=>20 | 72=>115 | 76=>119 | 70=>112 | 37=>113 | 75=>118 | 127=>128 | 164=>132 | 5=>5 | 80=>121 | n=>n,fun | n=>n⟩
theorem Tryz.lays156:Go.Proofs.Lays.n156 Tryz.prog Tryz.lays156_ren:={
  mixed:=by kernel_rfl,
  f156:=Tryz.func66.trans (congrArg some (by kernel_rfl)),
  f165:=Tryz.func84.trans (congrArg some (by kernel_rfl)),
  f166:=Tryz.func85.trans (congrArg some (by kernel_rfl)),
  f169:=Tryz.func86.trans (congrArg some (by kernel_rfl)),
  f240:=Tryz.func94.trans (congrArg some (by kernel_rfl)),
  f241:=Tryz.func95.trans (congrArg some (by kernel_rfl)),
  f276:=Tryz.func99.trans (congrArg some (by kernel_rfl)),
  f277:=Tryz.func100.trans (congrArg some (by kernel_rfl)),
  t0:=Tryz.underlying0,
  a0:=Tryz.isAgg0,
  z0:=Tryz.sizeOf0,
  v0:=Tryz.zeroValue0,
  t3:=Tryz.underlying3,
  a3:=Tryz.isAgg3,
  z3:=Tryz.sizeOf3,
  v3:=Tryz.zeroValue3,
  t4:=Tryz.underlying4,
  a4:=Tryz.isAgg4,
  z4:=Tryz.sizeOf4,
  v4:=Tryz.zeroValue4,
  t9:=Tryz.underlying9,
  a9:=Tryz.isAgg9,
  z9:=Tryz.sizeOf9,
  v9:=Tryz.zeroValue9,
  t20:=Tryz.underlying20,
  a20:=Tryz.isAgg20,
  z20:=Tryz.sizeOf20,
  v20:=Tryz.zeroValue20,
  t31:=Tryz.underlying25,
  a31:=Tryz.isAgg25,
  z31:=Tryz.sizeOf25,
  v31:=Tryz.zeroValue25,
  t37:=Tryz.underlying113,
  a37:=Tryz.isAgg113,
  z37:=Tryz.sizeOf113,
  v37:=Tryz.zeroValue113,
  t70:=Tryz.underlying112,
  a70:=Tryz.isAgg112,
  z70:=Tryz.sizeOf112,
  v70:=Tryz.zeroValue112,
  t72:=Tryz.underlying115,
  a72:=Tryz.isAgg115,
  z72:=Tryz.sizeOf115,
  v72:=Tryz.zeroValue115,
  t75:=Tryz.underlying118,
  a75:=Tryz.isAgg118,
  z75:=Tryz.sizeOf118,
  v75:=Tryz.zeroValue118,
  t76:=Tryz.underlying119,
  a76:=Tryz.isAgg119,
  z76:=Tryz.sizeOf119,
  v76:=Tryz.zeroValue119,
  t127:=Tryz.underlying128,
  a127:=Tryz.isAgg128,
  z127:=Tryz.sizeOf128,
  v127:=Tryz.zeroValue128,
  t164:=Tryz.underlying132,
  a164:=Tryz.isAgg132,
  z164:=Tryz.sizeOf132,
  v164:=Tryz.zeroValue132 }
end Go.Proofs

/-
  TEXTS OF SORTINGS: WHAT THE LIBRARY AND THE SMALL FUNCTIONS SAY. Own work.
-/
namespace Go.Fd
open Go.RowKit
set_option maxRecDepth 20000
theorem Zhn:Go.Proofs.Builder.Extra Proofs.Tryz.prog Proofs.Tryz.lays156_ren where
 sizeBuilder:=by kernel_rfl
 liesBuilder:=by kernel_rfl
 t5:=Proofs.Tryz.underlying5
 a5:=Proofs.Tryz.isAgg5
 z5:=Proofs.Tryz.sizeOf5
 v5:=Proofs.Tryz.zeroValue5
 infoByte:=by kernel_rfl
 cellsByte:=by kernel_rfl
 sizeByte:=by kernel_rfl
 neB5:=by decide
def Zah(xs:List ByteArray)(sep:ByteArray):ByteArray:=⟨(Lib.join (xs.map fun x=>x.data.toList) sep.data.toList).toArray⟩
theorem ZbL{x:ByteArray}{r:List ByteArray}{sep:ByteArray}:bl (Zah (x::r) sep)=bl x++r.flatMap fun y=>bl sep++bl y:=by
 unfold Zah
 rw[ZcE,List.map_cons,Lib.join_cons,Lib.joinTail,List.map_map,List.flatMap_def]
 rfl
theorem Zd5(xs:List ByteArray)(sep:ByteArray)(hN:xs.length<=4294967296)(hlen:(Zah xs sep).size<=140737488355328)(lvl:Nat)(S:Sto):Sem Proofs.Tryz.prog J7 lvl [tS xs,iS sep] S (iS (Zah xs sep)) S:=by
 have hlen':(Lib.join (xs.map fun x=>x.data.toList) sep.data.toList).length<=140737488355328:=by
  rw[<-Xw,Zah,ZcE] at hlen
  exact hlen
 refine ZaA (ZbK (by kernel_rfl)) rfl trivial fun _ G w vs hok hv=>?_
 simp only[VRs] at hv
 obtain⟨v,vr,rfl,h1,v2,vr2,rfl,h2,rfl⟩:=hv
 have h2':Rds w (Av G S w) v2 (.v (.string sep)):=h2
 cases h2'
 have h1':Rds w (Av G S w) v (.sl (rS xs)):=h1
 generalize hes:rS xs=es at h1'
 have hnil:xs=[]->∀ a c,Calls Proofs.Tryz.prog J7 #[.slice a 0 c,.string sep] w fun e w' => ∃ v,e = .returned v/\VR G S w' (iS (Zah xs sep)) v/\Below w.heap.size w w':=by
  rintro rfl a c
  refine(Go.Proofs.Any.strings_Join_none Proofs.Tryz.lays156 Zhn a c sep w).mono fun e w' ⟨he,hw⟩=>⟨_,he,?_,hw ▸ Below.refl _ _⟩
  exact Rds.v _ rfl
 cases h1' with
 | nil a c=>exact hnil (by cases xs with | nil=>rfl | cons x r=>cases hes) a c
 | sl b o c k _ f hA hk hl hc hr =>
  subst hes
  by_cases hx:xs=[]
  ·subst hx
   exact hnil rfl _ _
  obtain⟨x0,r0,hxs⟩:∃ x r,xs=x::r:=by
   cases xs with
   | nil=>exact absurd rfl hx
   | cons x r=>exact⟨x,r,rfl⟩
  have hk1:k=1:=(hk [ts x0] (by simp [hxs])).symm
  subst hk1
  rw[List.length_map] at hl ⊢
  refine(Go.Proofs.Any.strings_Join Proofs.Tryz.lays156 Zhn b o c xs sep w ?_ hA.1 (by omega) hl hlen').mono fun e w' ⟨he,hw⟩=>⟨_,he,Rds.v _ rfl,hw⟩
  intro j x hj
  have e1:(rS xs)[j]? = some [ts x]:=by simp [hj]
  have e2:=hc j _ 0 _ e1 rfl
  have e3:=hr j _ 0 _ e1 rfl
  rw[show o+j*1+0=o+j by omega] at e2
  rw[e2]
  generalize f j 0=y at e3
  cases e3
  rfl
theorem ZaI{n:Nat}(h:n<10)(lvl:Nat)(S:Sto):Sem Proofs.Tryz.prog Zw lvl [iI n] S (iS (ZcY n)) S:=by
 refine Zc Xr trivial ?_
 have h0:¬ (n:Int)<0:=by omega
 have h1:(n:Int)<10:=by omega
 have h2:((n:Int)+1).toNat=n+1:=by omega
 simp only[VZ,h0,h1,h2,EVA,seval,Zf,men]
 refine⟨by rw[Zd];omega,by omega,by omega,?_,?_⟩
 ·show n+1<=10
  omega
 ·rw[<-Zrz h]
theorem Zes{n:Nat}(h0:10<=n)(h:n<100)(lvl:Nat)(S:Sto):Sem Proofs.Tryz.prog Zw lvl [iI n] S (iS (ZcY n)) S:=by
 refine Zc Xr trivial ?_
 have g0:¬ (n:Int)<0:=by omega
 have g1:¬ (n:Int)<10:=by omega
 have e1:(n:Int) / 10=((n / 10:Nat):Int):=by omega
 have e2:(n:Int) % 10=((n % 10:Nat):Int):=by omega
 have e3:(((n % 10:Nat):Int)+1).toNat=n % 10+1:=by omega
 simp only[VZ,g0,g1,e1,e2,e3,EVA,seval,Zf,men]
 refine⟨by rw[Zd];omega,?_⟩
 refine Za (ZaI (n:=n / 10) (by omega)) ?_
 simp only[e2,e3,EVA,seval,Zf,men]
 have s1:=DG (n:=((n / 10:Nat):Int)) (by omega) (by omega)
 have d2:=ZrA h0 h
 refine⟨by rw[Zd];omega,by omega,by omega,?_,?_,?_⟩
 ·show n % 10+1<=10
  omega
 ·have:=congrArg ByteArray.size d2
  rw[ByteArray.size_append] at this
  have s2:=DG (n:=(n:Int)) (by omega) (by omega)
  show (ZcY ((n / 10:Nat):Int)).size+(DIG.extract (n % 10) (n % 10+1)).size<=4294967296
  omega
 ·rw[<-d2]
theorem ZcG{n:Int}(h0:0<=n)(h1:n<100)(lvl:Nat)(S:Sto):Sem Proofs.Tryz.prog Zw lvl [iI n] S (iS (ZcY n)) S:=by
 obtain⟨u,rfl⟩:=Int.eq_ofNat_of_zero_le h0
 by_cases h:u<10
 ·exact ZaI h lvl S
 ·exact Zes (by omega) (by omega) lvl S
theorem ZlT:(⟨#[32]⟩:ByteArray).size=1:=rfl
end Go.Fd

/-
  NUMBERS OF LIBRARY FUNCTIONS IN THIS PROGRAM, as the guide's shelf lays them (printed by lay.py out of the kit's own command).
-/
namespace Go.Proofs
open Go.Shelf
def Tryz.laysM171_ren:Go.Shelf.Ren:=⟨fun | 171=>83 | 243=>93 | 246=>98 | 283=>108 | 284=>109 | 285=>110 | 286=>111 | 129=>117 | 317=>116 | 318=>118 | 319=>119 | 320=>120 | 337=>124 | 338=>125 | n=>n,fun | 3=>3 | 9=>9 | 2=>2 | 4=>4 | 171=>142 | 0=>0 | 53=>143 | 37=>113 | 5=>5 | 173=>146 | 212=>154 | 51=>155 | 20=>20 | 213=>156 | 46=>157 | 232=>168 | 233=>169 | n=>n,fun | 17=>1 | 18=>4 | 19=>5 | n=>n⟩
theorem Tryz.laysM171:Go.Proofs.LaysM.n171 Tryz.prog Tryz.laysM171_ren:={
  mixed:=by kernel_rfl,
  f129:=Tryz.func117.trans (congrArg some (by kernel_rfl)),
  f171:=Tryz.func83.trans (congrArg some (by kernel_rfl)),
  f243:=Tryz.func93.trans (congrArg some (by kernel_rfl)),
  f246:=Tryz.func98.trans (congrArg some (by kernel_rfl)),
  f283:=Tryz.func108.trans (congrArg some (by kernel_rfl)),
  f284:=Tryz.func109.trans (congrArg some (by kernel_rfl)),
  f285:=Tryz.func110.trans (congrArg some (by kernel_rfl)),
  f286:=Tryz.func111.trans (congrArg some (by kernel_rfl)),
  f317:=Tryz.func116.trans (congrArg some (by kernel_rfl)),
  f318:=Tryz.func118.trans (congrArg some (by kernel_rfl)),
  f319:=Tryz.func119.trans (congrArg some (by kernel_rfl)),
  f320:=Tryz.func120.trans (congrArg some (by kernel_rfl)),
  f337:=Tryz.func124.trans (congrArg some (by kernel_rfl)),
  f338:=Tryz.func125.trans (congrArg some (by kernel_rfl)),
  t0:=Tryz.underlying0,
  a0:=Tryz.isAgg0,
  z0:=Tryz.sizeOf0,
  v0:=Tryz.zeroValue0,
  t2:=Tryz.underlying2,
  a2:=Tryz.isAgg2,
  z2:=Tryz.sizeOf2,
  v2:=Tryz.zeroValue2,
  t3:=Tryz.underlying3,
  a3:=Tryz.isAgg3,
  z3:=Tryz.sizeOf3,
  v3:=Tryz.zeroValue3,
  t4:=Tryz.underlying4,
  a4:=Tryz.isAgg4,
  z4:=Tryz.sizeOf4,
  v4:=Tryz.zeroValue4,
  t5:=Tryz.underlying5,
  a5:=Tryz.isAgg5,
  z5:=Tryz.sizeOf5,
  v5:=Tryz.zeroValue5,
  t9:=Tryz.underlying9,
  a9:=Tryz.isAgg9,
  z9:=Tryz.sizeOf9,
  v9:=Tryz.zeroValue9,
  t20:=Tryz.underlying20,
  a20:=Tryz.isAgg20,
  z20:=Tryz.sizeOf20,
  v20:=Tryz.zeroValue20,
  t37:=Tryz.underlying113,
  a37:=Tryz.isAgg113,
  z37:=Tryz.sizeOf113,
  v37:=Tryz.zeroValue113,
  t46:=Tryz.underlying157,
  a46:=Tryz.isAgg157,
  z46:=Tryz.sizeOf157,
  v46:=Tryz.zeroValue157,
  t51:=Tryz.underlying155,
  a51:=Tryz.isAgg155,
  z51:=Tryz.sizeOf155,
  v51:=Tryz.zeroValue155,
  t53:=Tryz.underlying143,
  a53:=Tryz.isAgg143,
  z53:=Tryz.sizeOf143,
  v53:=Tryz.zeroValue143,
  t171:=Tryz.underlying142,
  a171:=Tryz.isAgg142,
  z171:=Tryz.sizeOf142,
  v171:=Tryz.zeroValue142,
  t173:=Tryz.underlying146,
  a173:=Tryz.isAgg146,
  z173:=Tryz.sizeOf146,
  v173:=Tryz.zeroValue146,
  t212:=Tryz.underlying154,
  a212:=Tryz.isAgg154,
  z212:=Tryz.sizeOf154,
  v212:=Tryz.zeroValue154,
  t213:=Tryz.underlying156,
  a213:=Tryz.isAgg156,
  z213:=Tryz.sizeOf156,
  t232:=Tryz.underlying168,
  a232:=Tryz.isAgg168,
  z232:=Tryz.sizeOf168,
  v232:=Tryz.zeroValue168,
  t233:=Tryz.underlying169,
  a233:=Tryz.isAgg169,
  z233:=Tryz.sizeOf169,
  v233:=Tryz.zeroValue169,
  g17:=by kernel_rfl,
  g18:=by kernel_rfl,
  g19:=by kernel_rfl,
  i0:=by kernel_rfl,
  i2:=by kernel_rfl,
  i3:=by kernel_rfl,
  i4:=by kernel_rfl,
  i5:=by kernel_rfl,
  i9:=by kernel_rfl,
  i20:=by kernel_rfl,
  i37:=by kernel_rfl,
  i46:=by kernel_rfl,
  i51:=by kernel_rfl,
  i53:=by kernel_rfl,
  i171:=by kernel_rfl,
  i173:=by kernel_rfl,
  i212:=by kernel_rfl,
  i232:=by kernel_rfl,
  i233:=by kernel_rfl,
  m17:=by kernel_rfl,
  m18:=by kernel_rfl,
  m19:=by kernel_rfl }
end Go.Proofs

/-
  NUMBERS WITH A SIGN AS TEXT. Own work.
-/
namespace Go.Fd
set_option maxRecDepth 20000
def YF(n:Int):ByteArray:=⟨(Lib.itoa n).toArray⟩
theorem Zd6{n:Int}(h:0<=n):YF n=ZcY n:=by unfold YF ZcY Lib.itoa;rw[if_neg (by omega)]
theorem ZcH{n:Int}(h:n<0):YF n=⟨#[45]⟩++ZcY (-n):=ZaG (by
 rw[Xv]
 unfold YF ZcY Lib.itoa
 rw[if_pos h,ZcE,ZcE,show (-n).toNat=n.natAbs by omega]
 rfl)
def smN(n:Int):Prop:=-100<n/\n<100
theorem ZS{n:Int}(h:smN n):(YF n).size<=3:=by
 obtain⟨h1,h2⟩:=h
 by_cases h0:0<=n
 ·rw[Zd6 h0]
  have:=DG h0 h2
  omega
 ·rw[ZcH (by omega),ByteArray.size_append]
  have:=DG (n:=-n) (by omega) (by omega)
  have e:(⟨#[45]⟩:ByteArray).size=1:=rfl
  omega
theorem ZiN{G:Gh}{S:Sto}{w:World}(h:Fix G S w):Lib.TabIs Proofs.Tryz.prog w "internal/strconv.uint64pow10" .u64 Lib.pow10Tab:=by
 obtain⟨w0,hg,hs,hb⟩:=h
 have hg':Lib.TabIs Proofs.Tryz.prog w0 "internal/strconv.uint64pow10" .u64 Lib.pow10Tab:=hg
 unfold Lib.TabIs World.var? at hg' ⊢
 generalize Proofs.Tryz.prog.globalNamed "internal/strconv.uint64pow10" = o at hg' ⊢
 cases o with
 | none=>exact hg'
 | some g =>
  simp only[Option.bind_some] at hg' ⊢
  rcases Nat.lt_or_ge g w0.heap.size with hl | hl
  ·rw[(hb g hl).2];exact hg'
  ·rw[Array.getElem?_eq_none hl] at hg';cases hg'
theorem ZfR(n:Int)(hn:smN n)(lvl:Nat)(S:Sto):Sem Proofs.Tryz.prog QR lvl [iI n] S (iS (YF n)) S:=by
 obtain⟨h0,h1⟩:=hn
 refine Dv (ZbK (by kernel_rfl)) rfl trivial fun _ G w vs _ hv hf=>?_
 rw[Zbr (xs:=[.int .i64 n]) hv]
 exact(Go.Proofs.Any.strconv_Itoa Proofs.Tryz.laysM171 n (by omega) (by omega) w (ZiN hf)).mono fun e w' ⟨h,k,os,h'⟩=>⟨_,h,.v _ rfl,h' ▸ Go.Lib.below_grow _ w (Nat.le_refl _) k os⟩
theorem WX(n:Int)(hn:smN n)(lvl:Nat)(S:Sto):Sem Proofs.Tryz.prog JH lvl [iI n] S (iS (YF n)) S:=by
 refine Zc Zer trivial ?_
 simp only[ZaD,EVA,seval,Zf,men]
 refine Za (ZfR n hn) ?_
 simp only[EVA,seval,Zf,men]
theorem Qo(n:Int)(hn:smN n)(lvl:Nat)(S:Sto):Sem Proofs.Tryz.prog Zw lvl [iI n] S (iS (YF n)) S:=by
 obtain⟨h0,h1⟩:=hn
 by_cases h:0<=n
 ·rw[Zd6 h]
  exact ZcG h h1 lvl S
 ·rw[ZcH (by omega)]
  refine Zc Xr trivial ?_
  have hlt:n<0:=by omega
  have z:=DG (n:=-n) (by omega) (by omega)
  have e:(⟨#[45]⟩:ByteArray).size=1:=rfl
  have hz:(0:Int)-n = -n:=by omega
  simp only[VZ,hlt,hz,EVA,seval,Zf,men]
  refine⟨by rw[Zd];omega,Za (ZcG (n:=-n) (by omega) (by omega)) ?_⟩
  simp only[e,EVA,seval,Zf,men]
  try omega
abbrev spI(k:Int):ByteArray:=⟨#[32]⟩++YF k
theorem V5{k:Int}(h:smN k):(spI k).size<=4:=by
 have:=ZS h
 rw[ByteArray.size_append,ZlT]
 omega
def smL(l:List Int):Prop:=∀ k∈l,smN k
theorem QH(word:ByteArray)(l:List Int)(hl:smL l)(hw:word.size<=100000000)(hL:l.length<=1000)(lvl:Nat)(S:Sto):Sem Proofs.Tryz.prog Jc lvl [iS word,tI l] S (iS (VN spI word l)) S:=by
 refine Zc DB trivial ?_
 simp only[Xq,List.length_map,EVA,seval,Zf,men]
 refine ZI (α:=Unit) l.length (fun j _=>[(0,iS (VN spI word (l.take j))),(9,iI j)]) (fun j _=>[]) (fun _ _=>True) () (by simp only[EVA,seval,Zf,men]) (by (simp only[EVA,seval,Zf,men]) <;> rfl) trivial ?_
 intro j _ hj _
 simp only[List.length_map,EVA,seval,Zf,men]
 refine Zn (fun hlt=>?_) (fun hge=>?_)
 ·have hja:j<l.length:=by omega
  have ga:=WV hja
  have e:g0 l j=l[j]:=by simp [hja]
  have hk:=hl l[j] (List.getElem_mem hja)
  rw[<-e] at hk
  have z1:=JP (f:=spI) (B:=4) (l.take j) word fun k hk=>V5 (hl k (List.mem_of_mem_take hk))
  have z2:(l.take j).length=j:=by rw[List.length_take];omega
  have z3:=ZS hk
  rw[z2] at z1
  simp only[ga,List.length_map,EVA,seval,Zf,men]
  refine Za (WX _ hk) ?_
  simp only[ByteArray.size_append,ZlT,EVA,seval,Zf,men]
  exact⟨by omega,by omega,by rw[Zd];omega,Ze () hja (by rw[ZaH hja];rfl) trivial⟩
 ·have:j=l.length:=by omega
  subst this
  rw[List.take_length]
theorem Xx(l:List Int)(hl:smL l)(hL:l.length<=1000)(lvl:Nat)(S:Sto):Sem Proofs.Tryz.prog Jm lvl [tI l] S (iS (VN spI ⟨#[]⟩ l)) S:=by
 refine Zc D8 trivial ?_
 simp only[X0,List.length_map,EVA,seval,Zf,men]
 refine ZI (α:=Unit) l.length (fun j _=>[(3,iS (VN spI ⟨#[]⟩ (l.take j))),(4,iI j)]) (fun j _=>[]) (fun _ _=>True) () (by simp only[EVA,seval,Zf,men]) (by (simp only[EVA,seval,Zf,men]) <;> rfl) trivial ?_
 intro j _ hj _
 simp only[List.length_map,EVA,seval,Zf,men]
 refine Zn (fun hlt=>?_) (fun hge=>?_)
 ·have hja:j<l.length:=by omega
  have ga:=WV hja
  have e:g0 l j=l[j]:=by simp [hja]
  have hk:=hl l[j] (List.getElem_mem hja)
  rw[<-e] at hk
  have z1:=JP (f:=spI) (B:=4) (l.take j) ⟨#[]⟩ fun k hk=>V5 (hl k (List.mem_of_mem_take hk))
  have z2:(l.take j).length=j:=by rw[List.length_take];omega
  have z3:=ZS hk
  rw[z2,show (⟨#[]⟩:ByteArray).size=0 from rfl] at z1
  simp only[ga,List.length_map,ByteArray.size_append,ZlT,EVA,seval,Zf,men]
  refine⟨by omega,Za (Qo _ hk) ?_⟩
  simp only[ByteArray.size_append,ZlT,EVA,seval,Zf,men]
  exact⟨by omega,by rw[Zd];omega,Ze () hja (by rw[ZaH hja,spI,<-ByteArray.append_assoc];rfl) trivial⟩
 ·have:j=l.length:=by omega
  subst this
  rw[List.take_length]
end Go.Fd

/-
  WHAT A VALID BIGRAPH IS, BOTH SIDES. Own work.
-/
namespace Go.Fd
set_option maxRecDepth 20000
theorem ZcI{P:Nat->Prop}{j:Nat}(h:∀ k,k<j->P k)(hj:P j):∀ k,k<j+1->P k:=fun k hk=>by
 by_cases e:k=j
 ·subst e;exact hj
 ·exact h k (by omega)
theorem Zd7{n a b:Int}:inB n a b=dc (a<=n/\n<=b):=by
 unfold inB
 rw[Jn,Bool.decide_and]
theorem Zho:∀(x y:List UInt8),(!Op.bytesLess x y)=(Op.bytesLess y x || decide (x=y))
 | [],[]=>by simp [Op.bytesLess]
 | [],_::_=>by simp [Op.bytesLess]
 | _::_,[]=>by simp [Op.bytesLess]
 | a::x,b::y=>by
  have ih:=Zho x y
  simp only[Op.bytesLess]
  by_cases h:a=b
  ·subst h
   have e:¬ a<a:=UInt8.lt_irrefl a
   simp [e,ih]
  ·by_cases h1:a<b
   ·have h2:¬ b<a:=fun h2=>UInt8.lt_irrefl a (UInt8.lt_trans h1 h2)
    have h3:¬ b=a:=fun e=>h e.symm
    simp [h,h1,h2,h3]
   ·have h2:b<a:=by
     rcases UInt8.lt_or_lt_of_ne h with h | h
     ·exact absurd h h1
     ·exact h
    simp [h,h1,h2]
def ltS(s t:ByteArray):Prop:=Op.bytesLess s.data.toList t.data.toList=true
theorem ZiO{s t:ByteArray}:(!Op.bytesLess s.data.toList t.data.toList) = !dc (ltS s t):=by
 unfold ltS
 rw[Jn,Bool.decide_eq_true]
theorem ZiP{s t:ByteArray}:(Op.bytesLess t.data.toList s.data.toList || decide (t=s)) = !dc (ltS s t):=by
 rw[<-ZiO,Zho]
 congr 1
 have:t=s↔s.data.toList=t.data.toList:=⟨fun h=>by rw[h],fun h=>by
  cases s with | mk s=>cases t with | mk t=>exact congrArg ByteArray.mk (Array.toList_inj.1 h.symm)⟩
 simp only[this]
def ZlD(l:List ByteArray)(i:Nat):Prop:=∀ h:i<l.length,ZfH l[i]/\∀ _:0<i,ltS (l[i-1]'(by omega)) l[i]
def YO(l:List ByteArray):Prop:=(∀ i,ZlD l i)/\l.length<=16
theorem DH(l:List ByteArray)(hl:l.length<=4294967296)(hb:∀ y∈l,y.size<=4294967296)(lvl:Nat)(S:Sto):Sem Proofs.Tryz.prog J5 lvl [.tr (.sl (rS l))] S (iB (dc (YO l))) S:=by
 refine Zc Zab trivial ?_
 simp only[X3,EVA,seval]
 refine ZI (α:=Unit) l.length (fun j _=>[(3,iI j)]) (fun j _=>[]) (fun j _=>∀ k,k<j->ZlD l k) () (by simp only[EVA,seval]) (by (simp only[EVA,seval]) <;> rfl) (fun k hk=>absurd hk (Nat.not_lt_zero k)) ?_
 intro j _ hj hA
 simp only[List.length_map,EVA,seval]
 refine Zn (fun hlt=>?_) (fun hge=>?_)
 ·have hja:j<l.length:=by omega
  have ga:=Q1 (c:=fun s=>[ts s]) hja
  have hno:¬ ZlD l j->dc (YO l)=false:=fun h=>Zg fun g=>h (g.1 j)
  simp only[ga,EVA,seval,Zf,men]
  refine Za (ZaE l[j] (by have:=hb _ (List.getElem_mem hja);omega)) ?_
  cases h1:dc (ZfH l[j])
  ·simp only[EVA,seval]
   rw[hno fun h=>dc_not.1 h1 (h hja).1]
  by_cases q:0<j
  ·have e1:((j:Int)-1).toNat=j-1:=by omega
   have e2:(0:Int)<=j-1:=by omega
   have q5:(0:Int)<j:=by omega
   have gb:=Q1 (c:=fun s=>[ts s]) (l:=l) (j:=j-1) (by omega)
   simp only[q5,e1,e2,ga,gb,EVA,seval]
   cases hc:Op.bytesLess (l[j-1]'(by omega)).data.toList l[j].data.toList
   ·simp only[seval]
    exact⟨by rw[Zd];omega,by rw[hno fun h=>by have:=(h hja).2 q;unfold ltS at this;rw[this] at hc;cases hc]⟩
   ·simp only[EVA,seval]
    exact⟨by rw[Zd];omega,by rw[Zd];omega,Ze () hja rfl (ZcI hA fun _=>⟨dc_iff.1 h1,fun _=>hc⟩)⟩
  ·have q5:¬ (0:Int)<j:=by omega
   simp only[q5,EVA,seval]
   exact⟨by rw[Zd];omega,Ze () hja rfl (ZcI hA fun _=>⟨dc_iff.1 h1,fun h=>absurd h q⟩)⟩
 ·have hj1:j=l.length:=by omega
  subst hj1
  rw[Ja (p:=YO l) (q:=(l.length:Int)<=16) ⟨fun g=>by have:=g.2;omega,fun g=>⟨fun i h=>hA i h h,by omega⟩⟩,Jn]
theorem UI(l:List ByteArray)(hl:l.length<=4294967296)(hb:∀ y∈l,y.size<=4294967296)(lvl:Nat)(S:Sto):Sem Proofs.Tryz.prog JN lvl [.tr (.sl (rS l))] S (iB (dc (YO l))) S:=by
 refine Zc DD trivial ?_
 simp only[Xt,List.length_map,EVA,seval]
 refine ZI (α:=Unit) l.length (fun j _=>[(7,iI j)]) (fun j _=>[]) (fun j _=>∀ k,k<j->ZlD l k) () (by simp only[EVA,seval]) (by (simp only[EVA,seval]) <;> rfl) (fun k hk=>absurd hk (Nat.not_lt_zero k)) ?_
 intro j _ hj hA
 simp only[List.length_map,EVA,seval]
 refine Zn (fun hlt=>?_) (fun hge=>?_)
 ·have hja:j<l.length:=by omega
  have ga:=Q1 (c:=fun s=>[ts s]) hja
  have hno:¬ ZlD l j->dc (YO l)=false:=fun h=>Zg fun g=>h (g.1 j)
  simp only[ga,EVA,seval,Zf,men]
  refine Za (ZaF l[j] (by have:=hb _ (List.getElem_mem hja);omega)) ?_
  cases h1:dc (ZfH l[j])
  ·simp only[EVA,seval]
   rw[hno fun h=>dc_not.1 h1 (h hja).1]
  by_cases q:0<j
  ·have e1:((j:Int)-1).toNat=j-1:=by omega
   have e2:(0:Int)<=j-1:=by omega
   have q5:(0:Int)<j:=by omega
   have gb:=Q1 (c:=fun s=>[ts s]) (l:=l) (j:=j-1) (by omega)
   simp only[q5,e1,e2,gb,EVA,seval]
   rw[ZiP]
   cases hc:dc (ltS (l[j-1]'(by omega)) l[j])
   ·simp only[EVA,seval]
    exact⟨by rw[Zd];omega,by rw[hno fun h=>dc_not.1 hc ((h hja).2 q)]⟩
   ·simp only[EVA,seval]
    exact⟨by rw[Zd];omega,by rw[Zd];omega,Ze () hja rfl (ZcI hA fun _=>⟨dc_iff.1 h1,fun _=>dc_iff.1 hc⟩)⟩
  ·have q5:¬ (0:Int)<j:=by omega
   simp only[q5,EVA,seval]
   exact⟨by rw[Zd];omega,Ze () hja rfl (ZcI hA fun _=>⟨dc_iff.1 h1,fun h=>absurd h q⟩)⟩
 ·have hj1:j=l.length:=by omega
  subst hj1
  rw[Ja (p:=YO l) (q:=(l.length:Int)<=16) ⟨fun g=>by have:=g.2;omega,fun g=>⟨fun i h=>hA i h h,by omega⟩⟩,Jn]
def VO(b:TBigraph)(l:Int):Prop:=0<=l/\l<=b.edges+b.outer.length-1
theorem ZaJ(b:TBigraph)(l:Int)(he:0<=b.edges/\b.edges<=8)(ho:b.outer.length<=4294967296)(lvl:Nat)(S:Sto):Sem Proofs.Tryz.prog Yz lvl [.ag ((Zb b).map .tr),iI l] S (iB (dc (VO b l))) S:=by
 refine Zc ZbC trivial ?_
 simp only[WL,Zb,List.length_map,EVA,seval,Zf,men]
 refine⟨by rw[Zd];omega,by rw[Zd];omega,?_⟩
 refine Za (YR l 0 (b.edges+b.outer.length-1)) ?_
 simp only[EVA,seval]
 rw[Zd7]
 rfl
theorem ZaK(b:TBigraph)(l:Int)(he:0<=b.edges/\b.edges<=8)(ho:b.outer.length<=4294967296)(lvl:Nat)(S:Sto):Sem Proofs.Tryz.prog ZT lvl [.ag ((Zb b).map .tr),iI l] S (iB (dc (VO b l))) S:=by
 refine Zc Xu trivial ?_
 simp only[YW,Zb,List.length_map,EVA,seval,Zf,men]
 refine⟨by rw[Zd];omega,by rw[Zd];omega,?_⟩
 refine Za (JO l 0 (b.edges+b.outer.length-1)) ?_
 simp only[EVA,seval]
 rw[Zd7]
 rfl
def ZcJ(sig:List TControl)(c:Int):Int:=((sig[c.toNat]?).map TControl.kind_).getD 0
def Wd(sig:List TControl)(c:Int):Int:=((sig[c.toNat]?).map TControl.ports).getD 0
def ZfS(b:TBigraph)(p:Int):Int:=((b.nodes[p.toNat]?).map TNode.control).getD 0
def Xy(sig:List TControl)(b:TBigraph)(p UM:Int):Prop:=(p<0/\-b.roots<=p)\/(0<=p/\p<UM/\¬ ZcJ sig (ZfS b p)=2)
def ZcK(sig:List TControl)(b:TBigraph)(n:Nat):Prop:=∀ i,i<n->∀ h:i<b.nodes.length,0<=b.nodes[i].control/\b.nodes[i].control<=(sig.length:Int)-1
theorem DI(sig:List TControl)(b:TBigraph)(p:Int)(k:Nat)(hp:XR .i64 p)(hr:0<=b.roots/\b.roots<=4)(hk:k<=b.nodes.length)(hc:ZcK sig b k)(lvl:Nat)(S:Sto):Sem Proofs.Tryz.prog J6 lvl [.tr (.sl (sig.map Zj)),.ag ((Zb b).map .tr),iI p,iI k] S (iB (dc (Xy sig b p k))) S:=by
 rw[Zd] at hp
 refine Zc Zad trivial ?_
 simp only[X5,Zb,EVA,seval,Zf,men]
 refine Zn (fun hneg=>?_) (fun hpos=>?_)
 ·refine⟨by rw[Zd];omega,by rw[Zd];omega,?_⟩
  refine Za (YR (-1-p) 0 (b.roots-1)) ?_
  simp only[EVA,seval]
  have hiff:(0 <= -1-p/\-1-p<=b.roots-1)↔Xy sig b p k:=⟨fun h=>.inl (by omega),fun h=>by rcases h with h | h <;> omega⟩
  rw[Zd7,Ja hiff]
 ·refine Zn (fun hb=>?_) (fun hb=>?_)
  ·obtain⟨q,rfl⟩:∃ q:Nat,p=q:=⟨p.toNat,by omega⟩
   have hq:q<b.nodes.length:=by omega
   have ga:=Q1 (c:=ZN) hq
   obtain⟨m1,m2⟩:=hc q (by omega) hq
   obtain⟨m,hm⟩:∃ m:Nat,b.nodes[q].control=m:=⟨b.nodes[q].control.toNat,by omega⟩
   have hms:m<sig.length:=by omega
   have gs:=Q1 (c:=Zj) hms
   simp only[hb,ga,gs,ZN,Zj,hm,Int.toNat_natCast,EVA,seval]
   have e:ZcJ sig (ZfS b q)=sig[m].kind_:=by simp [ZcJ,ZfS,hq,hm,hms]
   have hiff:Xy sig b q k ↔ ¬ sig[m].kind_=2:=by
    constructor
    ·intro h
     rcases h with h | h
     ·omega
     ·rw[<-e];exact h.2.2
    ·intro h
     exact .inr ⟨by omega,hb,by rw[e];exact h⟩
   rw[Ja hiff,Jn]
  ·rw[Zg fun h:Xy sig b p k=>by rcases h with h | h <;> omega]
theorem UJ(sig:List TControl)(b:TBigraph)(p:Int)(k:Nat)(hr:0<=b.roots/\b.roots<=4)(hk:k<=b.nodes.length)(hc:ZcK sig b k)(lvl:Nat)(S:Sto):Sem Proofs.Tryz.prog ZO lvl [.ag ((Zb b).map .tr),.tr (.sl (sig.map Zj)),iI p,iI k] S (iB (dc (Xy sig b p k))) S:=by
 refine Zc QF trivial ?_
 simp only[YC,Zb,EVA,seval]
 refine Zn (fun hneg=>?_) (fun hpos=>?_)
 ·refine⟨by rw[Zd];omega,?_⟩
  have hiff:Xy sig b p k ↔ -b.roots<=p:=⟨fun h=>by rcases h with h | h <;> omega,fun h=>.inl (by omega)⟩
  rw[Ja hiff,Jn]
 ·refine Zn (fun hb=>?_) (fun hb=>?_)
  ·obtain⟨q,rfl⟩:∃ q:Nat,p=q:=⟨p.toNat,by omega⟩
   have hq:q<b.nodes.length:=by omega
   have ga:=Q1 (c:=ZN) hq
   obtain⟨m1,m2⟩:=hc q (by omega) hq
   obtain⟨m,hm⟩:∃ m:Nat,b.nodes[q].control=m:=⟨b.nodes[q].control.toNat,by omega⟩
   have hms:m<sig.length:=by omega
   have gs:=Q1 (c:=Zj) hms
   simp only[hb,ga,gs,ZN,Zj,hm,Int.toNat_natCast,EVA,seval]
   have e:ZcJ sig (ZfS b q)=sig[m].kind_:=by simp [ZcJ,ZfS,hq,hm,hms]
   have hiff:Xy sig b q k ↔ ¬ sig[m].kind_=2:=by
    constructor
    ·intro h
     rcases h with h | h
     ·omega
     ·rw[<-e];exact h.2.2
    ·intro h
     exact .inr ⟨by omega,hb,by rw[e];exact h⟩
   rw[Ja hiff,Jn]
  ·rw[Zg fun h:Xy sig b p k=>by rcases h with h | h <;> omega]
structure nodeOK (sig:List TControl) (b:TBigraph) (x:TNode) (i:Nat):Prop where
 ctl:0<=x.control/\x.control<=(sig.length:Int)-1
 par:Xy sig b x.parent i
 ports:(x.links.length:Int)=Wd sig x.control
 links:∀ l∈x.links,VO b l
theorem Zet(sig:List TControl)(b:TBigraph)(i:Nat)(hi:i<b.nodes.length)(hn:sig.length<=4294967296)(hl:b.nodes[i].links.length<=4294967296)(hp:XR .i64 b.nodes[i].parent)(hr:0<=b.roots/\b.roots<=4)(he:0<=b.edges/\b.edges<=8)(ho:b.outer.length<=4294967296)(hc:ZcK sig b i)(lvl:Nat)(S:Sto):Sem Proofs.Tryz.prog VF lvl [.tr (.sl (sig.map Zj)),.ag ((Zb b).map .tr),iI i] S (iB (dc (nodeOK sig b b.nodes[i] i))) S:=by
 refine Zc ZbB trivial ?_
 have ga:=Q1 (c:=ZN) hi
 simp only[WK,Zb,List.length_map,ga,ZN,EVA,seval,Zf,men]
 refine⟨by rw[Zd];omega,?_⟩
 refine Za (YR b.nodes[i].control 0 ((sig.length:Int)-1)) ?_
 cases h1:inB b.nodes[i].control 0 ((sig.length:Int)-1)
 ·simp only[EVA,seval]
  rw[Zg fun h:nodeOK sig b b.nodes[i] i=>inB_not.1 h1 h.ctl]
 have r1:=inB_iff.1 h1
 simp only[EVA,seval,Zf,men]
 refine Za (DI sig b b.nodes[i].parent i hp hr (by omega) hc) ?_
 cases h2:dc (Xy sig b b.nodes[i].parent i)
 ·simp only[EVA,seval]
  rw[Zg fun h:nodeOK sig b b.nodes[i] i=>dc_not.1 h2 h.par]
 obtain⟨m,hm⟩:∃ m:Nat,b.nodes[i].control=m:=⟨b.nodes[i].control.toNat,by omega⟩
 have hms:m<sig.length:=by omega
 have gs:=Q1 (c:=Zj) hms
 have e:Wd sig b.nodes[i].control=sig[m].ports:=by simp [Wd,hm,hms]
 simp only[hm,gs,Zj,List.length_map,EVA,seval]
 refine Zn (fun hne=>?_) (fun heq=>?_)
 ·rw[Zg fun h:nodeOK sig b b.nodes[i] i=>by have:=h.ports;rw[e] at this;exact hne this]
 refine ZI (α:=Unit) b.nodes[i].links.length (fun j _=>[(8,iI j)]) (fun j _=>[]) (fun j _=>∀ k,k<j->VO b (g0 b.nodes[i].links k)) () (by simp only[EVA,seval]) (by (simp only[EVA,seval]) <;> rfl) (fun k hk=>absurd hk (Nat.not_lt_zero k)) ?_
 intro j _ hj hA
 simp only[List.length_map,EVA,seval]
 refine Zn (fun hlt=>?_) (fun hge=>?_)
 ·have hja:j<b.nodes[i].links.length:=by omega
  have gl:=WV hja
  simp only[gl,EVA,seval,Zf,men]
  refine Za (ZaJ b (g0 b.nodes[i].links j) he ho) ?_
  cases hc:dc (VO b (g0 b.nodes[i].links j))
  ·simp only[EVA,seval]
   rw[Zg fun h:nodeOK sig b b.nodes[i] i=>dc_not.1 hc (h.links _ (by simp [hja]))]
  ·simp only[EVA,seval]
   exact⟨by rw[Zd];omega,Ze () hja rfl (ZcI hA (dc_iff.1 hc))⟩
 ·have hj1:j=b.nodes[i].links.length:=by omega
  subst hj1
  have:nodeOK sig b b.nodes[i] i:=⟨r1,dc_iff.1 h2,by rw[e];omega,fun l hl=>by
   obtain⟨k,hk,rfl⟩:=List.getElem_of_mem hl
   have:=hA k hk
   simpa [hk] using this⟩
  rw[Va this]
def inn(b:TBigraph):List ByteArray:=b.inner.map TWire.name
theorem Zd8(a b:List ByteArray):rS (a++b)=rS a++rS b:=List.map_append
theorem Zdo(b:TBigraph)(hn:b.inner.length<=4294967296)(lvl:Nat)(S:Sto):Sem Proofs.Tryz.prog Y8 lvl [.ag ((Zb b).map .tr)] S (.ow 1 (rS (inn b)) true) S:=by
 refine Zc Zac trivial ?_
 simp only[X4,Zb,EVA,seval]
 refine ZI (α:=Unit) b.inner.length (fun j _=>[(3,.hd (lvl,160) [] 0 j none j),(4,iI j)]) (fun j _=>[(160,.ar 1 (rS ((inn b).take j)) true j 0)]) (fun _ _=>True) () (by simp only[EVA,seval]) (by (simp only[EVA,seval]) <;> rfl) trivial ?_
 intro j _ hj _
 have hil:(inn b).length=b.inner.length:=by simp [inn]
 simp only[List.length_map,EVA,seval]
 refine Zn (fun hlt=>?_) (fun hge=>?_)
 ·have hja:j<b.inner.length:=by omega
  have ga:=Q1 (c:=ZX) hja
  have hlN:(rS ((inn b).take j)).length=j:=by rw[List.length_map,List.length_take];omega
  simp only[ga,ZX,hlN,EVA,seval]
  have hstep:rS ((inn b).take j)++[[ts b.inner[j].name]]=rS ((inn b).take (j+1)):=by
   rw[List.take_succ_eq_append_getElem (by omega),Zd8]
   simp [inn]
  refine⟨by omega,by rw[Zd];omega,Ze () hja ?_ trivial⟩
  rw[<-hstep]
  rfl
 ·have:j=b.inner.length:=by omega
  subst this
  rw[List.take_of_length_le (by omega)]
  exact⟨hil.symm,rfl⟩
end Go.Fd

/-
  A VALID BIGRAPH: THE WHOLE, BOTH SIDES. Own work.
-/
namespace Go.Fd
set_option maxRecDepth 20000
theorem Zai(b:TBigraph)(hn:b.inner.length<=4294967296)(lvl:Nat)(S:Sto):Sem Proofs.Tryz.prog Z2 lvl [.ag ((Zb b).map .tr)] S (.ow 1 (rS (inn b)) true) S:=by
 refine Zc Qa trivial ?_
 simp only[J4,List.length_map,Zb,EVA,seval,Zf,men]
 refine ZI (α:=Unit) b.inner.length (fun j _=>[(3,.hd (lvl,192) [] 0 j none j),(10,iI j)]) (fun j _=>[(192,.ar 1 (rS ((inn b).take j)) true j 0)]) (fun _ _=>True) () (by simp only[EVA,seval,Zf,men]) (by (simp only[EVA,seval,Zf,men]) <;> rfl) trivial ?_
 intro j _ hj _
 have hil:(inn b).length=b.inner.length:=by simp [inn]
 simp only[List.length_map,EVA,seval,Zf,men]
 refine Zn (fun hlt=>?_) (fun hge=>?_)
 ·have hja:j<b.inner.length:=by omega
  have ga:=Q1 (c:=ZX) hja
  have hlN:(rS ((inn b).take j)).length=j:=by rw[List.length_map,List.length_take];omega
  simp only[ga,ZX,hlN,List.length_map,EVA,seval,Zf,men]
  have hstep:rS ((inn b).take j)++[[ts b.inner[j].name]]=rS ((inn b).take (j+1)):=by
   rw[List.take_succ_eq_append_getElem (by omega),Zd8]
   simp [inn]
  refine⟨by omega,by rw[Zd];omega,Ze () hja ?_ trivial⟩
  rw[<-hstep]
  rfl
 ·have:j=b.inner.length:=by omega
  subst this
  rw[List.take_of_length_le (by omega)]
  exact⟨hil.symm,rfl⟩
def Zd9(sig:List TControl)(b:TBigraph)(i:Nat):Prop:=∀ h:i<b.nodes.length,nodeOK sig b b.nodes[i] i
structure bigOK (sig:List TControl) (b:TBigraph):Prop where
 sg:Wb sig
 roots:0<=b.roots/\b.roots<=4
 nodesL:b.nodes.length<=8
 sitesL:b.sites.length<=4
 edges:0<=b.edges/\b.edges<=8
 outer:YO b.outer
 inn:YO (inn b)
 nodes:∀ i,Zd9 sig b i
 sites:∀ p∈b.sites,Xy sig b p b.nodes.length
 inner:∀ w∈b.inner,VO b w.link
theorem ZbM{sig:List TControl}{b:TBigraph}{j:Nat}(h:∀ k,k<j->Zd9 sig b k):ZcK sig b j:=fun i hi hl=>(h i hi hl).ctl
theorem ZbN{b:TBigraph}:(inn b).length=b.inner.length:=by simp [inn]
theorem ZfT{b:TBigraph}{n:Nat}(h:∀ y∈b.inner,QP n y):∀ y∈inn b,y.size<=n:=fun y hy=>by
 obtain⟨w,hw,rfl⟩:=List.mem_map.1 hy
 exact h w hw
theorem ZaL(sig:List TControl)(b:TBigraph)(hn:sig.length<=4294967296)(hbs:∀ y∈sig,Zu 4294967296 y)(hb:Jb 4294967296 b)(hf:Xk b)(lvl:Nat)(S:Sto):Sem Proofs.Tryz.prog Yv lvl [.tr (.sl (sig.map Zj)),.ag ((Zb b).map .tr)] S (iB (dc (bigOK sig b))) S:=by
 obtain⟨b1,b2,b3,b4,b5,b6,b7⟩:=hb
 obtain⟨f1,f2,f3,f4,f5⟩:=hf
 refine Zc Zbx trivial ?_
 simp only[WE,List.length_map,Zb,EVA,seval,Zf,men]
 refine Za (ZfK sig (by omega) (fun y hy=>DF (hbs y hy))) ?_
 cases h1:dc (Wb sig)
 ·simp only[EVA,seval,Zf,men]
  rw[Zg fun h:bigOK sig b=>dc_not.1 h1 h.sg]
 simp only[List.length_map,Zb,EVA,seval,Zf,men]
 refine Za (YR b.roots 0 4) ?_
 cases h2:inB b.roots 0 4
 ·simp only[EVA,seval,Zf,men]
  rw[Zg fun h:bigOK sig b=>inB_not.1 h2 h.roots]
 by_cases h3:(8:Int)<b.nodes.length
 ·simp only[h3,List.length_map,Zb,EVA,seval,Zf,men]
  rw[Zg fun h:bigOK sig b=>by have:=h.nodesL;omega]
 by_cases h4:(4:Int)<b.sites.length
 ·simp only[h3,h4,List.length_map,Zb,EVA,seval,Zf,men]
  rw[Zg fun h:bigOK sig b=>by have:=h.sitesL;omega]
 simp only[h3,h4,List.length_map,Zb,EVA,seval,Zf,men]
 refine Za (YR b.edges 0 8) ?_
 cases h5:inB b.edges 0 8
 ·simp only[EVA,seval,Zf,men]
  rw[Zg fun h:bigOK sig b=>inB_not.1 h5 h.edges]
 have r2:=inB_iff.1 h2
 have r5:=inB_iff.1 h5
 simp only[List.length_map,Zb,EVA,seval,Zf,men]
 refine Za (DH b.outer (by assumption) (by assumption)) ?_
 cases h6:dc (YO b.outer)
 ·simp only[EVA,seval,Zf,men]
  rw[Zg fun h:bigOK sig b=>dc_not.1 h6 h.outer]
 by_cases h7:(16:Int)<b.inner.length
 ·simp only[h7,List.length_map,Zb,EVA,seval,Zf,men]
  rw[Zg fun h:bigOK sig b=>by have:=h.inn.2;rw[ZbN] at this;omega]
 simp only[h7,List.length_map,Zb,EVA,seval,Zf,men]
 refine Za (Zdo b (by omega)) ?_
 simp only[List.length_map,Zb,EVA,seval,Zf,men]
 refine Za (DH (inn b) (by rw[ZbN];omega) (ZfT (by assumption))) ?_
 cases h8:dc (YO (inn b))
 ·simp only[EVA,seval,Zf,men]
  rw[Zg fun h:bigOK sig b=>dc_not.1 h8 h.inn]
 simp only[List.length_map,Zb,EVA,seval,Zf,men]
 have ho:=(dc_iff.1 h6).2
 refine ZI (α:=Unit) b.nodes.length (fun j _=>[(5,iI j)]) (fun j _=>[]) (fun j _=>∀ k,k<j->Zd9 sig b k) () (by simp only[EVA,seval,Zf,men]) (by (simp only[EVA,seval,Zf,men]) <;> rfl) (fun k hk=>absurd hk (Nat.not_lt_zero k)) ?_
 intro j _ hj hA
 simp only[List.length_map,Zb,EVA,seval,Zf,men]
 refine Zn (fun hlt=>?_) (fun hge=>?_)
 ·have hja:j<b.nodes.length:=by omega
  have hm:=List.getElem_mem hja
  refine Za (Zet sig b j hja hn (by first | exact(b2 _ hm) | exact(b3 _ hm)) (by first | exact(f1 _ hm).2.1 | exact(f2 _ hm).2.1) r2 r5 (by omega) (ZbM hA)) ?_
  cases hc:dc (nodeOK sig b b.nodes[j] j)
  ·simp only[EVA,seval,Zf,men]
   rw[Zg fun h:bigOK sig b=>dc_not.1 hc (h.nodes j hja)]
  ·simp only[EVA,seval,Zf,men]
   exact⟨by rw[Zd];omega,Ze () hja rfl (ZcI hA fun _=>dc_iff.1 hc)⟩
 have hj1:j=b.nodes.length:=by omega
 subst hj1
 refine ZI (α:=Unit) b.sites.length (fun j _=>[(6,iI j)]) (fun j _=>[]) (fun j _=>∀ k,k<j->Xy sig b (g0 b.sites k) b.nodes.length) () (by simp only[EVA,seval,Zf,men]) (by (simp only[EVA,seval,Zf,men]) <;> rfl) (fun k hk=>absurd hk (Nat.not_lt_zero k)) ?_
 intro j _ hj hB
 simp only[List.length_map,Zb,EVA,seval,Zf,men]
 refine Zn (fun hlt=>?_) (fun hge=>?_)
 ·have hja:j<b.sites.length:=by omega
  have ga:=WV hja
  have hg:g0 b.sites j∈b.sites:=by simp [hja]
  simp only[ga,List.length_map,Zb,EVA,seval,Zf,men]
  refine Za (DI sig b (g0 b.sites j) b.nodes.length (by first | exact f3 _ hg | exact f2 _ hg | exact f4 _ hg) r2 (Nat.le_refl _) (ZbM hA)) ?_
  cases hc:dc (Xy sig b (g0 b.sites j) b.nodes.length)
  ·simp only[EVA,seval,Zf,men]
   rw[Zg fun h:bigOK sig b=>dc_not.1 hc (h.sites _ hg)]
  ·simp only[EVA,seval,Zf,men]
   exact⟨by rw[Zd];omega,Ze () hja rfl (ZcI hB (dc_iff.1 hc))⟩
 have hj1:j=b.sites.length:=by omega
 subst hj1
 refine ZI (α:=Unit) b.inner.length (fun j _=>[(7,iI j)]) (fun j _=>[]) (fun j _=>∀ k,k<j->∀ h:k<b.inner.length,VO b b.inner[k].link) () (by simp only[EVA,seval,Zf,men]) (by (simp only[EVA,seval,Zf,men]) <;> rfl) (fun k hk=>absurd hk (Nat.not_lt_zero k)) ?_
 intro j _ hj hC
 simp only[List.length_map,Zb,EVA,seval,Zf,men]
 refine Zn (fun hlt=>?_) (fun hge=>?_)
 ·have hja:j<b.inner.length:=by omega
  have ga:=Q1 (c:=ZX) hja
  simp only[ga,ZX,List.length_map,Zb,EVA,seval,Zf,men]
  refine Za (ZaJ b b.inner[j].link r5 (by omega)) ?_
  cases hc:dc (VO b b.inner[j].link)
  ·simp only[EVA,seval,Zf,men]
   rw[Zg fun h:bigOK sig b=>dc_not.1 hc (h.inner _ (List.getElem_mem hja))]
  ·simp only[EVA,seval,Zf,men]
   exact⟨by rw[Zd];omega,Ze () hja rfl (ZcI hC fun _=>dc_iff.1 hc)⟩
 have hj1:j=b.inner.length:=by omega
 subst hj1
 have:bigOK sig b:=⟨dc_iff.1 h1,r2,by omega,by omega,r5,dc_iff.1 h6,dc_iff.1 h8,fun i h=>hA i h h,fun p hp=>by
  obtain⟨k,hk,rfl⟩:=List.getElem_of_mem hp
  have:=hB k hk
  simpa [hk] using this,fun w hw=>by
  obtain⟨k,hk,rfl⟩:=List.getElem_of_mem hw
  exact hC k hk hk⟩
 rw[Va this]
theorem DJ(l:Int)(b:TBigraph)(he:0<=b.edges/\b.edges<=8)(ho:b.outer.length<=4294967296)(lvl:Nat)(S:Sto):Sem Proofs.Tryz.prog JU lvl [iI l,.ta (Zb b)] S (iB (!dc (VO b l))) S:=by
 refine Zc WQ trivial ?_
 simp only[V1,Zb,EVA,seval,Zf,men]
 refine Za (ZaK b l he ho) ?_
 simp only[EVA,seval,Zf,men]
theorem DK(p:Int)(sig:List TControl)(b:TBigraph)(hr:0<=b.roots/\b.roots<=4)(hc:ZcK sig b b.nodes.length)(lvl:Nat)(S:Sto):Sem Proofs.Tryz.prog JV lvl [iI p,.ta (Zb b),.ta [Tr.sl (sig.map Zj)]] S (iB (!dc (Xy sig b p b.nodes.length))) S:=by
 refine Zc WR trivial ?_
 simp only[V2,Zb,List.length_map,EVA,seval,Zf,men]
 refine Za (UJ sig b p b.nodes.length hr (Nat.le_refl _) hc) ?_
 simp only[EVA,seval,Zf,men]
theorem DL(w:TWire)(b:TBigraph)(he:0<=b.edges/\b.edges<=8)(ho:b.outer.length<=4294967296)(lvl:Nat)(S:Sto):Sem Proofs.Tryz.prog JW lvl [.ag ((ZX w).map .tr),.ta (Zb b)] S (iB (!dc (VO b w.link))) S:=by
 refine Zc WS trivial ?_
 simp only[V3,Zb,ZX,EVA,seval,Zf,men]
 refine Za (ZaK b w.link he ho) ?_
 simp only[EVA,seval,Zf,men]
theorem ZlE:ZR Proofs.Tryz.prog ZL (ZgS 2 (some 2))=true:=by kernel_rfl
theorem ZlF:ZR Proofs.Tryz.prog ZJ (ZiJ ZL)=true:=by kernel_rfl
theorem any_no{α:Type}{l:List α}{p:α->Prop}:(l.any fun n=>!dc (p n))=false↔∀ n∈l,p n:=by
 simp only[List.any_eq_false,Bool.not_eq_true',Bool.not_eq_false,dc_iff]
theorem V6(sig:List TControl)(b:TBigraph)(hn:sig.length<=4294967296)(hbs:∀ y∈sig,Zu 4294967296 y)(hb:Jb 4294967296 b)(lvl:Nat)(S:Sto):Sem Proofs.Tryz.prog Jy lvl [.tr (.sl (sig.map Zj)),.ag ((Zb b).map .tr)] S (iB (dc (bigOK sig b))) S:=by
 obtain⟨b1,b2,b3,b4,b5,b6,b7⟩:=hb
 refine Zc UN trivial ?_
 simp only[QU,List.length_map,Zb,EVA,seval,Zf,men]
 refine Za (XV sig (by omega) (fun y hy=>DF (hbs y hy))) ?_
 cases h1:dc (Wb sig)
 ·simp only[EVA,seval,Zf,men]
  rw[Zg fun h:bigOK sig b=>dc_not.1 h1 h.sg]
 simp only[List.length_map,Zb,EVA,seval,Zf,men]
 refine Za (JO b.roots 0 4) ?_
 cases h2:inB b.roots 0 4
 ·simp only[EVA,seval,Zf,men]
  rw[Zg fun h:bigOK sig b=>inB_not.1 h2 h.roots]
 by_cases h3:(8:Int)<b.nodes.length
 ·simp only[h3,List.length_map,Zb,EVA,seval,Zf,men]
  rw[Zg fun h:bigOK sig b=>by have:=h.nodesL;omega]
 by_cases h4:(4:Int)<b.sites.length
 ·simp only[h3,h4,List.length_map,Zb,EVA,seval,Zf,men]
  rw[Zg fun h:bigOK sig b=>by have:=h.sitesL;omega]
 simp only[h3,h4,List.length_map,Zb,EVA,seval,Zf,men]
 refine Za (JO b.edges 0 8) ?_
 cases h5:inB b.edges 0 8
 ·simp only[EVA,seval,Zf,men]
  rw[Zg fun h:bigOK sig b=>inB_not.1 h5 h.edges]
 have r2:=inB_iff.1 h2
 have r5:=inB_iff.1 h5
 simp only[List.length_map,Zb,EVA,seval,Zf,men]
 refine Za (UI b.outer (by assumption) (by assumption)) ?_
 cases h6:dc (YO b.outer)
 ·simp only[EVA,seval,Zf,men]
  rw[Zg fun h:bigOK sig b=>dc_not.1 h6 h.outer]
 simp only[List.length_map,Zb,EVA,seval,Zf,men]
 refine Za (Zai b (by omega)) ?_
 simp only[List.length_map,Zb,EVA,seval,Zf,men]
 refine Za (UI (inn b) (by rw[ZbN];omega) (ZfT (by assumption))) ?_
 cases h8:dc (YO (inn b))
 ·simp only[EVA,seval,Zf,men]
  rw[Zg fun h:bigOK sig b=>dc_not.1 h8 h.inn]
 simp only[List.length_map,Zb,EVA,seval,Zf,men]
 have ho:=(dc_iff.1 h6).2
 refine ZI (α:=Unit) b.nodes.length (fun j _=>[(49,iI j)]) (fun j _=>[]) (fun j _=>∀ k,k<j->Zd9 sig b k) () (by simp only[EVA,seval,Zf,men]) (by (simp only[EVA,seval,Zf,men]) <;> rfl) (fun k hk=>absurd hk (Nat.not_lt_zero k)) ?_
 intro j _ hj hA
 simp only[List.length_map,Zb,EVA,seval,Zf,men]
 refine Zn (fun hlt=>?_) (fun hge=>?_)
 ·have hja:j<b.nodes.length:=by omega
  have hm:=List.getElem_mem hja
  have ga:=Q1 (c:=ZN) hja
  have hll:b.nodes[j].links.length<=4294967296:=by first | exact(b2 _ hm) | exact(b3 _ hm)
  have hno:¬ nodeOK sig b b.nodes[j] j->dc (bigOK sig b)=false:=fun h=>Zg fun g=>h (g.nodes j hja)
  simp only[ga,ZN,List.length_map,Zb,EVA,seval,Zf,men]
  refine⟨by rw[Zd];omega,?_⟩
  refine Za (JO b.nodes[j].control 0 ((sig.length:Int)-1)) ?_
  cases p1:inB b.nodes[j].control 0 ((sig.length:Int)-1)
  ·simp only[EVA,seval,Zf,men]
   rw[hno fun h=>inB_not.1 p1 h.ctl]
  have q1:=inB_iff.1 p1
  simp only[ZN,List.length_map,Zb,EVA,seval,Zf,men]
  refine Za (UJ sig b b.nodes[j].parent j r2 (by omega) (ZbM hA)) ?_
  cases p2:dc (Xy sig b b.nodes[j].parent j)
  ·simp only[EVA,seval,Zf,men]
   rw[hno fun h=>dc_not.1 p2 h.par]
  obtain⟨m,hmm⟩:∃ m:Nat,b.nodes[j].control=m:=⟨b.nodes[j].control.toNat,by omega⟩
  have hms:m<sig.length:=by omega
  have gs:=Q1 (c:=Zj) hms
  have e:Wd sig b.nodes[j].control=sig[m].ports:=by simp [Wd,hmm,hms]
  by_cases p3:(b.nodes[j].links.length:Int)=sig[m].ports
  case neg =>
   simp only[p3,hmm,gs,Int.toNat_natCast,Int.natCast_nonneg,Zj,ZN,List.length_map,Zb,EVA,seval,Zf,men]
   rw[hno fun h=>p3 (by rw[<-e];exact h.ports)]
  simp only[p3,hmm,gs,Int.toNat_natCast,Int.natCast_nonneg,Zj,ZN,List.length_map,Zb,EVA,seval,Zf,men]
  refine Za (ZbJ (t:=tv) (cs:=[Zb b]) ZfM ZfL b.nodes[j].links (by omega) (fun x _ lvl S=>DJ x b r5 (by omega) lvl S)) ?_
  cases p4:b.nodes[j].links.any fun l=>!dc (VO b l)
  ·simp only[EVA,seval,Zf,men]
   exact⟨by rw[Zd];omega,Ze () hja rfl (ZcI hA fun _=>⟨q1,dc_iff.1 p2,by rw[e];exact p3,any_no.1 p4⟩)⟩
  ·simp only[EVA,seval,Zf,men]
   rw[hno fun h=>by rw[any_no.2 h.links] at p4;cases p4]
 have hj1:j=b.nodes.length:=by omega
 subst hj1
 refine Za (ZbJ (t:=tv) (cs:=[Zb b,[Tr.sl (sig.map Zj)]]) ZfM ZfL b.sites (by omega) (fun x _ lvl S=>DK x sig b r2 (ZbM hA) lvl S)) ?_
 cases h9:b.sites.any fun p=>!dc (Xy sig b p b.nodes.length)
 case true =>
  simp only[EVA,seval,Zf,men]
  rw[Zg fun h:bigOK sig b=>by rw[any_no.2 h.sites] at h9;cases h9]
 simp only[List.length_map,Zb,EVA,seval,Zf,men]
 refine Za (Zd3 (cs:=[Zb b]) ZlF ZlE (fun x=>rfl) b.inner (by omega) (fun x _ lvl S=>DL x b r5 (by omega) lvl S)) ?_
 cases h10:b.inner.any fun w=>!dc (VO b w.link)
 case true =>
  simp only[EVA,seval,Zf,men]
  rw[Zg fun h:bigOK sig b=>by rw[(any_no (p:=fun w:TWire=>VO b w.link)).2 h.inner] at h10;cases h10]
 simp only[EVA,seval,Zf,men]
 have:bigOK sig b:=⟨dc_iff.1 h1,r2,by omega,by omega,r5,dc_iff.1 h6,dc_iff.1 h8,fun i h=>hA i h h,any_no.1 h9,any_no.1 h10⟩
 rw[Va this]
end Go.Fd

/-
  CHILDREN, POINTS, REDEXES, BOTH SIDES. Own work.
-/
namespace Go.Fd
set_option maxRecDepth 20000
def ZeN(f:Nat->Prop)[DecidablePred f]:Nat->List Int
 | 0=>[]
 | j+1=>if f j then ZeN f j++[(j:Int)] else ZeN f j
theorem DM{f:Nat->Prop}[DecidablePred f]:∀{j:Nat},(ZeN f j).length<=j
 | 0=>Nat.le_refl 0
 | j+1=>by
  unfold ZeN
  have:=DM (f:=f) (j:=j)
  split
  ·rw[List.length_append,List.length_singleton];omega
  ·omega
theorem U5{f:Nat->Prop}[DecidablePred f]{j:Nat}(h:f j):ZeN f (j+1)=ZeN f j++[(j:Int)]:=by rw[ZeN,if_pos h]
theorem ZbO{f:Nat->Prop}[DecidablePred f]{j:Nat}(h:¬ f j):ZeN f (j+1)=ZeN f j:=by rw[ZeN,if_neg h]
def ZiQ(b:TBigraph)(j:Nat):Int:=((b.nodes[j]?).map TNode.parent).getD 0
theorem U6{b:TBigraph}{j:Nat}(h:j<b.nodes.length):ZiQ b j=b.nodes[j].parent:=by simp [ZiQ,h]
abbrev We(b:TBigraph)(p:Int):Nat->List Int:=ZeN fun j=>ZiQ b j=p
abbrev VP(b:TBigraph)(p:Int):Nat->List Int:=ZeN fun j=>g0 b.sites j=p
def ZeO(b:TBigraph)(p:Int):List Int:=We b p b.nodes.length
def WY(b:TBigraph)(p:Int):List Int:=VP b p b.sites.length
theorem Zeu(b:TBigraph)(p:Int)(hl:b.nodes.length<=4294967296)(lvl:Nat)(S:Sto):Sem Proofs.Tryz.prog VK lvl [.ag ((Zb b).map .tr),iI p] S (.ow 1 (rI (ZeO b p)) true) S:=by
 refine Zc ZbD trivial ?_
 simp only[WM,Zb,EVA,seval]
 refine ZI (α:=Unit) b.nodes.length (fun j _=>[(5,.hd (lvl,224) [] 0 (We b p j).length none (We b p j).length),(6,iI j)]) (fun j _=>[(224,.ar 1 (rI (We b p j)) true (We b p j).length 0)]) (fun _ _=>True) () (by simp only[EVA,seval]) (by (simp only[EVA,seval]) <;> rfl) trivial ?_
 intro j _ hj _
 simp only[List.length_map,EVA,seval]
 refine Zn (fun hlt=>?_) (fun hge=>?_)
 ·have hja:j<b.nodes.length:=by omega
  have ga:=Q1 (c:=ZN) hja
  have hle:(We b p j).length<=j:=DM
  simp only[ga,ZN,List.length_map,EVA,seval]
  refine Zn (fun he=>?_) (fun hne=>?_)
  ·refine⟨by omega,by rw[Zd];omega,Ze () hja ?_ trivial⟩
   rw[We,U5 (by rw[U6 hja];exact he),List.length_append,Zd4]
   rfl
  ·refine⟨by rw[Zd];omega,Ze () hja ?_ trivial⟩
   rw[We,ZbO (by rw[U6 hja];exact hne)]
   rfl
 ·have:j=b.nodes.length:=by omega
  subst this
  rfl
theorem DN(b:TBigraph)(p:Int)(hl:b.sites.length<=4294967296)(lvl:Nat)(S:Sto):Sem Proofs.Tryz.prog J8 lvl [.ag ((Zb b).map .tr),iI p] S (.ow 1 (rI (WY b p)) true) S:=by
 refine Zc Zae trivial ?_
 simp only[X6,Zb,EVA,seval]
 refine ZI (α:=Unit) b.sites.length (fun j _=>[(5,.hd (lvl,224) [] 0 (VP b p j).length none (VP b p j).length),(6,iI j)]) (fun j _=>[(224,.ar 1 (rI (VP b p j)) true (VP b p j).length 0)]) (fun _ _=>True) () (by simp only[EVA,seval]) (by (simp only[EVA,seval]) <;> rfl) trivial ?_
 intro j _ hj _
 simp only[List.length_map,EVA,seval]
 refine Zn (fun hlt=>?_) (fun hge=>?_)
 ·have hja:j<b.sites.length:=by omega
  have ga:=WV hja
  have hle:(VP b p j).length<=j:=DM
  simp only[ga,List.length_map,EVA,seval]
  refine Zn (fun he=>?_) (fun hne=>?_)
  ·refine⟨by omega,by rw[Zd];omega,Ze () hja ?_ trivial⟩
   rw[VP,U5 (f:=fun j=>g0 b.sites j=p) he,List.length_append,Zd4]
   rfl
  ·refine⟨by rw[Zd];omega,Ze () hja ?_ trivial⟩
   rw[VP,ZbO (f:=fun j=>g0 b.sites j=p) hne]
   rfl
 ·have:j=b.sites.length:=by omega
  subst this
  rfl
theorem Zaj(b:TBigraph)(p:Int)(hn:b.nodes.length<=4294967296)(hl:b.sites.length<=4294967296)(lvl:Nat)(S:Sto):Sem Proofs.Tryz.prog ZZ lvl [.ag ((Zb b).map .tr),iI p] S (.tu [.ow 1 (rI (ZeO b p)) true,.ow 1 (rI (WY b p)) true]) S:=by
 refine Zc V9 ⟨trivial,trivial,trivial⟩ ?_
 simp only[J3,Zb,List.length_map,EVA,seval]
 refine ZI (α:=Unit) b.nodes.length (fun j _=>[(6,.hd (lvl,384) [] 0 (We b p j).length none (We b p j).length),(17,iI j)]) (fun j _=>[(384,.ar 1 (rI (We b p j)) true (We b p j).length 0)]) (fun _ _=>True) () (by simp only[EVA,seval]) (by (simp only[EVA,seval]) <;> rfl) trivial ?_
 intro j _ hj _
 simp only[List.length_map,EVA,seval]
 refine Zn (fun hlt=>?_) (fun hge=>?_)
 ·have hja:j<b.nodes.length:=by omega
  have ga:=Q1 (c:=ZN) hja
  have hle:(We b p j).length<=j:=DM
  simp only[ga,ZN,List.length_map,EVA,seval]
  refine Zn (fun he=>?_) (fun hne=>?_)
  ·refine⟨by omega,by rw[Zd];omega,Ze () hja ?_ trivial⟩
   rw[We,U5 (by rw[U6 hja];exact he),List.length_append,Zd4]
   rfl
  ·refine⟨by rw[Zd];omega,Ze () hja ?_ trivial⟩
   rw[We,ZbO (by rw[U6 hja];exact hne)]
   rfl
 have:j=b.nodes.length:=by omega
 subst this
 refine ZI (α:=Unit) b.sites.length (fun j _=>[(7,.hd (lvl,416) [] 0 (VP b p j).length none (VP b p j).length),(34,iI j)]) (fun j _=>[(416,.ar 1 (rI (VP b p j)) true (VP b p j).length 0)]) (fun _ _=>True) () (by simp only[EVA,seval]) (by (simp only[EVA,seval]) <;> rfl) trivial ?_
 intro j _ hj _
 simp only[List.length_map,EVA,seval]
 refine Zn (fun hlt=>?_) (fun hge=>?_)
 ·have hja:j<b.sites.length:=by omega
  have ga:=WV hja
  have hle:(VP b p j).length<=j:=DM
  simp only[ga,List.length_map,EVA,seval]
  refine Zn (fun he=>?_) (fun hne=>?_)
  ·refine⟨by omega,by rw[Zd];omega,Ze () hja ?_ trivial⟩
   rw[VP,U5 (f:=fun j=>g0 b.sites j=p) he,List.length_append,Zd4]
   rfl
  ·refine⟨by rw[Zd];omega,Ze () hja ?_ trivial⟩
   rw[VP,ZbO (f:=fun j=>g0 b.sites j=p) hne]
   rfl
 ·have:j=b.sites.length:=by omega
  subst this
  rfl
def cP2(x:Int×Int):List Tr:=[tv x.1,tv x.2]
def Zak(l:Int)(i:Nat)(ls:List Int):Nat->List (Int×Int)
 | 0=>[]
 | k+1=>if g0 ls k=l then Zak l i ls k++[((i:Int),(k:Int))] else Zak l i ls k
theorem ZbP{l:Int}{i:Nat}{ls:List Int}:∀{k:Nat},(Zak l i ls k).length<=k
 | 0=>Nat.le_refl 0
 | k+1=>by
  unfold Zak
  have:=ZbP (l:=l) (i:=i) (ls:=ls) (k:=k)
  split
  ·rw[List.length_append,List.length_singleton];omega
  ·omega
theorem Zea{l:Int}{i:Nat}{ls:List Int}{k:Nat}(h:g0 ls k=l):Zak l i ls (k+1)=Zak l i ls k++[((i:Int),(k:Int))]:=by rw[Zak,if_pos h]
theorem ZfU{l:Int}{i:Nat}{ls:List Int}{k:Nat}(h:¬ g0 ls k=l):Zak l i ls (k+1)=Zak l i ls k:=by rw[Zak,if_neg h]
def Ur(b:TBigraph)(j:Nat):List Int:=((b.nodes[j]?).map TNode.links).getD []
theorem Us{b:TBigraph}{j:Nat}(h:j<b.nodes.length):Ur b j=b.nodes[j].links:=by simp [Ur,h]
def JA(b:TBigraph)(l:Int):Nat->List (Int×Int)
 | 0=>[]
 | i+1=>JA b l i++Zak l i (Ur b i) (Ur b i).length
def ports(b:TBigraph)(l:Int):List (Int×Int):=JA b l b.nodes.length
theorem WZ{b:TBigraph}{l:Int}(h:∀ x∈b.nodes,x.links.length<=1000):∀{j:Nat},j<=b.nodes.length->(JA b l j).length<=j*1000
 | 0,_=>Nat.zero_le _
 | j+1,hj=>by
  have ih:=WZ h (l:=l) (j:=j) (by omega)
  have h1:=ZbP (l:=l) (i:=j) (ls:=Ur b j) (k:=(Ur b j).length)
  have h2:=h _ (List.getElem_mem (show j<b.nodes.length by omega))
  rw[JA,List.length_append]
  rw[Us (by omega)] at h1 ⊢
  omega
def ZlG(b:TBigraph)(j:Nat):Int:=((b.inner[j]?).map TWire.link).getD 0
def ZlU(b:TBigraph)(j:Nat):ByteArray:=((b.inner[j]?).map TWire.name).getD ⟨#[]⟩
theorem ZbQ{b:TBigraph}{j:Nat}(h:j<b.inner.length):ZlG b j=b.inner[j].link:=by simp [ZlG,h]
theorem ZfV{b:TBigraph}{j:Nat}(h:j<b.inner.length):ZlU b j=b.inner[j].name:=by simp [ZlU,h]
def QI(b:TBigraph)(l:Int):Nat->List ByteArray
 | 0=>[]
 | j+1=>if ZlG b j=l then QI b l j++[ZlU b j] else QI b l j
theorem U7{b:TBigraph}{l:Int}:∀{j:Nat},(QI b l j).length<=j
 | 0=>Nat.le_refl 0
 | j+1=>by
  unfold QI
  have:=U7 (b:=b) (l:=l) (j:=j)
  split
  ·rw[List.length_append,List.length_singleton];omega
  ·omega
theorem ZcL{b:TBigraph}{l:Int}{j:Nat}(h:ZlG b j=l):QI b l (j+1)=QI b l j++[ZlU b j]:=by rw[QI,if_pos h]
theorem Zeb{b:TBigraph}{l:Int}{j:Nat}(h:¬ ZlG b j=l):QI b l (j+1)=QI b l j:=by rw[QI,if_neg h]
def ZiZ(b:TBigraph)(l:Int):List ByteArray:=QI b l b.inner.length
theorem ZfW(a b:List (Int×Int)):(a++b).map cP2=a.map cP2++b.map cP2:=List.map_append
theorem Zdp(b:TBigraph)(l:Int)(hn:b.nodes.length<=1000)(hk:∀ x∈b.nodes,x.links.length<=1000)(lvl:Nat)(S:Sto):Sem Proofs.Tryz.prog Y9 lvl [.ag ((Zb b).map .tr),iI l] S (.ow 2 ((ports b l).map cP2) true) S:=by
 refine Zc Zaf trivial ?_
 simp only[X7,Zb,EVA,seval]
 refine ZI (α:=Unit) b.nodes.length (fun j _=>[(5,.hd (lvl,256) [] 0 (JA b l j).length none (JA b l j).length),(6,iI j)]) (fun j _=>[(256,.ar 2 ((JA b l j).map cP2) true (JA b l j).length 0)]) (fun _ _=>True) () (by simp only[EVA,seval]) (by (simp only[EVA,seval]) <;> rfl) trivial ?_
 intro j _ hj _
 simp only[List.length_map,EVA,seval]
 refine Zn (fun hlt=>?_) (fun hge=>?_)
 ·have hja:j<b.nodes.length:=by omega
  have ga:=Q1 (c:=ZN) hja
  have hle:=WZ hk (l:=l) hj
  have hlk:=hk _ (List.getElem_mem hja)
  refine ZI (α:=Unit) b.nodes[j].links.length (fun k _=>[(5,.hd (lvl,256) [] 0 (JA b l j++Zak l j b.nodes[j].links k).length none (JA b l j++Zak l j b.nodes[j].links k).length),(7,iI k)]) (fun k _=>[(256,.ar 2 ((JA b l j++Zak l j b.nodes[j].links k).map cP2) true (JA b l j++Zak l j b.nodes[j].links k).length 0)]) (fun _ _=>True) () (by simp only[EVA,seval]) (by (simp only[Zak,List.append_nil,EVA,seval]) <;> rfl) trivial ?_
  intro k _ hkk _
  simp only[ga,ZN,List.length_map,EVA,seval]
  refine Zn (fun hlt2=>?_) (fun hge2=>?_)
  ·have hka:k<b.nodes[j].links.length:=by omega
   have gl:=WV hka
   have hr:=ZbP (l:=l) (i:=j) (ls:=b.nodes[j].links) (k:=k)
   simp only[gl,List.length_map,EVA,seval]
   refine Zn (fun he=>?_) (fun hne=>?_)
   ·refine⟨by rw[List.length_append];omega,by rw[Zd];omega,Ze () hka ?_ trivial⟩
    rw[Zea he,<-List.append_assoc,List.length_append (bs:=[_]),ZfW (JA b l j++_)]
    rfl
   ·refine⟨by rw[Zd];omega,Ze () hka ?_ trivial⟩
    rw[ZfU hne]
    rfl
  ·have:k=b.nodes[j].links.length:=by omega
   subst this
   refine⟨by rw[Zd];omega,Ze () hja ?_ trivial⟩
   rw[JA,Us hja]
   rfl
 ·have:j=b.nodes.length:=by omega
  subst this
  rfl
theorem Zev(b:TBigraph)(l:Int)(hn:b.inner.length<=4294967296)(lvl:Nat)(S:Sto):Sem Proofs.Tryz.prog VM lvl [.ag ((Zb b).map .tr),iI l] S (.ow 1 (rS (ZiZ b l)) true) S:=by
 refine Zc ZbG trivial ?_
 simp only[WT,Zb,EVA,seval]
 refine ZI (α:=Unit) b.inner.length (fun j _=>[(5,.hd (lvl,224) [] 0 (QI b l j).length none (QI b l j).length),(6,iI j)]) (fun j _=>[(224,.ar 1 (rS (QI b l j)) true (QI b l j).length 0)]) (fun _ _=>True) () (by simp only[EVA,seval]) (by (simp only[EVA,seval]) <;> rfl) trivial ?_
 intro j _ hj _
 simp only[List.length_map,EVA,seval]
 refine Zn (fun hlt=>?_) (fun hge=>?_)
 ·have hja:j<b.inner.length:=by omega
  have ga:=Q1 (c:=ZX) hja
  have hle:=U7 (b:=b) (l:=l) (j:=j)
  simp only[ga,ZX,List.length_map,EVA,seval]
  refine Zn (fun he=>?_) (fun hne=>?_)
  ·refine⟨by omega,by rw[Zd];omega,Ze () hja ?_ trivial⟩
   rw[ZcL (by rw[ZbQ hja];exact he),List.length_append,Zd8,ZfV hja]
   rfl
  ·refine⟨by rw[Zd];omega,Ze () hja ?_ trivial⟩
   rw[Zeb (by rw[ZbQ hja];exact hne)]
   rfl
 ·have:j=b.inner.length:=by omega
  subst this
  rfl
theorem ZcM(b:TBigraph)(l:Int)(hn:b.nodes.length<=1000)(hk:∀ x∈b.nodes,x.links.length<=1000)(hi:b.inner.length<=4294967296)(lvl:Nat)(S:Sto):Sem Proofs.Tryz.prog Z8 lvl [.ag ((Zb b).map .tr),iI l] S (.tu [.ow 2 ((ports b l).map cP2) true,.ow 1 (rS (ZiZ b l)) true]) S:=by
 refine Zc QG ⟨trivial,trivial,trivial⟩ ?_
 simp only[YD,Zb,List.length_map,EVA,seval]
 refine ZI (α:=Unit) b.nodes.length (fun j _=>[(6,.hd (lvl,448) [] 0 (JA b l j).length none (JA b l j).length),(19,iI j)]) (fun j _=>[(448,.ar 2 ((JA b l j).map cP2) true (JA b l j).length 0)]) (fun _ _=>True) () (by simp only[EVA,seval]) (by (simp only[EVA,seval]) <;> rfl) trivial ?_
 intro j _ hj _
 simp only[List.length_map,EVA,seval]
 refine Zn (fun hlt=>?_) (fun hge=>?_)
 ·have hja:j<b.nodes.length:=by omega
  have ga:=Q1 (c:=ZN) hja
  have hle:=WZ hk (l:=l) hj
  have hlk:=hk _ (List.getElem_mem hja)
  simp only[ga,ZN,List.length_map,EVA,seval]
  refine ZI (α:=Unit) b.nodes[j].links.length (fun k _=>[(6,.hd (lvl,448) [] 0 (JA b l j++Zak l j b.nodes[j].links k).length none (JA b l j++Zak l j b.nodes[j].links k).length),(27,iI k)]) (fun k _=>[(448,.ar 2 ((JA b l j++Zak l j b.nodes[j].links k).map cP2) true (JA b l j++Zak l j b.nodes[j].links k).length 0)]) (fun _ _=>True) () (by simp only[EVA,seval]) (by (simp only[Zak,List.append_nil,EVA,seval]) <;> rfl) trivial ?_
  intro k _ hkk _
  simp only[EVA,seval]
  refine Zn (fun hlt2=>?_) (fun hge2=>?_)
  ·have hka:k<b.nodes[j].links.length:=by omega
   have gl:=WV hka
   have hr:=ZbP (l:=l) (i:=j) (ls:=b.nodes[j].links) (k:=k)
   simp only[gl,List.length_map,EVA,seval]
   refine Zn (fun he=>?_) (fun hne=>?_)
   ·refine⟨by rw[List.length_append];omega,by rw[Zd];omega,Ze () hka ?_ trivial⟩
    rw[Zea he,<-List.append_assoc,List.length_append (bs:=[_]),ZfW (JA b l j++_)]
    rfl
   ·refine⟨by rw[Zd];omega,Ze () hka ?_ trivial⟩
    rw[ZfU hne]
    rfl
  ·have:k=b.nodes[j].links.length:=by omega
   subst this
   refine⟨by rw[Zd];omega,Ze () hja ?_ trivial⟩
   rw[JA,Us hja]
   rfl
 have:j=b.nodes.length:=by omega
 subst this
 refine ZI (α:=Unit) b.inner.length (fun j _=>[(7,.hd (lvl,480) [] 0 (QI b l j).length none (QI b l j).length),(46,iI j)]) (fun j _=>[(480,.ar 1 (rS (QI b l j)) true (QI b l j).length 0)]) (fun _ _=>True) () (by simp only[EVA,seval]) (by (simp only[EVA,seval]) <;> rfl) trivial ?_
 intro j _ hj _
 simp only[List.length_map,EVA,seval]
 refine Zn (fun hlt=>?_) (fun hge=>?_)
 ·have hja:j<b.inner.length:=by omega
  have ga:=Q1 (c:=ZX) hja
  have hle:=U7 (b:=b) (l:=l) (j:=j)
  simp only[ga,ZX,List.length_map,EVA,seval]
  refine Zn (fun he=>?_) (fun hne=>?_)
  ·refine⟨by omega,by rw[Zd];omega,Ze () hja ?_ trivial⟩
   rw[ZcL (by rw[ZbQ hja];exact he),List.length_append,Zd8,ZfV hja]
   rfl
  ·refine⟨by rw[Zd];omega,Ze () hja ?_ trivial⟩
   rw[Zeb (by rw[ZbQ hja];exact hne)]
   rfl
 ·have:j=b.inner.length:=by omega
  subst this
  rfl
end Go.Fd

/-
  REDEXES, BOTH SIDES. Own work.
-/
namespace Go.Fd
set_option maxRecDepth 20000
def idle(b:TBigraph)(l:Int):Prop:=(ports b l).length=0/\(ZiZ b l).length=0
structure small (b:TBigraph):Prop where
 nodes:b.nodes.length<=8
 links:∀ x∈b.nodes,x.links.length<=1000
 sites:b.sites.length<=4
 outer:b.outer.length<=16
 inner:b.inner.length<=16
 roots:0<=b.roots/\b.roots<=4
 edges:0<=b.edges/\b.edges<=8
theorem Zew{sig:List TControl}(h:Wb sig)(c:Int):Wd sig c<=3:=by
 unfold Wd
 cases e:sig[c.toNat]? with
 | none=>decide
 | some x =>
  obtain⟨hl,rfl⟩:=List.getElem?_eq_some_iff.1 e
  exact((h.1 _ hl).1).2.1.2
theorem bigOK.small{sig:List TControl}{b:TBigraph}(h:bigOK sig b):small b :=
 ⟨h.nodesL,fun x hx=>by
  obtain⟨k,hk,rfl⟩:=List.getElem_of_mem hx
  have h1:=(h.nodes k hk).ports
  have h2:=Zew h.sg b.nodes[k].control
  omega,h.sitesL,h.outer.2,by have:=h.inn.2;rw[ZbN] at this;exact this,h.roots,h.edges⟩
theorem Zex(b:TBigraph)(l:Int)(hs:small b)(lvl:Nat)(S:Sto):Sem Proofs.Tryz.prog VL lvl [.ag ((Zb b).map .tr),iI l] S (iB (dc (idle b l))) S:=by
 have s1:=hs.nodes
 have s2:=hs.inner
 refine Zc ZbE trivial ?_
 simp only[WN,Zb,EVA,seval,Zf,men]
 refine Za (Zdp b l (by omega) hs.links) ?_
 by_cases h1:(ports b l).length=0
 ·have h1':((ports b l).length:Int)=0:=by omega
  simp only[h1,List.length_map,EVA,seval,Zf,men]
  refine Za (Zev b l (by omega)) ?_
  simp only[List.length_map,EVA,seval]
  have hiff:idle b l↔((ZiZ b l).length:Int)=0:=⟨fun h=>by have:=h.2;omega,fun h=>⟨h1,by omega⟩⟩
  rw[Ja hiff,Jn]
 ·have h1':¬ ((ports b l).length:Int)=0:=by omega
  simp only[h1',List.length_map,EVA,seval]
  rw[Zg fun h:idle b l=>h1 h.1]
theorem Zey(b:TBigraph)(l:Int)(hs:small b)(lvl:Nat)(S:Sto):Sem Proofs.Tryz.prog Jj lvl [.ag ((Zb b).map .tr),iI l] S (iB (dc (idle b l))) S:=by
 have s1:=hs.nodes
 have s2:=hs.inner
 have e1:(ports b l).length<=b.nodes.length*1000:=WZ hs.links (Nat.le_refl _)
 have e2:(ZiZ b l).length<=b.inner.length:=U7
 refine Zc Xs trivial ?_
 simp only[YV,Zb,EVA,seval,Zf,men]
 refine Za (ZcM b l (by omega) hs.links (by omega)) ?_
 simp only[List.length_map,EVA,seval]
 refine⟨by rw[Zd];omega,?_⟩
 have hiff:idle b l↔((ports b l).length:Int)+(ZiZ b l).length=0:=⟨fun h=>by have:=h.1;have:=h.2;omega,fun h=>⟨by omega,by omega⟩⟩
 rw[Ja hiff,Jn]
structure solid (b:TBigraph):Prop where
 inner:b.inner.length=0
 roots:¬ b.roots=0
 root:∀ r:Nat,(r:Int)<b.roots -> ¬ (ZeO b (-1-r)).length=0/\(WY b (-1-r)).length=0
 node:∀ i:Nat,i<b.nodes.length->(WY b i).length<=1
 link:∀ l:Nat,(l:Int)<b.edges+b.outer.length -> ¬ idle b l
theorem Zdq(b:TBigraph)(hs:small b)(lvl:Nat)(S:Sto):Sem Proofs.Tryz.prog Y7 lvl [.ag ((Zb b).map .tr)] S (iB (dc (solid b))) S:=by
 have s1:=hs.nodes
 have s2:=hs.inner
 have s3:=hs.sites
 have s4:=hs.outer
 obtain⟨r1,r2⟩:=hs.roots
 obtain⟨e1,e2⟩:=hs.edges
 refine Zc Zaa trivial ?_
 simp only[X2,Zb,List.length_map,EVA,seval]
 by_cases h1:(0:Int)<b.inner.length
 ·simp only[h1,EVA,seval]
  rw[Zg fun h:solid b=>by have:=h.inner;omega]
 by_cases h2:b.roots=0
 ·simp only[h1,h2,EVA,seval]
  rw[Zg fun h:solid b=>h.roots h2]
 simp only[h1,h2,EVA,seval]
 refine ZI (α:=Unit) b.roots.toNat (fun j _=>[(3,iI j)]) (fun j _=>[]) (fun j _=>∀ r,r<j -> ¬ (ZeO b (-1-(r:Nat))).length=0/\(WY b (-1-(r:Nat))).length=0) () (by simp only[EVA,seval]) (by (simp only[EVA,seval]) <;> rfl) (fun k hk=>absurd hk (Nat.not_lt_zero k)) ?_
 intro j _ hj hA
 simp only[EVA,seval,Zf,men]
 refine Zn (fun hlt=>?_) (fun hge=>?_)
 ·have hja:j<b.roots.toNat:=by omega
  refine⟨by rw[Zd];omega,?_⟩
  refine Za (Zeu b (-1-(j:Nat)) (by omega)) ?_
  by_cases p1:(ZeO b (-1-(j:Nat))).length=0
  ·have p1':((ZeO b (-1-(j:Nat))).length:Int)=0:=by omega
   simp only[p1,List.length_map,EVA,seval]
   rw[Zg fun h:solid b=>(h.root j (by omega)).1 p1]
  have p1':¬ ((ZeO b (-1-(j:Nat))).length:Int)=0:=by omega
  simp only[p1',List.length_map,EVA,seval,Zf,men]
  refine⟨by rw[Zd];omega,?_⟩
  refine Za (DN b (-1-(j:Nat)) (by omega)) ?_
  simp only[List.length_map,EVA,seval]
  refine Zn (fun p2=>?_) (fun p2=>?_)
  ·rw[Zg fun h:solid b=>by have:=(h.root j (by omega)).2;omega]
  ·exact⟨by rw[Zd];omega,Ze () hja rfl (ZcI hA ⟨p1,by omega⟩)⟩
 have hj1:j=b.roots.toNat:=by omega
 subst hj1
 refine ZI (α:=Unit) b.nodes.length (fun j _=>[(4,iI j)]) (fun j _=>[]) (fun j _=>∀ i,i<j->(WY b (i:Nat)).length<=1) () (by simp only[EVA,seval]) (by (simp only[EVA,seval]) <;> rfl) (fun k hk=>absurd hk (Nat.not_lt_zero k)) ?_
 intro j _ hj hB
 simp only[List.length_map,EVA,seval,Zf,men]
 refine Zn (fun hlt=>?_) (fun hge=>?_)
 ·have hja:j<b.nodes.length:=by omega
  refine Za (DN b (j:Nat) (by omega)) ?_
  simp only[List.length_map,EVA,seval]
  refine Zn (fun p2=>?_) (fun p2=>?_)
  ·rw[Zg fun h:solid b=>by have:=h.node j hja;omega]
  ·exact⟨by rw[Zd];omega,Ze () hja rfl (ZcI hB (by omega))⟩
 have hj1:j=b.nodes.length:=by omega
 subst hj1
 refine ZI (α:=Unit) (b.edges+b.outer.length).toNat (fun j _=>[(5,iI j)]) (fun j _=>[]) (fun j _=>∀ i,i<j -> ¬ idle b (i:Nat)) () (by simp only[EVA,seval]) (by (simp only[EVA,seval]) <;> rfl) (fun k hk=>absurd hk (Nat.not_lt_zero k)) ?_
 intro j _ hj hC
 simp only[List.length_map,EVA,seval,Zf,men]
 refine⟨by rw[Zd];omega,?_⟩
 refine Zn (fun hlt=>?_) (fun hge=>?_)
 ·have hja:j<(b.edges+b.outer.length).toNat:=by omega
  refine Za (Zex b (j:Nat) hs) ?_
  cases hc:dc (idle b (j:Nat))
  ·simp only[EVA,seval]
   exact⟨by rw[Zd];omega,Ze () hja rfl (ZcI hC (dc_not.1 hc))⟩
  ·simp only[EVA,seval]
   rw[Zg fun h:solid b=>h.link j (by omega) (dc_iff.1 hc)]
 have hj1:j=(b.edges+b.outer.length).toNat:=by omega
 subst hj1
 have:solid b:=⟨by omega,h2,fun r hr=>hA r (by omega),hB,fun l hl=>hC l (by omega)⟩
 rw[Va this]
theorem UO(b:TBigraph)(hs:small b)(lvl:Nat)(S:Sto):Sem Proofs.Tryz.prog Y4 lvl [.ag ((Zb b).map .tr)] S (iB (dc (solid b))) S:=by
 have s1:=hs.nodes
 have s2:=hs.inner
 have s3:=hs.sites
 have s4:=hs.outer
 obtain⟨r1,r2⟩:=hs.roots
 obtain⟨e1,e2⟩:=hs.edges
 refine Zc D9 trivial ?_
 simp only[X1,Zb,List.length_map,EVA,seval]
 by_cases h1:(0:Int)<b.inner.length
 ·simp only[h1,EVA,seval]
  rw[Zg fun h:solid b=>by have:=h.inner;omega]
 by_cases h2:b.roots=0
 ·simp only[h1,h2,EVA,seval]
  rw[Zg fun h:solid b=>h.roots h2]
 simp only[h1,h2,EVA,seval]
 refine⟨by rw[Zd];omega,?_⟩
 refine ZI (α:=Unit) (b.roots+b.nodes.length).toNat (fun j _=>[(3,iI (-b.roots+j))]) (fun j _=>[]) (fun j _=>∀ r,r<j->((-b.roots+(r:Nat)<0 -> ¬ (ZeO b (-b.roots+(r:Nat))).length=0/\(WY b (-b.roots+(r:Nat))).length=0)/\(WY b (-b.roots+(r:Nat))).length<=1)) () (by simp only[EVA,seval]) (by (simp only[Int.cast_ofNat_Int,Int.add_zero,EVA,seval]) <;> rfl) (fun k hk=>absurd hk (Nat.not_lt_zero k)) ?_
 intro j _ hj hA
 simp only[List.length_map,EVA,seval,Zf,men]
 refine Zn (fun hlt=>?_) (fun hge=>?_)
 ·have hja:j<(b.roots+b.nodes.length).toNat:=by omega
  refine Za (Zaj b (-b.roots+(j:Nat)) (by omega) (by omega)) ?_
  have hno:(solid b->False)->dc (solid b)=false:=fun h=>Zg h
  have hroot:solid b -> -b.roots+(j:Int)<0 -> ¬ (ZeO b (-b.roots+(j:Nat))).length=0/\(WY b (-b.roots+(j:Nat))).length=0:=fun h hn=>by
   have:=h.root (b.roots-1-j).toNat (by omega)
   have e:(-1-((b.roots-1-j).toNat:Int)) = -b.roots+j:=by omega
   rw[e] at this
   exact this
  have hnode:solid b -> ¬ -b.roots+(j:Int)<0->(WY b (-b.roots+(j:Nat))).length<=1:=fun h hn=>by
   have:=h.node (-b.roots+j).toNat (by omega)
   have e:(((-b.roots+j).toNat:Nat):Int) = -b.roots+j:=by omega
   rw[e] at this
   exact this
  have hnext:(-b.roots+(j:Int))+1 = -b.roots+((j+1:Nat):Int):=by omega
  by_cases q:-b.roots+(j:Int)<0
  ·by_cases k0:(ZeO b (-b.roots+(j:Nat))).length=0
   ·have k0':((ZeO b (-b.roots+(j:Nat))).length:Int)=0:=by omega
    simp only[q,k0,List.length_map,EVA,seval]
    rw[hno fun h=>(hroot h q).1 k0]
   have k0':¬ ((ZeO b (-b.roots+(j:Nat))).length:Int)=0:=by omega
   by_cases k1:(WY b (-b.roots+(j:Nat))).length=0
   ·have k1a:¬ (0:Int)<((WY b (-b.roots+(j:Nat))).length:Int):=by omega
    have k1b:¬ (1:Int)<((WY b (-b.roots+(j:Nat))).length:Int):=by omega
    simp only[q,k0',k1a,k1b,List.length_map,EVA,seval]
    refine⟨by rw[Zd];omega,?_⟩
    rw[hnext]
    exact Ze () hja rfl (ZcI hA ⟨fun _=>⟨k0,k1⟩,by omega⟩)
   ·have k1a:(0:Int)<((WY b (-b.roots+(j:Nat))).length:Int):=by omega
    simp only[q,k0',k1a,List.length_map,EVA,seval]
    rw[hno fun h=>k1 (hroot h q).2]
  ·simp only[q,List.length_map,EVA,seval]
   refine Zn (fun k2=>?_) (fun k2=>?_)
   ·rw[hno fun h=>by have:=hnode h q;omega]
   ·refine⟨by rw[Zd];omega,?_⟩
    rw[hnext]
    exact Ze () hja rfl (ZcI hA ⟨fun h=>absurd h q,by omega⟩)
 have hj1:j=(b.roots+b.nodes.length).toNat:=by omega
 subst hj1
 refine⟨by rw[Zd];omega,?_⟩
 refine ZI (α:=Unit) (b.edges+b.outer.length).toNat (fun j _=>[(55,iI j)]) (fun j _=>[]) (fun j _=>∀ i,i<j -> ¬ idle b (i:Nat)) () (by simp only[EVA,seval]) (by (simp only[EVA,seval]) <;> rfl) (fun k hk=>absurd hk (Nat.not_lt_zero k)) ?_
 intro j _ hj hC
 simp only[EVA,seval,Zf,men]
 refine Zn (fun hlt=>?_) (fun hge=>?_)
 ·have hja:j<(b.edges+b.outer.length).toNat:=by omega
  refine Za (Zey b (j:Nat) hs) ?_
  cases hc:dc (idle b (j:Nat))
  ·simp only[EVA,seval]
   exact⟨by rw[Zd];omega,Ze () hja rfl (ZcI hC (dc_not.1 hc))⟩
  ·simp only[EVA,seval]
   rw[Zg fun h:solid b=>h.link j (by omega) (dc_iff.1 hc)]
 have hj1:j=(b.edges+b.outer.length).toNat:=by omega
 subst hj1
 have:solid b:=⟨by omega,h2,fun r hr=>by
  have:=(hA (b.roots-1-r).toNat (by omega)).1
  have e:-b.roots+((b.roots-1-r).toNat:Int) = -1-r:=by omega
  rw[e] at this
  exact this (by omega),fun i hi=>by
  have:=(hA (b.roots+i).toNat (by omega)).2
  have e:-b.roots+((b.roots+i).toNat:Int)=i:=by omega
  rw[e] at this
  exact this,fun l hl=>hC l (by omega)⟩
 rw[Va this]
end Go.Fd

/-
  RULES, BOTH SIDES. Own work.
-/
namespace Go.Fd
set_option maxRecDepth 20000
theorem Zdr(sig:List TControl)(b:TBigraph)(hn:sig.length<=4294967296)(hbs:∀ y∈sig,Zu 4294967296 y)(hb:Jb 4294967296 b)(hf:Xk b)(lvl:Nat)(S:Sto):Sem Proofs.Tryz.prog Y1 lvl [.tr (.sl (sig.map Zj)),.ag ((Zb b).map .tr)] S (iB (dc (bigOK sig b/\solid b))) S:=by
 refine Zc D7 trivial ?_
 simp only[XZ,List.length_map,Zb,EVA,seval,Zf,men]
 refine Za (ZaL sig b hn hbs hb hf) ?_
 cases h1:dc (bigOK sig b)
 ·simp only[EVA,seval,Zf,men]
  rw[Zg fun g:bigOK sig b/\solid b=>dc_not.1 h1 g.1]
 simp only[List.length_map,Zb,EVA,seval,Zf,men]
 have g1:=dc_iff.1 h1
 refine Za (Zdq b g1.small) ?_
 simp only[EVA,seval,Zf,men]
 rw[Ja (p:=bigOK sig b/\solid b) ⟨fun g=>g.2,fun g=>⟨g1,g⟩⟩]
theorem DO(a b:List ByteArray)(ha:a.length<=4294967296)(hb:b.length<=4294967296)(lvl:Nat)(S:Sto):Sem Proofs.Tryz.prog JS lvl [.tr (.sl (rS a)),.tr (.sl (rS b))] S (iB (dc (a=b))) S:=by
 refine Zc WF trivial ?_
 simp only[VX,List.length_map,EVA,seval,Zf,men]
 refine ZI (α:=Unit) (min a.length b.length) (fun j _=>[(5,iI j)]) (fun j _=>[]) (fun j _=>∀ k,k<j->∀(h1:k<a.length) (h2:k<b.length),a[k]=b[k]) () (by simp only[EVA,seval,Zf,men]) (by (simp only[EVA,seval,Zf,men]) <;> rfl) (fun k hk=>absurd hk (Nat.not_lt_zero k)) ?_
 intro j _ hj hA
 simp only[List.length_map,EVA,seval,Zf,men]
 by_cases hlt:j<min a.length b.length
 ·have hja:j<a.length:=by omega
  have hjb:j<b.length:=by omega
  have q1:(j:Int)<a.length:=by omega
  have q2:(j:Int)<b.length:=by omega
  have ga:=Q1 (c:=fun s=>[ts s]) hja
  have gb:=Q1 (c:=fun s=>[ts s]) hjb
  simp only[q1,q2,ga,gb,List.length_map,EVA,seval,Zf,men]
  by_cases hc:a[j]=b[j]
  ·simp only[hc,EVA,seval,Zf,men]
   exact⟨by rw[Zd];omega,Ze () hlt rfl (ZcI hA fun _ _=>hc)⟩
  ·simp only[hc,EVA,seval,Zf,men]
   have:¬ a=b:=fun h=>hc (by subst h;rfl)
   rw[Zg this]
 ·have fin:((a.length:Int)=b.length)↔a=b:=⟨fun h=>List.ext_getElem (by omega) fun k h1 h2=>hA k (by omega) h1 h2,fun h=>by rw[h]⟩
  by_cases q1:(j:Int)<a.length
  ·have q2:¬ (j:Int)<b.length:=by omega
   simp only[q1,q2,List.length_map,EVA,seval,Zf,men]
   rw[<-Jn,Ja fin]
  ·simp only[q1,List.length_map,EVA,seval,Zf,men]
   rw[<-Jn,Ja fin]
def ZaM(r:TRule)(k:Int):Prop:=0<=k/\k<=(r.redex.sites.length:Int)-1
structure ruleOK (sig:List TControl) (r:TRule):Prop where
 red:bigOK sig r.redex
 sol:solid r.redex
 rea:bigOK sig r.reactum
 inn:r.reactum.inner.length=0
 roots:r.redex.roots=r.reactum.roots
 outer:r.redex.outer=r.reactum.outer
 copies:∀ k∈r.copies,ZaM r k
 len:r.copies.length=r.reactum.sites.length
def U8(r:TRule):Prop:=(∀ k∈r.copies,ZaM r k)/\r.copies.length=r.reactum.sites.length
theorem ZcN(r:TRule)(hb:QQ 4294967296 r)(lvl:Nat)(S:Sto):Sem Proofs.Tryz.prog YM lvl [.ag ((ZH r).map .tr)] S (iB (dc (U8 r))) S:=by
 obtain⟨⟨a1,a2,a3,a4,a5,a6,a7⟩,⟨b1,b2,b3,b4,b5,b6,b7⟩,b8⟩:=hb
 refine Zc Dz trivial ?_
 simp only[Xo,ZH,List.length_map,EVA,seval,Zf,men]
 refine ZI (α:=Unit) r.copies.length (fun j _=>[(3,iI j)]) (fun j _=>[]) (fun j _=>∀ k,k<j->ZaM r (g0 r.copies k)) () (by simp only[EVA,seval,Zf,men]) (by (simp only[EVA,seval,Zf,men]) <;> rfl) (fun k hk=>absurd hk (Nat.not_lt_zero k)) ?_
 intro j _ hj hA
 simp only[List.length_map,EVA,seval,Zf,men]
 refine Zn (fun hlt=>?_) (fun hge=>?_)
 ·have hja:j<r.copies.length:=by omega
  have ga:=WV hja
  simp only[ga,List.length_map,EVA,seval,Zf,men]
  refine⟨by rw[Zd];omega,?_⟩
  refine Za (YR (g0 r.copies j) 0 ((r.redex.sites.length:Int)-1)) ?_
  cases hc:inB (g0 r.copies j) 0 ((r.redex.sites.length:Int)-1)
  ·simp only[EVA,seval,Zf,men]
   rw[Zg fun h:U8 r=>inB_not.1 hc (h.1 _ (by simp [hja]))]
  ·simp only[EVA,seval,Zf,men]
   exact⟨by rw[Zd];omega,Ze () hja rfl (ZcI hA (inB_iff.1 hc))⟩
 ·have hj1:j=r.copies.length:=by omega
  subst hj1
  have hiff:U8 r↔(r.copies.length:Int)=r.reactum.sites.length:=⟨fun h=>by have:=h.2;omega,fun h=>⟨fun n hn=>by
   obtain⟨k,hk,rfl⟩:=List.getElem_of_mem hn
   have:=hA k hk
   simpa [hk] using this,by omega⟩⟩
  rw[Ja hiff,Jn]
theorem Zez(sig:List TControl)(r:TRule)(hn:sig.length<=4294967296)(hbs:∀ y∈sig,Zu 4294967296 y)(hb:QQ 4294967296 r)(hf:ZaB r)(lvl:Nat)(S:Sto):Sem Proofs.Tryz.prog Vz lvl [.tr (.sl (sig.map Zj)),.ag ((ZH r).map .tr)] S (iB (dc (ruleOK sig r))) S:=by
 have hb0:=hb
 obtain⟨d1,d2,d3⟩:=hb
 obtain⟨f1,f2,f3⟩:=hf
 refine Zc Zbu trivial ?_
 simp only[WB,ZH,List.length_map,EVA,seval,Zf,men]
 refine Za (Zdr sig r.redex hn hbs d1 f1) ?_
 cases h1:dc (bigOK sig r.redex/\solid r.redex)
 ·simp only[EVA,seval,Zf,men]
  rw[Zg fun h:ruleOK sig r=>dc_not.1 h1 ⟨h.red,h.sol⟩]
 simp only[ZH,List.length_map,EVA,seval,Zf,men]
 refine Za (ZaL sig r.reactum hn hbs d2 f2) ?_
 cases h2:dc (bigOK sig r.reactum)
 ·simp only[EVA,seval,Zf,men]
  rw[Zg fun h:ruleOK sig r=>dc_not.1 h2 h.rea]
 have g1:=dc_iff.1 h1
 have g2:=dc_iff.1 h2
 by_cases h3:(r.reactum.inner.length:Int)=0
 case neg =>
  simp only[h3,ZH,List.length_map,EVA,seval,Zf,men]
  rw[Zg fun h:ruleOK sig r=>by have:=h.inn;omega]
 by_cases h4:r.redex.roots=r.reactum.roots
 case neg =>
  simp only[h3,h4,ZH,List.length_map,EVA,seval,Zf,men]
  rw[Zg fun h:ruleOK sig r=>h4 h.roots]
 have h4':(r.redex.roots=r.reactum.roots)=True:=eq_true h4
 simp only[h3,h4',ZH,List.length_map,EVA,seval,Zf,men]
 have o1:=g1.1.outer.2
 have o2:=g2.outer.2
 refine Za (DO r.redex.outer r.reactum.outer (by omega) (by omega)) ?_
 cases h5:dc (r.redex.outer=r.reactum.outer)
 ·simp only[EVA,seval,Zf,men]
  rw[Zg fun h:ruleOK sig r=>dc_not.1 h5 h.outer]
 simp only[ZH,List.length_map,EVA,seval,Zf,men]
 refine Za (ZcN r hb0) ?_
 simp only[EVA,seval,Zf,men]
 rw[Ja (p:=ruleOK sig r) (q:=U8 r) ⟨fun h=>⟨h.copies,h.len⟩,fun h=>⟨g1.1,g1.2,g2,by omega,h4,dc_iff.1 h5,h.1,h.2⟩⟩]
theorem ZeA(sig:List TControl)(a b:TBigraph)(hn:sig.length<=4294967296)(hbs:∀ y∈sig,Zu 4294967296 y)(ha:Jb 4294967296 a)(hb:Jb 4294967296 b)(lvl:Nat)(S:Sto):Sem Proofs.Tryz.prog VC lvl [.tr (.sl (sig.map Zj)),.ag ((Zb a).map .tr),.ag ((Zb b).map .tr)] S (iB (dc (bigOK sig a/\bigOK sig b))) S:=by
 refine Zc Zbz trivial ?_
 simp only[WH,Zb,List.length_map,EVA,seval,Zf,men]
 refine Za (V6 sig a hn hbs ha) ?_
 cases h1:dc (bigOK sig a)
 ·simp only[EVA,seval,Zf,men]
  rw[Zg fun h:bigOK sig a/\bigOK sig b=>dc_not.1 h1 h.1]
 simp only[Zb,List.length_map,EVA,seval,Zf,men]
 refine Za (V6 sig b hn hbs hb) ?_
 simp only[EVA,seval,Zf,men]
 rw[Ja (p:=bigOK sig a/\bigOK sig b) (q:=bigOK sig b) ⟨fun h=>h.2,fun h=>⟨dc_iff.1 h1,h⟩⟩]
theorem ZcO(k:Int)(r:TRule)(hb:r.redex.sites.length<=4294967296)(lvl:Nat)(S:Sto):Sem Proofs.Tryz.prog YN lvl [iI k,.ta (ZH r)] S (iB (!dc (ZaM r k))) S:=by
 refine Zc DA trivial ?_
 simp only[Xp,ZH,List.length_map,EVA,seval,Zf,men]
 refine⟨by rw[Zd];omega,?_⟩
 refine Za (JO k 0 ((r.redex.sites.length:Int)-1)) ?_
 simp only[EVA,seval,Zf,men]
 rw[Zd7]
 rfl
theorem ZlH:ZR Proofs.Tryz.prog Jf ZpG=true:=by kernel_rfl
theorem DP(sig:List TControl)(r:TRule)(hn:sig.length<=4294967296)(hbs:∀ y∈sig,Zu 4294967296 y)(hb:QQ 4294967296 r)(_hf:ZaB r)(lvl:Nat)(S:Sto):Sem Proofs.Tryz.prog VB lvl [.tr (.sl (sig.map Zj)),.ag ((ZH r).map .tr)] S (iB (dc (ruleOK sig r))) S:=by
 obtain⟨d1,d2,d3⟩:=hb
 refine Zc Zbw trivial ?_
 simp only[WD,ZH,List.length_map,EVA,seval,Zf,men]
 refine Za (ZeA sig r.redex r.reactum hn hbs d1 d2) ?_
 cases h1:dc (bigOK sig r.redex/\bigOK sig r.reactum)
 ·simp only[EVA,seval,Zf,men]
  rw[Zg fun h:ruleOK sig r=>dc_not.1 h1 ⟨h.red,h.rea⟩]
 have g1:=dc_iff.1 h1
 simp only[ZH,List.length_map,EVA,seval,Zf,men]
 refine Za (UO r.redex g1.1.small) ?_
 cases h2:dc (solid r.redex)
 ·simp only[EVA,seval,Zf,men]
  rw[Zg fun h:ruleOK sig r=>dc_not.1 h2 h.sol]
 by_cases h3:(0:Int)<r.reactum.inner.length
 ·simp only[h3,ZH,List.length_map,EVA,seval,Zf,men]
  rw[Zg fun h:ruleOK sig r=>by have:=h.inn;omega]
 by_cases h4:r.redex.roots=r.reactum.roots
 case neg =>
  simp only[h3,h4,ZH,List.length_map,EVA,seval,Zf,men]
  rw[Zg fun h:ruleOK sig r=>h4 h.roots]
 have h4':(r.redex.roots=r.reactum.roots)=True:=eq_true h4
 simp only[h3,h4',ZH,List.length_map,EVA,seval,Zf,men]
 have o1:=g1.1.outer.2
 have o2:=g1.2.outer.2
 refine Za (ZiK ZlH ZpH r.redex.outer r.reactum.outer (by omega)) ?_
 by_cases h5:r.redex.outer=r.reactum.outer
 case neg =>
  simp only[h5,ZH,List.length_map,EVA,seval,Zf,men]
  rw[Zg fun h:ruleOK sig r=>h5 h.outer]
 have h5':(r.redex.outer=r.reactum.outer)=True:=eq_true h5
 by_cases h6:r.copies.length=r.reactum.sites.length
 case neg =>
  have h6':¬ (r.copies.length:Int)=r.reactum.sites.length:=by omega
  simp only[h5',h6',ZH,List.length_map,EVA,seval,Zf,men]
  rw[Zg fun h:ruleOK sig r=>h6 h.len]
 have h6':((r.copies.length:Int)=r.reactum.sites.length)=True:=eq_true (by omega)
 simp only[h5',h6',ZH,List.length_map,EVA,seval,Zf,men]
 refine Za (ZbJ (t:=tv) (cs:=[ZH r]) ZfM ZfL r.copies (by omega) (fun x _ lvl S=>ZcO x r d1.2.2.1 lvl S)) ?_
 cases h7:r.copies.any fun k=>!dc (ZaM r k)
 ·simp only[EVA,seval,Zf,men]
  have:ruleOK sig r:=⟨g1.1,dc_iff.1 h2,g1.2,by omega,h4,h5,any_no.1 h7,h6⟩
  rw[Va this]
 ·simp only[EVA,seval,Zf,men]
  rw[Zg fun h:ruleOK sig r=>by rw[any_no.2 h.copies] at h7;cases h7]
end Go.Fd

/-
  TEXTS OF BIGRAPHS AND RULES, IN PLAIN TERMS. Own work.
-/
namespace Go.Fd
set_option maxRecDepth 20000
abbrev ySP:ByteArray:=⟨#[32]⟩
abbrev yAT:ByteArray:=⟨#[64]⟩
abbrev yEQ:ByteArray:=⟨#[61]⟩
abbrev ySEMI:ByteArray:=⟨#[59,32]⟩
abbrev ySITES:ByteArray:=⟨#[115,105,116,101,115]⟩
abbrev DQ:ByteArray:=⟨#[111,117,116,101,114]⟩
abbrev yINNER:ByteArray:=⟨#[105,110,110,101,114]⟩
abbrev Zqj:ByteArray:=⟨#[32,45,62,32]⟩
abbrev ZlV:ByteArray:=⟨#[32,124]⟩
def ZcP(sig:List TControl)(x:TNode):ByteArray:=(WW sig x.control++yAT)++YF x.parent
def Zds(sig:List TControl)(x:TNode):ByteArray:=VN spI (ZcP sig x) x.links
def Yg(sig:List TControl)(b:TBigraph):List ByteArray:=b.nodes.map (Zds sig)
def Ut(w:TWire):ByteArray:=((ySP++w.name)++yEQ)++YF w.link
def Xz(w:ByteArray)(l:List TWire):ByteArray:=l.foldl (fun a x=>a++Ut x) w
def ZcQ(b:TBigraph):ByteArray:=VN spI ySITES b.sites
def ZcR(b:TBigraph):ByteArray:=Zah (DQ::b.outer) ySP
def DR(b:TBigraph):ByteArray:=Xz yINNER b.inner
def Uu(b:TBigraph):List ByteArray:=[ZcQ b,YF b.edges,ZcR b]
def W0(sig:List TControl)(b:TBigraph):List ByteArray:=((YF b.roots::Yg sig b)++Uu b)++[DR b]
def Zec(sig:List TControl)(b:TBigraph):ByteArray:=Zah (W0 sig b) ySEMI
def ZfX(sig:List TControl)(r:TRule):ByteArray:=(Zec sig r.redex++Zqj)++VN spI (Zec sig r.reactum++ZlV) r.copies
theorem ZeB{w:ByteArray}{l:List TWire}{j:Nat}(h:j<l.length):Xz w (l.take (j+1))=Xz w (l.take j)++Ut l[j]:=by
 unfold Xz
 rw[List.take_succ_eq_append_getElem h,List.foldl_append]
 rfl
theorem Zed:∀(l:List TWire) (w:ByteArray),bl (Xz w l)=bl w++l.flatMap fun x=>bl (Ut x)
 | [],w=>by simp [Xz]
 | x::r,w=>by
  have ih:=Zed r (w++Ut x)
  rw[show Xz w (x::r)=Xz (w++Ut x) r from rfl,ih,Xv,List.flatMap_cons,List.append_assoc]
theorem XO{B:Nat}:∀(l:List TWire) (w:ByteArray),(∀ k∈l,(Ut k).size<=B)->(Xz w l).size<=w.size+l.length*B
 | [],w,_=>by simp [Xz]
 | x::r,w,h=>by
  have ih:=XO r (w++Ut x) fun k hk=>h k (by simp [hk])
  have h1:=h x (by simp)
  rw[show Xz w (x::r)=Xz (w++Ut x) r from rfl,List.length_cons,Nat.succ_mul]
  rw[ByteArray.size_append] at ih
  omega
theorem Zee{B:Nat}{sep:ByteArray}:∀{r:List ByteArray},(∀ x∈r,x.size<=B)->(r.flatMap fun y=>bl sep++bl y).length<=r.length*(B+sep.size)
 | [],_=>by simp
 | x::r,h=>by
  have ih:=Zee (r:=r) (sep:=sep) fun y hy=>h y (by simp [hy])
  have h1:=h x (by simp)
  rw[List.flatMap_cons,List.length_append,List.length_append,Xw,Xw,List.length_cons,Nat.succ_mul]
  omega
theorem ZaN{B:Nat}{sep x:ByteArray}{r:List ByteArray}(h0:x.size<=B)(h:∀ x∈r,x.size<=B):(Zah (x::r) sep).size<=B+r.length*(B+sep.size):=by
 rw[<-Xw,ZbL,List.length_append,Xw]
 have:=Zee (sep:=sep) h
 omega
theorem ZfY{s:List UInt8}:∀{l:List ByteArray},s++l.flatMap (fun y=>bl y++s)=l.flatMap (fun y=>s++bl y)++s
 | []=>by simp
 | x::r=>by
  rw[List.flatMap_cons,List.flatMap_cons,<-List.append_assoc,<-List.append_assoc,List.append_assoc (s++bl x),ZfY (l:=r),List.append_assoc (s++bl x)]
theorem DS{l:List ByteArray}(h:YO l){s:ByteArray}(hs:s∈l):s.size<=4:=by
 obtain⟨i,hi,rfl⟩:=List.getElem_of_mem hs
 exact(h.1 i hi).1.2.2
structure FitY (sig:List TControl) (b:TBigraph):Prop where
 roots:smN b.roots
 edges:smN b.edges
 par:∀ x∈b.nodes,smN x.parent
 links:∀ x∈b.nodes,smL x.links/\x.links.length<=1000
 sites:smL b.sites
 wires:∀ w∈b.inner,smN w.link/\w.name.size<=1000
 outer:∀ s∈b.outer,s.size<=1000
theorem ZlW{sig:List TControl}{b:TBigraph}(h:bigOK sig b):FitY sig b:=by
 have h1:=h.roots;have h2:=h.edges;have h3:=h.nodesL;have h4:=h.small.outer
 have hd1:∀ s∈b.outer,s.size<=1000:=fun s hs=>by have:=DS h.outer hs;omega
 have hd2:∀ w∈b.inner,w.name.size<=1000:=fun w hw=>by have:=DS h.inn (List.mem_map.2 ⟨w,hw,rfl⟩:w.name∈inn b);omega
 have hl:∀ l,VO b l->smN l:=fun l hl=>by unfold VO at hl;exact⟨by omega,by omega⟩
 have hu:∀ p (k:Int),k<=8->Xy sig b p k->smN p:=fun p k hk hu=>by
  rcases hu with q | q
  ·exact⟨by omega,by omega⟩
  ·exact⟨by omega,by omega⟩
 refine⟨⟨by omega,by omega⟩,⟨by omega,by omega⟩,fun x hx=>?_,fun x hx=>⟨fun l hl2=>?_,h.small.links x hx⟩,fun p hp=>hu p _ (by omega) (h.sites p hp),fun w hw=>⟨hl _ (h.inner w hw),hd2 w hw⟩,hd1⟩
 ·obtain⟨i,hi,rfl⟩:=List.getElem_of_mem hx
  exact hu _ _ (by omega) (h.nodes i hi).par
 ·obtain⟨i,hi,rfl⟩:=List.getElem_of_mem hx
  exact hl l ((h.nodes i hi).links l hl2)
theorem ZaO{sig:List TControl}(hs:Wb sig){x:TNode}(h:smN x.parent):(ZcP sig x).size<=8:=by
 have h1:=Wc hs x.control
 have h2:=ZS h
 have e:yAT.size=1:=rfl
 unfold ZcP
 rw[ByteArray.size_append,ByteArray.size_append]
 omega
theorem ZaP{sig:List TControl}{b:TBigraph}(hs:Wb sig)(f:FitY sig b){x:TNode}(hx:x∈b.nodes):(Zds sig x).size<=4008:=by
 have h1:=ZaO hs (f.par x hx)
 have h2:=JP (f:=spI) (B:=4) x.links (ZcP sig x) fun k hk=>V5 ((f.links x hx).1 k hk)
 have h3:=(f.links x hx).2
 unfold Zds
 omega
theorem XP{w:TWire}(h:smN w.link/\w.name.size<=1000):(Ut w).size<=1005:=by
 have h2:=ZS h.1
 have e:yEQ.size=1:=rfl
 have e2:ySP.size=1:=rfl
 unfold Ut
 rw[ByteArray.size_append,ByteArray.size_append,ByteArray.size_append]
 omega
theorem Zdt{sig:List TControl}{b:TBigraph}(h:bigOK sig b)(f:FitY sig b):(DR b).size<=16085:=by
 have h1:=XO (B:=1005) b.inner yINNER fun w hw=>XP (f.wires w hw)
 have h2:=h.small.inner
 have e:yINNER.size=5:=rfl
 unfold DR
 omega
theorem DT{sig:List TControl}{b:TBigraph}(h:bigOK sig b)(f:FitY sig b):(ZcR b).size<=17016:=by
 have h1:=ZaN (B:=1000) (sep:=ySP) (x:=DQ) (r:=b.outer) (by decide) f.outer
 have h2:=h.small.outer
 have e:ySP.size=1:=rfl
 unfold ZcR
 rw[e] at h1
 omega
theorem Zdu{sig:List TControl}{b:TBigraph}(h:bigOK sig b)(f:FitY sig b):(ZcQ b).size<=21:=by
 have h1:=JP (f:=spI) (B:=4) b.sites ySITES fun k hk=>V5 (f.sites k hk)
 have h2:=h.small.sites
 have e:ySITES.size=5:=rfl
 unfold ZcQ
 omega
theorem Jp{sig:List TControl}{b:TBigraph}:(Yg sig b).length=b.nodes.length:=by simp [Yg]
theorem ZeC{sig:List TControl}{b:TBigraph}:(W0 sig b).length=b.nodes.length+5:=by
 simp [W0,Uu,Jp]
theorem XA{sig:List TControl}{b:TBigraph}(h:bigOK sig b):(Zec sig b).size<=1000000:=by
 have f:=ZlW h
 have z1:=ZS f.roots
 have z2:=ZS f.edges
 have z3:=Zdu h f
 have z4:=DT h f
 have z5:=Zdt h f
 have h1:=ZaN (B:=17016) (sep:=ySEMI) (x:=YF b.roots) (r:=(Yg sig b++Uu b)++[DR b]) (by omega) fun x hx=>by
  rcases List.mem_append.1 hx with hx | hx
  ·rcases List.mem_append.1 hx with hx | hx
   ·obtain⟨y,hy,rfl⟩:=List.mem_map.1 hx
    have:=ZaP h.sg f hy
    omega
   ·simp only[Uu,List.mem_cons,List.not_mem_nil,or_false] at hx
    rcases hx with rfl | rfl | rfl <;> omega
  ·simp only[List.mem_cons,List.not_mem_nil,or_false] at hx
   subst hx
   omega
 have h2:=h.nodesL
 rw[List.length_append,List.length_append,Jp,show (Uu b).length=3 from rfl,show ySEMI.size=2 from rfl] at h1
 simp only[List.length_cons,List.length_nil] at h1
 unfold Zec W0
 rw[List.cons_append,List.cons_append]
 omega
theorem ZiR{sig:List TControl}{b:TBigraph}:bl (Zec sig b)=(bl (YF b.roots)++bl ySEMI)++((Yg sig b).flatMap (fun y=>bl y++bl ySEMI)++(bl (ZcQ b)++(bl ySEMI++(bl (YF b.edges)++(bl ySEMI++((bl DQ++b.outer.flatMap fun y=>bl ySP++bl y)++(bl ySEMI++bl (DR b)))))))):=by
 unfold Zec W0 Uu
 rw[List.cons_append,List.cons_append,ZbL,List.flatMap_append,List.flatMap_append]
 simp only[List.flatMap_cons,List.flatMap_nil,List.append_nil]
 unfold ZcR
 rw[ZbL]
 simp only[List.append_assoc]
 congr 1
 have e:=ZfY (s:=bl ySEMI) (l:=Yg sig b)
 rw[<-List.append_assoc (List.flatMap _ (Yg sig b)),<-e,List.append_assoc]
theorem ZgX{sig:List TControl}{x:TNode}{s:ByteArray}:bl (((((s++WW sig x.control)++yAT)++YF x.parent)++VN spI ⟨#[]⟩ x.links)++ySEMI)=bl s++(bl (Zds sig x)++bl ySEMI):=by
 unfold Zds ZcP
 simp only[Xv,U4,List.append_assoc]
 rfl
theorem ZgY{sig:List TControl}{r:TRule}:(((Zec sig r.redex++Zqj)++Zec sig r.reactum)++ZlV)++VN spI ⟨#[]⟩ r.copies=ZfX sig r:=ZaG (by
 unfold ZfX
 simp only[Xv,U4,List.append_assoc]
 rfl)
end Go.Fd

/-
  TEXTS OF BIGRAPHS: BOTH SIDES. Own work.
-/
namespace Go.Fd
open Go.RowKit
set_option maxRecDepth 20000
theorem Zqk{l:List ByteArray}:ScR (rS l):=fun e he t ht=>by
 obtain⟨n,_,rfl⟩:=List.mem_map.1 he
 simp only[List.mem_cons,List.not_mem_nil,or_false] at ht
 subst ht
 rfl
theorem Zql{l:List ByteArray}:UnR 1 (rS l):=ZiA (fun n:ByteArray=>[ts n]) (fun _=>rfl) l
set_option maxHeartbeats 1000000 in
theorem XB(sig:List TControl)(b:TBigraph)(h:bigOK sig b)(lvl:Nat)(S:Sto):Sem Proofs.Tryz.prog Z9 lvl [.tr (.sl (sig.map Zj)),.ag ((Zb b).map .tr)] S (iS (Zec sig b)) S:=by
 have hs:=h.sg
 have f:=ZlW h
 have sm:=h.small
 have n1:=sm.nodes;have n2:=sm.sites;have n3:=sm.outer;have n4:=sm.inner
 refine Zc WJ trivial ?_
 simp only[VY,List.length_map,Zb,EVA,↓reduceIte,Nat.reduceEqDiff,Nat.reduceMul,reduceCtorEq,Nat.reduceAdd,Nat.reduceSub,Nat.reduceLeDiff,Nat.reduceLT,Int.reduceToNat,Int.reduceLE,Int.reduceLT,Zf,men]
 refine Za (WX b.roots f.roots) ?_
 simp only[List.length_map,Zb,EVA,↓reduceIte,Nat.reduceEqDiff,Nat.reduceMul,reduceCtorEq,Nat.reduceAdd,Nat.reduceSub,Nat.reduceLeDiff,Nat.reduceLT,Int.reduceToNat,Int.reduceLE,Int.reduceLT,Zf,men]
 refine ZI (α:=Unit) b.nodes.length (fun j _=>[(5,.hd (lvl,448) [] 0 (j+1) none (j+1)),(18,iI j)]) (fun j _=>[(448,.ar 1 (rS (YF b.roots::(Yg sig b).take j)) true (j+1) 0)]) (fun _ _=>True) () (by simp only[EVA,↓reduceIte,Nat.reduceEqDiff,Nat.reduceMul,reduceCtorEq,Nat.reduceAdd,Nat.reduceSub,Nat.reduceLeDiff,Nat.reduceLT,Int.reduceToNat,Int.reduceLE,Int.reduceLT,Zf,men]) (by (simp only[EVA,↓reduceIte,Nat.reduceEqDiff,Nat.reduceMul,reduceCtorEq,Nat.reduceAdd,Nat.reduceSub,Nat.reduceLeDiff,Nat.reduceLT,Int.reduceToNat,Int.reduceLE,Int.reduceLT,Zf,men]) <;> rfl) trivial ?_
 intro j _ hj _
 simp only[List.length_map,Zb,EVA,↓reduceIte,Nat.reduceEqDiff,Nat.reduceMul,reduceCtorEq,Nat.reduceAdd,Nat.reduceSub,Nat.reduceLeDiff,Nat.reduceLT,Int.reduceToNat,Int.reduceLE,Int.reduceLT,Zf,men]
 refine Zn (fun hlt=>?_) (fun hge=>?_)
 ·have hja:j<b.nodes.length:=by omega
  have gn:=Q1 (c:=ZN) hja
  have q:=h.nodes j hja
  have hmem:=List.getElem_mem hja
  obtain⟨m,hm⟩:∃ m:Nat,b.nodes[j].control=m:=⟨b.nodes[j].control.toNat,by have:=q.ctl;omega⟩
  have hms:m<sig.length:=by have:=q.ctl;omega
  have gs:=Q1 (c:=Zj) hms
  have na:sig[m].name=WW sig b.nodes[j].control:=by rw[hm];exact(ZcF hms).symm
  have z0:=Wc hs b.nodes[j].control
  have z1:=ZS (f.par _ hmem)
  have zc:(⟨#[64]⟩:ByteArray).size=1:=rfl
  have fl:=f.links _ hmem
  have hlm:(((Yg sig b).take j).map fun n=>[ts n]).length=j:=by
   rw[List.length_map,List.length_take,Jp];omega
  have hh:(sig[m].name++(⟨#[64]⟩:ByteArray))++YF b.nodes[j].parent=ZcP sig b.nodes[j]:=by rw[na];rfl
  have st:((Yg sig b).take j).map (fun n=>[ts n])++[[ts (VN spI (ZcP sig b.nodes[j]) b.nodes[j].links)]]=((Yg sig b).take (j+1)).map fun n=>[ts n]:=by
   rw[List.take_succ_eq_append_getElem (by rw[Jp];exact hja)]
   simp [Yg,Zds]
  have zh:=ZaO hs (f.par _ hmem)
  rw[<-na] at z0
  simp only[gn,hm,gs,hms,ZN,Zj,List.length_map,Zb,EVA,↓reduceIte,Nat.reduceEqDiff,Nat.reduceMul,reduceCtorEq,Nat.reduceAdd,Nat.reduceSub,Nat.reduceLeDiff,Nat.reduceLT,Int.reduceToNat,Int.reduceLE,Int.reduceLT,Zf,men]
  refine⟨by rw[zc];omega,Za (WX _ (f.par _ hmem)) ?_⟩
  simp only[hh,List.length_map,Zb,EVA,↓reduceIte,Nat.reduceEqDiff,Nat.reduceMul,reduceCtorEq,Nat.reduceAdd,Nat.reduceSub,Nat.reduceLeDiff,Nat.reduceLT,Int.reduceToNat,Int.reduceLE,Int.reduceLT,Zf,men]
  refine⟨by rw[ByteArray.size_append,zc];omega,Za (QH (ZcP sig b.nodes[j]) b.nodes[j].links fl.1 (by omega) fl.2) ?_⟩
  simp only[st,hlm,List.length_map,Zb,EVA,↓reduceIte,Nat.reduceEqDiff,Nat.reduceMul,reduceCtorEq,Nat.reduceAdd,Nat.reduceSub,Nat.reduceLeDiff,Nat.reduceLT,Int.reduceToNat,Int.reduceLE,Int.reduceLT,Zf,men]
  exact⟨by omega,by rw[Zd];omega,Ze () hja rfl trivial⟩
 ·have:j=b.nodes.length:=by omega
  subst this
  rw[List.take_of_length_le (by rw[Jp];omega)]
  refine Za (QH ySITES b.sites f.sites (by decide) (by omega)) ?_
  simp only[List.length_map,Zb,EVA,↓reduceIte,Nat.reduceEqDiff,Nat.reduceMul,reduceCtorEq,Nat.reduceAdd,Nat.reduceSub,Nat.reduceLeDiff,Nat.reduceLT,Int.reduceToNat,Int.reduceLE,Int.reduceLT,Zf,men]
  refine Za (WX b.edges f.edges) ?_
  simp only[List.length_map,Zb,EVA,↓reduceIte,Nat.reduceEqDiff,Nat.reduceMul,reduceCtorEq,Nat.reduceAdd,Nat.reduceSub,Nat.reduceLeDiff,Nat.reduceLT,Int.reduceToNat,Int.reduceLE,Int.reduceLT,Zf,men]
  refine⟨Zqk,Zql,by omega,by omega,?_⟩
  have hco:cut ([ts DQ]::rS b.outer) 0 (1+b.outer.length)=rS (DQ::b.outer):=ZfQ (by simp;omega)
  have zo:=DT h f
  simp only[hco,List.length_map,Zb,EVA,↓reduceIte,Nat.reduceEqDiff,Nat.reduceMul,reduceCtorEq,Nat.reduceAdd,Nat.reduceSub,Nat.reduceLeDiff,Nat.reduceLT,Int.reduceToNat,Int.reduceLE,Int.reduceLT,Zf,men]
  refine Za (Zd5 (DQ::b.outer) ySP (by simp;omega) (by show (ZcR b).size<=_;omega)) ?_
  have hrep:cut ((((List.replicate 3 [Tr.v (Value.string ⟨#[]⟩)]).set 0 [Tr.v (Value.string (VN spI ySITES b.sites))]).set 1 [Tr.v (Value.string (YF b.edges))]).set 2 [Tr.v (Value.string (Zah (DQ::b.outer) ySP))]) 0 3=rS (Uu b):=rfl
  have hl3:List.length (rS (Uu b))=3:=rfl
  have hsc:ScR (rS (Uu b)):=Zqk
  have hun:UnR 1 (rS (Uu b)):=Zql
  have hl2:((Yg sig b).map fun n=>[ts n]).length=b.nodes.length:=by rw[List.length_map,Jp]
  simp only[hrep,hl2,hl3,hsc,hun,Jp,List.length_set,List.length_replicate,List.length_map,Zb,EVA,↓reduceIte,Nat.reduceEqDiff,Nat.reduceMul,reduceCtorEq,Nat.reduceAdd,Nat.reduceSub,Nat.reduceLeDiff,Nat.reduceLT,Int.reduceToNat,Int.reduceLE,Int.reduceLT,Zf,men]
  refine⟨by omega,?_⟩
  refine ZI (α:=Unit) b.inner.length (fun i _=>[(8,iS (Xz yINNER (b.inner.take i))),(57,iI i)]) (fun _ _=>[]) (fun _ _=>True) () (by simp only[EVA,↓reduceIte,Nat.reduceEqDiff,Nat.reduceMul,reduceCtorEq,Nat.reduceAdd,Nat.reduceSub,Nat.reduceLeDiff,Nat.reduceLT,Int.reduceToNat,Int.reduceLE,Int.reduceLT,Zf,men]) (by (simp only[EVA,↓reduceIte,Nat.reduceEqDiff,Nat.reduceMul,reduceCtorEq,Nat.reduceAdd,Nat.reduceSub,Nat.reduceLeDiff,Nat.reduceLT,Int.reduceToNat,Int.reduceLE,Int.reduceLT,Zf,men]) <;> rfl) trivial ?_
  intro i _ hi _
  simp only[List.length_map,Zb,EVA,↓reduceIte,Nat.reduceEqDiff,Nat.reduceMul,reduceCtorEq,Nat.reduceAdd,Nat.reduceSub,Nat.reduceLeDiff,Nat.reduceLT,Int.reduceToNat,Int.reduceLE,Int.reduceLT,Zf,men]
  refine Zn (fun hlt2=>?_) (fun hge2=>?_)
  ·have hia:i<b.inner.length:=by omega
   have gw:=Q1 (c:=ZX) hia
   have fw:=f.wires _ (List.getElem_mem hia)
   have z1:=XO (B:=1005) (b.inner.take i) yINNER fun w hw=>XP (f.wires w (List.mem_of_mem_take hw))
   have z2:(b.inner.take i).length=i:=by rw[List.length_take];omega
   have z3:=ZS fw.1
   have z4:=XP fw
   have e0:yINNER.size=5:=rfl
   have e1:(⟨#[32]⟩:ByteArray).size=1:=rfl
   have e2:(⟨#[61]⟩:ByteArray).size=1:=rfl
   rw[z2,e0] at z1
   simp only[gw,ZX,List.length_map,Zb,EVA,↓reduceIte,Nat.reduceEqDiff,Nat.reduceMul,reduceCtorEq,Nat.reduceAdd,Nat.reduceSub,Nat.reduceLeDiff,Nat.reduceLT,Int.reduceToNat,Int.reduceLE,Int.reduceLT,Zf,men]
   refine⟨by rw[e1];omega,by rw[ByteArray.size_append,e1,e2];omega,Za (WX _ fw.1) ?_⟩
   simp only[EVA,↓reduceIte,Nat.reduceEqDiff,Nat.reduceMul,reduceCtorEq,Nat.reduceAdd,Nat.reduceSub,Nat.reduceLeDiff,Nat.reduceLT,Int.reduceToNat,Int.reduceLE,Int.reduceLT,Zf,men]
   exact⟨by rw[ByteArray.size_append,ByteArray.size_append,e1,e2];omega,by show _+(Ut b.inner[i]).size<=_;omega,by rw[Zd];omega,Ze () hia (by rw[ZeB hia];rfl) trivial⟩
  ·have:i=b.inner.length:=by omega
   subst this
   rw[List.take_length]
   have hl4:(((Yg sig b).map fun n=>[ts n])++rS (Uu b)).length=b.nodes.length+3:=by
    rw[List.length_append,hl2,hl3]
   have hcut:cut ([ts (YF b.roots)]::(((Yg sig b).map fun n=>[ts n])++rS (Uu b)++[[Tr.v (Value.string (Xz yINNER b.inner))]])) 0 (b.nodes.length+1+3+1)=rS (W0 sig b):=by
    rw[ZfQ (by rw[List.length_cons,List.length_append,hl4];simp)]
    simp [W0,Uu,DR]
   have hwl:(W0 sig b).length<=4294967296:=by rw[ZeC];omega
   have hz:=XA h
   refine⟨by omega,by omega,by rw[List.length_append,hl4];simp,?_⟩
   rw[hcut]
   refine Za (Zd5 (W0 sig b) ySEMI hwl (by show (Zec sig b).size<=_;omega)) ?_
   simp only[EVA,↓reduceIte,Nat.reduceEqDiff,Nat.reduceMul,reduceCtorEq,Nat.reduceAdd,Nat.reduceSub,Nat.reduceLeDiff,Nat.reduceLT,Int.reduceToNat,Int.reduceLE,Int.reduceLT,Zf,men]
   rfl
end Go.Fd

/-
  TEXTS OF BIGRAPHS: THE REFERENCE'S SIDE. Own work.
-/
namespace Go.Fd
open Go.RowKit
set_option maxRecDepth 20000
def nsB(sig:List TControl)(b:TBigraph)(j:Nat):List UInt8:=(bl (YF b.roots)++bl ySEMI)++((Yg sig b).take j).flatMap fun y=>bl y++bl ySEMI
theorem ZgZ{sig:List TControl}{b:TBigraph}{x:ByteArray}{j:Nat}(hj:j<b.nodes.length)(h:bl x=nsB sig b j):bl x++(bl (Zds sig b.nodes[j])++bl ySEMI)=nsB sig b (j+1):=by
 rw[h,nsB,nsB,List.take_succ_eq_append_getElem (by rw[Jp];exact hj),List.flatMap_append,<-List.append_assoc]
 simp [Yg]
theorem Zef{B:Nat}{s:List UInt8}:∀{r:List ByteArray},(∀ x∈r,x.size<=B)->(r.flatMap fun y=>bl y++s).length<=r.length*(B+s.length)
 | [],_=>by simp
 | x::r,h=>by
  have ih:=Zef (r:=r) (s:=s) fun y hy=>h y (by simp [hy])
  have h1:=h x (by simp)
  rw[List.flatMap_cons,List.length_append,List.length_append,Xw,List.length_cons,Nat.succ_mul]
  omega
theorem Zeg{sig:List TControl}{b:TBigraph}{x:ByteArray}{j:Nat}(hb:bigOK sig b)(h:bl x=nsB sig b j):x.size<=50000:=by
 have f:=ZlW hb
 have z1:=ZS f.roots
 have h2:=Zef (B:=4008) (s:=bl ySEMI) (r:=(Yg sig b).take j) fun y hy=>by
  obtain⟨k,hk,rfl⟩:=List.mem_map.1 (List.mem_of_mem_take hy)
  exact ZaP hb.sg f hk
 have h3:((Yg sig b).take j).length<=8:=by
  have:=hb.nodesL
  rw[List.length_take,Jp]
  omega
 have h4:=congrArg List.length h
 rw[nsB,List.length_append,List.length_append,Xw,Xw,Xw,show ySEMI.size=2 from rfl] at h4
 rw[Xw,show ySEMI.size=2 from rfl] at h2
 have h5:((Yg sig b).take j).length*(4008+2)<=8*4010:=Nat.mul_le_mul_right _ h3
 omega
def W1(w:ByteArray)(l:List ByteArray):ByteArray:=l.foldl (fun a x=>(a++ySP)++x) w
theorem ZeD{w:ByteArray}{l:List ByteArray}{j:Nat}(h:j<l.length):W1 w (l.take (j+1))=(W1 w (l.take j)++ySP)++l[j]:=by
 unfold W1
 rw[List.take_succ_eq_append_getElem h,List.foldl_append]
 rfl
theorem Zeh:∀(l:List ByteArray) (w:ByteArray),bl (W1 w l)=bl w++l.flatMap fun x=>bl ySP++bl x
 | [],w=>by simp [W1]
 | x::r,w=>by
  have ih:=Zeh r ((w++ySP)++x)
  rw[show W1 w (x::r)=W1 ((w++ySP)++x) r from rfl,ih,Xv,Xv,List.flatMap_cons,List.append_assoc,List.append_assoc,List.append_assoc]
theorem Uv{B:Nat}:∀(l:List ByteArray) (w:ByteArray),(∀ k∈l,k.size<=B)->(W1 w l).size<=w.size+l.length*(B+1)
 | [],w,_=>by simp [W1]
 | x::r,w,h=>by
  have ih:=Uv r ((w++ySP)++x) fun k hk=>h k (by simp [hk])
  have h1:=h x (by simp)
  rw[show W1 w (x::r)=W1 ((w++ySP)++x) r from rfl,List.length_cons,Nat.succ_mul]
  rw[ByteArray.size_append,ByteArray.size_append,show ySP.size=1 from rfl] at ih
  omega
def ZcS(w:ByteArray)(l:List TWire):ByteArray:=l.foldl (fun a x=>(((a++ySP)++x.name)++yEQ)++YF x.link) w
theorem ZeE{w:ByteArray}{l:List TWire}{j:Nat}(h:j<l.length):ZcS w (l.take (j+1))=(((ZcS w (l.take j)++ySP)++l[j].name)++yEQ)++YF l[j].link:=by
 unfold ZcS
 rw[List.take_succ_eq_append_getElem h,List.foldl_append]
 rfl
theorem ZbR:∀(l:List TWire) (w:ByteArray),ZcS w l=Xz w l
 | [],w=>rfl
 | x::r,w=>by
  rw[show ZcS w (x::r)=ZcS ((((w++ySP)++x.name)++yEQ)++YF x.link) r from rfl,ZbR r,show Xz w (x::r)=Xz (w++Ut x) r from rfl]
  congr 1
  exact ZaG (by unfold Ut;simp only[Xv,List.append_assoc])
theorem ZrB{sig:List TControl}{b:TBigraph}{x:ByteArray}(h:bl x=nsB sig b b.nodes.length) :
  ZcS (W1 ((((((x++ySITES)++VN spI ⟨#[]⟩ b.sites)++ySEMI)++YF b.edges)++⟨#[59,32,111,117,116,101,114]⟩)) b.outer++⟨#[59,32,105,110,110,101,114]⟩) b.inner=Zec sig b:=ZaG (by
 rw[ZbR,ZiR]
 rw[nsB,List.take_of_length_le (by rw[Jp];omega)] at h
 unfold ZcQ DR
 simp only[Zed,Zeh,Xv,U4,h,List.append_assoc]
 rfl)
set_option maxHeartbeats 1000000 in
theorem ZaQ(sig:List TControl)(b:TBigraph)(h:bigOK sig b)(lvl:Nat)(S:Sto):Sem Proofs.Tryz.prog Yw lvl [.tr (.sl (sig.map Zj)),.ag ((Zb b).map .tr)] S (iS (Zec sig b)) S:=by
 have hs:=h.sg
 have f:=ZlW h
 have sm:=h.small
 have n1:=sm.nodes;have n2:=sm.sites;have n3:=sm.outer;have n4:=sm.inner
 have c2:(⟨#[59,32]⟩:ByteArray).size=2:=rfl
 have c1:(⟨#[64]⟩:ByteArray).size=1:=rfl
 have zr:=ZS f.roots
 have ze:=ZS f.edges
 refine Zc Zby trivial ?_
 simp only[WG,List.length_map,Zb,EVA,seval,Zf,men]
 refine Za (Qo b.roots f.roots) ?_
 simp only[List.length_map,Zb,EVA,seval,Zf,men]
 refine⟨by rw[c2];omega,?_⟩
 refine ZI (α:=ByteArray) b.nodes.length (fun j x=>[(5,iS x),(6,iI j)]) (fun _ _=>[]) (fun j x=>bl x=nsB sig b j) (YF b.roots++ySEMI) (by simp only[EVA,seval,Zf,men]) (by (simp only[EVA,seval,Zf,men]) <;> rfl) (by simp [nsB,Xv]) ?_
 intro j x hj hA
 simp only[List.length_map,Zb,EVA,seval,Zf,men]
 refine Zn (fun hlt=>?_) (fun hge=>?_)
 ·have hja:j<b.nodes.length:=by omega
  have gn:=Q1 (c:=ZN) hja
  have q:=h.nodes j hja
  have hmem:=List.getElem_mem hja
  obtain⟨m,hm⟩:∃ m:Nat,b.nodes[j].control=m:=⟨b.nodes[j].control.toNat,by have:=q.ctl;omega⟩
  have hms:m<sig.length:=by have:=q.ctl;omega
  have gs:=Q1 (c:=Zj) hms
  have na:sig[m].name=WW sig b.nodes[j].control:=by rw[hm];exact(ZcF hms).symm
  have z0:=Wc hs b.nodes[j].control
  have z1:=ZS (f.par _ hmem)
  have fl:=f.links _ hmem
  have hx:=Zeg h hA
  have zl:=JP (f:=spI) (B:=4) b.nodes[j].links ⟨#[]⟩ fun k hk=>V5 (fl.1 k hk)
  rw[show (⟨#[]⟩:ByteArray).size=0 from rfl] at zl
  have fl2:=fl.2
  rw[<-na] at z0
  simp only[gn,hm,gs,hms,ZN,Zj,List.length_map,Zb,EVA,seval,Zf,men]
  refine⟨by omega,by rw[ByteArray.size_append,c1];omega,Za (Qo _ (f.par _ hmem)) ?_⟩
  simp only[List.length_map,Zb,EVA,seval,Zf,men]
  refine⟨by rw[ByteArray.size_append,ByteArray.size_append,c1];omega,Za (Xx b.nodes[j].links fl.1 fl.2) ?_⟩
  simp only[List.length_map,Zb,EVA,seval,Zf,men]
  refine⟨by rw[ByteArray.size_append,ByteArray.size_append,ByteArray.size_append,c1];omega,by rw[ByteArray.size_append,ByteArray.size_append,ByteArray.size_append,ByteArray.size_append,c1,c2];omega,by rw[Zd];omega,Ze (((((x++WW sig b.nodes[j].control)++yAT)++YF b.nodes[j].parent)++VN spI ⟨#[]⟩ b.nodes[j].links)++ySEMI) hja (by rw[<-na];rfl) ?_⟩
  rw[ZgX]
  exact ZgZ hja hA
 ·have:j=b.nodes.length:=by omega
  subst this
  have hx:=Zeg h hA
  have hT:=ZrB hA
  have zl:=JP (f:=spI) (B:=4) b.sites ⟨#[]⟩ fun k hk=>V5 (f.sites k hk)
  rw[show (⟨#[]⟩:ByteArray).size=0 from rfl] at zl
  have k5:(⟨#[115,105,116,101,115]⟩:ByteArray).size=5:=rfl
  have k7:(⟨#[59,32,111,117,116,101,114]⟩:ByteArray).size=7:=rfl
  have k7i:(⟨#[59,32,105,110,110,101,114]⟩:ByteArray).size=7:=rfl
  refine⟨by rw[k5];omega,Za (Xx b.sites f.sites (by omega)) ?_⟩
  simp only[List.length_map,Zb,EVA,seval,Zf,men]
  refine⟨by rw[ByteArray.size_append,k5];omega,by rw[ByteArray.size_append,ByteArray.size_append,k5,c2];omega,Za (Qo b.edges f.edges) ?_⟩
  simp only[List.length_map,Zb,EVA,seval,Zf,men]
  refine⟨by simp only[ByteArray.size_append,k5,c2];omega,by simp only[ByteArray.size_append,k5,c2,k7];omega,?_⟩
  obtain⟨y,hy⟩:∃ y,y=(((((x++ySITES)++VN spI ⟨#[]⟩ b.sites)++ySEMI)++YF b.edges)++(⟨#[59,32,111,117,116,101,114]⟩:ByteArray)):=⟨_,rfl⟩
  have hys:y.size<=60000:=by
   rw[hy]
   simp only[ByteArray.size_append,k5,c2,k7]
   omega
  rw[<-hy] at hT
  rw[<-hy]
  refine ZI (α:=Unit) b.outer.length (fun i _=>[(5,iS (W1 y (b.outer.take i))),(8,iI i)]) (fun _ _=>[]) (fun _ _=>True) () (by simp only[EVA,seval,Zf,men]) (by (simp only[EVA,seval,Zf,men]) <;> rfl) trivial ?_
  intro i _ hi _
  simp only[List.length_map,Zb,EVA,seval,Zf,men]
  refine Zn (fun hlt2=>?_) (fun hge2=>?_)
  ·have hia:i<b.outer.length:=by omega
   have ga:=Q1 (c:=fun n:ByteArray=>[ts n]) hia
   have fo:=f.outer _ (List.getElem_mem hia)
   have z1:=Uv (B:=1000) (b.outer.take i) y fun w hw=>f.outer w (List.mem_of_mem_take hw)
   have z2:(b.outer.take i).length=i:=by rw[List.length_take];omega
   rw[z2] at z1
   simp only[ga,List.length_map,Zb,EVA,seval,Zf,men]
   exact⟨by rw[show (⟨#[32]⟩:ByteArray).size=1 from rfl];omega,by rw[ByteArray.size_append,show (⟨#[32]⟩:ByteArray).size=1 from rfl];omega,by rw[Zd];omega,Ze () hia (by rw[ZeD hia];rfl) trivial⟩
  ·have:i=b.outer.length:=by omega
   subst this
   rw[List.take_length]
   have z1:=Uv (B:=1000) b.outer y f.outer
   refine⟨by rw[k7i];omega,?_⟩
   obtain⟨z,hz⟩:∃ z,z=W1 y b.outer++(⟨#[59,32,105,110,110,101,114]⟩:ByteArray):=⟨_,rfl⟩
   have hzs:z.size<=100000:=by
    rw[hz,ByteArray.size_append,k7i]
    omega
   rw[<-hz] at hT
   rw[<-hz]
   refine ZI (α:=Unit) b.inner.length (fun i _=>[(5,iS (ZcS z (b.inner.take i))),(9,iI i)]) (fun _ _=>[]) (fun _ _=>True) () (by simp only[EVA,seval,Zf,men]) (by (simp only[EVA,seval,Zf,men]) <;> rfl) trivial ?_
   intro i _ hi3 _
   simp only[List.length_map,Zb,EVA,seval,Zf,men]
   refine Zn (fun hlt3=>?_) (fun hge3=>?_)
   ·have hia:i<b.inner.length:=by omega
    have gw:=Q1 (c:=ZX) hia
    have fw:=f.wires _ (List.getElem_mem hia)
    have z1:=XO (B:=1005) (b.inner.take i) z fun w hw=>XP (f.wires w (List.mem_of_mem_take hw))
    rw[<-ZbR] at z1
    have z2:(b.inner.take i).length=i:=by rw[List.length_take];omega
    have z3:=ZS fw.1
    have z4:=fw.2
    have e1:(⟨#[32]⟩:ByteArray).size=1:=rfl
    have e2:(⟨#[61]⟩:ByteArray).size=1:=rfl
    rw[z2] at z1
    simp only[gw,ZX,List.length_map,Zb,EVA,seval,Zf,men]
    refine⟨by simp only[ByteArray.size_append,e1,e2];omega,by simp only[ByteArray.size_append,e1,e2];omega,by simp only[ByteArray.size_append,e1,e2];omega,Za (Qo _ fw.1) ?_⟩
    simp only[EVA,seval,Zf,men]
    exact⟨by simp only[ByteArray.size_append,e1,e2];omega,by rw[Zd];omega,Ze () hia (by rw[ZeE hia];rfl) trivial⟩
   ·have:i=b.inner.length:=by omega
    subst this
    rw[List.take_length,hT]
end Go.Fd

/-
  TEXTS OF RULES: BOTH SIDES. Own work.
-/
namespace Go.Fd
open Go.RowKit
set_option maxRecDepth 20000
theorem ZcT{sig:List TControl}{r:TRule}(h:ruleOK sig r):smL r.copies/\r.copies.length<=4:=by
 have h1:=h.red.sitesL
 have h2:=h.rea.sitesL
 have h3:=h.len
 refine⟨fun k hk=>?_,by omega⟩
 have q:=h.copies k hk
 unfold ZaM at q
 exact⟨by omega,by omega⟩
open Classical in
noncomputable def QJ(sig:List TControl)(r:TRule):ByteArray:=if ruleOK sig r then ZfX sig r else ⟨#[]⟩
noncomputable def QK(sig:List TControl)(r:TRule):Bool:=dc (ruleOK sig r)
theorem ZcU(sig:List TControl)(r:TRule)(h:ruleOK sig r)(lvl:Nat)(S:Sto):Sem Proofs.Tryz.prog YL lvl [.tr (.sl (sig.map Zj)),.ag ((ZH r).map .tr)] S (iS (ZfX sig r)) S:=by
 have c1:=ZcT h
 have z1:=XA h.red
 have z2:=XA h.rea
 have e4:(⟨#[32,45,62,32]⟩:ByteArray).size=4:=rfl
 have e2:(⟨#[32,124]⟩:ByteArray).size=2:=rfl
 have q1:=XB sig r.redex h.red
 have q2:=XB sig r.reactum h.rea
 simp only[Zb,List.map_cons,List.map_nil] at q1 q2
 have zl:=JP (f:=spI) (B:=4) r.copies (Zec sig r.reactum++ZlV) fun k hk=>V5 (c1.1 k hk)
 rw[ByteArray.size_append,e2] at zl
 have c2:=c1.2
 refine Zc Dy trivial ?_
 simp only[Xn,ZH,EVA,seval,Zf,men]
 refine Za q1 ?_
 simp only[ZH,EVA,seval,Zf,men]
 refine⟨by rw[e4];omega,Za q2 ?_⟩
 simp only[ZH,List.length_map,EVA,seval,Zf,men]
 refine⟨by rw[e2];omega,Za (QH (Zec sig r.reactum++ZlV) r.copies c1.1 (by rw[ByteArray.size_append,e2];omega) (by omega)) ?_⟩
 simp only[EVA,seval,Zf,men]
 exact⟨by rw[ByteArray.size_append,e4];omega,rfl⟩
theorem ZeF(sig:List TControl)(r:TRule)(h:ruleOK sig r)(lvl:Nat)(S:Sto):Sem Proofs.Tryz.prog VA lvl [.tr (.sl (sig.map Zj)),.ag ((ZH r).map .tr)] S (iS (ZfX sig r)) S:=by
 have c1:=ZcT h
 have z1:=XA h.red
 have z2:=XA h.rea
 have e4:(⟨#[32,45,62,32]⟩:ByteArray).size=4:=rfl
 have e2:(⟨#[32,124]⟩:ByteArray).size=2:=rfl
 have q1:=ZaQ sig r.redex h.red
 have q2:=ZaQ sig r.reactum h.rea
 simp only[Zb,List.map_cons,List.map_nil] at q1 q2
 have zl:=JP (f:=spI) (B:=4) r.copies ⟨#[]⟩ fun k hk=>V5 (c1.1 k hk)
 rw[show (⟨#[]⟩:ByteArray).size=0 from rfl] at zl
 have c2:=c1.2
 rw[<-ZgY]
 refine Zc Zbv trivial ?_
 simp only[WC,ZH,EVA,seval,Zf,men]
 refine Za q1 ?_
 simp only[ZH,EVA,seval,Zf,men]
 refine⟨by rw[e4];omega,Za q2 ?_⟩
 simp only[ZH,List.length_map,EVA,seval,Zf,men]
 refine⟨by simp only[ByteArray.size_append,e4];omega,by simp only[ByteArray.size_append,e4,e2];omega,Za (Xx r.copies c1.1 (by omega)) ?_⟩
 simp only[EVA,seval,Zf,men]
 simp only[ByteArray.size_append,e4,e2];omega
theorem Uw(sig:List TControl)(r:TRule)(hn:sig.length<=4294967296)(hbs:∀ y∈sig,Zu 4294967296 y)(hb:QQ 4294967296 r)(hf:ZaB r)(lvl:Nat)(S:Sto):Sem Proofs.Tryz.prog YJ lvl [.tr (.sl (sig.map Zj)),.ag ((ZH r).map .tr)] S (.tu [iS (QJ sig r),iB (QK sig r)]) S:=by
 refine Zc Dw (by simp [low,men,Zf]) ?_
 have q:=Zez sig r hn hbs hb hf
 simp only[ZH,List.map_cons,List.map_nil] at q
 simp only[Xl,List.length_map,ZH,EVA,seval,Zf,men]
 refine Za q ?_
 unfold QJ QK
 cases hg:dc (ruleOK sig r)
 ·simp only[EVA,seval,Zf,men]
  rw[if_neg (dc_not.1 hg)]
 have hG:=dc_iff.1 hg
 have q2:=ZeF sig r hG
 simp only[ZH,List.map_cons,List.map_nil] at q2
 rw[if_pos hG]
 simp only[List.length_map,ZH,EVA,seval,Zf,men]
 refine Za q2 ?_
 simp only[EVA,seval,Zf,men]
theorem Ux(sig:List TControl)(r:TRule)(hn:sig.length<=4294967296)(hbs:∀ y∈sig,Zu 4294967296 y)(hb:QQ 4294967296 r)(hf:ZaB r)(lvl:Nat)(S:Sto):Sem Proofs.Tryz.prog YK lvl [.tr (.sl (sig.map Zj)),.ag ((ZH r).map .tr)] S (.tu [iS (QJ sig r),iB (QK sig r)]) S:=by
 refine Zc Dx (by simp [low,men,Zf]) ?_
 have q:=DP sig r hn hbs hb hf
 simp only[ZH,List.map_cons,List.map_nil] at q
 simp only[Xm,List.length_map,ZH,EVA,seval,Zf,men]
 refine Za q ?_
 unfold QJ QK
 cases hg:dc (ruleOK sig r)
 ·simp only[EVA,seval,Zf,men]
  rw[if_neg (dc_not.1 hg)]
 have hG:=dc_iff.1 hg
 have q2:=ZcU sig r hG
 simp only[ZH,List.map_cons,List.map_nil] at q2
 rw[if_pos hG]
 simp only[List.length_map,ZH,EVA,seval,Zf,men]
 refine Za q2 ?_
 simp only[EVA,seval,Zf,men]
end Go.Fd

/-
  THE TABLE STANDS WHERE THE OUTERMOST CALL BEGINS. Own work.
-/
namespace Go.Fd
theorem ZaR{P:Program}{x:String×DataW Unit}{rest:List (String×DataW Unit)}{w:World}(h:laidMet P (x::rest) w):laidMet P rest w:=by
 obtain⟨n,d⟩:=x
 obtain⟨ps,⟨g,t,cs,fuel,p,q,_,_,_,_,hr,rfl⟩,hn,hc⟩:=h
 exact⟨q,hr,(List.nodup_append.1 hn).2.1,fun b off hb=>hc b off (List.mem_append_right _ hb)⟩
theorem ZfZ{x y:String×DataW Unit}{rest:List (String×DataW Unit)}{w:World} (h:laidMet Proofs.Tryz.prog (x::y::("internal/strconv.uint64pow10",Lib.tabData .u64 Lib.pow10Tab)::rest) w):Tabs.good w :=
 Lib.tabIs_of_head (g:=1) (t:=154) (e:=143) (n:=20) (by kernel_rfl) (by kernel_rfl) Proofs.Tryz.underlying154 Proofs.Tryz.underlying143 (by kernel_rfl) (by kernel_rfl) (ZaR (ZaR h))
end Go.Fd

/-
  The annotated codes of the functions, printed by a program of mine (gen.py), and the check that they belong to the program.
-/
namespace Go.Fd
def YH:F2 :=
 { nt:=58,res:=[.t 4 [0]],body:=(.sq (rg [oo 3 (.bt (.t 1)),om 4 (.k (.bool false))]) (.sq (rg [om 5 (i6 1048576)]) (.sq (rg [qM 12 0,qM 13 5,oo 14 (.ca .pure false (.f Ya) [.t 12,.t 13]),qM 5 14]) (.sq (.sq (rg [qM 15 5,oo 16 (.bi .lss 0 (.t 15) (i6 0))]) (.cd (.t 16) (.sq (rg [om 4 (.k (.bool true))]) (.rt)) (.sk))) (.sq (rg [qS 17 13 3,qM 18 5,oo 19 (.ca .pure false (.f Vx) [.t 17,.t 18]),qM 5 19]) (.sq (.sq (rg [qM 20 5,oo 21 (.bi .lss 0 (.t 20) (i6 0))]) (.cd (.t 21) (.sq (rg [om 4 (.k (.bool true))]) (.rt)) (.sk))) (.sq (.rg (some 0) [qM 23 0,oo 24 (.ca .pure false (.f ZY) [.t 23]),qS 25 13 3,oo 26 (.ca .pure false (.f JD) [.t 25]),oo 27 (.ca .pure false (.f YJ) [.t 24,.t 26]),qM 22 27,qE 28 0 22,qE 29 1 22,qM 6 28,qM 7 29]) (.sq (rg [qM 30 0,oo 31 (.ca .pure false (.f ZY) [.t 30]),qM 8 31]) (.sq (rg [qS 32 13 3,oo 33 (.ca .pure false (.f JD) [.t 32]),oo 9 (.al [.int .i64 0,.slice none 0 0,.slice none 0 0,.int .i64 0,.slice none 0 0,.slice none 0 0,.int .i64 0,.slice none 0 0,.slice none 0 0,.int .i64 0,.slice none 0 0,.slice none 0 0,.slice none 0 0] []),on1 (.st 13 (.t 9) (.t 33))]) (.sq (rg [qM 35 8,qS 36 13 9,oo 37 (.ca .pure false (.f YK) [.t 35,.t 36]),qM 34 37,qE 38 0 34,qE 39 1 34,qM 10 38,qM 11 39]) (.sq (.sq (rg [qM 40 10,qM 41 6,qB 42 .neq 40 41,qM 43 42,og 44 43 false (.mv (.t 11) none),og 45 43 false (.mv (.t 7) none),og 46 43 false (.bi .neq 2 (.t 44) (.t 45)),oo 47 (.pk (.t 43) (.k (.bool true)) (.t 46))]) (.cd (.t 47) (.sq (rg [om 4 (.k (.bool false))]) (.rt)) (.sk))) (.sq (.sq (rg [qM 48 8,qM 49 0,oo 50 (.ca .pure false (.f ZY) [.t 49]),oo 51 (.ca .pure false (.f Yb) [.t 48,.t 50]),oo 52 (.nt (.t 51))]) (.cd (.t 52) (.sq (rg [om 4 (.k (.bool false))]) (.rt)) (.sk))) (.sq (.sq (.rg (some 0) [qS 53 13 9,qS 54 13 3,oo 55 (.ca .pure false (.f JD) [.t 54]),oo 56 (.ca .pure false (.f Vy) [.t 53,.t 55]),oo 57 (.nt (.t 56))]) (.cd (.t 57) (.sq (rg [om 4 (.k (.bool false))]) (.rt)) (.sk))) (.sq (rg [om 4 (.k (.bool true))]) (.rt))))))))))))))) }
theorem Q3:ZR Proofs.Tryz.prog Yf YH=true:=by kernel_rfl
end Go.Fd

/-
  THE TEXT OF A MARK; THE MARKS OF NUMBERS AND TEXTS. Own work.
-/
namespace Go.Fd
set_option maxRecDepth 20000
def mt(q:Nat)(o:ByteArray):ByteArray:=if q=0 then o else mt (q / 10) (⟨#[UInt8.ofNat (48+q % 10)]⟩++o)
 termination_by q
 decreasing_by omega
end Go.Fd

/-
  WHAT THE MARKING FUNCTIONS DO (printed by lawgen.py). Own work.
-/
namespace Go.Fd
set_option maxRecDepth 20000
end Go.Fd

/-
  The annotated codes of the functions, printed by a program of mine (gen.py), and the check that they belong to the program.
-/
namespace Go.Fd
def W2:F2 :=
 { nt:=24,res:=[.t 4 [0]],body:=(.sq (rg [oo 2 (.bt (.t 0)),om 4 (i6 0)]) (.sq (rg [qF 5 0 2,qS 6 6 5,qM 7 1,oo 8 (.ca .pure false (.f Jv) [.t 6,.t 7]),qM 1 8]) (.sq (.sq (rg [qM 9 1,oo 10 (.bi .lss 0 (.t 9) (i6 0))]) (.cd (.t 10) (.sq (rg [om 4 (i6 (-1))]) (.rt)) (.sk))) (.sq (rg [qF 11 6 2,qS 12 6 11,qM 13 1,oo 14 (.ca .pure false (.f Jv) [.t 12,.t 13]),qM 1 14]) (.sq (.sq (rg [qM 15 1,oo 16 (.bi .lss 0 (.t 15) (i6 0))]) (.cd (.t 16) (.sq (rg [om 4 (i6 (-1))]) (.rt)) (.sk))) (.sq (rg [qF 17 12 2,qL 18 17,qM 19 1,oo 20 (.ca .pure false (.f JE) [.t 18,.t 19]),qM 1 20]) (.sq (.sq (rg [qM 21 1,oo 22 (.bi .lss 0 (.t 21) (i6 0))]) (.cd (.t 22) (.sq (rg [om 4 (i6 (-1))]) (.rt)) (.sk))) (.sq (rg [qM 23 1,qM 4 23]) (.rt))))))))) }
theorem ZbS:ZR Proofs.Tryz.prog Vx W2=true:=by kernel_rfl
def Qp:F2 :=
 { nt:=23,res:=[.t 2 [4]],body:=(.sq (rg [om 2 (.k (.slice none 0 0))]) (.sq (rg [qM 5 0,qN 6 5,oo 7 (.ms 3 [.string ⟨#[]⟩,.int .i64 0,.int .i64 0] (.t 6)),qM 3 7]) (.sq (.sq (rg [om 4 (i6 0)]) (.bl 0 (.lp [0,3,4] [224] (.sq (.sq (rg [qM 8 4,qM 9 0,qN 10 9,qB 11 .lss 8 10]) (.cd (.t 11) (.sk) (.ex 0))) (.sq (.bl 1 (rg [qM 14 3,qM 15 4,qM 16 0,qM 17 4,qI 18 3 16 17,qS 19 3 18,oo 20 (.ca .pure true (.f Ys) [.t 19]),qI 21 3 14 15,on1 (.st 3 (.t 21) (.t 20))]))
 (rg [qM 12 4,oo 13 (.bi .add 0 (.t 12) (i6 1)),qM 4 13])))))) (.sq (rg [qM 22 3,qM 2 22]) (.rt))))) }
theorem Uy:ZR Proofs.Tryz.prog ZY Qp=true:=by kernel_rfl
def W3:F2 :=
 { nt:=17,res:=[.c 2 (some 13) [0,4,2,0,2,3,0,4,2,0,2,3,2]],body:=(.sq (rg [oo 1 (.bt (.t 0)),oo 2 (.al [.int .i64 0,.slice none 0 0,.slice none 0 0,.int .i64 0,.slice none 0 0,.slice none 0 0,.int .i64 0,.slice none 0 0,.slice none 0 0,.int .i64 0,.slice none 0 0,.slice none 0 0,.slice none 0 0] [])]) (.sq (rg [oo 3 (.al [.int .i64 0,.slice none 0 0,.slice none 0 0,.int .i64 0,.slice none 0 0,.slice none 0 0,.int .i64 0,.slice none 0 0,.slice none 0 0,.int .i64 0,.slice none 0 0,.slice none 0 0,.slice none 0 0] [])]) (.sq (rg [qF 4 0 1,qS 5 6 4,oo 6 (.ca .pure true (.f Jw) [.t 5]),qF 7 0 3,on1 (.st 6 (.t 7) (.t 6))]) (.sq (rg [qF 8 6 1,qS 9 6 8,oo 10 (.ca .pure true (.f Jw) [.t 9]),qF 11 6 3,on1 (.st 6 (.t 11) (.t 10))]) (.sq (rg [qF 12 12 1,qL 13 12,oo 14 (.ca .pure true (.f JF) [.t 13]),qF 15 12 3,on1 (.st 1 (.t 15) (.t 14))]) (.sq (rg [qS 16 13 3,on1 (.st 13 (.t 2) (.t 16))]) (.rt))))))) }
theorem ZbT:ZR Proofs.Tryz.prog JD W3=true:=by kernel_rfl
def W4:F2 :=
 { nt:=23,res:=[.t 4 [0]],body:=(.sq (rg [oo 2 (.bt (.t 0)),oo 3 (.bt (.t 1)),om 4 (.k (.bool false))]) (.sq (.sq (rg [qF 5 0 2,qS 6 6 5,qF 7 0 3,qS 8 6 7,oo 9 (.ca .pure false (.f Jx) [.t 6,.t 8]),oo 10 (.nt (.t 9))]) (.cd (.t 10) (.sq (rg [om 4 (.k (.bool false))]) (.rt)) (.sk))) (.sq (.sq (rg [qF 11 6 2,qS 12 6 11,qF 13 6 3,qS 14 6 13,oo 15 (.ca .pure false (.f Jx) [.t 12,.t 14]),oo 16 (.nt (.t 15))]) (.cd (.t 16) (.sq (rg [om 4 (.k (.bool false))]) (.rt)) (.sk))) (.sq (.sq (rg [qF 17 12 2,qL 18 17,qF 19 12 3,qL 20 19,oo 21 (.ca .pure false (.f JG) [.t 18,.t 20]),oo 22 (.nt (.t 21))]) (.cd (.t 22) (.sq (rg [om 4 (.k (.bool false))]) (.rt)) (.sk))) (.sq (rg [om 4 (.k (.bool true))]) (.rt)))))) }
theorem ZbU:ZR Proofs.Tryz.prog Vy W4=true:=by kernel_rfl
def QV:F2 :=
 { nt:=13,res:=[.t 4 [0]],body:=(.sq (rg [oo 2 (.bt (.t 0)),om 4 (i6 0)]) (.sq (rg [qM 5 1,qF 6 0 2,qL 7 6,oo 8 (.lg (.t 7)),qB 9 .sub 5 8,qM 1 9]) (.sq (.sq (rg [qM 10 1,oo 11 (.bi .lss 0 (.t 10) (i6 0))]) (.cd (.t 11) (.sq (rg [om 4 (i6 (-1))]) (.rt)) (.sk))) (.sq (rg [qM 12 1,qM 4 12]) (.rt))))) }
theorem UP:ZR Proofs.Tryz.prog Yr QV=true:=by kernel_rfl
def QW:F2 :=
 { nt:=30,res:=[.t 4 [0]],body:=(.sq (rg [oo 2 (.bt (.t 0)),om 4 (i6 0)]) (.sq (rg [qF 5 1 2,qL 6 5,qM 7 1,oo 8 (.ca .pure false (.f YZ) [.t 6,.t 7]),qM 1 8]) (.sq (.sq (rg [qM 9 1,oo 10 (.bi .lss 0 (.t 9) (i6 0))]) (.cd (.t 10) (.sq (rg [om 4 (i6 (-1))]) (.rt)) (.sk))) (.sq (rg [qF 11 2 2,qL 12 11,qM 13 1,oo 14 (.ca .pure false (.f JE) [.t 12,.t 13]),qM 1 14]) (.sq (.sq (rg [qM 15 1,oo 16 (.bi .lss 0 (.t 15) (i6 0))]) (.cd (.t 16) (.sq (rg [om 4 (i6 (-1))]) (.rt)) (.sk))) (.sq (rg [qF 17 4 2,qL 18 17,qM 19 1,oo 20 (.ca .pure false (.f Yu) [.t 18,.t 19]),qM 1 20]) (.sq (.sq (rg [qM 21 1,oo 22 (.bi .lss 0 (.t 21) (i6 0))]) (.cd (.t 22) (.sq (rg [om 4 (i6 (-1))]) (.rt)) (.sk))) (.sq (rg [qF 23 5 2,qL 24 23,qM 25 1,oo 26 (.ca .pure false (.f Y0) [.t 24,.t 25]),qM 1 26]) (.sq (.sq (rg [qM 27 1,oo 28 (.bi .lss 0 (.t 27) (i6 0))]) (.cd (.t 28) (.sq (rg [om 4 (i6 (-1))]) (.rt)) (.sk))) (.sq (rg [qM 29 1,qM 4 29]) (.rt))))))))))) }
theorem UQ:ZR Proofs.Tryz.prog Jv QW=true:=by kernel_rfl
def QX:F2 :=
 { nt:=14,res:=[.c 2 (some 3) [0,0,0]],body:=(.sq (rg [oo 1 (.bt (.t 0)),oo 2 (.al [.string ⟨#[]⟩,.int .i64 0,.int .i64 0] [])]) (.sq (rg [oo 3 (.al [.string ⟨#[]⟩,.int .i64 0,.int .i64 0] [])]) (.sq (rg [qF 4 0 1,qL 5 4,qF 6 0 3,on1 (.st 1 (.t 6) (.t 5))]) (.sq (rg [qF 7 1 1,qL 8 7,qF 9 1 3,on1 (.st 1 (.t 9) (.t 8))]) (.sq (rg [qF 10 2 1,qL 11 10,qF 12 2 3,on1 (.st 1 (.t 12) (.t 11))]) (.sq (rg [qS 13 3 3,on1 (.st 3 (.t 2) (.t 13))]) (.rt))))))) }
theorem UR:ZR Proofs.Tryz.prog Ys QX=true:=by kernel_rfl
def QY:F2 :=
 { nt:=27,res:=[.c 2 (some 6) [0,4,2,0,2,3]],body:=(.sq (rg [oo 1 (.bt (.t 0)),oo 2 (.al [.int .i64 0,.slice none 0 0,.slice none 0 0,.int .i64 0,.slice none 0 0,.slice none 0 0] [])]) (.sq (rg [oo 3 (.al [.int .i64 0,.slice none 0 0,.slice none 0 0,.int .i64 0,.slice none 0 0,.slice none 0 0] [])]) (.sq (rg [qF 4 0 1,qL 5 4,qF 6 0 3,on1 (.st 1 (.t 6) (.t 5))]) (.sq (rg [qF 7 1 1,qL 8 7,oo 9 (.ca .pure true (.f Y2) [.t 8]),qF 10 1 3,on1 (.st 1 (.t 10) (.t 9))]) (.sq (rg [qF 11 2 1,qL 12 11,oo 13 (.ca .pure true (.f JF) [.t 12]),qF 14 2 3,on1 (.st 1 (.t 14) (.t 13))]) (.sq (rg [qF 15 3 1,qL 16 15,qF 17 3 3,on1 (.st 1 (.t 17) (.t 16))]) (.sq (rg [qF 18 4 1,qL 19 18,oo 20 (.ca .pure true (.f Yx) [.t 19]),qF 21 4 3,on1 (.st 1 (.t 21) (.t 20))]) (.sq (rg [qF 22 5 1,qL 23 22,oo 24 (.ca .pure true (.f Y3) [.t 23]),qF 25 5 3,on1 (.st 1 (.t 25) (.t 24))]) (.sq (rg [qS 26 6 3,on1 (.st 6 (.t 2) (.t 26))]) (.rt)))))))))) }
theorem US:ZR Proofs.Tryz.prog Jw QY=true:=by kernel_rfl
def QZ:F2 :=
 { nt:=20,res:=[.t 4 [0]],body:=(.sq (rg [oo 2 (.bt (.t 0)),oo 3 (.bt (.t 1)),om 4 (.k (.bool false))]) (.sq (.sq (rg [qF 5 0 2,qL 6 5,qF 7 0 3,qL 8 7,qB 9 .neq 6 8]) (.cd (.t 9) (.sq (rg [om 4 (.k (.bool false))]) (.rt)) (.sk))) (.sq (.sq (rg [qF 10 1 2,qL 11 10,qF 12 1 3,qL 13 12,qB 14 .neq 11 13]) (.cd (.t 14) (.sq (rg [om 4 (.k (.bool false))]) (.rt)) (.sk))) (.sq (.sq (rg [qF 15 2 2,qL 16 15,qF 17 2 3,qL 18 17,qB 19 .neq 16 18]) (.cd (.t 19) (.sq (rg [om 4 (.k (.bool false))]) (.rt)) (.sk))) (.sq (rg [om 4 (.k (.bool true))]) (.rt)))))) }
theorem UT:ZR Proofs.Tryz.prog Yt QZ=true:=by kernel_rfl
def Q0:F2 :=
 { nt:=39,res:=[.t 4 [0]],body:=(.sq (rg [oo 2 (.bt (.t 0)),oo 3 (.bt (.t 1)),om 4 (.k (.bool false))]) (.sq (.sq (rg [qF 5 0 2,qL 6 5,qF 7 0 3,qL 8 7,qB 9 .neq 6 8]) (.cd (.t 9) (.sq (rg [om 4 (.k (.bool false))]) (.rt)) (.sk))) (.sq (.sq (rg [qF 10 1 2,qL 11 10,qF 12 1 3,qL 13 12,oo 14 (.ca .pure false (.f Y5) [.t 11,.t 13]),oo 15 (.nt (.t 14))]) (.cd (.t 15) (.sq (rg [om 4 (.k (.bool false))]) (.rt)) (.sk))) (.sq (.sq (rg [qF 16 2 2,qL 17 16,qF 18 2 3,qL 19 18,oo 20 (.ca .pure false (.f JG) [.t 17,.t 19]),oo 21 (.nt (.t 20))]) (.cd (.t 21) (.sq (rg [om 4 (.k (.bool false))]) (.rt)) (.sk))) (.sq (.sq (rg [qF 22 3 2,qL 23 22,qF 24 3 3,qL 25 24,qB 26 .neq 23 25]) (.cd (.t 26) (.sq (rg [om 4 (.k (.bool false))]) (.rt)) (.sk))) (.sq (.sq (rg [qF 27 4 2,qL 28 27,qF 29 4 3,qL 30 29,oo 31 (.ca .pure false (.f Yy) [.t 28,.t 30]),oo 32 (.nt (.t 31))]) (.cd (.t 32) (.sq (rg [om 4 (.k (.bool false))]) (.rt)) (.sk))) (.sq (.sq (rg [qF 33 5 2,qL 34 33,qF 35 5 3,qL 36 35,oo 37 (.ca .pure false (.f Y6) [.t 34,.t 36]),oo 38 (.nt (.t 37))]) (.cd (.t 38) (.sq (rg [om 4 (.k (.bool false))]) (.rt)) (.sk))) (.sq (rg [om 4 (.k (.bool true))]) (.rt))))))))) }
theorem UU:ZR Proofs.Tryz.prog Jx Q0=true:=by kernel_rfl
def X8:F2 :=
 { nt:=23,res:=[.t 2 [4]],body:=(.sq (rg [om 2 (.k (.slice none 0 0))]) (.sq (rg [qM 5 0,qN 6 5,oo 7 (.ms 3 [.int .i64 0,.int .i64 0,.slice none 0 0] (.t 6)),qM 3 7]) (.sq (.sq (rg [om 4 (i6 0)]) (.bl 0 (.lp [0,3,4] [224,640] (.sq (.sq (rg [qM 8 4,qM 9 0,qN 10 9,qB 11 .lss 8 10]) (.cd (.t 11) (.sk) (.ex 0))) (.sq (.bl 1 (rg [qM 14 3,qM 15 4,qM 16 0,qM 17 4,qI 18 3 16 17,qS 19 3 18,oo 20 (.ca .pure true (.f VG) [.t 19]),qI 21 3 14 15,on1 (.st 3 (.t 21) (.t 20))]))
 (rg [qM 12 4,oo 13 (.bi .add 0 (.t 12) (i6 1)),qM 4 13])))))) (.sq (rg [qM 22 3,qM 2 22]) (.rt))))) }
theorem Zal:ZR Proofs.Tryz.prog Y2 X8=true:=by kernel_rfl
def X9:F2 :=
 { nt:=23,res:=[.t 2 [3]],body:=(.sq (rg [om 2 (.k (.slice none 0 0))]) (.sq (rg [qM 5 0,qN 6 5,oo 7 (.ms 2 [.string ⟨#[]⟩,.int .i64 0] (.t 6)),qM 3 7]) (.sq (.sq (rg [om 4 (i6 0)]) (.bl 0 (.lp [0,3,4] [224] (.sq (.sq (rg [qM 8 4,qM 9 0,qN 10 9,qB 11 .lss 8 10]) (.cd (.t 11) (.sk) (.ex 0))) (.sq (.bl 1 (rg [qM 14 3,qM 15 4,qM 16 0,qM 17 4,qI 18 2 16 17,qS 19 2 18,oo 20 (.ca .pure true (.f VH) [.t 19]),qI 21 2 14 15,on1 (.st 2 (.t 21) (.t 20))]))
 (rg [qM 12 4,oo 13 (.bi .add 0 (.t 12) (i6 1)),qM 4 13])))))) (.sq (rg [qM 22 3,qM 2 22]) (.rt))))) }
theorem Zam:ZR Proofs.Tryz.prog Y3 X9=true:=by kernel_rfl
def W5:F2 :=
 { nt:=12,res:=[.t 4 [0]],body:=(.sq (rg [oo 2 (.bt (.t 0)),om 4 (i6 0)]) (.sq (rg [qF 5 2 2,qL 6 5,qM 7 1,oo 8 (.ca .pure false (.f JE) [.t 6,.t 7]),qM 1 8]) (.sq (.sq (rg [qM 9 1,oo 10 (.bi .lss 0 (.t 9) (i6 0))]) (.cd (.t 10) (.sq (rg [om 4 (i6 (-1))]) (.rt)) (.sk))) (.sq (rg [qM 11 1,qM 4 11]) (.rt))))) }
theorem ZbV:ZR Proofs.Tryz.prog VD W5=true:=by kernel_rfl
def W6:F2 :=
 { nt:=13,res:=[.t 4 [0]],body:=(.sq (rg [oo 2 (.bt (.t 0)),om 4 (i6 0)]) (.sq (rg [qM 5 1,qF 6 0 2,qL 7 6,oo 8 (.lg (.t 7)),qB 9 .sub 5 8,qM 1 9]) (.sq (.sq (rg [qM 10 1,oo 11 (.bi .lss 0 (.t 10) (i6 0))]) (.cd (.t 11) (.sq (rg [om 4 (i6 (-1))]) (.rt)) (.sk))) (.sq (rg [qM 12 1,qM 4 12]) (.rt))))) }
theorem ZbW:ZR Proofs.Tryz.prog VE W6=true:=by kernel_rfl
def W7:F2 :=
 { nt:=15,res:=[.c 2 (some 3) [0,0,2]],body:=(.sq (rg [oo 1 (.bt (.t 0)),oo 2 (.al [.int .i64 0,.int .i64 0,.slice none 0 0] [])]) (.sq (rg [oo 3 (.al [.int .i64 0,.int .i64 0,.slice none 0 0] [])]) (.sq (rg [qF 4 0 1,qL 5 4,qF 6 0 3,on1 (.st 1 (.t 6) (.t 5))]) (.sq (rg [qF 7 1 1,qL 8 7,qF 9 1 3,on1 (.st 1 (.t 9) (.t 8))]) (.sq (rg [qF 10 2 1,qL 11 10,oo 12 (.ca .pure true (.f JF) [.t 11]),qF 13 2 3,on1 (.st 1 (.t 13) (.t 12))]) (.sq (rg [qS 14 3 3,on1 (.st 3 (.t 2) (.t 14))]) (.rt))))))) }
theorem ZbX:ZR Proofs.Tryz.prog VG W7=true:=by kernel_rfl
def W8:F2 :=
 { nt:=11,res:=[.c 2 (some 2) [0,0]],body:=(.sq (rg [oo 1 (.bt (.t 0)),oo 2 (.al [.string ⟨#[]⟩,.int .i64 0] [])]) (.sq (rg [oo 3 (.al [.string ⟨#[]⟩,.int .i64 0] [])]) (.sq (rg [qF 4 0 1,qL 5 4,qF 6 0 3,on1 (.st 1 (.t 6) (.t 5))]) (.sq (rg [qF 7 1 1,qL 8 7,qF 9 1 3,on1 (.st 1 (.t 9) (.t 8))]) (.sq (rg [qS 10 2 3,on1 (.st 2 (.t 2) (.t 10))]) (.rt)))))) }
theorem ZbY:ZR Proofs.Tryz.prog VH W8=true:=by kernel_rfl
def W9:F2 :=
 { nt:=21,res:=[.t 4 [0]],body:=(.sq (rg [oo 2 (.bt (.t 0)),oo 3 (.bt (.t 1)),om 4 (.k (.bool false))]) (.sq (.sq (rg [qF 5 0 2,qL 6 5,qF 7 0 3,qL 8 7,qB 9 .neq 6 8]) (.cd (.t 9) (.sq (rg [om 4 (.k (.bool false))]) (.rt)) (.sk))) (.sq (.sq (rg [qF 10 1 2,qL 11 10,qF 12 1 3,qL 13 12,qB 14 .neq 11 13]) (.cd (.t 14) (.sq (rg [om 4 (.k (.bool false))]) (.rt)) (.sk))) (.sq (.sq (rg [qF 15 2 2,qL 16 15,qF 17 2 3,qL 18 17,oo 19 (.ca .pure false (.f JG) [.t 16,.t 18]),oo 20 (.nt (.t 19))]) (.cd (.t 20) (.sq (rg [om 4 (.k (.bool false))]) (.rt)) (.sk))) (.sq (rg [om 4 (.k (.bool true))]) (.rt)))))) }
theorem ZbZ:ZR Proofs.Tryz.prog VI W9=true:=by kernel_rfl
def Ua:F2 :=
 { nt:=15,res:=[.t 4 [0]],body:=(.sq (rg [oo 2 (.bt (.t 0)),oo 3 (.bt (.t 1)),om 4 (.k (.bool false))]) (.sq (.sq (rg [qF 5 0 2,qL 6 5,qF 7 0 3,qL 8 7,qB 9 .neq 6 8]) (.cd (.t 9) (.sq (rg [om 4 (.k (.bool false))]) (.rt)) (.sk))) (.sq (.sq (rg [qF 10 1 2,qL 11 10,qF 12 1 3,qL 13 12,qB 14 .neq 11 13]) (.cd (.t 14) (.sq (rg [om 4 (.k (.bool false))]) (.rt)) (.sk))) (.sq (rg [om 4 (.k (.bool true))]) (.rt))))) }
theorem Zb0:ZR Proofs.Tryz.prog VJ Ua=true:=by kernel_rfl
end Go.Fd

/-
  SMALL WORDS FOR MARKS. Own work.
-/
namespace Go.Fd
theorem Qq{α:Type}{c:α->List Tr}{m:α->Int->α}{n:α->Nat}{a:List α}{k:Int}:cut ((mL m n a k).map c) 0 a.length=(mL m n a k).map c:=by
 simp only[cut,List.drop_zero]
 exact List.take_of_length_le (by rw[List.length_map,ZW];exact Nat.le_refl _)
theorem JX{α:Type}{c:α->List Tr}{a:List α}:cut (a.map c) 0 a.length=a.map c:=by
 simp only[cut,List.drop_zero]
 exact List.take_of_length_le (by rw[List.length_map];exact Nat.le_refl _)
end Go.Fd

/-
  MARKING STRUCTS; WHETHER MARKS ARE HELD (printed by lawgen.py). Own work.
-/
namespace Go.Fd
set_option maxRecDepth 20000
end Go.Fd

/-
  HOW MANY MARKS A THING TAKES, AGAINST ITS SIZE (printed by lawgen.py). Own work.
-/
namespace Go.Fd
end Go.Fd

/-
  WHAT HOLDS OF THE HELPERS OF THE LAWS (printed by lawgen.py). Own work.
-/
namespace Go.Fd
set_option maxRecDepth 20000
theorem ZlI{n:Nat}{l:Int}(h:0<=l):szN n l<=l:=by unfold szN;split <;> omega
theorem Zhp{α:Type}{f:α->Int->Int}:∀(a:List α) (l:Int),(∀ x∈a,∀ l:Int,0<=l->l<=1048576->f x l<=l)->0<=l->l<=1048576->szF f a l<=l
 | [],l,_,_,_=>Int.le_refl l
 | x::r,l,hf,h0,h1=>by
  simp only[szF]
  have:=hf x (by simp) l h0 h1
  split
  ·omega
  ·have h2:=Zhp r (f x l) (fun y hy=>hf y (by simp [hy])) (by omega) (by omega)
   omega
theorem Zei{α:Type}{f:α->Int->Int}(a:List α){l:Int}(hf:∀ x∈a,∀ l:Int,0<=l->l<=1048576->f x l<=l)(h0:0<=l)(h1:l<=1048576):szL f a l<=l:=by
 unfold szL
 split
 ·omega
 ·have:=Zhp a (l-a.length) hf (by omega) (by omega)
  omega
theorem Qb{l m:Int}{g:Int->Int}(h0:0<=l)(h:m<=l)(hg:0<=m->g m<=m):Xg m g<=l:=by
 unfold Xg
 split
 ·omega
 ·have:=hg (by omega)
  omega
theorem Zg0:ZR Proofs.Tryz.prog JE sz0=true:=by kernel_rfl
theorem Vm(a:List Int)(hl:a.length<=9223372036854775807)(l:Int)(h0:0<=l)(h1:l<=1048576):szN a.length l<=l/\∀ lvl S,Sem Proofs.Tryz.prog JE lvl [.tr (.sl (rI a)),iI l] S (iI (szN a.length l)) S:=by
 refine⟨ZlI h0,fun lvl S=>?_⟩
 have:=ZiE Zg0 (rI a) l (by simpa using hl) h0 h1 lvl S
 simpa using this
theorem ZaS(x:TNode)(hb:Xh 9223372036854775807 x)(l:Int)(h0:0<=l)(h1:l<=1048576):Xi x l<=l/\∀ lvl S,Sem Proofs.Tryz.prog VD lvl [.ag ((ZN x).map .tr),iI l] S (iI (Xi x l)) S:=by
 have b0:x.links.length<=9223372036854775807:=hb
 refine⟨?_,fun lvl S=>?_⟩
 ·unfold Xi
  have q0:=Vm x.links b0 _ h0 h1
  refine Qb h0 q0.1 (fun p0=>?_)
  have r0:_<=(1048576:Int):=Int.le_trans q0.1 h1
  exact Int.le_refl _
 ·refine Zc ZbV trivial ?_
  simp only[W5,ZN,List.map_cons,List.map_nil,EVA,seval,Zf,men]
  unfold Xi
  have q0:=Vm x.links b0 l h0 h1
  refine Za q0.2 ?_
  simp only[EVA,seval,Zf,men]
  obtain⟨l1,hl1⟩:∃ m:Int,m=(szN x.links.length l):=⟨_,rfl⟩
  have u1:l1<=l:=by rw[hl1];exact q0.1
  rw[<-hl1]
  split
  ·rename_i hn;rw[Xg,if_pos hn]
  rename_i hn0
  rw[Xg,if_neg hn0]
theorem Zf0:ZR Proofs.Tryz.prog YZ (Zlx 3 (some 3) VD)=true:=by kernel_rfl
theorem DU(a:List TNode)(hl:a.length<=9223372036854775807)(hb:∀ y∈a,Xh 9223372036854775807 y)(l:Int)(h0:0<=l)(h1:l<=1048576):szL Xi a l<=l/\∀ lvl S,Sem Proofs.Tryz.prog YZ lvl [.tr (.sl (a.map ZN)),iI l] S (iI (szL Xi a l)) S :=
 ⟨Zei a (fun x hx l h0 h1=>(ZaS x (hb x hx) l h0 h1).1) h0 h1,fun lvl S=>Zbs Zf0 ZN Xi ZfA a l hl h0 h1 (fun x hx l h0 h1=>ZaS x (hb x hx) l h0 h1) lvl S⟩
theorem ZaT(x:TWire)(hb:QP 9223372036854775807 x)(l:Int)(h0:0<=l)(h1:l<=1048576):Xj x l<=l/\∀ lvl S,Sem Proofs.Tryz.prog VE lvl [.ag ((ZX x).map .tr),iI l] S (iI (Xj x l)) S:=by
 have b0:x.name.size<=9223372036854775807:=hb
 refine⟨?_,fun lvl S=>?_⟩
 ·unfold Xj
  refine Qb h0 (m:=l-x.name.size) (by omega) (fun p0=>?_)
  have r0:_<=(1048576:Int):=Int.le_trans (show l-x.name.size<=l by omega) h1
  exact Int.le_refl _
 ·refine Zc ZbW trivial ?_
  simp only[W6,ZX,List.map_cons,List.map_nil,EVA,seval,Zf,men]
  unfold Xj
  refine⟨by rw[Zd];omega,?_⟩
  obtain⟨l1,hl1⟩:∃ m:Int,m=l-x.name.size:=⟨_,rfl⟩
  have u1:l1<=l:=by omega
  rw[<-hl1]
  split
  ·rename_i hn;rw[Xg,if_pos hn]
  rename_i hn0
  rw[Xg,if_neg hn0]
theorem Zf1:ZR Proofs.Tryz.prog Y0 (Zlx 2 (some 2) VE)=true:=by kernel_rfl
theorem DV(a:List TWire)(hl:a.length<=9223372036854775807)(hb:∀ y∈a,QP 9223372036854775807 y)(l:Int)(h0:0<=l)(h1:l<=1048576):szL Xj a l<=l/\∀ lvl S,Sem Proofs.Tryz.prog Y0 lvl [.tr (.sl (a.map ZX)),iI l] S (iI (szL Xj a l)) S :=
 ⟨Zei a (fun x hx l h0 h1=>(ZaT x (hb x hx) l h0 h1).1) h0 h1,fun lvl S=>Zbs Zf1 ZX Xj ZfC a l hl h0 h1 (fun x hx l h0 h1=>ZaT x (hb x hx) l h0 h1) lvl S⟩
theorem Zdv:ZR Proofs.Tryz.prog Yu ZpF=true:=by kernel_rfl
theorem Ub(a:List ByteArray)(hl:a.length<=9223372036854775807)(hb:∀ y∈a,y.size<=9223372036854775807)(l:Int)(h0:0<=l)(h1:l<=1048576):szL (fun x m=>m-x.size) a l<=l/\∀ lvl S,Sem Proofs.Tryz.prog Yu lvl [tS a,iI l] S (iI (szL (fun x m=>m-x.size) a l)) S :=
 ⟨Zei a (fun x _ l _ _=>by omega) h0 h1,fun lvl S=>ZgP Zdv a l hl h0 h1 hb lvl S⟩
theorem Vh(x:TBigraph)(hb:Jb 9223372036854775807 x)(l:Int)(h0:0<=l)(h1:l<=1048576):J2 x l<=l/\∀ lvl S,Sem Proofs.Tryz.prog Jv lvl [.ag ((Zb x).map .tr),iI l] S (iI (J2 x l)) S:=by
 obtain⟨b0,b1,b2,b3,b4,b5,b6⟩:=hb
 refine⟨?_,fun lvl S=>?_⟩
 ·unfold J2
  have q0:=DU x.nodes b0 b1 _ h0 h1
  refine Qb h0 q0.1 (fun p0=>?_)
  have r0:_<=(1048576:Int):=Int.le_trans q0.1 h1
  have q1:=Vm x.sites b2 _ p0 r0
  refine Qb p0 q1.1 (fun p1=>?_)
  have r1:_<=(1048576:Int):=Int.le_trans q1.1 r0
  have q2:=Ub x.outer b3 b4 _ p1 r1
  refine Qb p1 q2.1 (fun p2=>?_)
  have r2:_<=(1048576:Int):=Int.le_trans q2.1 r1
  have q3:=DV x.inner b5 b6 _ p2 r2
  refine Qb p2 q3.1 (fun p3=>?_)
  have r3:_<=(1048576:Int):=Int.le_trans q3.1 r2
  exact Int.le_refl _
 ·refine Zc UQ trivial ?_
  simp only[QW,Zb,List.map_cons,List.map_nil,EVA,seval,Zf,men]
  unfold J2
  have q0:=DU x.nodes b0 b1 l h0 h1
  refine Za q0.2 ?_
  simp only[EVA,seval,Zf,men]
  obtain⟨l1,hl1⟩:∃ m:Int,m=(szL Xi x.nodes l):=⟨_,rfl⟩
  have u1:l1<=l:=by rw[hl1];exact q0.1
  rw[<-hl1]
  split
  ·rename_i hn;rw[Xg,if_pos hn]
  rename_i hn0
  rw[Xg,if_neg hn0]
  have q1:=Vm x.sites b2 l1 (show 0<=l1 by omega) (show l1<=1048576 by omega)
  refine Za q1.2 ?_
  simp only[EVA,seval,Zf,men]
  obtain⟨l2,hl2⟩:∃ m:Int,m=(szN x.sites.length l1):=⟨_,rfl⟩
  have u2:l2<=l1:=by rw[hl2];exact q1.1
  rw[<-hl2]
  split
  ·rename_i hn;rw[Xg,if_pos hn]
  rename_i hn1
  rw[Xg,if_neg hn1]
  have q2:=Ub x.outer b3 b4 l2 (show 0<=l2 by omega) (show l2<=1048576 by omega)
  refine Za q2.2 ?_
  simp only[EVA,seval,Zf,men]
  obtain⟨l3,hl3⟩:∃ m:Int,m=(szL (fun x m=>m-x.size) x.outer l2):=⟨_,rfl⟩
  have u3:l3<=l2:=by rw[hl3];exact q2.1
  rw[<-hl3]
  split
  ·rename_i hn;rw[Xg,if_pos hn]
  rename_i hn2
  rw[Xg,if_neg hn2]
  have q3:=DV x.inner b5 b6 l3 (show 0<=l3 by omega) (show l3<=1048576 by omega)
  refine Za q3.2 ?_
  simp only[EVA,seval,Zf,men]
  obtain⟨l4,hl4⟩:∃ m:Int,m=(szL Xj x.inner l3):=⟨_,rfl⟩
  have u4:l4<=l3:=by rw[hl4];exact q3.1
  rw[<-hl4]
  split
  ·rename_i hn;rw[Xg,if_pos hn]
  rename_i hn3
  rw[Xg,if_neg hn3]
theorem ZeG(x:TRule)(hb:QQ 9223372036854775807 x)(l:Int)(h0:0<=l)(h1:l<=1048576):ZaC x l<=l/\∀ lvl S,Sem Proofs.Tryz.prog Vx lvl [.ag ((ZH x).map .tr),iI l] S (iI (ZaC x l)) S:=by
 obtain⟨b0,b1,b2⟩:=hb
 refine⟨?_,fun lvl S=>?_⟩
 ·unfold ZaC
  have q0:=Vh x.redex b0 _ h0 h1
  refine Qb h0 q0.1 (fun p0=>?_)
  have r0:_<=(1048576:Int):=Int.le_trans q0.1 h1
  have q1:=Vh x.reactum b1 _ p0 r0
  refine Qb p0 q1.1 (fun p1=>?_)
  have r1:_<=(1048576:Int):=Int.le_trans q1.1 r0
  have q2:=Vm x.copies b2 _ p1 r1
  refine Qb p1 q2.1 (fun p2=>?_)
  have r2:_<=(1048576:Int):=Int.le_trans q2.1 r1
  exact Int.le_refl _
 ·refine Zc ZbS trivial ?_
  simp only[W2,ZH,List.map_cons,List.map_nil,EVA,seval,Zf,men]
  unfold ZaC
  have q0:=Vh x.redex b0 l h0 h1
  refine Za q0.2 ?_
  simp only[EVA,seval,Zf,men]
  obtain⟨l1,hl1⟩:∃ m:Int,m=(J2 x.redex l):=⟨_,rfl⟩
  have u1:l1<=l:=by rw[hl1];exact q0.1
  rw[<-hl1]
  split
  ·rename_i hn;rw[Xg,if_pos hn]
  rename_i hn0
  rw[Xg,if_neg hn0]
  have q1:=Vh x.reactum b1 l1 (show 0<=l1 by omega) (show l1<=1048576 by omega)
  refine Za q1.2 ?_
  simp only[EVA,seval,Zf,men]
  obtain⟨l2,hl2⟩:∃ m:Int,m=(J2 x.reactum l1):=⟨_,rfl⟩
  have u2:l2<=l1:=by rw[hl2];exact q1.1
  rw[<-hl2]
  split
  ·rename_i hn;rw[Xg,if_pos hn]
  rename_i hn1
  rw[Xg,if_neg hn1]
  have q2:=Vm x.copies b2 l2 (show 0<=l2 by omega) (show l2<=1048576 by omega)
  refine Za q2.2 ?_
  simp only[EVA,seval,Zf,men]
  obtain⟨l3,hl3⟩:∃ m:Int,m=(szN x.copies.length l2):=⟨_,rfl⟩
  have u3:l3<=l2:=by rw[hl3];exact q2.1
  rw[<-hl3]
  split
  ·rename_i hn;rw[Xg,if_pos hn]
  rename_i hn2
  rw[Xg,if_neg hn2]
theorem Uc(x:TControl)(hb:Zu 9223372036854775807 x)(l:Int)(h0:0<=l)(h1:l<=1048576):Jl x l<=l/\∀ lvl S,Sem Proofs.Tryz.prog Yr lvl [.ag ((Zj x).map .tr),iI l] S (iI (Jl x l)) S:=by
 have b0:x.name.size<=9223372036854775807:=hb
 refine⟨?_,fun lvl S=>?_⟩
 ·unfold Jl
  refine Qb h0 (m:=l-x.name.size) (by omega) (fun p0=>?_)
  have r0:_<=(1048576:Int):=Int.le_trans (show l-x.name.size<=l by omega) h1
  exact Int.le_refl _
 ·refine Zc UP trivial ?_
  simp only[QV,Zj,List.map_cons,List.map_nil,EVA,seval,Zf,men]
  unfold Jl
  refine⟨by rw[Zd];omega,?_⟩
  obtain⟨l1,hl1⟩:∃ m:Int,m=l-x.name.size:=⟨_,rfl⟩
  have u1:l1<=l:=by omega
  rw[<-hl1]
  split
  ·rename_i hn;rw[Xg,if_pos hn]
  rename_i hn0
  rw[Xg,if_neg hn0]
theorem ZcV:ZR Proofs.Tryz.prog Ya (Zlx 3 (some 3) Yr)=true:=by kernel_rfl
theorem Zan(a:List TControl)(hl:a.length<=9223372036854775807)(hb:∀ y∈a,Zu 9223372036854775807 y)(l:Int)(h0:0<=l)(h1:l<=1048576):szL Jl a l<=l/\∀ lvl S,Sem Proofs.Tryz.prog Ya lvl [.tr (.sl (a.map Zj)),iI l] S (iI (szL Jl a l)) S :=
 ⟨Zei a (fun x hx l h0 h1=>(Uc x (hb x hx) l h0 h1).1) h0 h1,fun lvl S=>Zbs ZcV Zj Jl UG a l hl h0 h1 (fun x hx l h0 h1=>Uc x (hb x hx) l h0 h1) lvl S⟩
end Go.Fd

/-
  WHAT HOLDS OF THE HELPERS OF THE LAWS: eq.. (printed by lawgen.py). Own work.
-/
namespace Go.Fd
set_option maxRecDepth 20000
theorem Zg1:ZR Proofs.Tryz.prog JG ZiX=true:=by kernel_rfl
theorem Uz(a b:(List Int))(ha:a.length<=9223372036854775807)(lvl:Nat)(S:Sto):Sem Proofs.Tryz.prog JG lvl [.tr (.sl (rI a)),.tr (.sl (rI b))] S (iB (decide (a=b))) S:=ZiF Zg1 a b ha lvl S
theorem ZeH(x y:TNode)(hb:Xh 9223372036854775807 x)(lvl:Nat)(S:Sto):Sem Proofs.Tryz.prog VI lvl [.ag ((ZN x).map .tr),.ag ((ZN y).map .tr)] S (iB (decide (x=y))) S:=by
 have b0:x.links.length<=9223372036854775807:=hb
 refine Zc ZbZ trivial ?_
 simp only[W9,ZN,List.map_cons,List.map_nil,EVA,seval,Zf,men]
 refine Zn (fun hne=>?_) (fun heq0=>?_)
 ·have:¬ x=y:=fun e=>(by rw[e] at hne;simp at hne)
  simp [this]
 refine Zn (fun hne=>?_) (fun heq1=>?_)
 ·have:¬ x=y:=fun e=>(by rw[e] at hne;simp at hne)
  simp [this]
 refine Za (Uz x.links y.links b0) ?_
 simp only[Bool.not_eq_true',EVA,seval,Zf,men]
 refine Zn (fun hne=>?_) (fun heq2=>?_)
 ·have:¬ x=y:=fun e=>(by rw[e] at hne;simp at hne)
  simp [this]
 have:x=y:=by
  cases x;cases y;simp_all
 simp [this]
theorem Zf2:ZR Proofs.Tryz.prog Y5 (Zly 3 (some 3) VI)=true:=by kernel_rfl
theorem Zdw(a b:(List TNode))(ha:a.length<=9223372036854775807)(ha2:∀ y∈a,Xh 9223372036854775807 y)(lvl:Nat)(S:Sto):Sem Proofs.Tryz.prog Y5 lvl [.tr (.sl (a.map ZN)),.tr (.sl (b.map ZN))] S (iB (decide (a=b))) S :=
 Zbt Zf2 ZN (fun _=>rfl) a b ha (fun x hx y _ lvl S=>ZeH x y (ha2 x hx) lvl S) lvl S
theorem ZeI(x y:TWire)(hb:QP 9223372036854775807 x)(lvl:Nat)(S:Sto):Sem Proofs.Tryz.prog VJ lvl [.ag ((ZX x).map .tr),.ag ((ZX y).map .tr)] S (iB (decide (x=y))) S:=by
 have b0:x.name.size<=9223372036854775807:=hb
 refine Zc Zb0 trivial ?_
 simp only[Ua,ZX,List.map_cons,List.map_nil,EVA,seval,Zf,men]
 refine Zn (fun hne=>?_) (fun heq0=>?_)
 ·have:¬ x=y:=fun e=>(by rw[e] at hne;simp at hne)
  simp [this]
 refine Zn (fun hne=>?_) (fun heq1=>?_)
 ·have:¬ x=y:=fun e=>(by rw[e] at hne;simp at hne)
  simp [this]
 have:x=y:=by
  cases x;cases y;simp_all
 simp [this]
theorem Zf3:ZR Proofs.Tryz.prog Y6 (Zly 2 (some 2) VJ)=true:=by kernel_rfl
theorem Zdx(a b:(List TWire))(ha:a.length<=9223372036854775807)(ha2:∀ y∈a,QP 9223372036854775807 y)(lvl:Nat)(S:Sto):Sem Proofs.Tryz.prog Y6 lvl [.tr (.sl (a.map ZX)),.tr (.sl (b.map ZX))] S (iB (decide (a=b))) S :=
 Zbt Zf3 ZX (fun _=>rfl) a b ha (fun x hx y _ lvl S=>ZeI x y (ha2 x hx) lvl S) lvl S
theorem Zdy:ZR Proofs.Tryz.prog Yy ZiX=true:=by kernel_rfl
theorem Zb1(a b:(List ByteArray))(ha:a.length<=9223372036854775807)(lvl:Nat)(S:Sto):Sem Proofs.Tryz.prog Yy lvl [.tr (.sl (rS a)),.tr (.sl (rS b))] S (iB (decide (a=b))) S:=ZiG Zdy a b ha lvl S
theorem Ud(x y:TBigraph)(hb:Jb 9223372036854775807 x)(lvl:Nat)(S:Sto):Sem Proofs.Tryz.prog Jx lvl [.ag ((Zb x).map .tr),.ag ((Zb y).map .tr)] S (iB (decide (x=y))) S:=by
 obtain⟨b0,b1,b2,b3,b4,b5,b6⟩:=hb
 refine Zc UU trivial ?_
 simp only[Q0,Zb,List.map_cons,List.map_nil,EVA,seval,Zf,men]
 refine Zn (fun hne=>?_) (fun heq0=>?_)
 ·have:¬ x=y:=fun e=>(by rw[e] at hne;simp at hne)
  simp [this]
 refine Za (Zdw x.nodes y.nodes b0 b1) ?_
 simp only[Bool.not_eq_true',EVA,seval,Zf,men]
 refine Zn (fun hne=>?_) (fun heq1=>?_)
 ·have:¬ x=y:=fun e=>(by rw[e] at hne;simp at hne)
  simp [this]
 refine Za (Uz x.sites y.sites b2) ?_
 simp only[Bool.not_eq_true',EVA,seval,Zf,men]
 refine Zn (fun hne=>?_) (fun heq2=>?_)
 ·have:¬ x=y:=fun e=>(by rw[e] at hne;simp at hne)
  simp [this]
 refine Zn (fun hne=>?_) (fun heq3=>?_)
 ·have:¬ x=y:=fun e=>(by rw[e] at hne;simp at hne)
  simp [this]
 refine Za (Zb1 x.outer y.outer b3) ?_
 simp only[Bool.not_eq_true',EVA,seval,Zf,men]
 refine Zn (fun hne=>?_) (fun heq4=>?_)
 ·have:¬ x=y:=fun e=>(by rw[e] at hne;simp at hne)
  simp [this]
 refine Za (Zdx x.inner y.inner b5 b6) ?_
 simp only[Bool.not_eq_true',EVA,seval,Zf,men]
 refine Zn (fun hne=>?_) (fun heq5=>?_)
 ·have:¬ x=y:=fun e=>(by rw[e] at hne;simp at hne)
  simp [this]
 have:x=y:=by
  cases x;cases y;simp_all
 simp [this]
theorem ZeJ(x y:TRule)(hb:QQ 9223372036854775807 x)(lvl:Nat)(S:Sto):Sem Proofs.Tryz.prog Vy lvl [.ag ((ZH x).map .tr),.ag ((ZH y).map .tr)] S (iB (decide (x=y))) S:=by
 obtain⟨b0,b1,b2⟩:=hb
 refine Zc ZbU trivial ?_
 simp only[W4,ZH,List.map_cons,List.map_nil,EVA,seval,Zf,men]
 refine Za (Ud x.redex y.redex b0) ?_
 simp only[Bool.not_eq_true',EVA,seval,Zf,men]
 refine Zn (fun hne=>?_) (fun heq0=>?_)
 ·have:¬ x=y:=fun e=>(by rw[e] at hne;simp at hne)
  simp [this]
 refine Za (Ud x.reactum y.reactum b1) ?_
 simp only[Bool.not_eq_true',EVA,seval,Zf,men]
 refine Zn (fun hne=>?_) (fun heq1=>?_)
 ·have:¬ x=y:=fun e=>(by rw[e] at hne;simp at hne)
  simp [this]
 refine Za (Uz x.copies y.copies b2) ?_
 simp only[Bool.not_eq_true',EVA,seval,Zf,men]
 refine Zn (fun hne=>?_) (fun heq2=>?_)
 ·have:¬ x=y:=fun e=>(by rw[e] at hne;simp at hne)
  simp [this]
 have:x=y:=by
  cases x;cases y;simp_all
 simp [this]
theorem Zb2(x y:TControl)(hb:Zu 9223372036854775807 x)(lvl:Nat)(S:Sto):Sem Proofs.Tryz.prog Yt lvl [.ag ((Zj x).map .tr),.ag ((Zj y).map .tr)] S (iB (decide (x=y))) S:=by
 have b0:x.name.size<=9223372036854775807:=hb
 refine Zc UT trivial ?_
 simp only[QZ,Zj,List.map_cons,List.map_nil,EVA,seval,Zf,men]
 refine Zn (fun hne=>?_) (fun heq0=>?_)
 ·have:¬ x=y:=fun e=>(by rw[e] at hne;simp at hne)
  simp [this]
 refine Zn (fun hne=>?_) (fun heq1=>?_)
 ·have:¬ x=y:=fun e=>(by rw[e] at hne;simp at hne)
  simp [this]
 refine Zn (fun hne=>?_) (fun heq2=>?_)
 ·have:¬ x=y:=fun e=>(by rw[e] at hne;simp at hne)
  simp [this]
 have:x=y:=by
  cases x;cases y;simp_all
 simp [this]
theorem ZcW:ZR Proofs.Tryz.prog Yb (Zly 3 (some 3) Yt)=true:=by kernel_rfl
theorem Zao(a b:(List TControl))(ha:a.length<=9223372036854775807)(ha2:∀ y∈a,Zu 9223372036854775807 y)(lvl:Nat)(S:Sto):Sem Proofs.Tryz.prog Yb lvl [.tr (.sl (a.map Zj)),.tr (.sl (b.map Zj))] S (iB (decide (a=b))) S :=
 Zbt ZcW Zj (fun _=>rfl) a b ha (fun x hx y _ lvl S=>Zb2 x y (ha2 x hx) lvl S) lvl S
end Go.Fd

/-
  WHAT HOLDS OF THE HELPERS OF THE LAWS: to.. (printed by lawgen.py). Own work.
-/
namespace Go.Fd
set_option maxRecDepth 20000
theorem Zg2:ZR Proofs.Tryz.prog JF (ZiY (.int .i64 0))=true:=by kernel_rfl
theorem UA(a:(List Int))(ha:a.length<=4294967296)(lvl:Nat)(S:Sto):Sem Proofs.Tryz.prog JF lvl [.tr (.sl (rI a))] S (.ow 1 (rI a) true) S:=ZiH Zg2 a ha lvl S
theorem ZeK(x:TNode)(hb:Xh 4294967296 x)(lvl:Nat)(S:Sto):Sem Proofs.Tryz.prog VG lvl [.ag ((ZN x).map .tr)] S (ZgQ x) S:=by
 have b0:x.links.length<=4294967296:=hb
 refine Zc ZbX (by simp [ZgQ,low,men,Zf]) ?_
 simp only[W7,ZN,zfill,zobs,List.map_cons,List.map_nil,Js,Jt,List.set_cons_zero,List.set_cons_succ,EVA,seval,Zf,men]
 refine Za (UA x.links b0) ?_
 simp only[Js,Jt,List.set_cons_zero,List.set_cons_succ,Prod.mk.injEq,EVA,seval,Zf,men]
 rfl
theorem Zdz(a:(List TNode))(ha:a.length<=4294967296)(hb:∀ y∈a,Xh 4294967296 y)(lvl:Nat)(S:Sto):Sem Proofs.Tryz.prog Y2 lvl [.tr (.sl (a.map ZN))] S (.ow 3 (a.map ZN) true) S:=by
 refine Zc Zal trivial ?_
 simp only[X8,List.length_map,bigN,Int.natCast_nonneg,EVA,seval,Zf,men]
 refine⟨by omega,?_⟩
 refine Yq (α:=Unit) a.length (fun j _=>⟨lvl,[(0,.tr (.sl (a.map ZN))),(3,.hd (lvl,224) [] 0 a.length none a.length),(4,iI j)],[(224,.ar 3 (Ju ZN [tv 0,tv 0,.sl []] a j) true a.length (j*1))],S⟩) (fun _ _=>True) () ⟨by simp only[EVA,seval,Zf,men],by (simp only[Vw,EVA,seval,Zf,men]) <;> rfl⟩ trivial ?_
 intro j _ hj _
 simp only[List.length_map,EVA,seval,Zf,men]
 refine Zn (fun hlt=>?_) (fun hge=>?_)
 ·have hja:j<a.length:=by omega
  have ga:(a.map ZN)[j]? = some (ZN a[j]):=by simp [hja]
  have gz:(Ju ZN [tv 0,tv 0,.sl []] a j)[j]? = some [tv 0,tv 0,.sl []]:=Qm hja
  have hfl:(Ju ZN [tv 0,tv 0,.sl []] a j).length=a.length:=QE hj
  have hsem:=fun lvl S=>ZeK a[j] (hb a[j] (List.getElem_mem hja)) lvl S
  simp only[ga,gz,Int.natCast_nonneg,Nat.le_refl,hja,ZN,ZgQ,Nat.reduceLeDiff,EVA,↓reduceIte,Nat.reduceEqDiff,Nat.reduceMul,reduceCtorEq,Nat.reduceAdd,Nat.reduceSub,Nat.reduceLT,Int.reduceToNat,Int.reduceLE,Int.reduceLT,Zf,men]
  refine Za hsem ?_
  simp only[ZgQ,gz,Int.natCast_nonneg,Nat.le_refl,hja,hfl,YG,List.getElem?_set_self,List.set_set,List.length_set,List.set_cons_zero,List.set_cons_succ,Prod.mk.injEq,ne_eq,not_false_eq_true,EVA,seval,Zf,men]
  refine⟨by rw[Zd];omega,Ze () hja ?_ trivial⟩
  have hse:=Qn (c:=ZN) (z:=[tv 0,tv 0,.sl []]) (e:=[tv a[j].control,tv a[j].parent,.sl (rI a[j].links)]) hja rfl
  rw[hse,show (j+1)*1=j*1+1 from by omega]
  rfl
 ·have:j=a.length:=by omega
  subst this
  rw[Ql]
  simp
theorem ZeL(x:TWire)(hb:QP 4294967296 x)(lvl:Nat)(S:Sto):Sem Proofs.Tryz.prog VH lvl [.ag ((ZX x).map .tr)] S (ZgR x) S:=by
 have b0:x.name.size<=4294967296:=hb
 refine Zc ZbY (by simp [ZgR,low,men,Zf]) ?_
 simp only[W8,ZX,zfill,zobs,List.map_cons,List.map_nil,Js,Jt,List.set_cons_zero,List.set_cons_succ,EVA,seval,Zf,men]
 rfl
theorem ZdA(a:(List TWire))(ha:a.length<=4294967296)(hb:∀ y∈a,QP 4294967296 y)(lvl:Nat)(S:Sto):Sem Proofs.Tryz.prog Y3 lvl [.tr (.sl (a.map ZX))] S (.ow 2 (a.map ZX) true) S:=by
 refine Zc Zam trivial ?_
 simp only[X9,List.length_map,bigN,Int.natCast_nonneg,EVA,seval,Zf,men]
 refine⟨by omega,?_⟩
 refine Yq (α:=Unit) a.length (fun j _=>⟨lvl,[(0,.tr (.sl (a.map ZX))),(3,.hd (lvl,224) [] 0 a.length none a.length),(4,iI j)],[(224,.ar 2 (Ju ZX [ts ⟨#[]⟩,tv 0] a j) true a.length (j*0))],S⟩) (fun _ _=>True) () ⟨by simp only[EVA,seval,Zf,men],by (simp only[Vw,EVA,seval,Zf,men]) <;> rfl⟩ trivial ?_
 intro j _ hj _
 simp only[List.length_map,EVA,seval,Zf,men]
 refine Zn (fun hlt=>?_) (fun hge=>?_)
 ·have hja:j<a.length:=by omega
  have ga:(a.map ZX)[j]? = some (ZX a[j]):=by simp [hja]
  have gz:(Ju ZX [ts ⟨#[]⟩,tv 0] a j)[j]? = some [ts ⟨#[]⟩,tv 0]:=Qm hja
  have hfl:(Ju ZX [ts ⟨#[]⟩,tv 0] a j).length=a.length:=QE hj
  have hsem:=fun lvl S=>ZeL a[j] (hb a[j] (List.getElem_mem hja)) lvl S
  simp only[ga,gz,Int.natCast_nonneg,Nat.le_refl,hja,ZX,ZgR,Nat.reduceLeDiff,EVA,↓reduceIte,Nat.reduceEqDiff,Nat.reduceMul,reduceCtorEq,Nat.reduceAdd,Nat.reduceSub,Nat.reduceLT,Int.reduceToNat,Int.reduceLE,Int.reduceLT,Zf,men]
  refine Za hsem ?_
  simp only[ZgR,gz,Int.natCast_nonneg,Nat.le_refl,hja,hfl,YG,List.getElem?_set_self,List.set_set,List.length_set,List.set_cons_zero,List.set_cons_succ,Prod.mk.injEq,ne_eq,not_false_eq_true,EVA,seval,Zf,men]
  refine⟨by rw[Zd];omega,Ze () hja ?_ trivial⟩
  have hse:=Qn (c:=ZX) (z:=[ts ⟨#[]⟩,tv 0]) (e:=[ts a[j].name,tv a[j].link]) hja rfl
  rw[hse,show (j+1)*0=j*0 from by omega]
  rfl
 ·have:j=a.length:=by omega
  subst this
  rw[Ql]
  simp
theorem ZdB:ZR Proofs.Tryz.prog Yx (ZiY (.string ⟨#[]⟩))=true:=by kernel_rfl
theorem Zb3(a:(List ByteArray))(ha:a.length<=4294967296)(lvl:Nat)(S:Sto):Sem Proofs.Tryz.prog Yx lvl [.tr (.sl (rS a))] S (.ow 1 (rS a) true) S:=ZiI ZdB a ha lvl S
theorem Ue(x:TBigraph)(hb:Jb 4294967296 x)(lvl:Nat)(S:Sto):Sem Proofs.Tryz.prog Jw lvl [.ag ((Zb x).map .tr)] S (Z7 x) S:=by
 obtain⟨b0,b1,b2,b3,b4,b5,b6⟩:=hb
 refine Zc US (by simp [Z7,low,men,Zf]) ?_
 simp only[QY,Zb,zfill,zobs,List.map_cons,List.map_nil,Js,Jt,List.set_cons_zero,List.set_cons_succ,EVA,seval,Zf,men]
 refine Za (Zdz x.nodes b0 b1) ?_
 simp only[Js,Jt,List.set_cons_zero,List.set_cons_succ,Prod.mk.injEq,EVA,seval,Zf,men]
 refine Za (UA x.sites b2) ?_
 simp only[Js,Jt,List.set_cons_zero,List.set_cons_succ,Prod.mk.injEq,EVA,seval,Zf,men]
 refine Za (Zb3 x.outer b3) ?_
 simp only[Js,Jt,List.set_cons_zero,List.set_cons_succ,Prod.mk.injEq,EVA,seval,Zf,men]
 refine Za (ZdA x.inner b5 b6) ?_
 simp only[Js,Jt,List.set_cons_zero,List.set_cons_succ,Prod.mk.injEq,EVA,seval,Zf,men]
 rfl
theorem UB(x:TRule)(hb:QQ 4294967296 x)(lvl:Nat)(S:Sto):Sem Proofs.Tryz.prog JD lvl [.ag ((ZH x).map .tr)] S (Wa x) S:=by
 obtain⟨b0,b1,b2⟩:=hb
 refine Zc ZbT (by simp [Wa,low,men,Zf]) ?_
 simp only[W3,ZH,zfill,zobs,List.map_cons,List.map_nil,Js,Jt,List.set_cons_zero,List.set_cons_succ,EVA,seval,Zf,men]
 refine Za (Ue x.redex b0) ?_
 simp only[Z7,JX,Js,Jt,List.set_cons_zero,List.set_cons_succ,Prod.mk.injEq,EVA,seval,Zf,men]
 refine Za (Ue x.reactum b1) ?_
 simp only[Z7,JX,Js,Jt,List.set_cons_zero,List.set_cons_succ,Prod.mk.injEq,EVA,seval,Zf,men]
 refine Za (UA x.copies b2) ?_
 simp only[JX,Js,Jt,List.set_cons_zero,List.set_cons_succ,Prod.mk.injEq,EVA,seval,Zf,men]
 rfl
theorem Zb4(x:TControl)(hb:Zu 4294967296 x)(lvl:Nat)(S:Sto):Sem Proofs.Tryz.prog Ys lvl [.ag ((Zj x).map .tr)] S (U3 x) S:=by
 have b0:x.name.size<=4294967296:=hb
 refine Zc UR (by simp [U3,low,men,Zf]) ?_
 simp only[QX,Zj,zfill,zobs,List.map_cons,List.map_nil,Js,Jt,List.set_cons_zero,List.set_cons_succ,EVA,seval,Zf,men]
 rfl
theorem Qc(a:(List TControl))(ha:a.length<=4294967296)(hb:∀ y∈a,Zu 4294967296 y)(lvl:Nat)(S:Sto):Sem Proofs.Tryz.prog ZY lvl [.tr (.sl (a.map Zj))] S (.ow 3 (a.map Zj) true) S:=by
 refine Zc Uy trivial ?_
 simp only[Qp,List.length_map,bigN,Int.natCast_nonneg,EVA,seval,Zf,men]
 refine⟨by omega,?_⟩
 refine Yq (α:=Unit) a.length (fun j _=>⟨lvl,[(0,.tr (.sl (a.map Zj))),(3,.hd (lvl,224) [] 0 a.length none a.length),(4,iI j)],[(224,.ar 3 (Ju Zj [ts ⟨#[]⟩,tv 0,tv 0] a j) true a.length (j*0))],S⟩) (fun _ _=>True) () ⟨by simp only[EVA,seval,Zf,men],by (simp only[Vw,EVA,seval,Zf,men]) <;> rfl⟩ trivial ?_
 intro j _ hj _
 simp only[List.length_map,EVA,seval,Zf,men]
 refine Zn (fun hlt=>?_) (fun hge=>?_)
 ·have hja:j<a.length:=by omega
  have ga:(a.map Zj)[j]? = some (Zj a[j]):=by simp [hja]
  have gz:(Ju Zj [ts ⟨#[]⟩,tv 0,tv 0] a j)[j]? = some [ts ⟨#[]⟩,tv 0,tv 0]:=Qm hja
  have hfl:(Ju Zj [ts ⟨#[]⟩,tv 0,tv 0] a j).length=a.length:=QE hj
  have hsem:=fun lvl S=>Zb4 a[j] (hb a[j] (List.getElem_mem hja)) lvl S
  simp only[ga,gz,Int.natCast_nonneg,Nat.le_refl,hja,Zj,U3,Nat.reduceLeDiff,EVA,↓reduceIte,Nat.reduceEqDiff,Nat.reduceMul,reduceCtorEq,Nat.reduceAdd,Nat.reduceSub,Nat.reduceLT,Int.reduceToNat,Int.reduceLE,Int.reduceLT,Zf,men]
  refine Za hsem ?_
  simp only[U3,gz,Int.natCast_nonneg,Nat.le_refl,hja,hfl,YG,List.getElem?_set_self,List.set_set,List.length_set,List.set_cons_zero,List.set_cons_succ,Prod.mk.injEq,ne_eq,not_false_eq_true,EVA,seval,Zf,men]
  refine⟨by rw[Zd];omega,Ze () hja ?_ trivial⟩
  have hse:=Qn (c:=Zj) (z:=[ts ⟨#[]⟩,tv 0,tv 0]) (e:=[ts a[j].name,tv a[j].ports,tv a[j].kind_]) hja rfl
  rw[hse,show (j+1)*0=j*0 from by omega]
  rfl
 ·have:j=a.length:=by omega
  subst this
  rw[Ql]
  simp
end Go.Fd

/-
  WHAT THE LAWS' ARGUMENTS READ AS (printed by lawgen.py). Own work.
-/
namespace Go.Fd
set_option maxRecDepth 20000
theorem ZpJ:Vg Proofs.Tryz.prog 9 (fun n:ByteArray=>[ts n]) (fun n=>n.size<=9223372036854775807):=Zct Proofs.Tryz.underlying9
theorem Zhq:Vg Proofs.Tryz.prog 3 (fun n:Int=>[tv n]) (XR .i64):=Zfw Proofs.Tryz.underlying3
theorem ZpK:Vg Proofs.Tryz.prog 49 Zj (fun x=>Zu 9223372036854775807 x/\Zcw x):=WA (YU Proofs.Tryz.underlying49 (show Wz Proofs.Tryz.prog 0 [(0,9),(1,3),(2,3)] _ _ from (Zt (k:=1) (by kernel_rfl) (fun _=>rfl) ZpJ (Zt (k:=1) (by kernel_rfl) (fun _=>rfl) Zhq (Zt (k:=1) (by kernel_rfl) (fun _=>rfl) Zhq Qk))))) (fun p=>TControl.mk p.1 p.2.1 p.2.2.1) (fun _=>rfl) (fun x h=>⟨h.1,⟨h.2.1,h.2.2.1⟩⟩)
theorem ZpL:Vg Proofs.Tryz.prog 22 (fun l:List TControl=>[Tr.sl (l.map Zj)]) (fun l=>l.length<=9223372036854775807/\∀ x∈l,(fun x=>Zu 9223372036854775807 x/\Zcw x) x):=Vv (k:=2) Proofs.Tryz.underlying22 (by kernel_rfl) (fun _=>rfl) ZpK
theorem ZiS:Vg Proofs.Tryz.prog 24 (fun l:List Int=>[Tr.sl (l.map (fun n:Int=>[tv n]))]) (fun l=>l.length<=9223372036854775807/\∀ x∈l,(XR .i64) x):=Vv (k:=0) Proofs.Tryz.underlying24 (by kernel_rfl) (fun _=>rfl) Zhq
theorem ZpM:Vg Proofs.Tryz.prog 82 ZN (fun x=>Xh 9223372036854775807 x/\ZfB x):=WA (YU Proofs.Tryz.underlying82 (show Wz Proofs.Tryz.prog 0 [(0,3),(1,3),(2,24)] _ _ from (Zt (k:=1) (by kernel_rfl) (fun _=>rfl) Zhq (Zt (k:=1) (by kernel_rfl) (fun _=>rfl) Zhq (Zt (k:=1) (by kernel_rfl) (fun _=>rfl) ZiS Qk))))) (fun p=>TNode.mk p.1 p.2.1 p.2.2.1) (fun _=>rfl) (fun x h=>⟨h.2.2.1.1,⟨h.1,h.2.1,(fun y hy=>(h.2.2.1.2 y hy))⟩⟩)
theorem ZpN:Vg Proofs.Tryz.prog 23 (fun l:List TNode=>[Tr.sl (l.map ZN)]) (fun l=>l.length<=9223372036854775807/\∀ x∈l,(fun x=>Xh 9223372036854775807 x/\ZfB x) x):=Vv (k:=2) Proofs.Tryz.underlying23 (by kernel_rfl) (fun _=>rfl) ZpM
theorem ZpO:Vg Proofs.Tryz.prog 25 (fun l:List ByteArray=>[Tr.sl (l.map (fun n:ByteArray=>[ts n]))]) (fun l=>l.length<=9223372036854775807/\∀ x∈l,(fun n=>n.size<=9223372036854775807) x):=Vv (k:=0) Proofs.Tryz.underlying25 (by kernel_rfl) (fun _=>rfl) ZpJ
theorem ZpP:Vg Proofs.Tryz.prog 85 ZX (fun x=>QP 9223372036854775807 x/\ZfD x):=WA (YU Proofs.Tryz.underlying85 (show Wz Proofs.Tryz.prog 0 [(0,9),(1,3)] _ _ from (Zt (k:=1) (by kernel_rfl) (fun _=>rfl) ZpJ (Zt (k:=1) (by kernel_rfl) (fun _=>rfl) Zhq Qk)))) (fun p=>TWire.mk p.1 p.2.1) (fun _=>rfl) (fun x h=>⟨h.1,h.2.1⟩)
theorem ZpQ:Vg Proofs.Tryz.prog 26 (fun l:List TWire=>[Tr.sl (l.map ZX)]) (fun l=>l.length<=9223372036854775807/\∀ x∈l,(fun x=>QP 9223372036854775807 x/\ZfD x) x):=Vv (k:=1) Proofs.Tryz.underlying26 (by kernel_rfl) (fun _=>rfl) ZpP
theorem ZlJ:Vg Proofs.Tryz.prog 28 Zb (fun x=>Jb 9223372036854775807 x/\Xk x):=WA (YU Proofs.Tryz.underlying28 (show Wz Proofs.Tryz.prog 0 [(0,3),(1,23),(2,24),(3,3),(4,25),(5,26)] _ _ from (Zt (k:=1) (by kernel_rfl) (fun _=>rfl) Zhq (Zt (k:=1) (by kernel_rfl) (fun _=>rfl) ZpN (Zt (k:=1) (by kernel_rfl) (fun _=>rfl) ZiS (Zt (k:=1) (by kernel_rfl) (fun _=>rfl) Zhq (Zt (k:=1) (by kernel_rfl) (fun _=>rfl) ZpO (Zt (k:=1) (by kernel_rfl) (fun _=>rfl) ZpQ Qk)))))))) (fun p=>TBigraph.mk p.1 p.2.1 p.2.2.1 p.2.2.2.1 p.2.2.2.2.1 p.2.2.2.2.2.1) (fun _=>rfl) (fun x h=>⟨⟨h.2.1.1,(fun y hy=>(h.2.1.2 y hy).1),h.2.2.1.1,h.2.2.2.2.1.1,(fun y hy=>(h.2.2.2.2.1.2 y hy)),h.2.2.2.2.2.1.1,(fun y hy=>(h.2.2.2.2.2.1.2 y hy).1)⟩,⟨h.1,(fun y hy=>(h.2.1.2 y hy).2),(fun y hy=>(h.2.2.1.2 y hy)),h.2.2.2.1,(fun y hy=>(h.2.2.2.2.2.1.2 y hy).2)⟩⟩)
theorem ZpR:Vg Proofs.Tryz.prog 30 ZH (fun x=>QQ 9223372036854775807 x/\ZaB x):=WA (YU Proofs.Tryz.underlying30 (show Wz Proofs.Tryz.prog 0 [(0,28),(6,28),(12,24)] _ _ from (Zt (k:=6) (by kernel_rfl) (fun _=>rfl) ZlJ (Zt (k:=6) (by kernel_rfl) (fun _=>rfl) ZlJ (Zt (k:=1) (by kernel_rfl) (fun _=>rfl) ZiS Qk))))) (fun p=>TRule.mk p.1 p.2.1 p.2.2.1) (fun _=>rfl) (fun x h=>⟨⟨h.1.1,h.2.1.1,h.2.2.1.1⟩,⟨h.1.2,h.2.1.2,(fun y hy=>(h.2.2.1.2 y hy))⟩⟩)
end Go.Fd
