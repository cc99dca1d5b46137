/-
  NUMBERS OF LIBRARY FUNCTIONS IN THIS PROGRAM, as the guide's shelf lays them (printed by lay.py out of the kit's own command).
-/
import Derived.Test.YtcpcocfmpcmbpaaGreatDoorT05
import Derived.Shelf.Sort.AssemblysIn
import Derived.Shelf.Strings.SlTrimAscii
import Derived.Test.YtcpcocfmpcmbpaaGreatDoorProg
import Derived.Shelf.Sort.Plain
set_option linter.all false
namespace Go.Proofs
open Go.Shelf
def Tryz.lays160_ren:Go.Shelf.Ren:=⟨fun | 160=>79 | 232=>101 | 231=>100 | 227=>102 | 234=>104 | 233=>103 | 236=>106 | 235=>105 | 228=>148 | 271=>151 | 151=>150 | 197=>149 | 120=>183 | 152=>182 | 260=>181 | 137=>197 | 119=>198 | 224=>199 | 225=>200 | 217=>210 | 266=>223 | n=>n,fun | 9=>9 | 4=>4 | 3=>3 | 5=>5 | 117=>134 | 116=>133 | 0=>0 | 124=>137 | 21=>21 | 105=>173 | 46=>127 | 119=>207 | 139=>210 | 138=>209 | n=>n,fun | 3=>0 | 4=>1 | n=>n⟩
theorem Tryz.lays160:Go.Proofs.Lays.n160 Tryz.prog Tryz.lays160_ren:={
  mixed:=by kernel_rfl,
  f119:=Tryz.func198.trans (congrArg some (by kernel_rfl)),
  f120:=Tryz.func183.trans (congrArg some (by kernel_rfl)),
  f137:=Tryz.func197.trans (congrArg some (by kernel_rfl)),
  f151:=Tryz.func150.trans (congrArg some (by kernel_rfl)),
  f152:=Tryz.func182.trans (congrArg some (by kernel_rfl)),
  f160:=Tryz.func79.trans (congrArg some (by kernel_rfl)),
  f197:=Tryz.func149.trans (congrArg some (by kernel_rfl)),
  f217:=Tryz.func210.trans (congrArg some (by kernel_rfl)),
  f224:=Tryz.func199.trans (congrArg some (by kernel_rfl)),
  f225:=Tryz.func200.trans (congrArg some (by kernel_rfl)),
  f227:=Tryz.func102.trans (congrArg some (by kernel_rfl)),
  f228:=Tryz.func148.trans (congrArg some (by kernel_rfl)),
  f231:=Tryz.func100.trans (congrArg some (by kernel_rfl)),
  f232:=Tryz.func101.trans (congrArg some (by kernel_rfl)),
  f233:=Tryz.func103.trans (congrArg some (by kernel_rfl)),
  f234:=Tryz.func104.trans (congrArg some (by kernel_rfl)),
  f235:=Tryz.func105.trans (congrArg some (by kernel_rfl)),
  f236:=Tryz.func106.trans (congrArg some (by kernel_rfl)),
  f260:=Tryz.func181.trans (congrArg some (by kernel_rfl)),
  f266:=Tryz.func223.trans (congrArg some (by kernel_rfl)),
  f271:=Tryz.func151.trans (congrArg some (by kernel_rfl)),
  t0:=Tryz.underlying0,
  a0:=Tryz.isAgg0,
  z0:=Tryz.sizeOf0,
  v0:=Tryz.zeroValue0,
  t3:=Tryz.underlying3,
  a3:=Tryz.isAgg3,
  z3:=Tryz.sizeOf3,
  v3:=Tryz.zeroValue3,
  t4:=Tryz.underlying4,
  a4:=Tryz.isAgg4,
  z4:=Tryz.sizeOf4,
  v4:=Tryz.zeroValue4,
  t5:=Tryz.underlying5,
  a5:=Tryz.isAgg5,
  z5:=Tryz.sizeOf5,
  v5:=Tryz.zeroValue5,
  t9:=Tryz.underlying9,
  a9:=Tryz.isAgg9,
  z9:=Tryz.sizeOf9,
  v9:=Tryz.zeroValue9,
  t21:=Tryz.underlying21,
  a21:=Tryz.isAgg21,
  z21:=Tryz.sizeOf21,
  v21:=Tryz.zeroValue21,
  t46:=Tryz.underlying127,
  a46:=Tryz.isAgg127,
  z46:=Tryz.sizeOf127,
  v46:=Tryz.zeroValue127,
  t105:=Tryz.underlying173,
  a105:=Tryz.isAgg173,
  z105:=Tryz.sizeOf173,
  v105:=Tryz.zeroValue173,
  t116:=Tryz.underlying133,
  a116:=Tryz.isAgg133,
  z116:=Tryz.sizeOf133,
  t117:=Tryz.underlying134,
  a117:=Tryz.isAgg134,
  z117:=Tryz.sizeOf134,
  v117:=Tryz.zeroValue134,
  t119:=Tryz.underlying207,
  a119:=Tryz.isAgg207,
  z119:=Tryz.sizeOf207,
  t124:=Tryz.underlying137,
  a124:=Tryz.isAgg137,
  z124:=Tryz.sizeOf137,
  v124:=Tryz.zeroValue137,
  t138:=Tryz.underlying209,
  a138:=Tryz.isAgg209,
  z138:=Tryz.sizeOf209,
  v138:=Tryz.zeroValue209,
  t139:=Tryz.underlying210,
  a139:=Tryz.isAgg210,
  z139:=Tryz.sizeOf210,
  v139:=Tryz.zeroValue210,
  g3:=by kernel_rfl,
  g4:=by kernel_rfl }
def Tryz.lays190_ren:Go.Shelf.Ren:=⟨fun | 190=>194 | 125=>91 | 258=>209 | 128=>129 | 129=>130 | 302=>214 | 303=>215 | 304=>216 | 305=>217 | 306=>218 | 307=>219 | 308=>220 | 309=>221 | 310=>222 | 333=>225 | 329=>176 | 330=>177 | 334=>226 | 335=>227 | 336=>228 | 344=>229 | n=>n,fun | 31=>41 | 9=>9 | 3=>3 | 46=>127 | 0=>0 | 51=>155 | 53=>157 | 4=>4 | 183=>148 | 182=>147 | 131=>87 | 5=>5 | 218=>189 | 222=>193 | 228=>204 | 229=>205 | n=>n,fun | n=>n⟩
theorem Tryz.lays190:Go.Proofs.Lays.n190 Tryz.prog Tryz.lays190_ren:={
  mixed:=by kernel_rfl,
  f125:=Tryz.func91.trans (congrArg some (by kernel_rfl)),
  f128:=Tryz.func129.trans (congrArg some (by kernel_rfl)),
  f129:=Tryz.func130.trans (congrArg some (by kernel_rfl)),
  f190:=Tryz.func194.trans (congrArg some (by kernel_rfl)),
  f258:=Tryz.func209.trans (congrArg some (by kernel_rfl)),
  f302:=Tryz.func214.trans (congrArg some (by kernel_rfl)),
  f303:=Tryz.func215.trans (congrArg some (by kernel_rfl)),
  f304:=Tryz.func216.trans (congrArg some (by kernel_rfl)),
  f305:=Tryz.func217.trans (congrArg some (by kernel_rfl)),
  f306:=Tryz.func218.trans (congrArg some (by kernel_rfl)),
  f307:=Tryz.func219.trans (congrArg some (by kernel_rfl)),
  f308:=Tryz.func220.trans (congrArg some (by kernel_rfl)),
  f309:=Tryz.func221.trans (congrArg some (by kernel_rfl)),
  f310:=Tryz.func222.trans (congrArg some (by kernel_rfl)),
  f329:=Tryz.func176.trans (congrArg some (by kernel_rfl)),
  f330:=Tryz.func177.trans (congrArg some (by kernel_rfl)),
  f333:=Tryz.func225.trans (congrArg some (by kernel_rfl)),
  f334:=Tryz.func226.trans (congrArg some (by kernel_rfl)),
  f335:=Tryz.func227.trans (congrArg some (by kernel_rfl)),
  f336:=Tryz.func228.trans (congrArg some (by kernel_rfl)),
  f344:=Tryz.func229.trans (congrArg some (by kernel_rfl)),
  t0:=Tryz.underlying0,
  a0:=Tryz.isAgg0,
  z0:=Tryz.sizeOf0,
  v0:=Tryz.zeroValue0,
  t3:=Tryz.underlying3,
  a3:=Tryz.isAgg3,
  z3:=Tryz.sizeOf3,
  v3:=Tryz.zeroValue3,
  t4:=Tryz.underlying4,
  a4:=Tryz.isAgg4,
  z4:=Tryz.sizeOf4,
  v4:=Tryz.zeroValue4,
  t5:=Tryz.underlying5,
  a5:=Tryz.isAgg5,
  z5:=Tryz.sizeOf5,
  v5:=Tryz.zeroValue5,
  t9:=Tryz.underlying9,
  a9:=Tryz.isAgg9,
  z9:=Tryz.sizeOf9,
  v9:=Tryz.zeroValue9,
  t31:=Tryz.underlying41,
  a31:=Tryz.isAgg41,
  z31:=Tryz.sizeOf41,
  v31:=Tryz.zeroValue41,
  t46:=Tryz.underlying127,
  a46:=Tryz.isAgg127,
  z46:=Tryz.sizeOf127,
  v46:=Tryz.zeroValue127,
  t51:=Tryz.underlying155,
  a51:=Tryz.isAgg155,
  z51:=Tryz.sizeOf155,
  v51:=Tryz.zeroValue155,
  t53:=Tryz.underlying157,
  a53:=Tryz.isAgg157,
  z53:=Tryz.sizeOf157,
  v53:=Tryz.zeroValue157,
  t131:=Tryz.underlying87,
  a131:=Tryz.isAgg87,
  z131:=Tryz.sizeOf87,
  v131:=Tryz.zeroValue87,
  t182:=Tryz.underlying147,
  a182:=Tryz.isAgg147,
  z182:=Tryz.sizeOf147,
  v182:=Tryz.zeroValue147,
  t183:=Tryz.underlying148,
  a183:=Tryz.isAgg148,
  z183:=Tryz.sizeOf148,
  v183:=Tryz.zeroValue148,
  t218:=Tryz.underlying189,
  a218:=Tryz.isAgg189,
  z218:=Tryz.sizeOf189,
  v218:=Tryz.zeroValue189,
  t222:=Tryz.underlying193,
  a222:=Tryz.isAgg193,
  z222:=Tryz.sizeOf193,
  v222:=Tryz.zeroValue193,
  t228:=Tryz.underlying204,
  a228:=Tryz.isAgg204,
  z228:=Tryz.sizeOf204,
  v228:=Tryz.zeroValue204,
  t229:=Tryz.underlying205,
  a229:=Tryz.isAgg205,
  z229:=Tryz.sizeOf205,
  v229:=Tryz.zeroValue205 }
end Go.Proofs
namespace Go.Fd
open Go.Proofs.Tryz renaming prog->Ucb
set_option maxRecDepth 20000
def Zng(P:Program)(f:FuncId):Bool:=match P.funcs[f]? with | some fn=>fn.body.isSome && !(fn.name == "runtime.NumGoroutine") | none=>false
theorem Zhd{P:Program}{f:FuncId}(h:Zng P f=true):Uz P f:=by
 unfold Zng at h;split at h
 ·rename_i fn hf;simp only[Uae,UaN] at h;exact⟨fn,hf,h.1,h.2⟩
 ·cases h
abbrev AZ:ByteArray:=⟨#[97,98,99,100,101,102,103,104,105,106,107,108,109,110,111,112,113,114,115,116,117,118,119,120,121,122]⟩
theorem ZDb(s:ByteArray)(hs:s.size<=9223372036854775807)(lvl:Nat)(S:Zb):Sem Ucb Zk4 lvl [iS s,iS AZ] S (iS ⟨(Lib.trimS s.data.toList AZ.data.toList).toArray⟩) S :=
 ZzR (xs:=[.string s,.string AZ]) (Zhd (by kernel_rfl)) rfl (fun w=>Go.Proofs.Any.strings_Trim_laid Proofs.Tryz.lays160 (by kernel_rfl) s AZ w hs (by decide) (Go.Proofs.ascii_of_all (by decide)))
def JR(s:ByteArray):Prop:=(∀ b∈s.data.toList,97<=b.toNat/\b.toNat<=122)/\1<=s.size/\s.size<=4
theorem Znh(s:ByteArray):s.size=s.data.toList.length:=by rw[Array.length_toList];rfl
theorem Zni(b:UInt8):b∈AZ.data.toList↔97<=b.toNat/\b.toNat<=122:=by
 have:∀ n:Fin 256,(UInt8.ofNat n.val)∈AZ.data.toList↔97<=n.val/\n.val<=122:=by decide +kernel
 have h:UInt8.ofNat b.toNat∈AZ.data.toList↔97<=b.toNat/\b.toNat<=122:=this ⟨b.toNat,b.toNat_lt⟩;rw[show UInt8.ofNat b.toNat=b from UInt8.ofNat_toNat] at h;exact h
theorem Zhe{p:UInt8->Bool}:∀{l:List UInt8},l.dropWhile p=[]↔∀ b∈l,p b=true
 | []=>by simp
 | x::r=>by
  simp only[List.dropWhile_cons,UaF,forall_eq_or_imp];cases h:p x with
  | true=>simp [Zhe (l:=r)]
  | false=>simp
theorem Znj{p:UInt8->Bool}{b:UInt8}:∀{l:List UInt8},b∈l.takeWhile p->p b=true
 | [],h=>by simp at h
 | x::r,h=>by
  rw[List.takeWhile_cons] at h;split at h
  ·rename_i hx;rcases UaF.1 h with rfl | h
   ·exact hx
   ·exact Znj h
  ·cases h
theorem ZDc{l cs:List UInt8}(h:∀ b∈l,b∈cs):l.dropWhile (cs.contains ·)=[]:=by rw[Zhe];intro b hb;simpa using h b hb
theorem trimS_nil{l cs:List UInt8}:Lib.trimS l cs=[]↔∀ b∈l,b∈cs:=by
 unfold Lib.trimS Lib.trimLeftS Lib.trimRightS;constructor
 ·intro h b hb;rw[Zhe] at h;have hrev:∀ x∈(l.reverse.dropWhile (cs.contains ·)),x∈cs:=fun x hx=>by have:=h x (by simpa using hx);simpa using this
  have hsplit:l.reverse=l.reverse.takeWhile (cs.contains ·)++l.reverse.dropWhile (cs.contains ·):=(List.takeWhile_append_dropWhile).symm;have hb2:b∈l.reverse:=by simpa using hb
  rw[hsplit] at hb2;rcases Uaq.1 hb2 with h1 | h1
  ·have:=Znj h1;simpa using this
  ·exact hrev b h1
 ·intro h;rw[ZDc (l:=l.reverse) (fun b hb=>h b (by simpa using hb))];rfl
theorem Zhf(s:ByteArray)(hs:s.size<=9223372036854775807)(lvl:Nat)(S:Zb):Sem Ucb Za1 lvl [iS s] S (iB (dc (JR s))) S:=by
 refine Zl ZBu trivial ?_;simp only[ZlB,Za,seval];refine ZP (α:=Unit) s.size (fun j _=>[(3,iI j)]) (fun _ _=>[]) (fun j _=>∀ b∈s.data.toList.take j,97<=b.toNat/\b.toNat<=122) () (by simp only[Za,seval]) (by (simp only[Za,seval])<;>rfl) (fun b hb=>by simp at hb) ?_;intro j _ hj hA;simp only[Za,seval,Zc,men];refine Zv (fun hlt=>?_) (fun hge=>?_)
 ·have hja:j<s.data.toList.length:=by rw[<-Znh];omega
  have ga:s.data.toList[j]? = some (s.data.toList[j]):=Uak hja;have hno:¬ (97<=(s.data.toList[j]).toNat/\(s.data.toList[j]).toNat<=122) -> ¬ JR s:=fun h hn=>h (hn.1 _ (Uaj hja));by_cases h1:((s.data.toList[j]).toNat:Int)<97
  ·simp only[ga,h1,Za,seval];rw[Zt (hno (by omega))]
  by_cases h2:(122:Int)<(s.data.toList[j]).toNat
  ·simp only[ga,h1,h2,Za,seval];rw[Zt (hno (by omega))]
  ·simp only[ga,h1,h2,Za,seval];refine⟨by rw[Ze];omega,Zz () (by omega) rfl ?_⟩;intro b hb;rw[Uag hja] at hb;rcases Uaq.1 hb with h | h
   ·exact hA b h
   ·have:b=s.data.toList[j]:=(by simpa using h);subst this;omega
 ·have:j=s.size:=by omega
  subst this;rw[Znh,Uap] at hA;refine Zf (Qp s.size 1 4) ?_;simp only[Za,seval];rw[V6 (q:=1<=s.size/\s.size<=4) ⟨fun h=>h.2,fun h=>⟨hA,h⟩⟩];by_cases h:1<=s.size/\s.size<=4
  ·rw[ZU h,inB_iff.2 (by omega)]
  ·rw[Zt h,inB_not.2 (by omega)]
theorem Zbf(s:ByteArray)(hs:s.size<=9223372036854775807)(lvl:Nat)(S:Zb):Sem Ucb UO lvl [iS s] S (iB (dc (JR s))) S:=by
 refine Zl ZBz trivial ?_;simp only[ZlE,Za,seval,Zc,men];refine Zf (QJ s.size 1 4) ?_;simp only[Za,seval,Zc,men];cases hin:JW (s.size:Int) 1 4 with
 | false =>
  have:¬ JR s:=fun h=>(inB_not.1 hin) (by have:=h.2;omega);rw[Zt this];simp only[Za,seval]
 | true =>
  have hin':=inB_iff.1 hin;simp only[seval];refine Zf (ZDb s hs) ?_;simp only[Za,seval];by_cases h:JR s
  ·have:Lib.trimS s.data.toList AZ.data.toList=[]:=trimS_nil.2 (fun b hb=>(Zni b).2 (h.1 b hb));rw[ZU h,this];rfl
  ·have:¬ Lib.trimS s.data.toList AZ.data.toList=[]:=fun e=>h ⟨fun b hb=>(Zni b).1 (trimS_nil.1 e b hb),by omega,by omega⟩;rw[Zt h];have h2:¬ (⟨(Lib.trimS s.data.toList AZ.data.toList).toArray⟩:ByteArray)=⟨#[]⟩:=fun e=>this (by
    have:=congrArg (fun b:ByteArray=>b.data.toList) e;simpa using this)
   simp [h2]
def Zdt(c:TControl):Prop:=JR c.name/\(0<=c.ports/\c.ports<=3)/\0<=c.kind_/\c.kind_<=2
def Zbg(sig:List TControl)(i:Nat):Prop:=∀ h:i<sig.length,Zdt sig[i]/\∀ k (hk:k<i),(sig[k]'(by omega)).name≠sig[i].name
def Jj(sig:List TControl):Prop:=(∀ i,Zbg sig i)/\1<=sig.length/\sig.length<=6
theorem ZDd(c d:TControl)(lvl:Nat)(S:Zb):Sem Ucb ZcO lvl [.ag ((Zx d).map .tr),.ta (Zx c)] S (iB (decide (d.name=c.name))) S:=by refine Zl ZBA trivial ?_;simp only[ZlF,Zx,Za,seval]
theorem ZDe:Zk Ucb Zk5 (Q5 3 (some 3))=true:=by kernel_rfl
theorem ZDf:Zk Ucb Zk3 (Ua Zk5)=true:=by kernel_rfl
theorem Znk(sig:List TControl)(hl:sig.length<=9223372036854775807)(hb:∀ y∈sig,Z9 9223372036854775807 y)(lvl:Nat)(S:Zb):Sem Ucb ZcJ lvl [.tr (.sl (sig.map Zx))] S (iB (dc (Jj sig))) S:=by
 refine Zl ZBd trivial ?_;simp only[Zln,Za,seval];refine ZP (α:=Unit) sig.length (fun j _=>[(3,iI j)]) (fun _ _=>[]) (fun j _=>∀ i,i<j->Zbg sig i) () (by simp only[Za,seval]) (by (simp only[Za,seval])<;>rfl) (fun i hi=>by omega) ?_;intro j _ hj hA;simp only[Uaa,Za,seval,Zc,men];refine Zv (fun hlt=>?_) (fun hge=>?_)
 ·have hja:j<sig.length:=by omega
  have ga:=Jb (c:=Zx) hja;have hbj:sig[j].name.size<=9223372036854775807:=hb _ (Uaj hja);have hno:¬ Zdt sig[j] -> ¬ Jj sig:=fun h hs=>h (hs.1 j hja).1;simp only[ga,Zx,Za,seval,Zc,men];refine Zf (Zhf sig[j].name hbj) ?_;simp only[ga,Zx,Za,seval,Zc,men];cases hn:dc (JR sig[j].name) with
  | false =>
   simp only[Za,seval];rw[Zt (hno fun h=>dc_not.1 hn h.1)]
  | true =>
   have hn':=dc_iff.1 hn;simp only[Za,seval];refine Zf (Qp sig[j].ports 0 3) ?_;simp only[ga,Zx,Za,seval,Zc,men];cases hp:JW sig[j].ports 0 3 with
   | false =>
    simp only[Za,seval];rw[Zt (hno fun h=>inB_not.1 hp h.2.1)]
   | true =>
    have hp':=inB_iff.1 hp;simp only[Za,seval];refine Zf (Qp sig[j].kind_ 0 2) ?_;simp only[Za,seval];cases hk:JW sig[j].kind_ 0 2 with
    | false =>
     simp only[seval];rw[Zt (hno fun h=>inB_not.1 hk h.2.2)]
    | true =>
     have hk':=inB_iff.1 hk;simp only[Za,seval];refine ZP (α:=Unit) j (fun k _=>[(4,iI k)]) (fun _ _=>[]) (fun k _=>∀ i (hi:i<k),k<=j->∀ hi2:i<sig.length,(sig[i]'hi2).name≠sig[j].name) () (by simp only[Za,seval]) (by (simp only[Za,seval])<;>rfl) (fun i hi=>by omega) ?_;intro k _ hkj hB;simp only[Za,seval];refine Zv (fun hlt2=>?_) (fun hge2=>?_)
     ·have hka:k<sig.length:=(by omega);have gb:=Jb (c:=Zx) hka;simp only[ga,gb,Zx,Za,seval];refine Zv (fun he=>?_) (fun hne=>?_)
      ·rw[Zt (fun hs:Jj sig=>(hs.1 j hja).2 k (by omega) he)]
      ·refine⟨by rw[Ze];omega,Zz () (by omega) rfl (fun i hi _ hi2=>?_)⟩;by_cases e:i=k
       ·subst e;exact hne
       ·exact hB i (by omega) (by omega) hi2
     ·have:k=j:=(by omega);subst this;refine⟨by rw[Ze];omega,Zz () hja rfl (fun i hi=>?_)⟩;by_cases e:i=k
      ·subst e;exact fun h=>⟨⟨hn',hp',hk'⟩,fun q hq=>hB q hq (Ual _) (by omega)⟩
      ·exact hA i (by omega)
 ·have:j=sig.length:=by omega
  subst this;refine Zf (Qp sig.length 1 6) ?_;simp only[Za,seval];have hall:∀ i,Zbg sig i:=fun i h=>hA i h h;rw[V6 (q:=1<=sig.length/\sig.length<=6) ⟨fun h=>h.2,fun h=>⟨hall,h⟩⟩];by_cases h:1<=sig.length/\sig.length<=6
  ·rw[ZU h,inB_iff.2 (by omega)]
  ·rw[Zt h,inB_not.2 (by omega)]
theorem Zhg(sig:List TControl)(hl:sig.length<=9223372036854775807)(hb:∀ y∈sig,Z9 9223372036854775807 y)(lvl:Nat)(S:Zb):Sem Ucb ZaZ lvl [.tr (.sl (sig.map Zx))] S (iB (dc (Jj sig))) S:=by
 refine Zl ZBm trivial ?_;simp only[Zlv,Uaa,Za,seval,Zc,men];refine Zf (QJ sig.length 1 6) ?_;simp only[Uaa,Za,seval];refine Zv (fun h=>?_) (fun h=>?_)
 ·rw[Zt (fun hs:Jj sig=>(inB_not.1 h) (by have:=hs.2;omega))]
 have hln:=inB_iff.1 (by simpa using h);refine ZP (α:=Unit) sig.length (fun j _=>[(11,iI j)]) (fun _ _=>[]) (fun j _=>∀ i,i<j->Zbg sig i) () (by simp only[Za,seval]) (by (simp only[Za,seval])<;>rfl) (fun i hi=>by omega) ?_;intro j _ hj hA;simp only[Za,seval];refine Zv (fun hlt=>?_) (fun hge=>?_)
 ·have hja:j<sig.length:=by omega
  have ga:=Jb (c:=Zx) hja;have hbj:sig[j].name.size<=9223372036854775807:=hb _ (Uaj hja);have hno:¬ Zdt sig[j] -> ¬ Jj sig:=fun h hs=>h (hs.1 j hja).1;simp only[ga,Zx,Za,seval,Zc,men];refine Zf (Zbf sig[j].name hbj) ?_;simp only[Za,seval,Zc,men];cases hn:dc (JR sig[j].name) with
  | false =>
   simp only[Za,seval];rw[Zt (hno fun h=>dc_not.1 hn h.1)]
  | true =>
   have hn':=dc_iff.1 hn;simp only[Za,seval];refine Zf (QJ sig[j].ports 0 3) ?_;simp only[Za,seval,Zc,men];cases hp:JW sig[j].ports 0 3 with
   | false =>
    simp only[Za,seval];rw[Zt (hno fun h=>inB_not.1 hp h.2.1)]
   | true =>
    have hp':=inB_iff.1 hp;simp only[Za,seval];refine Zf (QJ sig[j].kind_ 0 2) ?_;simp only[Za,seval,Zc,men];cases hk:JW sig[j].kind_ 0 2 with
    | false =>
     simp only[Za,seval];rw[Zt (hno fun h=>inB_not.1 hk h.2.2)]
    | true =>
     have hk':=inB_iff.1 hk;have hjl:j<=sig.length:=(by omega);simp only[hjl,Za,seval];have hc:=Znd (P:=Ucb) ZDf ZDe ZkZ (f:=fun d:TControl=>decide (d.name=sig[j].name)) (fe:=ZcO) (cs:=[Zx sig[j]]) (sig.take j) (by rw[Uai];omega) (fun d _ lvl S=>ZDd sig[j] d lvl S);rw[<-ZC5] at hc;refine⟨fun h=>h.elim,UbC _,Zf hc ?_⟩;simp only[Za,seval];cases ha:(sig.take j).any (fun d:TControl=>decide (d.name=sig[j].name)) with
     | true =>
      simp only[seval];obtain⟨d,hd,he⟩:=Ub4.1 ha;obtain⟨q,hq,rfl⟩:=Uar hd;rw[Uai] at hq;rw[Zt (fun hs:Jj sig=>(hs.1 j hja).2 q (by omega) (by simpa using he))]
     | false =>
      simp only[Za,seval];refine⟨by rw[Ze];omega,Zz () hja rfl (fun i hi=>?_)⟩;by_cases e:i=j
      ·subst e;refine fun h=>⟨⟨hn',hp',hk'⟩,fun q hq=>?_⟩;have:=(Ub0.1 ha) sig[q] (by
        rw[List.mem_take_iff_getElem];exact⟨q,by omega,rfl⟩)
       simpa using this
      ·exact hA i (by omega)
 ·have:j=sig.length:=by omega
  subst this;have hall:∀ i,Zbg sig i:=fun i h=>hA i h h;rw[ZU (p:=Jj sig) ⟨hall,by omega,by omega⟩]
theorem J4(a b:List Int):rI (a++b)=rI a++rI b:=Uaw
theorem Znl:Zk Ucb Zk7 (Q5 1 none)=true:=by kernel_rfl
theorem Znm:Zk Ucb ZgU (Ua Zk7)=true:=by kernel_rfl
def Zm(s:Int->Int)(P:Prop):Prop:=∀ l:Int,0<=l->l<=1048576->s l<=l/\(0<=s l->P)
theorem Znn:Zm (fun l=>l) True:=fun _ _ _=>⟨Ubt _,fun _=>trivial⟩
theorem Zno{s g:Int->Int}{P Q:Prop}(hs:Zm s P)(hg:Zm g Q):Zm (fun l=>V3 (s l) g) (P/\Q):=fun l h0 h1=>by
 have a:=hs l h0 h1;by_cases h:s l<0
 ·simp only[V3,if_pos h];exact⟨by omega,fun h=>by omega⟩
 ·simp only[V3,if_neg h];have b:=hg (s l) (by omega) (by omega);exact⟨by omega,fun h2=>⟨a.2 (by omega),b.2 h2⟩⟩
theorem Znp(n:Nat):Zm (fun l=>l-n) (n<=4294967296):=fun l h0 h1=>⟨by simp only;omega,fun h=>by simp only at h;omega⟩
theorem Znq{α:Type}{f:α->Int->Int}{P:α->Prop}(hf:∀ x,Zm (f x) (P x)):∀(a:List α),Zm (fun l=>YV f a l) (∀ y∈a,P y)
 | []=>fun l _ _=>⟨Ubt l,fun _ y hy=>by cases hy⟩
 | x::r=>fun l h0 h1=>by
  simp only[YV];have a:=hf x l h0 h1;split
  ·exact⟨by omega,fun h=>by omega⟩
  ·have b:=Znq hf r (f x l) (by omega) (by omega);refine⟨by simp only at b;omega,fun h y hy=>?_⟩;cases hy with
   | head=>exact a.2 (by omega)
   | tail _ hy=>exact b.2 h y hy
theorem Zhh{α:Type}{f:α->Int->Int}{P:α->Prop}(hf:∀ x,Zm (f x) (P x))(a:List α):Zm (fun l=>YE f a l) (a.length<=4294967296/\∀ y∈a,P y):=fun l h0 h1=>by
 simp only[YE];split
 ·exact⟨by omega,fun h=>by omega⟩
 ·have b:=Znq hf a (l-a.length) (by omega) (by omega);simp only at b;exact⟨by omega,fun h=>⟨by omega,b.2 h⟩⟩
theorem Znr{s:Int->Int}{P Q:Prop}(h:Zm s P)(hq:P->Q):Zm s Q:=fun l h0 h1=>⟨(h l h0 h1).1,fun h2=>hq ((h l h0 h1).2 h2)⟩
theorem ZDg(x:TControl):Zm (fun l=>VE x l) (Z9 4294967296 x):=by unfold VE;exact Znr (Zno (Znp _) Znn) (fun h=>by unfold Z9;simp only[and_true] at h ⊢;try exact h)
theorem ZDh(x:TTermStep):Zm (fun l=>QH x l) (Jm 4294967296 x):=by unfold QH;exact Znr (Zno (Zhh (fun y=>(Znp _)) _) Znn) (fun h=>by unfold Jm;simp only[and_true] at h ⊢;try exact h)
theorem Zhi{a:Nat}(h:a<=4294967296):a<=9223372036854775807:=by omega
theorem Zdu{x:TControl}(h:Z9 4294967296 x):Z9 9223372036854775807 x:=by exact(Zhi h)
theorem Zhj{x:TTermStep}(h:Jm 4294967296 x):Jm 9223372036854775807 x:=by obtain⟨b0,b1⟩:=h;exact⟨(Zhi b0),(fun y0 hy0=>(Zhi (b1 y0 hy0)))⟩
theorem Wv{P:Nat->Prop}{j:Nat}(h:∀ k,k<j->P k)(hj:P j):∀ k,k<j+1->P k:=fun k hk=>by
 by_cases e:k=j
 ·subst e;exact hj
 ·exact h k (by omega)
theorem Zhk{n a b:Int}:JW n a b=dc (a<=n/\n<=b):=by unfold JW;rw[Wu,Bool.decide_and]
theorem Zhl:∀(x y:List UInt8),(!Op.bytesLess x y)=(Op.bytesLess y x || decide (x=y))
 | [],[]=>by simp [Op.bytesLess]
 | [],_::_=>by simp [Op.bytesLess]
 | _::_,[]=>by simp [Op.bytesLess]
 | a::x,b::y=>by
  have ih:=Zhl x y;simp only[Op.bytesLess];by_cases h:a=b
  ·subst h;have e:¬ a<a:=Ub7 a;simp [e,ih]
  ·by_cases h1:a<b
   ·have h2:¬ b<a:=fun h2=>Ub7 a (UInt8.lt_trans h1 h2);have h3:¬ b=a:=fun e=>h e.symm;simp [h,h1,h2,h3]
   ·have h2:b<a:=by
     rcases UInt8.lt_or_lt_of_ne h with h | h
     ·exact absurd h h1
     ·exact h
    simp [h,h1,h2]
def ltS(s t:ByteArray):Prop:=Op.bytesLess s.data.toList t.data.toList=true
theorem ZDi{s t:ByteArray}:(!Op.bytesLess s.data.toList t.data.toList) = !dc (ltS s t):=by unfold ltS;rw[Wu,Bool.decide_eq_true]
theorem ZDj{s t:ByteArray}:(Op.bytesLess t.data.toList s.data.toList || decide (t=s)) = !dc (ltS s t):=by
 rw[<-ZDi,Zhl];congr 1;have:t=s↔s.data.toList=t.data.toList:=⟨fun h=>by rw[h],fun h=>by
  cases s with | mk s=>cases t with | mk t=>exact congrArg ByteArray.mk (Array.toList_inj.1 h.symm)⟩
 simp only[this]
def Zbh(l:List ByteArray)(i:Nat):Prop:=∀ h:i<l.length,JR l[i]/\∀ _:0<i,ltS (l[i-1]'(by omega)) l[i]
def Vg(l:List ByteArray):Prop:=(∀ i,Zbh l i)/\l.length<=16
theorem Zns(l:List ByteArray)(hl:l.length<=4294967296)(hb:∀ y∈l,y.size<=4294967296)(lvl:Nat)(S:Zb):Sem Ucb ZcY lvl [.tr (.sl (rS l))] S (iB (dc (Vg l))) S:=by
 refine Zl ZCi trivial ?_;simp only[Zml,Za,seval];refine ZP (α:=Unit) l.length (fun j _=>[(3,iI j)]) (fun j _=>[]) (fun j _=>∀ k,k<j->Zbh l k) () (by simp only[Za,seval]) (by (simp only[Za,seval])<;>rfl) (fun k hk=>absurd hk (Ua9 k)) ?_;intro j _ hj hA;simp only[Uaa,Za,seval];refine Zv (fun hlt=>?_) (fun hge=>?_)
 ·have hja:j<l.length:=by omega
  have ga:=Jb (c:=fun s=>[ts s]) hja;have hno:¬ Zbh l j->dc (Vg l)=false:=fun h=>Zt fun g=>h (g.1 j);simp only[ga,Za,seval,Zc,men];refine Zf (Zhf l[j] (by have:=hb _ (Uaj hja);omega)) ?_;cases h1:dc (JR l[j])
  ·simp only[Za,seval];rw[hno fun h=>dc_not.1 h1 (h hja).1]
  by_cases q:0<j
  ·have e1:((j:Int)-1).toNat=j-1:=(by omega);have e2:(0:Int)<=j-1:=(by omega);have q5:(0:Int)<j:=(by omega);have gb:=Jb (c:=fun s=>[ts s]) (l:=l) (j:=j-1) (by omega);simp only[q5,e1,e2,ga,gb,Za,seval];cases hc:Op.bytesLess (l[j-1]'(by omega)).data.toList l[j].data.toList
   ·simp only[seval];exact⟨by rw[Ze];omega,by rw[hno fun h=>by have:=(h hja).2 q;unfold ltS at this;rw[this] at hc;cases hc]⟩
   ·simp only[Za,seval];exact⟨by rw[Ze];omega,by rw[Ze];omega,Zz () hja rfl (Wv hA fun _=>⟨dc_iff.1 h1,fun _=>hc⟩)⟩
  ·have q5:¬ (0:Int)<j:=(by omega);simp only[q5,Za,seval];exact⟨by rw[Ze];omega,Zz () hja rfl (Wv hA fun _=>⟨dc_iff.1 h1,fun h=>absurd h q⟩)⟩
 ·have hj1:j=l.length:=by omega
  subst hj1;rw[V6 (p:=Vg l) (q:=(l.length:Int)<=16) ⟨fun g=>by have:=g.2;omega,fun g=>⟨fun i h=>hA i h h,by omega⟩⟩,Wu]
theorem Znt(l:List ByteArray)(hl:l.length<=4294967296)(hb:∀ y∈l,y.size<=4294967296)(lvl:Nat)(S:Zb):Sem Ucb Zc5 lvl [.tr (.sl (rS l))] S (iB (dc (Vg l))) S:=by
 refine Zl ZCC trivial ?_;simp only[ZmG,Uaa,Za,seval];refine ZP (α:=Unit) l.length (fun j _=>[(7,iI j)]) (fun j _=>[]) (fun j _=>∀ k,k<j->Zbh l k) () (by simp only[Za,seval]) (by (simp only[Za,seval])<;>rfl) (fun k hk=>absurd hk (Ua9 k)) ?_;intro j _ hj hA;simp only[Uaa,Za,seval];refine Zv (fun hlt=>?_) (fun hge=>?_)
 ·have hja:j<l.length:=by omega
  have ga:=Jb (c:=fun s=>[ts s]) hja;have hno:¬ Zbh l j->dc (Vg l)=false:=fun h=>Zt fun g=>h (g.1 j);simp only[ga,Za,seval,Zc,men];refine Zf (Zbf l[j] (by have:=hb _ (Uaj hja);omega)) ?_;cases h1:dc (JR l[j])
  ·simp only[Za,seval];rw[hno fun h=>dc_not.1 h1 (h hja).1]
  by_cases q:0<j
  ·have e1:((j:Int)-1).toNat=j-1:=(by omega);have e2:(0:Int)<=j-1:=(by omega);have q5:(0:Int)<j:=(by omega);have gb:=Jb (c:=fun s=>[ts s]) (l:=l) (j:=j-1) (by omega);simp only[q5,e1,e2,gb,Za,seval];rw[ZDj];cases hc:dc (ltS (l[j-1]'(by omega)) l[j])
   ·simp only[Za,seval];exact⟨by rw[Ze];omega,by rw[hno fun h=>dc_not.1 hc ((h hja).2 q)]⟩
   ·simp only[Za,seval];exact⟨by rw[Ze];omega,by rw[Ze];omega,Zz () hja rfl (Wv hA fun _=>⟨dc_iff.1 h1,fun _=>dc_iff.1 hc⟩)⟩
  ·have q5:¬ (0:Int)<j:=(by omega);simp only[q5,Za,seval];exact⟨by rw[Ze];omega,Zz () hja rfl (Wv hA fun _=>⟨dc_iff.1 h1,fun h=>absurd h q⟩)⟩
 ·have hj1:j=l.length:=by omega
  subst hj1;rw[V6 (p:=Vg l) (q:=(l.length:Int)<=16) ⟨fun g=>by have:=g.2;omega,fun g=>⟨fun i h=>hA i h h,by omega⟩⟩,Wu]
def Z6(b:TBigraph)(l:Int):Prop:=0<=l/\l<=b.edges+b.outer.length-1
theorem Znu(b:TBigraph)(l:Int)(he:0<=b.edges/\b.edges<=8)(ho:b.outer.length<=4294967296)(lvl:Nat)(S:Zb):Sem Ucb Zc0 lvl [.ag ((Zh b).map .tr),iI l] S (iB (dc (Z6 b l))) S:=by refine Zl ZCm trivial ?_;simp only[Zmp,Zh,Uaa,Za,seval,Zc,men];refine⟨by rw[Ze];omega,by rw[Ze];omega,?_⟩;refine Zf (Qp l 0 (b.edges+b.outer.length-1)) ?_;simp only[Za,seval];rw[Zhk];rfl
theorem Znv(b:TBigraph)(l:Int)(he:0<=b.edges/\b.edges<=8)(ho:b.outer.length<=4294967296)(lvl:Nat)(S:Zb):Sem Ucb Zc7 lvl [.ag ((Zh b).map .tr),iI l] S (iB (dc (Z6 b l))) S:=by refine Zl ZCF trivial ?_;simp only[ZmJ,Zh,Uaa,Za,seval,Zc,men];refine⟨by rw[Ze];omega,by rw[Ze];omega,?_⟩;refine Zf (QJ l 0 (b.edges+b.outer.length-1)) ?_;simp only[Za,seval];rw[Zhk];rfl
def YF(sig:List TControl)(c:Int):Int:=((sig[c.toNat]?).map TControl.kind_).getD 0
def YX(sig:List TControl)(c:Int):Int:=((sig[c.toNat]?).map TControl.ports).getD 0
def Xz(b:TBigraph)(p:Int):Int:=((b.nodes[p.toNat]?).map TNode.control).getD 0
def YA(sig:List TControl)(b:TBigraph)(p below:Int):Prop:=(p<0/\-b.roots<=p)\/(0<=p/\p<below/\¬ YF sig (Xz b p)=2)
def Zbi(sig:List TControl)(b:TBigraph)(n:Nat):Prop:=∀ i,i<n->∀ h:i<b.nodes.length,0<=b.nodes[i].control/\b.nodes[i].control<=(sig.length:Int)-1
theorem Znw(sig:List TControl)(b:TBigraph)(p:Int)(k:Nat)(hp:ZZ .i64 p)(hr:0<=b.roots/\b.roots<=4)(hk:k<=b.nodes.length)(hc:Zbi sig b k)(lvl:Nat)(S:Zb):Sem Ucb ZcZ lvl [.tr (.sl (sig.map Zx)),.ag ((Zh b).map .tr),iI p,iI k] S (iB (dc (YA sig b p k))) S:=by
 rw[Ze] at hp;refine Zl ZCl trivial ?_;simp only[Zmo,Zh,Za,seval,Zc,men];refine Zv (fun hneg=>?_) (fun hpos=>?_)
 ·refine⟨by rw[Ze];omega,by rw[Ze];omega,?_⟩;refine Zf (Qp (-1-p) 0 (b.roots-1)) ?_;simp only[Za,seval];have hiff:(0 <= -1-p/\-1-p<=b.roots-1)↔YA sig b p k:=⟨fun h=>.inl (by omega),fun h=>by rcases h with h | h<;>omega⟩;rw[Zhk,V6 hiff]
 ·refine Zv (fun hb=>?_) (fun hb=>?_)
  ·obtain⟨q,rfl⟩:∃ q:Nat,p=q:=⟨p.toNat,by omega⟩;have hq:q<b.nodes.length:=by omega
   have ga:=Jb (c:=ZQ) hq;obtain⟨m1,m2⟩:=hc q (by omega) hq;obtain⟨m,hm⟩:∃ m:Nat,b.nodes[q].control=m:=⟨b.nodes[q].control.toNat,by omega⟩;have hms:m<sig.length:=(by omega);have gs:=Jb (c:=Zx) hms;simp only[hb,ga,gs,ZQ,Zx,hm,Int.toNat_natCast,Za,seval];have e:YF sig (Xz b q)=sig[m].kind_:=(by simp [YF,Xz,hq,hm,hms]);have hiff:YA sig b q k ↔ ¬ sig[m].kind_=2:=by
    constructor
    ·intro h;rcases h with h | h
     ·omega
     ·rw[<-e];exact h.2.2
    ·intro h;exact .inr ⟨by omega,hb,by rw[e];exact h⟩
   rw[V6 hiff,Wu]
  ·rw[Zt fun h:YA sig b p k=>by rcases h with h | h<;>omega]
theorem Znx(sig:List TControl)(b:TBigraph)(p:Int)(k:Nat)(hr:0<=b.roots/\b.roots<=4)(hk:k<=b.nodes.length)(hc:Zbi sig b k)(lvl:Nat)(S:Zb):Sem Ucb Zc6 lvl [.ag ((Zh b).map .tr),.tr (.sl (sig.map Zx)),iI p,iI k] S (iB (dc (YA sig b p k))) S:=by
 refine Zl ZCD trivial ?_;simp only[ZmH,Zh,Za,seval];refine Zv (fun hneg=>?_) (fun hpos=>?_)
 ·refine⟨by rw[Ze];omega,?_⟩;have hiff:YA sig b p k ↔ -b.roots<=p:=⟨fun h=>by rcases h with h | h<;>omega,fun h=>.inl (by omega)⟩;rw[V6 hiff,Wu]
 ·refine Zv (fun hb=>?_) (fun hb=>?_)
  ·obtain⟨q,rfl⟩:∃ q:Nat,p=q:=⟨p.toNat,by omega⟩;have hq:q<b.nodes.length:=by omega
   have ga:=Jb (c:=ZQ) hq;obtain⟨m1,m2⟩:=hc q (by omega) hq;obtain⟨m,hm⟩:∃ m:Nat,b.nodes[q].control=m:=⟨b.nodes[q].control.toNat,by omega⟩;have hms:m<sig.length:=(by omega);have gs:=Jb (c:=Zx) hms;simp only[hb,ga,gs,ZQ,Zx,hm,Int.toNat_natCast,Za,seval];have e:YF sig (Xz b q)=sig[m].kind_:=(by simp [YF,Xz,hq,hm,hms]);have hiff:YA sig b q k ↔ ¬ sig[m].kind_=2:=by
    constructor
    ·intro h;rcases h with h | h
     ·omega
     ·rw[<-e];exact h.2.2
    ·intro h;exact .inr ⟨by omega,hb,by rw[e];exact h⟩
   rw[V6 hiff,Wu]
  ·rw[Zt fun h:YA sig b p k=>by rcases h with h | h<;>omega]
structure nodeOK (sig:List TControl) (b:TBigraph) (x:TNode) (i:Nat):Prop where
 ctl:0<=x.control/\x.control<=(sig.length:Int)-1
 par:YA sig b x.parent i
 ports:(x.links.length:Int)=YX sig x.control
 links:∀ l∈x.links,Z6 b l
theorem ZDk(sig:List TControl)(b:TBigraph)(i:Nat)(hi:i<b.nodes.length)(hn:sig.length<=4294967296)(hl:b.nodes[i].links.length<=4294967296)(hp:ZZ .i64 b.nodes[i].parent)(hr:0<=b.roots/\b.roots<=4)(he:0<=b.edges/\b.edges<=8)(ho:b.outer.length<=4294967296)(hc:Zbi sig b i)(lvl:Nat)(S:Zb):Sem Ucb ZgQ lvl [.tr (.sl (sig.map Zx)),.ag ((Zh b).map .tr),iI i] S (iB (dc (nodeOK sig b b.nodes[i] i))) S:=by
 refine Zl ZCk trivial ?_;have ga:=Jb (c:=ZQ) hi;simp only[Zmn,Zh,Uaa,ga,ZQ,Za,seval,Zc,men];refine⟨by rw[Ze];omega,?_⟩;refine Zf (Qp b.nodes[i].control 0 ((sig.length:Int)-1)) ?_;cases h1:JW b.nodes[i].control 0 ((sig.length:Int)-1)
 ·simp only[Za,seval];rw[Zt fun h:nodeOK sig b b.nodes[i] i=>inB_not.1 h1 h.ctl]
 have r1:=inB_iff.1 h1;simp only[Za,seval,Zc,men];refine Zf (Znw sig b b.nodes[i].parent i hp hr (by omega) hc) ?_;cases h2:dc (YA sig b b.nodes[i].parent i)
 ·simp only[Za,seval];rw[Zt fun h:nodeOK sig b b.nodes[i] i=>dc_not.1 h2 h.par]
 obtain⟨m,hm⟩:∃ m:Nat,b.nodes[i].control=m:=⟨b.nodes[i].control.toNat,by omega⟩;have hms:m<sig.length:=by omega
 have gs:=Jb (c:=Zx) hms;have e:YX sig b.nodes[i].control=sig[m].ports:=by simp [YX,hm,hms]
 simp only[hm,gs,Zx,Uaa,Za,seval];refine Zv (fun hne=>?_) (fun heq=>?_)
 ·rw[Zt fun h:nodeOK sig b b.nodes[i] i=>by have:=h.ports;rw[e] at this;exact hne this]
 refine ZP (α:=Unit) b.nodes[i].links.length (fun j _=>[(8,iI j)]) (fun j _=>[]) (fun j _=>∀ k,k<j->Z6 b (g0 b.nodes[i].links k)) () (by simp only[Za,seval]) (by (simp only[Za,seval])<;>rfl) (fun k hk=>absurd hk (Ua9 k)) ?_;intro j _ hj hA;simp only[Uaa,Za,seval];refine Zv (fun hlt=>?_) (fun hge=>?_)
 ·have hja:j<b.nodes[i].links.length:=by omega
  have gl:=JC hja;simp only[gl,Za,seval,Zc,men];refine Zf (Znu b (g0 b.nodes[i].links j) he ho) ?_;cases hc:dc (Z6 b (g0 b.nodes[i].links j))
  ·simp only[Za,seval];rw[Zt fun h:nodeOK sig b b.nodes[i] i=>dc_not.1 hc (h.links _ (by simp [hja]))]
  ·simp only[Za,seval];exact⟨by rw[Ze];omega,Zz () hja rfl (Wv hA (dc_iff.1 hc))⟩
 ·have hj1:j=b.nodes[i].links.length:=by omega
  subst hj1;have:nodeOK sig b b.nodes[i] i:=⟨r1,dc_iff.1 h2,by rw[e];omega,fun l hl=>by
   obtain⟨k,hk,rfl⟩:=Uar hl;have:=hA k hk;simpa [hk] using this⟩
  rw[ZU this]
def inn(b:TBigraph):List ByteArray:=b.inner.map TWire.name
theorem DR(a b:List ByteArray):rS (a++b)=rS a++rS b:=Uaw
theorem ZDl(b:TBigraph)(hn:b.inner.length<=4294967296)(lvl:Nat)(S:Zb):Sem Ucb ZgP lvl [.ag ((Zh b).map .tr)] S (.ow 1 (rS (inn b)) true) S:=by
 refine Zl ZCj trivial ?_;simp only[Zmm,Zh,Za,seval];refine ZP (α:=Unit) b.inner.length (fun j _=>[(3,.hd (lvl,160) [] 0 j none j),(4,iI j)]) (fun j _=>[(160,.ar 1 (rS ((inn b).take j)) true j 0)]) (fun _ _=>True) () (by simp only[Za,seval]) (by (simp only[Za,seval])<;>rfl) trivial ?_;intro j _ hj _;have hil:(inn b).length=b.inner.length:=by simp [inn]
 simp only[Uaa,Za,seval];refine Zv (fun hlt=>?_) (fun hge=>?_)
 ·have hja:j<b.inner.length:=by omega
  have ga:=Jb (c:=ZS) hja;have hlN:(rS ((inn b).take j)).length=j:=by rw[Uaa,Uai];omega
  simp only[ga,ZS,hlN,Za,seval];have hstep:rS ((inn b).take j)++[[ts b.inner[j].name]]=rS ((inn b).take (j+1)):=by rw[Uag (by omega),DR];simp [inn]
  refine⟨by omega,by rw[Ze];omega,Zz () hja ?_ trivial⟩;rw[<-hstep];rfl
 ·have:j=b.inner.length:=by omega
  subst this;rw[UaQ (by omega)];exact⟨hil.symm,rfl⟩
theorem Zhm(b:TBigraph)(hn:b.inner.length<=4294967296)(lvl:Nat)(S:Zb):Sem Ucb Za6 lvl [.ag ((Zh b).map .tr)] S (.ow 1 (rS (inn b)) true) S:=by
 refine Zl ZB9 trivial ?_;simp only[Zmc,Uaa,Zh,Za,seval];refine ZP (α:=Unit) b.inner.length (fun j _=>[(3,.hd (lvl,192) [] 0 j none j),(10,iI j)]) (fun j _=>[(192,.ar 1 (rS ((inn b).take j)) true j 0)]) (fun _ _=>True) () (by simp only[Za,seval]) (by (simp only[Za,seval])<;>rfl) trivial ?_;intro j _ hj _;have hil:(inn b).length=b.inner.length:=by simp [inn]
 simp only[Uaa,Za,seval];refine Zv (fun hlt=>?_) (fun hge=>?_)
 ·have hja:j<b.inner.length:=by omega
  have ga:=Jb (c:=ZS) hja;have hlN:(rS ((inn b).take j)).length=j:=by rw[Uaa,Uai];omega
  simp only[ga,ZS,hlN,Za,seval];have hstep:rS ((inn b).take j)++[[ts b.inner[j].name]]=rS ((inn b).take (j+1)):=by rw[Uag (by omega),DR];simp [inn]
  refine⟨by omega,by rw[Ze];omega,Zz () hja ?_ trivial⟩;rw[<-hstep];rfl
 ·have:j=b.inner.length:=by omega
  subst this;rw[UaQ (by omega)];exact⟨hil.symm,rfl⟩
def Zdv(sig:List TControl)(b:TBigraph)(i:Nat):Prop:=∀ h:i<b.nodes.length,nodeOK sig b b.nodes[i] i
structure bigOK (sig:List TControl) (b:TBigraph):Prop where
 sg:Jj sig
 roots:0<=b.roots/\b.roots<=4
 nodesL:b.nodes.length<=8
 sitesL:b.sites.length<=4
 edges:0<=b.edges/\b.edges<=8
 outer:Vg b.outer
 inn:Vg (inn b)
 nodes:∀ i,Zdv sig b i
 sites:∀ p∈b.sites,YA sig b p b.nodes.length
 inner:∀ w∈b.inner,Z6 b w.link
theorem Zdw{sig:List TControl}{b:TBigraph}{j:Nat}(h:∀ k,k<j->Zdv sig b k):Zbi sig b j:=fun i hi hl=>(h i hi hl).ctl
theorem DS{b:TBigraph}:(inn b).length=b.inner.length:=by simp [inn]
theorem Zny{b:TBigraph}{n:Nat}(h:∀ y∈b.inner,W8 n y):∀ y∈inn b,y.size<=n:=fun y hy=>by obtain⟨w,hw,rfl⟩:=Uau.1 hy;exact h w hw
theorem UY(sig:List TControl)(b:TBigraph)(hn:sig.length<=4294967296)(hbs:∀ y∈sig,Z9 4294967296 y)(hb:Jo 4294967296 b)(hf:JM b)(lvl:Nat)(S:Zb):Sem Ucb UR lvl [.tr (.sl (sig.map Zx)),.ag ((Zh b).map .tr)] S (iB (dc (bigOK sig b))) S:=by
 obtain⟨b1,b2,b3,b4,b5,b6,b7⟩:=hb;obtain⟨f1,f2,f3,f4,f5⟩:=hf;refine Zl ZBZ trivial ?_;simp only[Zl1,Zh,Za,seval,Zc,men];refine Zf (Znk sig (by omega) (fun y hy=>Zdu (hbs y hy))) ?_;cases h1:dc (Jj sig)
 ·simp only[Za,seval];rw[Zt fun h:bigOK sig b=>dc_not.1 h1 h.sg]
 simp only[Za,seval,Zc,men];refine Zf (Qp b.roots 0 4) ?_;cases h2:JW b.roots 0 4
 ·simp only[Za,seval];rw[Zt fun h:bigOK sig b=>inB_not.1 h2 h.roots]
 by_cases h3:(8:Int)<b.nodes.length
 ·simp only[h3,Uaa,Za,seval];rw[Zt fun h:bigOK sig b=>by have:=h.nodesL;omega]
 by_cases h4:(4:Int)<b.sites.length
 ·simp only[h3,h4,Uaa,Za,seval];rw[Zt fun h:bigOK sig b=>by have:=h.sitesL;omega]
 simp only[h3,h4,Uaa,Za,seval,Zc,men];refine Zf (Qp b.edges 0 8) ?_;cases h5:JW b.edges 0 8
 ·simp only[Za,seval];rw[Zt fun h:bigOK sig b=>inB_not.1 h5 h.edges]
 have r2:=inB_iff.1 h2;have r5:=inB_iff.1 h5;simp only[Za,seval,Zc,men];refine Zf (Zns b.outer (by assumption) (by assumption)) ?_;cases h6:dc (Vg b.outer)
 ·simp only[Za,seval];rw[Zt fun h:bigOK sig b=>dc_not.1 h6 h.outer]
 by_cases h7:(16:Int)<b.inner.length
 ·simp only[h7,Uaa,Za,seval];rw[Zt fun h:bigOK sig b=>by have:=h.inn.2;rw[DS] at this;omega]
 simp only[h7,Uaa,Za,seval,Zc,men];refine Zf (ZDl b (by omega)) ?_;simp only[Za,seval,Zc,men];refine Zf (Zns (inn b) (by rw[DS];omega) (Zny (by assumption))) ?_;cases h8:dc (Vg (inn b))
 ·simp only[Za,seval];rw[Zt fun h:bigOK sig b=>dc_not.1 h8 h.inn]
 simp only[Za,seval];have ho:=(dc_iff.1 h6).2;refine ZP (α:=Unit) b.nodes.length (fun j _=>[(5,iI j)]) (fun j _=>[]) (fun j _=>∀ k,k<j->Zdv sig b k) () (by simp only[Za,seval]) (by (simp only[Za,seval])<;>rfl) (fun k hk=>absurd hk (Ua9 k)) ?_;intro j _ hj hA;simp only[Uaa,Za,seval,Zc,men];refine Zv (fun hlt=>?_) (fun hge=>?_)
 ·have hja:j<b.nodes.length:=by omega
  have hm:=Uaj hja;refine Zf (ZDk sig b j hja hn (by first | exact(b2 _ hm) | exact(b3 _ hm)) (by first | exact(f1 _ hm).2.1 | exact(f2 _ hm).2.1) r2 r5 (by omega) (Zdw hA)) ?_;cases hc:dc (nodeOK sig b b.nodes[j] j)
  ·simp only[Za,seval];rw[Zt fun h:bigOK sig b=>dc_not.1 hc (h.nodes j hja)]
  ·simp only[Za,seval];exact⟨by rw[Ze];omega,Zz () hja rfl (Wv hA fun _=>dc_iff.1 hc)⟩
 have hj1:j=b.nodes.length:=by omega
 subst hj1;refine ZP (α:=Unit) b.sites.length (fun j _=>[(6,iI j)]) (fun j _=>[]) (fun j _=>∀ k,k<j->YA sig b (g0 b.sites k) b.nodes.length) () (by simp only[Za,seval]) (by (simp only[Za,seval])<;>rfl) (fun k hk=>absurd hk (Ua9 k)) ?_;intro j _ hj hB;simp only[Uaa,Za,seval];refine Zv (fun hlt=>?_) (fun hge=>?_)
 ·have hja:j<b.sites.length:=by omega
  have ga:=JC hja;have hg:g0 b.sites j∈b.sites:=by simp [hja]
  simp only[ga,Uaa,Za,seval,Zc,men];refine Zf (Znw sig b (g0 b.sites j) b.nodes.length (by first | exact f3 _ hg | exact f2 _ hg | exact f4 _ hg) r2 (Ual _) (Zdw hA)) ?_;cases hc:dc (YA sig b (g0 b.sites j) b.nodes.length)
  ·simp only[Za,seval];rw[Zt fun h:bigOK sig b=>dc_not.1 hc (h.sites _ hg)]
  ·simp only[Za,seval];exact⟨by rw[Ze];omega,Zz () hja rfl (Wv hB (dc_iff.1 hc))⟩
 have hj1:j=b.sites.length:=by omega
 subst hj1;refine ZP (α:=Unit) b.inner.length (fun j _=>[(7,iI j)]) (fun j _=>[]) (fun j _=>∀ k,k<j->∀ h:k<b.inner.length,Z6 b b.inner[k].link) () (by simp only[Za,seval]) (by (simp only[Za,seval])<;>rfl) (fun k hk=>absurd hk (Ua9 k)) ?_;intro j _ hj hC;simp only[Uaa,Za,seval];refine Zv (fun hlt=>?_) (fun hge=>?_)
 ·have hja:j<b.inner.length:=by omega
  have ga:=Jb (c:=ZS) hja;simp only[ga,ZS,Za,seval,Zc,men];refine Zf (Znu b b.inner[j].link r5 (by omega)) ?_;cases hc:dc (Z6 b b.inner[j].link)
  ·simp only[Za,seval];rw[Zt fun h:bigOK sig b=>dc_not.1 hc (h.inner _ (Uaj hja))]
  ·simp only[Za,seval];exact⟨by rw[Ze];omega,Zz () hja rfl (Wv hC fun _=>dc_iff.1 hc)⟩
 have hj1:j=b.inner.length:=by omega
 subst hj1;have:bigOK sig b:=⟨dc_iff.1 h1,r2,by omega,by omega,r5,dc_iff.1 h6,dc_iff.1 h8,fun i h=>hA i h h,fun p hp=>by
  obtain⟨k,hk,rfl⟩:=Uar hp;have:=hB k hk;simpa [hk] using this,fun w hw=>by
  obtain⟨k,hk,rfl⟩:=Uar hw;exact hC k hk hk⟩
 rw[ZU this]
theorem ZDm(l:Int)(b:TBigraph)(he:0<=b.edges/\b.edges<=8)(ho:b.outer.length<=4294967296)(lvl:Nat)(S:Zb):Sem Ucb ZgV lvl [iI l,.ta (Zh b)] S (iB (!dc (Z6 b l))) S:=by refine Zl ZCE trivial ?_;simp only[ZmI,Zh,Za,seval,Zc,men];refine Zf (Znv b l he ho) ?_;simp only[Za,seval]
theorem ZDn(p:Int)(sig:List TControl)(b:TBigraph)(hr:0<=b.roots/\b.roots<=4)(hc:Zbi sig b b.nodes.length)(lvl:Nat)(S:Zb):Sem Ucb ZgW lvl [iI p,.ta (Zh b),.ta [Tr.sl (sig.map Zx)]] S (iB (!dc (YA sig b p b.nodes.length))) S:=by refine Zl ZCG trivial ?_;simp only[ZmK,Zh,Uaa,Za,seval,Zc,men];refine Zf (Znx sig b p b.nodes.length hr (Ual _) hc) ?_;simp only[Za,seval]
theorem ZDo(w:TWire)(b:TBigraph)(he:0<=b.edges/\b.edges<=8)(ho:b.outer.length<=4294967296)(lvl:Nat)(S:Zb):Sem Ucb ZgX lvl [.ag ((ZS w).map .tr),.ta (Zh b)] S (iB (!dc (Z6 b w.link))) S:=by refine Zl ZCH trivial ?_;simp only[ZmL,Zh,ZS,Za,seval,Zc,men];refine Zf (Znv b w.link he ho) ?_;simp only[Za,seval]
theorem ZDp:Zk Ucb Zk8 (Q5 2 (some 2))=true:=by kernel_rfl
theorem ZDq:Zk Ucb Zk6 (Ua Zk8)=true:=by kernel_rfl
theorem any_no{α:Type}{l:List α}{p:α->Prop}:(l.any fun n=>!dc (p n))=false↔∀ n∈l,p n:=by simp only[Ub0,UaN,Bool.not_eq_false,dc_iff]
theorem UZ(sig:List TControl)(b:TBigraph)(hn:sig.length<=4294967296)(hbs:∀ y∈sig,Z9 4294967296 y)(hb:Jo 4294967296 b)(lvl:Nat)(S:Zb):Sem Ucb Wq lvl [.tr (.sl (sig.map Zx)),.ag ((Zh b).map .tr)] S (iB (dc (bigOK sig b))) S:=by
 obtain⟨b1,b2,b3,b4,b5,b6,b7⟩:=hb;refine Zl ZB7 trivial ?_;simp only[Zma,Zh,Za,seval,Zc,men];refine Zf (Zhg sig (by omega) (fun y hy=>Zdu (hbs y hy))) ?_;cases h1:dc (Jj sig)
 ·simp only[Za,seval];rw[Zt fun h:bigOK sig b=>dc_not.1 h1 h.sg]
 simp only[Za,seval,Zc,men];refine Zf (QJ b.roots 0 4) ?_;cases h2:JW b.roots 0 4
 ·simp only[Za,seval];rw[Zt fun h:bigOK sig b=>inB_not.1 h2 h.roots]
 by_cases h3:(8:Int)<b.nodes.length
 ·simp only[h3,Uaa,Za,seval];rw[Zt fun h:bigOK sig b=>by have:=h.nodesL;omega]
 by_cases h4:(4:Int)<b.sites.length
 ·simp only[h3,h4,Uaa,Za,seval];rw[Zt fun h:bigOK sig b=>by have:=h.sitesL;omega]
 simp only[h3,h4,Uaa,Za,seval,Zc,men];refine Zf (QJ b.edges 0 8) ?_;cases h5:JW b.edges 0 8
 ·simp only[Za,seval];rw[Zt fun h:bigOK sig b=>inB_not.1 h5 h.edges]
 have r2:=inB_iff.1 h2;have r5:=inB_iff.1 h5;simp only[Za,seval,Zc,men];refine Zf (Znt b.outer (by assumption) (by assumption)) ?_;cases h6:dc (Vg b.outer)
 ·simp only[Za,seval];rw[Zt fun h:bigOK sig b=>dc_not.1 h6 h.outer]
 simp only[Za,seval,Zc,men];refine Zf (Zhm b (by omega)) ?_;simp only[Za,seval,Zc,men];refine Zf (Znt (inn b) (by rw[DS];omega) (Zny (by assumption))) ?_;cases h8:dc (Vg (inn b))
 ·simp only[Za,seval];rw[Zt fun h:bigOK sig b=>dc_not.1 h8 h.inn]
 simp only[Uaa,Za,seval];have ho:=(dc_iff.1 h6).2;refine ZP (α:=Unit) b.nodes.length (fun j _=>[(49,iI j)]) (fun j _=>[]) (fun j _=>∀ k,k<j->Zdv sig b k) () (by simp only[Za,seval]) (by (simp only[Za,seval])<;>rfl) (fun k hk=>absurd hk (Ua9 k)) ?_;intro j _ hj hA;simp only[Za,seval,Zc,men];refine Zv (fun hlt=>?_) (fun hge=>?_)
 ·have hja:j<b.nodes.length:=by omega
  have hm:=Uaj hja;have ga:=Jb (c:=ZQ) hja;have hll:b.nodes[j].links.length<=4294967296:=by first | exact(b2 _ hm) | exact(b3 _ hm)
  have hno:¬ nodeOK sig b b.nodes[j] j->dc (bigOK sig b)=false:=fun h=>Zt fun g=>h (g.nodes j hja);simp only[ga,ZQ,Uaa,Za,seval,Zc,men];refine⟨by rw[Ze];omega,?_⟩;refine Zf (QJ b.nodes[j].control 0 ((sig.length:Int)-1)) ?_;cases p1:JW b.nodes[j].control 0 ((sig.length:Int)-1)
  ·simp only[Za,seval];rw[hno fun h=>inB_not.1 p1 h.ctl]
  have q1:=inB_iff.1 p1;simp only[Za,seval,Zc,men];refine Zf (Znx sig b b.nodes[j].parent j r2 (by omega) (Zdw hA)) ?_;cases p2:dc (YA sig b b.nodes[j].parent j)
  ·simp only[Za,seval];rw[hno fun h=>dc_not.1 p2 h.par]
  obtain⟨m,hmm⟩:∃ m:Nat,b.nodes[j].control=m:=⟨b.nodes[j].control.toNat,by omega⟩;have hms:m<sig.length:=by omega
  have gs:=Jb (c:=Zx) hms;have e:YX sig b.nodes[j].control=sig[m].ports:=by simp [YX,hmm,hms]
  by_cases p3:(b.nodes[j].links.length:Int)=sig[m].ports
  case neg =>
   simp only[p3,hmm,gs,Int.toNat_natCast,Zx,Uaa,Za,seval];rw[hno fun h=>p3 (by rw[<-e];exact h.ports)]
  simp only[p3,hmm,gs,Int.toNat_natCast,Zx,Uaa,Za,seval,Zc,men];refine Zf (Zds (t:=tv) (cs:=[Zh b]) Znm Znl b.nodes[j].links (by omega) (fun x _ lvl S=>ZDm x b r5 (by omega) lvl S)) ?_;cases p4:b.nodes[j].links.any fun l=>!dc (Z6 b l)
  ·simp only[Za,seval];exact⟨by rw[Ze];omega,Zz () hja rfl (Wv hA fun _=>⟨q1,dc_iff.1 p2,by rw[e];exact p3,any_no.1 p4⟩)⟩
  ·simp only[Za,seval];rw[hno fun h=>by rw[any_no.2 h.links] at p4;cases p4]
 have hj1:j=b.nodes.length:=by omega
 subst hj1;refine Zf (Zds (t:=tv) (cs:=[Zh b,[Tr.sl (sig.map Zx)]]) Znm Znl b.sites (by omega) (fun x _ lvl S=>ZDn x sig b r2 (Zdw hA) lvl S)) ?_;cases h9:b.sites.any fun p=>!dc (YA sig b p b.nodes.length)
 case true =>
  simp only[Za,seval];rw[Zt fun h:bigOK sig b=>by rw[any_no.2 h.sites] at h9;cases h9]
 simp only[Za,seval,Zc,men];refine Zf (Znd (cs:=[Zh b]) ZDq ZDp (fun x=>rfl) b.inner (by omega) (fun x _ lvl S=>ZDo x b r5 (by omega) lvl S)) ?_;cases h10:b.inner.any fun w=>!dc (Z6 b w.link)
 case true =>
  simp only[Za,seval];rw[Zt fun h:bigOK sig b=>by rw[(any_no (p:=fun w:TWire=>Z6 b w.link)).2 h.inner] at h10;cases h10]
 simp only[Za,seval];have:bigOK sig b:=⟨dc_iff.1 h1,r2,by omega,by omega,r5,dc_iff.1 h6,dc_iff.1 h8,fun i h=>hA i h h,any_no.1 h9,any_no.1 h10⟩;rw[ZU this]
def cz{α:Type}[DecidableEq α](g:Nat->α):Nat->List α
 | 0=>[]
 | m+1=>cz g m++if m≠0/\g m=g (m-1) then [] else [g m]
theorem Znz{α:Type}[DecidableEq α](g:Nat->α):∀ m,(cz g m).length<=m
 | 0=>Ual _
 | m+1=>by have:=Znz g m;simp only[cz,Uac];split<;>simp<;>omega
theorem Zhn{α:Type}[DecidableEq α]{g:Nat->α}{m:Nat}(h0:m≠0)(h:g m=g (m-1)):cz g (m+1)=cz g m:=by rw[cz,if_pos ⟨h0,h⟩,Ubm]
theorem ZDr{α:Type}[DecidableEq α]{g:Nat->α}{m:Nat}(h:g m≠g (m-1)):cz g (m+1)=cz g m++[g m]:=by rw[cz,if_neg (fun e=>h e.2)]
theorem ZnA{α:Type}{y:List α}{i:Nat}{v:α}(h:i<y.length):(y.set i v).take (i+1)=y.take i++[v]:=by rw[Uag (by rw[UaU];exact h),List.getElem_set_self,List.take_set_of_le (Ual i)]
theorem Zbj{lvl:Nat}{S:Zb}{id:Zd}{k hw ver:Nat}{es:Row}{u:Bool}(hne:id.1≠lvl)(hS:S id=some (.ar k es u hw ver)):JV (ZF lvl [] S) id [] k:=by unfold JV;rw[J0 hne,hS]
theorem Zdx{C:ZJ}{env:List (Nat×IV)}{loc:List (Nat×Ob)}{out:Zb}{d:Option Nat}{K:St->Prop}{fid:FuncId}{imp:Bool}{lvl:Nat}{args:List IV}{r:IV}(key:Nat)(o:Ob)(h:C fid (lvl+1) args (ZF lvl loc out) r (Zo (ZF lvl loc out) (lvl,key) o))
  (hk:freshK (keyOf d) (ptO key o loc) (impv imp lvl (keyOf d) 0 r).2.length/\K ⟨lvl,ptd d (impv imp lvl (keyOf d) 0 r).1 env,addO (keyOf d) (impv imp lvl (keyOf d) 0 r).2 (ptO key o loc),out⟩):UH C fid imp lvl env loc out d K args :=
 Wm (ptO key o loc) out (fun _ _=>rfl) (by rw[ZkJ];exact h) hk
theorem ZnB{C:ZJ}{env:List (Nat×IV)}{loc:List (Nat×Ob)}{out:Zb}{d:Option Nat}{K:St->Prop}{fid:FuncId}{imp:Bool}{lvl:Nat}{args:List IV}{r:IV}(key:Nat)(o:Nat->Ob)(h:∃ v,C fid (lvl+1) args (ZF lvl loc out) r (Zo (ZF lvl loc out) (lvl,key) (o v)))
  (hk:∀ v,freshK (keyOf d) (ptO key (o v) loc) (impv imp lvl (keyOf d) 0 r).2.length/\K ⟨lvl,ptd d (impv imp lvl (keyOf d) 0 r).1 env,addO (keyOf d) (impv imp lvl (keyOf d) 0 r).2 (ptO key (o v) loc),out⟩):UH C fid imp lvl env loc out d K args:=by
 obtain⟨v,h⟩:=h;exact Zdx key (o v) h (hk v)
section
variable {α:Type} {e0:α} {lt:α->α->Prop}
def gx(e0:α)(l:List α)(i:Nat):α:=l.getD i e0
theorem YB{l:List α}{i:Nat}(h:i<l.length):gx e0 l i=l[i]:=by unfold gx;rw[UaD,Uak h];rfl
def Ww(e0:α)(lt:α->α->Prop)(x:List α)(i:Nat):Prop:=∀ p q,p<q->q<i -> ¬ lt (gx e0 x q) (gx e0 x p)
def Zbk(e0:α)(lt:α->α->Prop)(x:List α)(i j:Nat):Prop:=(∀ p q,p<q->q<=i->p≠j->q≠j -> ¬ lt (gx e0 x q) (gx e0 x p))/\∀ q,j<q->q<=i -> ¬ lt (gx e0 x q) (gx e0 x j)
def DT(e0:α)(x:List α)(j:Nat):List α:=(x.set j (gx e0 x (j-1))).set (j-1) (gx e0 x j)
theorem Zdy{y:List α}{a b:Nat}{v:α}(h:a<y.length):gx e0 (y.set a v) b=if a=b then v else gx e0 y b:=by
 show (y.set a v).getD b e0=if a=b then v else y.getD b e0
 rw[UaD,Ua3,UaD];by_cases e:a=b
 ·rw[if_pos e,if_pos e,if_pos (by omega)];rfl
 ·rw[if_neg e,if_neg e]
theorem ZDs{y:List α}{i:Nat}(h:Zbk e0 lt y i 0):Ww e0 lt y (i+1):=fun p q h1 h2=>by
 by_cases e:p=0
 ·subst e;exact h.2 q h1 (by omega)
 ·exact h.1 p q h1 (by omega) e (by omega)
theorem ZDt(tr:∀ a b c,¬ lt b a -> ¬ lt c b -> ¬ lt c a){y:List α}{i j:Nat}(h:Zbk e0 lt y i j)(hj:0<j)(hji:j<=i)(hle:¬ lt (gx e0 y j) (gx e0 y (j-1))):Ww e0 lt y (i+1):=fun p q h1 h2=>by
 by_cases e:p=j
 ·subst e;exact h.2 q h1 (by omega)
 ·by_cases e2:q=j
  ·subst e2;by_cases e3:p=q-1
   ·subst e3;exact hle
   ·exact tr _ _ _ (h.1 p (q-1) (by omega) (by omega) e (by omega)) hle
  ·exact h.1 p q h1 (by omega) e e2
theorem ZDu(asym:∀ a b,lt a b -> ¬ lt b a){y:List α}{i j:Nat}(h:Zbk e0 lt y i j)(hj:0<j)(hji:j<=i)(hi:i<y.length)(hlt:lt (gx e0 y j) (gx e0 y (j-1))):Zbk e0 lt (DT e0 y j) i (j-1):=by
 have e:∀ b,gx e0 (DT e0 y j) b=if j-1=b then gx e0 y j else if j=b then gx e0 y (j-1) else gx e0 y b:=fun b=>by unfold DT;rw[Zdy (by rw[UaU];omega),Zdy (by omega)]
 refine⟨fun p q h1 h2 h3 h4=>?_,fun q h1 h2=>?_⟩
 ·rw[e p,e q,if_neg (show ¬ j-1=p from fun g=>h3 g.symm),if_neg (show ¬ j-1=q from fun g=>h4 g.symm)];by_cases ep:j=p
  ·rw[if_pos ep,if_neg (show ¬ j=q by omega)];exact h.1 (j-1) q (by omega) h2 (by omega) (by omega)
  ·rw[if_neg ep];by_cases eq:j=q
   ·rw[if_pos eq];exact h.1 p (j-1) (by omega) (by omega) (by omega) (by omega)
   ·rw[if_neg eq];exact h.1 p q h1 h2 (fun g=>ep g.symm) (fun g=>eq g.symm)
 ·rw[e (j-1),e q,if_pos rfl,if_neg (show ¬ j-1=q by omega)];by_cases eq:j=q
  ·rw[if_pos eq];exact asym _ _ hlt
  ·rw[if_neg eq];exact h.2 q (by omega) h2
theorem ZDv{y:List α}{j:Nat}(hj:0<j)(hi:j<y.length):(DT e0 y j).Perm y:=by have h:=@List.set_set_perm _ y j (j-1) hi (by omega);unfold DT;rw[YB hi,YB (by omega)];exact h
theorem JS{γ:Type}{c:α->γ}{l:List α}{i:Nat}(h:i<l.length):(l.map c)[i]? = some (c (gx e0 l i)):=by rw[YB h];simp [h]
end
theorem Zho{α:Type}[DecidableEq α]{e0:α}{l:List α}:∀{n:Nat},n<=l.length->(∀ m,0<m->m<n->gx e0 l m≠gx e0 l (m-1))->cz (gx e0 l) n=l.take n
 | 0,_,_=>by simp [cz]
 | n+1,hn,h=>by
  have ih:=Zho (n:=n) (by omega) fun m h0 h1=>h m h0 (by omega);have hx:cz (gx e0 l) (n+1)=cz (gx e0 l) n++[gx e0 l n]:=by rw[cz,if_neg (fun e=>h n (by omega) (by omega) e.2)]
  rw[hx,ih,Uag (by omega)];rw[YB (by omega)]
structure Ords {α:Type} (lt:α->α->Prop):Prop where
 irr:∀ a,¬ lt a a
 tr:∀ a b c,lt a b->lt b c->lt a c
 tri:∀ a b,lt a b\/a=b\/lt b a
theorem Ords.asym{α:Type}{lt:α->α->Prop}(O:Ords lt)(a b:α)(h:lt a b):¬ lt b a:=fun g=>O.irr a (O.tr _ _ _ h g)
section
variable {α:Type} {e0:α} {lt:α->α->Prop}
theorem ZnC(O:Ords lt):∀{x y:List α},x.Pairwise lt->y.Pairwise lt->(∀ c,c∈x↔c∈y)->x=y
 | [],[],_,_,_=>rfl
 | [],b::s,_,_,h=>by have:=(h b).2 (by simp);simp at this
 | a::r,[],_,_,h=>by have:=(h a).1 (by simp);simp at this
 | a::r,b::s,hx,hy,h=>by
  rw[Ua4] at hx hy;have e:a=b:=by
   rcases UaF.1 ((h a).1 (by simp)) with e | h1
   ·exact e
   ·rcases UaF.1 ((h b).2 (by simp)) with e | h2
    ·exact e.symm
    ·exact absurd (hy.1 a h1) (O.asym _ _ (hx.1 b h2))
  subst e;congr 1;refine ZnC O hx.2 hy.2 fun c=>⟨fun hc=>?_,fun hc=>?_⟩
  ·rcases UaF.1 ((h c).1 (by simp [hc])) with e | h1
   ·subst e;exact absurd (hx.1 c hc) (O.irr c)
   ·exact h1
  ·rcases UaF.1 ((h c).2 (by simp [hc])) with e | h1
   ·subst e;exact absurd (hy.1 c hc) (O.irr c)
   ·exact h1
theorem Zbl(O:Ords lt):∀{x y:List α},x.Pairwise (fun a b=>¬ lt b a)->y.Pairwise (fun a b=>¬ lt b a)->x.Perm y->x=y
 | [],y,_,_,h=>by rw[List.nil_perm.1 h]
 | a::r,[],_,_,h=>by have:=h.length_eq;simp at this
 | a::r,b::s,hx,hy,h=>by
  rw[Ua4] at hx hy;have e:a=b:=by
   rcases UaF.1 (h.mem_iff.1 (UbY (a:=a) (l:=r))) with e | h1
   ·exact e
   ·rcases UaF.1 (h.mem_iff.2 (UbY (a:=b) (l:=s))) with e | h2
    ·exact e.symm
    ·rcases O.tri a b with g | g | g
     ·exact absurd g (hy.1 a h1)
     ·exact g
     ·exact absurd g (hx.1 b h2)
  subst e;congr 1;exact Zbl O hx.2 hy.2 h.cons_inv
theorem ZDw{x:List α}(h:Ww e0 lt x x.length):x.Pairwise (fun a b=>¬ lt b a):=Ua8.2 fun i j hi hj hij=>by have:=h i j hij hj;rwa [YB hi,YB hj] at this
noncomputable def VG(lt:α->α->Prop)(l:List α):List α:=l.mergeSort fun a b=>@decide (¬ lt b a) (Classical.propDecidable _)
theorem srtG_perm{l:List α}:(VG lt l).Perm l:=List.mergeSort_perm ..
theorem Zbm(O:Ords lt){l:List α}:(VG lt l).Pairwise (fun a b=>¬ lt b a):=by
 classical
 have h:=List.pairwise_mergeSort (le:=fun a b=>@decide (¬ lt b a) (Classical.propDecidable _)) (fun a b c h1 h2=>by
  simp only[decide_eq_true_eq] at *;intro g;rcases O.tri a b with k | k | k
  ·exact h2 (O.tr _ _ _ g k)
  ·subst k;exact h2 g
  ·exact h1 k) (fun a b=>by
  simp only[UaO,decide_eq_true_eq];by_cases g:lt b a
  ·exact .inr (O.asym _ _ g)
  ·exact .inl g) l
 exact h.imp (fun h=>by simpa using h)
theorem ZDx(O:Ords lt){l x:List α}(hp:x.Perm l)(hu:Ww e0 lt x l.length):x=VG lt l:=by rw[<-hp.length_eq] at hu;exact Zbl O (ZDw hu) (Zbm O) (hp.trans srtG_perm.symm)
theorem cz_mem[DecidableEq α]{g:Nat->α}{c:α}:∀{n:Nat},c∈cz g n↔∃ i,i<n/\g i=c
 | 0=>by simp [cz]
 | n+1=>by
  rw[cz,Uaq,cz_mem (n:=n)];constructor
  ·rintro(⟨i,h1,h2⟩ | h)
   ·exact⟨i,by omega,h2⟩
   ·split at h
    ·cases h
    ·exact⟨n,by omega,(UaI.1 h).symm⟩
  ·rintro⟨i,h1,h2⟩
   by_cases e:i=n
   ·subst e;by_cases k:i≠0/\g i=g (i-1)
    ·exact .inl ⟨i-1,by omega,k.2.symm.trans h2⟩
    ·rw[if_neg k];exact .inr (by simp [h2])
   ·exact .inl ⟨i,by omega,h2⟩
theorem ZnD(O:Ords lt)[DecidableEq α]{g:Nat->α}:∀{n:Nat},(∀ i j,i<j->j<n -> ¬ lt (g j) (g i))->(cz g n).Pairwise lt
 | 0,_=>by simp [cz]
 | n+1,h=>by
  have ih:=ZnD O (n:=n) fun i j h1 h2=>h i j h1 (by omega);by_cases k:n≠0/\g n=g (n-1)
  ·rw[Zhn k.1 k.2];exact ih
  ·have hx:cz g (n+1)=cz g n++[g n]:=(by rw[cz,if_neg k]);rw[hx,Ua6];refine⟨ih,by simp,fun c hc d hd=>?_⟩;rw[UaI] at hd;subst hd;obtain⟨i,h1,rfl⟩:=cz_mem.1 hc;have hn0:n≠0:=(by omega);rcases O.tri (g i) (g n) with e | e | e
   ·exact e
   ·exfalso;have e1:¬ lt (g n) (g (n-1)):=h (n-1) n (by omega) (by omega);have e2:¬ lt (g (n-1)) (g i):=by
     by_cases q:i=n-1
     ·subst q;exact O.irr _
     ·exact h i (n-1) (by omega) (by omega)
    rw[e] at e2;rcases O.tri (g n) (g (n-1)) with q | q | q
    ·exact e1 q
    ·exact k ⟨hn0,q⟩
    ·exact e2 q
   ·exact absurd e (h i n h1 (by omega))
noncomputable def DU[DecidableEq α](e0:α)(lt:α->α->Prop)(l:List α):List α:=cz (gx e0 (VG lt l)) (VG lt l).length
theorem ZnE(O:Ords lt)[DecidableEq α]{l:List α}:(DU e0 lt l).Pairwise lt:=ZnD O fun i j h1 h2=>by rw[YB h2,YB (Nat.lt_trans h1 h2)];exact Ua8.1 (Zbm O) i j _ _ h1
theorem setG_mem[DecidableEq α]{l:List α}{c:α}:c∈DU e0 lt l↔c∈l:=by
 unfold DU;rw[cz_mem,<-(srtG_perm (lt:=lt) (l:=l)).mem_iff];constructor
 ·rintro⟨i,h1,h2⟩
  rw[YB h1] at h2;rw[<-h2];exact Uaj h1
 ·intro h;obtain⟨i,h1,h2⟩:=Uar h;exact⟨i,h1,by rw[YB h1];exact h2⟩
theorem Zdz(O:Ords lt)[DecidableEq α]{l y:List α}(hy:y.Pairwise lt)(h:∀ c,c∈l↔c∈y):DU e0 lt l=y:=ZnC O (ZnE O) hy fun c=>setG_mem.trans (h c)
theorem ZnF[DecidableEq α]{l:List α}:(DU e0 lt l).length<=l.length:=UaG (Znz _ _) (Ub6 srtG_perm.length_eq)
end
abbrev Ja:ByteArray:=⟨#[]⟩
abbrev gS(l:List ByteArray)(i:Nat):ByteArray:=gx Ja l i
theorem bl_irr:∀(x:List UInt8),Op.bytesLess x x=false
 | []=>rfl
 | a::x=>by have e:¬ a<a:=Ub7 a;simp [Op.bytesLess,e,bl_irr x]
theorem ZnG:∀(x y z:List UInt8),Op.bytesLess x y=true->Op.bytesLess y z=true->Op.bytesLess x z=true
 | [],[],_,h,_=>by simp [Op.bytesLess] at h
 | [],_::_,[],_,h=>by simp [Op.bytesLess] at h
 | [],_::_,_::_,_,_=>by simp [Op.bytesLess]
 | _::_,[],_,h,_=>by simp [Op.bytesLess] at h
 | _::_,_::_,[],_,h=>by simp [Op.bytesLess] at h
 | a::x,b::y,c::z,h1,h2=>by
  have ih:=ZnG x y z;have irr:∀ a:UInt8,¬ a<a:=Ub7;simp only[Op.bytesLess] at h1 h2 ⊢;by_cases e1:a=b
  ·subst e1;simp only[irr,decide_false,Bool.false_or,beq_self_eq_true,Bool.true_and] at h1;by_cases e2:a=c
   ·subst e2;simp [irr] at h1 h2 ⊢;exact ih h1 h2
   ·by_cases l2:a<c
    ·simp [l2]
    ·simp [l2,e2] at h2
  ·by_cases l1:a<b
   ·by_cases e2:b=c
    ·subst e2;simp [l1]
    ·by_cases l2:b<c
     ·simp [UInt8.lt_trans l1 l2]
     ·simp [l2,e2] at h2
   ·simp [l1,e1] at h1
theorem ordsS:Ords ltS:=by
 refine⟨fun a h=>?_,fun a b c=>ZnG _ _ _,fun a b=>?_⟩
 ·unfold ltS at h;rw[bl_irr] at h;cases h
 ·have h:=Zhl a.data.toList b.data.toList;unfold ltS;cases h1:Op.bytesLess a.data.toList b.data.toList with
  | true=>exact .inl rfl
  | false =>
   rw[h1] at h;cases h2:Op.bytesLess b.data.toList a.data.toList with
   | true=>exact .inr (.inr rfl)
   | false =>
    rw[h2] at h;refine .inr (.inl ?_);have:a.data.toList=b.data.toList:=by simpa using h
    cases a with | mk a=>cases b with | mk b=>exact congrArg ByteArray.mk (Array.toList_inj.1 this)
theorem ZDy(a b:ByteArray)(h:ltS a b):¬ ltS b a:=ordsS.asym a b h
theorem ltS_tr(a b c:ByteArray)(h1:¬ ltS b a)(h2:¬ ltS c b):¬ ltS c a:=fun h=>by
 rcases ordsS.tri b c with g | g | g
 ·exact h1 (ordsS.tr _ _ _ g h)
 ·subst g;exact h1 h
 ·exact h2 g
theorem ZdA{y:List ByteArray}{j:Nat}{v:ByteArray}(h:j<y.length):ZK (rS y) [] j 0 (.v (.string v))=rS (y.set j v):=by simp only[ZK];rw[JS (e0:=Ja) (c:=fun n:ByteArray=>[ts n]) h];exact(UbE (f:=fun n:ByteArray=>[ts n]) (l:=y) (i:=j) (a:=v)).symm
theorem ZDz(a:ByteArray)(lvl:Nat)(S:Zb):Sem Ucb Zdl lvl [iS a] S (iB false) S:=by refine Zl ZC4 trivial ?_;simp only[Zna,Za,seval]
theorem ZDA(a b:ByteArray)(lvl:Nat)(S:Zb):Sem Ucb Zdk lvl [iS a,iS b] S (iB (dc (ltS a b))) S:=by
 refine Zl ZC3 trivial ?_;simp only[Zm9,Za,seval,Zc,men];refine Zf (ZDz a) ?_;simp only[Za,seval];have:Op.bytesLess a.data.toList b.data.toList=dc (ltS a b):=by unfold ltS;rw[Wu,Bool.decide_eq_true]
 rw[this]
theorem ZDB(l:List ByteArray)(hl:l.length<=12)(lvl:Nat)(S:Zb)(id:Zd)(u:Bool)(hw ver:Nat)(hid:id.1<lvl)(hS:S id=some (.ar 1 (rS l) u hw ver))(srt:List ByteArray)(hsrt:∀ x:List ByteArray,x.Perm l->Ww Ja ltS x l.length->x=srt) :
  Sem Ucb Zg4 lvl [.hd id [] 0 l.length none hw,iI 0,iI l.length] S (.tu []) (Zo S id (.ar 1 (rS srt) u hw ver)):=by
 have hne:id.1≠lvl:=by omega
 refine Zl ZC2 trivial ?_;simp only[Zm8,Za,seval];refine⟨by rw[Ze];omega,?_⟩;refine J9 (α:=List ByteArray) l.length (fun k x=>⟨lvl,[(0,.hd id [] 0 l.length none hw),(1,iI 0),(2,iI l.length),(6,iI ((k+1:Nat):Int))],[],Zo S id (.ar 1 (rS x) u hw ver)⟩) (fun k x=>x.Perm l/\Ww Ja ltS x (k+1)) l ⟨by simp only[J8 hne,Za,seval],by (simp only[Wn hS,Za,seval])<;>rfl⟩ ⟨List.Perm.refl _,fun p q h1 h2=>by omega⟩ ?_;intro k x hk ⟨hA1,hA2⟩;have hxl:x.length=l.length:=hA1.length_eq;simp only[Za,seval];refine Zv (fun hlt=>?_) (fun hge=>?_)
 ·have hk1:k+1<l.length:=by omega
  refine J9 (α:=List ByteArray) (k+1) (fun m y=>⟨lvl,[(0,.hd id [] 0 l.length none hw),(1,iI 0),(2,iI l.length),(6,iI ((k+1:Nat):Int)),(7,iI ((k+1-m:Nat):Int))],[],Zo S id (.ar 1 (rS y) u hw ver)⟩) (fun m y=>y.Perm l/\Zbk Ja ltS y (k+1) (k+1-m)) x ⟨by simp only[J8 hne,Za,seval],by (simp only[Za,seval])<;>rfl⟩ ⟨hA1,fun p q h1 h2 h3 h4=>hA2 p q h1 (by omega),fun q h1 h2=>by omega⟩ ?_;intro m y hm ⟨hB1,hB2⟩;have hyl:y.length=l.length:=hB1.length_eq;generalize hj:k+1-m=j at hB2 ⊢;by_cases hj0:j=0
  ·subst hj0;simp only[Za,seval,men];exact⟨by rw[Ze];omega,fun h=>absurd h hne,Zz y (by omega) rfl ⟨hB1,ZDs hB2⟩⟩
  ·have g1:(0:Int)<j:=(by omega);have e1:((j:Int)-1)=((j-1:Nat):Int):=(by omega);have gj:=JS (e0:=Ja) (c:=fun n:ByteArray=>[ts n]) (l:=y) (i:=j) (by omega);have gj1:=JS (e0:=Ja) (c:=fun n:ByteArray=>[ts n]) (l:=y) (i:=j-1) (by omega);have l1:j<l.length:=(by omega);have l2:j-1<l.length:=(by omega);simp only[g1,J0 hne,YU,e1,gj,gj1,l1,l2,Uax,Za,seval,Zc,men];refine⟨by rw[Ze];omega,Zf (ZDA (gS y j) (gS y (j-1))) ?_⟩;by_cases hlt2:ltS (gS y j) (gS y (j-1))
   ·rw[ZU hlt2];have s1:=ZdA (y:=y) (j:=j) (v:=gS y (j-1)) (by omega);have s2:=ZdA (y:=y.set j (gS y (j-1))) (j:=j-1) (v:=gS y j) (by rw[UaU];omega);have gj2:=JS (e0:=Ja) (c:=fun n:ByteArray=>[ts n]) (l:=y.set j (gS y (j-1))) (i:=j-1) (by rw[UaU];omega);simp only[J0 hne,Xr hne,Xu,YU,J8 hne,e1,gj,gj1,gj2,s1,s2,l1,l2,Uax,Za,seval];subst hj;refine⟨by rw[Ze];omega,by rw[Ze];omega,by rw[Ze];omega,Zz (DT Ja y (k+1-m)) (by omega) (by rw[show k+1-(m+1)=k+1-m-1 from by omega];rfl) ⟨(ZDv (by omega) (by omega)).trans hB1,?_⟩⟩;rw[show k+1-(m+1)=k+1-m-1 from by omega];exact ZDu ZDy hB2 (by omega) (by omega) (by omega) hlt2
   ·rw[Zt hlt2];simp only[Za,seval,men];exact⟨by rw[Ze];omega,fun h=>absurd h hne,Zz y (by omega) rfl ⟨hB1,ZDt ltS_tr hB2 (by omega) (by omega) hlt2⟩⟩
 ·have:k+1=l.length\/k=l.length:=by omega
  have hup:Ww Ja ltS x l.length:=fun p q h1 h2=>hA2 p q h1 (by omega);have hx:=hsrt x hA1 hup;rw[hx]
theorem ZDC(l:List ByteArray)(hl:l.length<=12)(r:Int)(lvl:Nat)(S:Zb)(id:Zd)(u:Bool)(hw ver:Nat)(hid:id.1<lvl)(hS:S id=some (.ar 1 (rS l) u hw ver))(srt:List ByteArray)(hsrt:∀ x:List ByteArray,x.Perm l->Ww Ja ltS x l.length->x=srt) :
  Sem Ucb Zbc lvl [.hd id [] 0 l.length none hw,iI 0,iI l.length,iI r] S (.tu []) (Zo S id (.ar 1 (rS srt) u hw ver)):=by
 have hne:id.1≠lvl:=by omega
 refine Zl ZC1 trivial ?_;simp only[Zm7,Za,seval];refine J9 (α:=Unit) 0 (fun _ _=>⟨lvl,[(0,.hd id [] 0 l.length none hw),(1,iI 0),(2,iI l.length),(3,iI r),(8,iB true),(9,iB true)],[],S⟩) (fun _ _=>True) () ⟨by simp only[J8 hne,Za,seval],by (simp only[Za,seval])<;>rfl⟩ trivial ?_;intro _ _ _ _;have h12:(l.length:Int)-0<=12:=by omega
 simp only[h12,Za,seval];refine⟨by rw[Ze];omega,?_⟩;simp only[Va];refine Wm [] (Zo S id (.ar 1 (rS srt) u hw ver)) (fun i hi=>by unfold Zo;rw[if_neg (fun e=>hne (by rw[<-e];exact hi))]) (by
  rw[Dz hne];exact ZDB l hl (lvl+1) (ZF lvl [] S) id u hw ver (by omega) (by rw[J0 hne];exact hS) srt hsrt) ?_
 simp only[Za,seval]
theorem ZDD{v:Int}(h0:0<=v)(h:v<=12):∃ r:Int,∀(lvl:Nat) (S:Zb),Sem Ucb ZgN lvl [.tr (.v (.int .u64 v))] S (iI r) S:=by
 have:v=0\/v=1\/v=2\/v=3\/v=4\/v=5\/v=6\/v=7\/v=8\/v=9\/v=10\/v=11\/v=12:=by omega
 rcases this with rfl | rfl | rfl | rfl | rfl | rfl | rfl | rfl | rfl | rfl | rfl | rfl | rfl
 ·refine⟨0,fun lvl S=>Zl Qo trivial ?_⟩;simp only[V5,Za,seval];simp [ZZ,IntKind.min,IntKind.max,IntKind.signed,IntKind.bits]
 ·refine⟨1,fun lvl S=>Zl Qo trivial ?_⟩;simp only[V5,Za,seval];simp [ZZ,IntKind.min,IntKind.max,IntKind.signed,IntKind.bits]
 ·refine⟨2,fun lvl S=>Zl Qo trivial ?_⟩;simp only[V5,Za,seval];simp [ZZ,IntKind.min,IntKind.max,IntKind.signed,IntKind.bits]
 ·refine⟨2,fun lvl S=>Zl Qo trivial ?_⟩;simp only[V5,Za,seval];simp [ZZ,IntKind.min,IntKind.max,IntKind.signed,IntKind.bits]
 ·refine⟨3,fun lvl S=>Zl Qo trivial ?_⟩;simp only[V5,Za,seval];simp [ZZ,IntKind.min,IntKind.max,IntKind.signed,IntKind.bits]
 ·refine⟨3,fun lvl S=>Zl Qo trivial ?_⟩;simp only[V5,Za,seval];simp [ZZ,IntKind.min,IntKind.max,IntKind.signed,IntKind.bits]
 ·refine⟨3,fun lvl S=>Zl Qo trivial ?_⟩;simp only[V5,Za,seval];simp [ZZ,IntKind.min,IntKind.max,IntKind.signed,IntKind.bits]
 ·refine⟨3,fun lvl S=>Zl Qo trivial ?_⟩;simp only[V5,Za,seval];simp [ZZ,IntKind.min,IntKind.max,IntKind.signed,IntKind.bits]
 ·refine⟨4,fun lvl S=>Zl Qo trivial ?_⟩;simp only[V5,Za,seval];simp [ZZ,IntKind.min,IntKind.max,IntKind.signed,IntKind.bits]
 ·refine⟨4,fun lvl S=>Zl Qo trivial ?_⟩;simp only[V5,Za,seval];simp [ZZ,IntKind.min,IntKind.max,IntKind.signed,IntKind.bits]
 ·refine⟨4,fun lvl S=>Zl Qo trivial ?_⟩;simp only[V5,Za,seval];simp [ZZ,IntKind.min,IntKind.max,IntKind.signed,IntKind.bits]
 ·refine⟨4,fun lvl S=>Zl Qo trivial ?_⟩;simp only[V5,Za,seval];simp [ZZ,IntKind.min,IntKind.max,IntKind.signed,IntKind.bits]
 ·refine⟨4,fun lvl S=>Zl Qo trivial ?_⟩;simp only[V5,Za,seval];simp [ZZ,IntKind.min,IntKind.max,IntKind.signed,IntKind.bits]
theorem Zhp{v:Int}(h0:0<=v)(h:v<=12):∃ r:Int,∀(lvl:Nat) (S:Zb),Sem Ucb Za5 lvl [.tr (.v (.int .u64 v))] S (iI r) S:=by obtain⟨r,hr⟩:=ZDD h0 h;refine⟨r,fun lvl S=>Zl ZBV trivial ?_⟩;simp only[ZlX,Za,seval,Zc,men];refine Zf hr ?_;simp only[Za,seval]
theorem ZDE(l:List ByteArray)(hl:l.length<=12)(lvl:Nat)(S:Zb)(id:Zd)(u:Bool)(hw ver:Nat)(hid:id.1<lvl)(hS:S id=some (.ar 1 (rS l) u hw ver))(srt:List ByteArray)(hsrt:∀ x:List ByteArray,x.Perm l->Ww Ja ltS x l.length->x=srt) :
  Sem Ucb Zbb lvl [.hd id [] 0 l.length none hw] S (.tu []) (Zo S id (.ar 1 (rS srt) u hw ver)):=by
 have hne:id.1≠lvl:=by omega
 obtain⟨r,hr⟩:=Zhp (v:=(l.length:Int)) (by omega) (by omega);refine Zl ZCZ trivial ?_;simp only[Zm4,Za,seval,Zc,men];refine⟨⟨by show (0:Int)<=l.length;omega,by show (l.length:Int)<=18446744073709551615;omega⟩,Zf hr ?_⟩;simp only[Za,seval];refine Wm [] (Zo S id (.ar 1 (rS srt) u hw ver)) (fun i hi=>by unfold Zo;rw[if_neg (fun e=>hne (by rw[<-e];exact hi))]) (by
  rw[Dz hne];exact ZDC l hl r (lvl+1) (ZF lvl [] S) id u hw ver (by omega) (by rw[J0 hne];exact hS) srt hsrt) ?_
 simp only[Za,seval]
theorem ZDF(l:List ByteArray)(hl:l.length<=4294967290)(lvl:Nat)(S:Zb)(id:Zd)(u:Bool)(hw ver:Nat)(hid:id.1<lvl)(hS:S id=some (.ar 1 (rS l) u hw ver)) :
  ∃ v2,Sem Ucb Zg2 lvl [.hd id [] 0 l.length none hw] S (.hd id [] 0 (cz (gS l) l.length).length none hw) (Zo S id (.ar 1 (rS (cz (gS l) l.length)) u hw v2)):=by
 have hne:id.1≠lvl:=by omega
 by_cases hd:∀ m,0<m->m<l.length->gS l m≠gS l (m-1)
 ·refine⟨ver,?_⟩;rw[Zho (Ual _) hd,Uap,Wn hS];refine Zl Zm5 hid ?_;simp only[Zhb,Za,seval];by_cases h2:(l.length:Int)<2
  ·rw[if_pos h2];simp only[ZaM hne,Za,seval]
  rw[if_neg h2];refine J9 (α:=Unit) l.length (fun k _=>⟨lvl,[(0,.hd id [] 0 l.length none hw),(3,iI ((k+1:Nat):Int))],[],S⟩) (fun k _=>k+1<=l.length) () ⟨by simp only[J8 hne,Za,seval],by (simp only[Za,seval])<;>rfl⟩ (by omega) ?_;intro k _ hk hA;simp only[Za,seval];refine Zv (fun hlt=>?_) (fun hge=>?_)
  ·have gj:=JS (e0:=Ja) (c:=fun n:ByteArray=>[ts n]) (l:=l) (i:=k+1) (by omega);have gj1:=JS (e0:=Ja) (c:=fun n:ByteArray=>[ts n]) (l:=l) (i:=k) (by omega);have l1:k+1<l.length:=(by omega);have l2:k<l.length:=(by omega);have hx:=hd (k+1) (by omega) l1;rw[Uca] at hx;have e1:(((k+1:Nat):Int)-1)=(k:Int):=(by omega);simp only[J0 hne,hS,e1,gj,gj1,l1,l2,hx,Uax,J8 hne,Za,seval];exact⟨by rw[Ze];omega,by rw[Ze];omega,Zz () (by omega) rfl (by omega)⟩
  ·simp only[ZaM hne,Za,seval]
 ·refine⟨ver+1,?_⟩;refine Zl Zm5 hid ?_;simp only[Zhb,Za,seval];by_cases h2:(l.length:Int)<2
  ·exact absurd (fun m h0 h1=>by omega) hd
  rw[if_neg h2];refine J9 (α:=Unit) l.length (fun k _=>⟨lvl,[(0,.hd id [] 0 l.length none hw),(3,iI ((k+1:Nat):Int))],[],S⟩) (fun k _=>k+1<=l.length/\∀ m,0<m->m<k+1->gS l m≠gS l (m-1)) () ⟨by simp only[J8 hne,Za,seval],by (simp only[Za,seval])<;>rfl⟩ ⟨by omega,fun m h0 h1=>by omega⟩ ?_;intro k _ hk ⟨hA,hB⟩;simp only[Za,seval];refine Zv (fun hlt=>?_) (fun hge=>?_)
  ·have gj:=JS (e0:=Ja) (c:=fun n:ByteArray=>[ts n]) (l:=l) (i:=k+1) (by omega);have gj1:=JS (e0:=Ja) (c:=fun n:ByteArray=>[ts n]) (l:=l) (i:=k) (by omega);have l1:k+1<l.length:=(by omega);have l2:k<l.length:=(by omega);have e1:(((k+1:Nat):Int)-1)=(k:Int):=(by omega);by_cases hx:gS l (k+1)=gS l k
   ·have hc1:=Zho (l:=l) (n:=k+1) (by omega) hB;have hc2:cz (gS l) (k+1+1)=cz (gS l) (k+1):=Zhn (by omega) (by rw[Uca];exact hx);simp only[J0 hne,hS,e1,gj,gj1,l1,l2,hx,Uax,Za,seval];refine⟨by rw[Ze];omega,by omega,Zbj hne hS,?_⟩;refine J9 (α:=Nat×List ByteArray) l.length (fun m x=>⟨lvl,[(0,.hd id [] 0 l.length none hw),(3,iI (x.1:Int)),(4,.hd id [] (k+1) (l.length-(k+1)) none hw),(5,iI ((m+1:Nat):Int))],[],Zo S id (.ar 1 (rS x.2) u hw ver)⟩) (fun m x=>k+1+m+1<=l.length/\x.2.length=l.length/\x.1=(cz (gS l) (k+1+m+1)).length/\x.2.take x.1=cz (gS l) (k+1+m+1)/\x.1<=k+1+m/\∀ q,k+1+m<=q->gS x.2 q=gS l q) (k+1,l) ⟨by simp only[J8 hne,Za,seval],by (simp only[Wn hS,Za,seval])<;>rfl⟩ ⟨by omega,rfl,by rw[Nat.add_zero,hc2,hc1,Uai];omega,by rw[Nat.add_zero,hc2,hc1],by omega,fun _ _=>rfl⟩ ?_;intro m ⟨i,y⟩ hm ⟨hm1,hy,hi,ht,hle,hq⟩;dsimp only at hy hi ht hle hq;simp only[Za,seval];refine Zv (fun hlt2=>?_) (fun hge2=>?_)
    ·have b1:k+1+(m+1)<l.length:=(by omega);have b2:m+1<l.length-(k+1):=(by omega);have b3:m<l.length-(k+1):=(by omega);have gy:=JS (e0:=Ja) (c:=fun n:ByteArray=>[ts n]) (l:=y) (i:=k+1+(m+1)) (by omega);have gy1:=JS (e0:=Ja) (c:=fun n:ByteArray=>[ts n]) (l:=y) (i:=k+1+m) (by omega);have q1:=hq (k+1+(m+1)) (by omega);have q2:=hq (k+1+m) (by omega);have e2:(((m+1:Nat):Int)-1)=(m:Int):=(by omega);have b4:i<l.length:=(by omega);by_cases hx2:gS l (k+1+(m+1))=gS l (k+1+m)
     ·have hc3:cz (gS l) (k+1+(m+1)+1)=cz (gS l) (k+1+m+1):=Zhn (by omega) hx2;simp only[J0 hne,YU,e2,gy,gy1,q1,q2,b2,b3,hx2,J8 hne,Za,seval];exact⟨by rw[Ze];omega,by rw[Ze];omega,Zz (i,y) (by omega) rfl ⟨by omega,hy,by rw[show k+1+(m+1)+1=k+1+(m+1)+1 from rfl,hc3];exact hi,by rw[hc3];exact ht,by show i<=k+1+(m+1);omega,fun q hqq=>hq q (by omega)⟩⟩
     ·have hc3:cz (gS l) (k+1+(m+1)+1)=cz (gS l) (k+1+m+1)++[gS l (k+1+(m+1))]:=ZDr hx2;have s1:=ZdA (y:=y) (j:=i) (v:=gS l (k+1+(m+1))) (by omega);have gy0:=JS (e0:=Ja) (c:=fun n:ByteArray=>[ts n]) (l:=y) (i:=i) (by omega);simp only[J0 hne,Xr hne,Xu,YU,e2,gy,gy0,gy1,q1,q2,b2,b3,b4,hx2,s1,Uax,J8 hne,Za,seval];exact⟨by rw[Ze];omega,by rw[Ze];omega,by rw[Ze];omega,Zz (i+1,y.set i (gS l (k+1+(m+1)))) (by omega) rfl ⟨by omega,by rw[UaU];exact hy,by rw[hc3,Uac,<-hi];rfl,by rw[ZnA (by omega),ht,hc3],by show i+1<=k+1+(m+1);omega,fun q hqq=>by
       show gx Ja (y.set i (gS l (k+1+(m+1)))) q=_;rw[Zdy (by omega),if_neg (by omega)];exact hq q (by omega)⟩⟩
    ·have en:k+1+m+1=l.length:=(by omega);rw[en] at hi ht;refine⟨by omega,Zbj hne (YU ..),?_⟩;have tk:(rS y).take i=rS (cz (gS l) l.length):=(by rw[<-ht];exact(Ubj ..).symm);simp only[J0 hne,Xr hne,Xu,YU,tk,Uaa,hy,Za,seval];refine⟨by omega,by omega,by omega,by omega,Zbj hne (YU ..),?_⟩;simp only[ZaM hne,Nat.sub_zero,hi,Za,seval]
   ·simp only[J0 hne,hS,e1,gj,gj1,l1,l2,hx,Uax,J8 hne,Za,seval];exact⟨by rw[Ze];omega,by rw[Ze];omega,Zz () (by omega) rfl ⟨by omega,fun m h0 h1=>by
     by_cases e:m=k+1
     ·subst e;exact hx
     ·exact hB m h0 (by omega)⟩⟩
  ·exact absurd (fun m h0 h1=>hB m h0 (by omega)) hd
theorem ZnH:∀(x y:List UInt8),x<y↔Op.bytesLess x y=true
 | [],[]=>by simp [Op.bytesLess]
 | [],_::_=>by simp [Op.bytesLess]
 | _::_,[]=>by simp [Op.bytesLess]
 | a::x,b::y=>by rw[List.cons_lt_cons_iff,ZnH x y];simp [Op.bytesLess]
abbrev Vq(s:ByteArray):List UInt8:=s.data.toList
abbrev Ub(l:List UInt8):ByteArray:=⟨l.toArray⟩
theorem ZnI{s:ByteArray}:Ub (Vq s)=s:=by simp [Ub,Vq]
theorem ZnJ{l:List ByteArray}:Xw Go.Proofs.encStr (l.map Vq)=rS l:=by simp only[Xw,UbD];refine UaC fun s _=>?_;show [Tr.v (Value.string (Ub (Vq s)))]=_;rw[ZnI]
theorem ZDG(l:List ByteArray):(l.map Vq).mergeSort (fun x y=>decide (x<=y))=(VG ltS l).map Vq:=by
 have e1:((l.map Vq).mergeSort (fun x y=>decide (x<=y))).map Ub=VG ltS l:=by
  refine Zbl ordsS ?_ (Zbm ordsS) (List.Perm.trans ?_ srtG_perm.symm)
  ·rw[Ub1];have h:=List.pairwise_mergeSort (le:=fun x y:List UInt8=>decide (x<=y)) (fun a b c h1 h2=>by simp only[decide_eq_true_eq] at *;exact List.le_trans h1 h2) (fun a b=>by simp only[UaO,decide_eq_true_eq];exact List.le_total a b) (l.map Vq);refine h.imp fun {x y} h=>?_;simp only[decide_eq_true_eq] at h;intro hlt;exact h ((ZnH y x).2 hlt)
  ·have h:=(List.mergeSort_perm (l.map Vq) (fun x y=>decide (x<=y))).map Ub;rw[UbD] at h;have:l.map (Ub ∘ Vq)=l:=(by rw[show (Ub ∘ Vq)=id from funext fun s=>ZnI];exact List.map_id l);rwa [this] at h
 rw[<-e1,UbD];rw[show (Vq ∘ Ub)=id from funext fun s=>by simp [Vq]];exact(List.map_id _).symm
theorem ZDH(l:List ByteArray)(hl:l.length<=4294967296)(lvl:Nat)(S:Zb)(id:Zd)(u:Bool)(hw ver:Nat)(hid:id.1<lvl)(hS:S id=some (.ar 1 (rS l) u hw ver)) :
  Sem Ucb Zbb lvl [.hd id [] 0 l.length none hw] S (.tu []) (Zo S id (.ar 1 (rS (VG ltS l)) u hw ver)):=by
 by_cases hs:l.length<=12
 ·exact ZDE l hs lvl S id u hw ver hid hS _ fun x hp hu=>ZDx ordsS hp hu
 ·have h:=ZzZ (P:=Ucb) (f:=Zbb) (lvl:=lvl) (S:=S) (id:=id) (xs:=l.map Vq) (ys:=(VG ltS l).map Vq) (enc:=Go.Proofs.encStr) (u:=u) (hw:=hw) (ver:=ver) (Zhd (by kernel_rfl)) hid (by rw[ZnJ];exact hS) (fun _=>rfl) (by rw[Uaa,Uaa,srtG_perm.length_eq])
   (fun h=>absurd (congrArg List.length h) (by rw[Uaa];show ¬ l.length=0;omega))
   (fun _ b cap w hH hb=>by
    have:=Go.Proofs.Any.slices_Sort_string Proofs.Tryz.lays190 b 0 cap (l.map Vq) w hH hb (by rw[Uaa];omega);rw[ZDG] at this;exact this)
  rw[ZnJ,Uaa] at h;exact h
def Zhq(l:Int)(i:Nat)(ls:List Int):Nat->List (Int×Int)
 | 0=>[]
 | k+1=>if g0 ls k=l then Zhq l i ls k++[((i:Int),(k:Int))] else Zhq l i ls k
def ZnK(b:TBigraph)(j:Nat):List Int:=((b.nodes[j]?).map TNode.links).getD []
def ZnL(b:TBigraph)(l:Int):Nat->List (Int×Int)
 | 0=>[]
 | i+1=>ZnL b l i++Zhq l i (ZnK b i) (ZnK b i).length
def ports(b:TBigraph)(l:Int):List (Int×Int):=ZnL b l b.nodes.length
def ZDI(b:TBigraph)(j:Nat):Int:=((b.inner[j]?).map TWire.link).getD 0
def ZDJ(b:TBigraph)(j:Nat):ByteArray:=((b.inner[j]?).map TWire.name).getD ⟨#[]⟩
def Zhr(b:TBigraph)(l:Int):Nat->List ByteArray
 | 0=>[]
 | j+1=>if ZDI b j=l then Zhr b l j++[ZDJ b j] else Zhr b l j
def ZDK(b:TBigraph)(l:Int):List ByteArray:=Zhr b l b.inner.length
def idle(b:TBigraph)(l:Int):Prop:=(ports b l).length=0/\(ZDK b l).length=0
structure small (b:TBigraph):Prop where
 nodes:b.nodes.length<=8
 links:∀ x∈b.nodes,x.links.length<=1000
 sites:b.sites.length<=4
 outer:b.outer.length<=16
 inner:b.inner.length<=16
 roots:0<=b.roots/\b.roots<=4
 edges:0<=b.edges/\b.edges<=8
theorem ZDL{sig:List TControl}(h:Jj sig)(c:Int):YX sig c<=3:=by
 unfold YX;cases e:sig[c.toNat]? with
 | none=>decide
 | some x =>
  obtain⟨hl,rfl⟩:=Uad.1 e;exact((h.1 _ hl).1).2.1.2
theorem bigOK.small{sig:List TControl}{b:TBigraph}(h:bigOK sig b):small b :=
 ⟨h.nodesL,fun x hx=>by
  obtain⟨k,hk,rfl⟩:=Uar hx;have h1:=(h.nodes k hk).ports;have h2:=ZDL h.sg b.nodes[k].control;omega,h.sitesL,h.outer.2,by have:=h.inn.2;rw[DS] at this;exact this,h.roots,h.edges⟩
def Je(n:Nat):List Int:=(List.range n).map fun i:Nat=>(i:Int)
theorem VH{n:Nat}:(Je n).length=n:=by simp [Je]
theorem Ym{es:Row}{n:Nat}(h:es.length=n):cut es 0 n=es:=by simp only[cut,Ubl];exact UaQ (by omega)
def Yn(b:TBigraph)(l:Int):Int×ByteArray:=if l<b.edges then (l,Ja) else (0,gS b.outer (l-b.edges).toNat)
def Jh(l:List ByteArray)(s:ByteArray):Int:=Yz (fun x=>decide (s=x)) l 0
def J1(b:TBigraph)(e:Int)(o:List ByteArray)(T:Int×ByteArray->Int×ByteArray)(l:Int):Int:=if (T (Yn b l)).2=Ja then (T (Yn b l)).1 else e+Jh o (T (Yn b l)).2
def Jp(b:TBigraph)(F:Int->Int)(e:Int)(o:List ByteArray):TBigraph:=⟨b.roots,b.nodes.map fun x=>⟨x.control,x.parent,x.links.map F⟩,b.sites,e,o,b.inner.map fun w=>⟨w.name,F w.link⟩⟩
theorem Zhs{α:Type}{f:α->Bool}:∀{l:List α} {j:Int},(Yz f l j = -1/\∀ x∈l,f x=false)\/∃ i,∃ h:i<l.length,Yz f l j=j+i/\(∀ x∈l.take i,f x=false)/\f l[i]=true
 | [],j=>.inl ⟨rfl,fun _ h=>by cases h⟩
 | x::r,j=>by
  rw[Wt];cases hx:f x with
  | true=>exact .inr ⟨0,by simp,by simp,by simp,hx⟩
  | false =>
   rcases Zhs (f:=f) (l:=r) (j:=j+1) with ⟨h1,h2⟩ | ⟨i,h,h1,h2,h3⟩
   ·exact .inl ⟨by simp [h1],fun y hy=>by
     rcases UaF.1 hy with rfl | hy
     ·exact hx
     ·exact h2 y hy⟩
   ·refine .inr ⟨i+1,by simpa using h,by simp only[Ua0,if_false,h1];omega,fun y hy=>?_,by simpa using h3⟩;rw[List.take_succ_cons] at hy;rcases UaF.1 hy with rfl | hy
    ·exact hx
    ·exact h2 y hy
theorem ZnM{α:Type}{f:α->Bool}{l:List α}(h:∀ x∈l,f x=false):(l.filter fun n=>!f n)=l:=List.filter_eq_self.2 fun x hx=>by simp [h x hx]
theorem ZnN{α:Type}{f:α->Bool}{l:List α}{j:Nat}(h:j<l.length):((l.take (j+1)).filter fun n=>!f n)=((l.take j).filter fun n=>!f n)++if f l[j]=true then [] else [l[j]]:=by rw[Uag h,List.filter_append];cases hx:f l[j]<;>simp [hx]
theorem ZnO{α:Type}{f:α->Bool}:∀{l:List α} {i:Nat} {j:Int} (h:i<l.length),f l[i]=true->(∀ k (hk:k<i),f (l[k]'(by omega))=false)->Yz f l j=j+i
 | [],_,_,h,_,_=>by simp at h
 | x::r,0,j,_,h1,_=>by have:f x=true:=h1;rw[Wt,if_pos this];omega
 | x::r,i+1,j,h,h1,h2=>by
  have:f x=false:=h2 0 (by omega);rw[Wt,this,if_neg (by decide)];rw[ZnO (i:=i) (by simpa using h) (by simpa using h1) fun k hk=>by
   have:=h2 (k+1) (by omega);simpa using this]
  omega
theorem ZnP{α:Type}{f:α->Bool}:∀{l:List α} {j:Int},(∀ x∈l,f x=false)->Yz f l j = -1
 | [],_,_=>rfl
 | x::r,j,h=>by rw[Wt,h x (by simp),if_neg (by decide)];exact ZnP fun y hy=>h y (by simp [hy])
theorem ZnQ{l:List ByteArray}(h:l.Pairwise ltS){i j:Nat}(hi:i<l.length)(hj:j<l.length)(e:l[i]=l[j]):i=j:=by
 rcases Nat.lt_trichotomy i j with g | g | g
 ·have:=Ua8.1 h i j hi hj g;rw[e] at this;exact absurd this (ordsS.irr _)
 ·exact g
 ·have:=Ua8.1 h j i hj hi g;rw[e] at this;exact absurd this (ordsS.irr _)
theorem ZDM{l:List ByteArray}(h:l.Pairwise ltS){i:Nat}(hi:i<l.length):Jh l l[i]=i:=by
 unfold Jh;rw[ZnO hi (by simp) fun k hk=>by
  simp only[decide_eq_false_iff_not];intro e;have:=ZnQ h hi (by omega) e;omega]
 omega
theorem DV{l:List ByteArray}{s:ByteArray}(h:s ∉ l):Jh l s = -1:=ZnP fun x hx=>by simp only[decide_eq_false_iff_not];intro e;exact h (e ▸ hx)
theorem ixS_nn{l:List ByteArray}{s:ByteArray}:0<=Jh l s↔s∈l:=by unfold Jh;rw[Zdr (Ubt 0)];simp
theorem ZdB{l:List ByteArray}{s:ByteArray}(h:s∈l):Jh l s<l.length:=by
 rcases Zhs (f:=fun x=>decide (s=x)) (l:=l) (j:=0) with ⟨_,h2⟩ | ⟨i,hi,h1,_⟩
 ·have:=h2 s h;simp at this
 ·unfold Jh;rw[h1];omega
theorem Zht{l:List ByteArray}(h:Vg l):l.Pairwise ltS:=by
 have key:∀ d i (hi:i+d+1<l.length),ltS (l[i]'(by omega)) (l[i+d+1]'hi):=fun d=>by
  induction d with
  | zero =>
   intro i hi;exact(h.1 (i+0+1) hi).2 (by omega)
  | succ d ih =>
   intro i hi;have h1:=ih i (by omega);have h2:=(h.1 (i+(d+1)+1) hi).2 (by omega);exact ordsS.tr _ _ _ h1 h2
 refine Ua8.2 fun i j hi hj hij=>?_;have:=key (j-i-1) i (by omega);simp only[show i+(j-i-1)+1=j from by omega] at this;exact this
theorem DW{l:List ByteArray}(h:Vg l){s:ByteArray}(hs:s∈l):s≠Ja:=by obtain⟨i,hi,rfl⟩:=Uar hs;intro e;have:=(h.1 i hi).1.2.1;rw[e] at this;exact absurd this (by decide)
theorem DX{b:TBigraph}{l:Int}(h:l<b.edges):Yn b l=(l,Ja):=if_pos h
theorem DY{b:TBigraph}{i:Nat}(h:i<b.outer.length):Yn b (b.edges+i)=(0,b.outer[i]):=by unfold Yn;rw[if_neg (by omega),show (b.edges+(i:Int)-b.edges).toNat=i from by omega];rw[show gS b.outer i=b.outer[i] from YB h]
theorem Qq{b:TBigraph}{l:Int}(h:Z6 b l):(0<=l/\l<b.edges)\/∃ i:Nat,∃ _:i<b.outer.length,l=b.edges+i:=by
 unfold Z6 at h;by_cases hl:l<b.edges
 ·exact .inl ⟨h.1,hl⟩
 ·exact .inr ⟨(l-b.edges).toNat,by omega,by omega⟩
theorem ZnR{sig:List TControl}{b:TBigraph}(h:bigOK sig b){F F':Int->Int}{e:Int}{o:List ByteArray}(hF:∀ l,Z6 b l->F l=F' l):Jp b F e o=Jp b F' e o:=by
 unfold Jp;congr 1
 ·refine UaC fun x hx=>?_;obtain⟨i,hi,rfl⟩:=Uar hx;have hn:=h.nodes i hi;congr 1;exact UaC fun l hl=>hF l (hn.links l hl)
 ·refine UaC fun w hw=>?_;rw[hF _ (h.inner w hw)]
def V7(b:TBigraph)(f:Int->Int)(g:ByteArray->Int):List Int:=(Je b.edges.toNat).map f++b.outer.map g
theorem XJ{b:TBigraph}{f:Int->Int}{g:ByteArray->Int}{l:Int}(h0:0<=l)(h:l<b.edges):g0 (V7 b f g) l.toNat=f l:=by
 have hl:l.toNat<(Je b.edges.toNat).length:=by rw[VH];omega
 have hx:l.toNat<((Je b.edges.toNat).map f).length:=by rw[Uaa];exact hl
 show (V7 b f g).getD l.toNat 0=_;unfold V7;rw[UaD,Uav hx,Uao];simp [Je,Uao,Uby (show l.toNat<b.edges.toNat by omega)];congr 1;omega
theorem XK{b:TBigraph}{f:Int->Int}{g:ByteArray->Int}(hb:0<=b.edges){i:Nat}(h:i<b.outer.length):g0 (V7 b f g) (b.edges+i).toNat=g b.outer[i]:=by
 have hl:((Je b.edges.toNat).map f).length=b.edges.toNat:=by rw[Uaa,VH]
 show (V7 b f g).getD _ 0=_;unfold V7;rw[UaD,Uas (by rw[hl];omega),hl,Uao,show (b.edges+(i:Int)).toNat-b.edges.toNat=i from by omega,Uak h];rfl
def JT(o:List ByteArray)(s:ByteArray):List ByteArray:=o.filter fun x=>!decide (x=s)
theorem lessN_mem{o:List ByteArray}{s c:ByteArray}:c∈JT o s↔c∈o/\c≠s:=by simp [JT]
theorem ZDN{o:List ByteArray}{s:ByteArray}(h:o.Pairwise ltS):(JT o s).Pairwise ltS:=h.filter _
noncomputable def ZN(l:List ByteArray):List ByteArray:=DU Ja ltS l
def DZ(b:TBigraph)(s:ByteArray)(e:Int×ByteArray):Int×ByteArray:=if e.2=s then (b.edges,Ja) else e
def Qr(b:TBigraph)(s:ByteArray):List Int:=V7 b (fun l=>l) fun x=>if x=s then b.edges else b.edges+1+Jh (JT b.outer s) x
def YY(b:TBigraph)(s:ByteArray):TBigraph:=Jp b (fun l=>g0 (Qr b s) l.toNat) (b.edges+1) (JT b.outer s)
theorem ZDO{sig:List TControl}{b:TBigraph}{s:ByteArray}(h:bigOK sig b)(hs:s∈b.outer):Jp b (J1 b (b.edges+1) (ZN (JT b.outer s)) (DZ b s)) (b.edges+1) (ZN (JT b.outer s))=YY b s:=by
 have hp:=Zht h.outer;have e1:ZN (JT b.outer s)=JT b.outer s:=Zdz ordsS (ZDN hp) fun _=>UbB;rw[e1];refine ZnR h fun l hl=>?_;unfold Qr;have hse:=DW h.outer hs;rcases Qq hl with ⟨h0,h1⟩ | ⟨i,hi,rfl⟩
 ·rw[XJ h0 h1];unfold J1 DZ;rw[DX h1];simp [Ne.symm hse]
 ·rw[XK h.edges.1 hi];unfold J1 DZ;rw[DY hi];have hne:=DW h.outer (Uaj hi);by_cases he:b.outer[i]=s
  ·simp [he]
  ·simp [he,hne]
theorem QK{l:List ByteArray}:ScR (rS l)=True:=eq_true fun e he t ht=>by obtain⟨n,_,rfl⟩:=Uau.1 he;simp only[UaF,Ubp,or_false] at ht;subst ht;rfl
theorem V8{l:List ByteArray}:ZC 1 (rS l)=True:=eq_true (VD (fun n:ByteArray=>[ts n]) (fun _=>rfl) l)
theorem V9{l:List Int}:ScR (rI l)=True:=eq_true fun e he t ht=>by obtain⟨n,_,rfl⟩:=Uau.1 he;simp only[UaF,Ubp,or_false] at ht;subst ht;rfl
theorem Qa{l:List Int}:ZC 1 (rI l)=True:=eq_true (VD (fun n:Int=>[tv n]) (fun _=>rfl) l)
theorem Zbn{l:List TWire}:ScR (l.map ZS)=True:=eq_true fun e he t ht=>by obtain⟨n,_,rfl⟩:=Uau.1 he;simp only[ZS,UaF,Ubp,or_false] at ht;rcases ht with rfl | rfl<;>rfl
theorem Zbo{l:List TWire}:ZC 2 (l.map ZS)=True:=eq_true (VD ZS (fun _=>rfl) l)
theorem ZdC(l:List Int)(hl:l.length<=4294967296)(lvl:Nat)(S:Zb):Sem Ucb DI lvl [tI l] S (.ow 1 (rI l) true) S:=by refine Zl ZBD trivial ?_;simp only[ZlH,Uaa,V9,Qa,Za,seval];exact⟨hl,fun h=>by rw[h]⟩
theorem Zbp(l:List ByteArray)(hl:l.length<=4294967296)(lvl:Nat)(S:Zb):Sem Ucb UN lvl [.tr (.sl (rS l))] S (.ow 1 (rS l) true) S:=by refine Zl ZBt trivial ?_;simp only[ZlA,Uaa,QK,V8,Za,seval];exact⟨hl,fun h=>by rw[h]⟩
theorem ZDP(l:List TWire)(hl:l.length<=4294967296)(lvl:Nat)(S:Zb):Sem Ucb Zgs lvl [.tr (.sl (l.map ZS))] S (.ow 2 (l.map ZS) true) S:=by refine Zl ZBF trivial ?_;simp only[ZlJ,Uaa,Zbn,Zbo,Za,seval];exact⟨hl,fun h=>by rw[h]⟩
theorem ZnS(l:List ByteArray)(hl:l.length<=4294967290)(lvl:Nat)(S:Zb):Sem Ucb Zdd lvl [.tr (.sl (rS l))] S (.ow 1 (rS (ZN l)) true) S:=by
 refine Zl ZCO trivial ?_;simp only[ZmS,Za,seval,Zc,men];refine Zf (Zbp l (by omega)) ?_;simp only[Za,seval];have hp:(VG ltS l).length=l.length:=srtG_perm.length_eq;have s1:=fun S' hS=>ZDH l (by omega) (lvl+1) S' (lvl,160) true l.length 0 (Ua2 _) hS;refine Zdx 160 _ (s1 _ ?_) ?_
 ·rw[J3];rfl
 simp only[Za,seval];have s2:=fun S' hS=>ZDF (VG ltS l) (by omega) (lvl+1) S' (lvl,160) true l.length 0 (Ua2 _) hS;rw[show Va (IV.hd (lvl,160) [] 0 l.length none l.length)=IV.hd (lvl,160) [] 0 (VG ltS l).length none l.length from by rw[hp];rfl];refine ZnB 160 _ (s2 _ ?_) fun v=>?_
 ·rw[J3];rfl
 simp only[Uaa,Za,seval];rfl
abbrev oE(e:Int×ByteArray):IV:=.ag [iI e.1,iS e.2]
theorem ZDQ(b:TBigraph)(l:Int)(he:0<=b.edges)(hl:Z6 b l)(ho:b.outer.length<=4294967296)(hb:b.edges<=4294967296)(lvl:Nat)(S:Zb):Sem Ucb ZgZ lvl [.ag ((Zh b).map .tr),iI l] S (oE (Yn b l)) S:=by
 refine Zl ZCQ (by simp [low,men,Zc]) ?_;simp only[ZmU,Zh,Za,seval];rcases Qq hl with ⟨h0,h1⟩ | ⟨i,hi,rfl⟩
 ·rw[DX h1];simp only[h1,seval];try rfl
 ·rw[DY hi];have h1:¬ b.edges+(i:Int)<b.edges:=by omega
  have ga:=JS (e0:=Ja) (c:=fun n:ByteArray=>[ts n]) hi;have e1:b.edges+(i:Int)-b.edges=i:=by omega
  rw[YB hi] at ga;simp only[h1,e1,ga,Za,seval];rw[Ze];omega
theorem ZdD(b:TBigraph)(hb:Jo 4294967290 b)(lvl:Nat)(S:Zb):Sem Ucb DG lvl [.ag ((Zh b).map .tr)] S (ZA b) S:=by
 obtain⟨b1,b2,b3,b4,b5,b6,b7⟩:=hb;refine Zl ZBp (by simp [ZA,low,men,Zc]) ?_;simp only[Zly,Zh,Za,seval,Zc,men];refine Zf (ZdC b.sites (by omega)) ?_;simp only[Uaa,Za,seval,Zc,men];refine Zf (Zbp b.outer (by omega)) ?_;simp only[Uaa,Za,seval,Zc,men];refine Zf (ZDP b.inner (by omega)) ?_;simp only[Uaa,Za,seval];refine ZP (α:=Unit) b.nodes.length (fun j _=>[(23,iI j)]) (fun j _=>[(96,.bx [iI b.roots,.hd (lvl,608) [] 0 j none j,.hd (lvl,320) [] 0 b.sites.length none b.sites.length,iI b.edges,.hd (lvl,480) [] 0 b.outer.length none b.outer.length,.hd (lvl,576) [] 0 b.inner.length none b.inner.length]),(608,.ar 3 ((b.nodes.take j).map ZQ) true j 0)]) (fun _ _=>True) () (by simp only[Za,seval]) (by (simp only[Za,seval])<;>rfl) trivial ?_;intro j _ hj _;simp only[Uaa,Za,seval];refine Zv (fun hlt=>?_) (fun hge=>?_)
 ·have hja:j<b.nodes.length:=by omega
  have ga:=Jb (c:=ZQ) hja;have k2:b.nodes[j].links.length<=4294967290:=b2 _ (Uaj hja);have hl1:((b.nodes.take j).map ZQ).length=j:=by rw[Uaa,Uai];omega
  have st1:(b.nodes.take j).map ZQ++[[Tr.v (Value.int .i64 b.nodes[j].control),Tr.v (Value.int .i64 b.nodes[j].parent),Tr.sl (rI b.nodes[j].links)]]=(b.nodes.take (j+1)).map ZQ:=by rw[Uag hja,Uaw];rfl
  simp only[ga,ZQ,Za,seval,Zc,men];refine Zf (ZdC b.nodes[j].links (by omega)) ?_;have hl2:(List.map (fun x=>[Tr.v (Value.int .i64 x.control),Tr.v (Value.int .i64 x.parent),Tr.sl (rI x.links)]) (b.nodes.take j)).length=j:=by rw[Uaa,Uai];omega
  simp only[hl1,st1,Za,seval];exact⟨by omega,by rw[Ze];omega,Zz () hja rfl trivial⟩
 ·have:j=b.nodes.length:=by omega
  subst this;rw[Uap];exact⟨rfl,rfl⟩
theorem Q7(l:List ByteArray)(s:ByteArray)(hl:l.length<=4294967296)(lvl:Nat)(S:Zb):Sem Ucb Xx lvl [.tr (.sl (rS l)),iS s] S (iI (Jh l s)) S:=by
 refine Zl ZBk trivial ?_;simp only[Zlt,Za,seval];refine ZP (α:=Unit) l.length (fun j _=>[(5,iI j)]) (fun _ _=>[]) (fun j _=>Yz (fun x=>decide (s=x)) (l.drop j) j=Jh l s) () (by simp only[Za,seval]) (by (simp only[Za,seval])<;>rfl) rfl ?_;intro j _ hj hA;simp only[Uaa,Za,seval];refine Zv (fun hlt=>?_) (fun hge=>?_)
 ·have hja:j<l.length:=by omega
  have ga:=JS (e0:=Ja) (c:=fun n:ByteArray=>[ts n]) hja;rw[YB hja] at ga;rw[Zdq hja,Wt] at hA;by_cases h:l[j]=s
  ·rw[if_pos (by simp [h])] at hA;simp only[ga,h,Za,seval];rw[<-hA]
  ·rw[if_neg (by simp;exact fun e=>h e.symm)] at hA;simp only[ga,h,Za,seval];exact⟨by rw[Ze];omega,Zz () hja rfl hA⟩
 ·have:j=l.length:=by omega
  subst this;rw[Ubo] at hA;rw[<-hA];rfl
theorem ZDR{o:List ByteArray}{s:ByteArray}{j:Nat}(h:j<o.length):JT (o.take (j+1)) s=JT (o.take j) s++if o[j]=s then [] else [o[j]]:=by unfold JT;rw[Uag h,List.filter_append];by_cases e:o[j]=s<;>simp [e]
theorem ZDS(o:List ByteArray)(s:ByteArray)(ho:o.length<=4294967290)(lvl:Nat)(S:Zb):Sem Ucb ZgR lvl [.tr (.sl (rS o)),iS s] S (.ow 1 (rS (JT o s)) true) S:=by
 refine Zl ZCn trivial ?_;simp only[Zmq,Za,seval];refine ZP (α:=Unit) o.length (fun j _=>[(5,.hd (lvl,224) [] 0 (JT (o.take j) s).length none (JT (o.take j) s).length),(6,iI j)]) (fun j _=>[(224,.ar 1 (rS (JT (o.take j) s)) true (JT (o.take j) s).length 0)]) (fun _ _=>True) () (by simp only[Za,seval]) (by (simp only[Za,seval])<;>rfl) trivial ?_;intro j _ hj _;simp only[Uaa,Za,seval];refine Zv (fun hlt=>?_) (fun hge=>?_)
 ·have hja:j<o.length:=by omega
  have ga:=JS (e0:=Ja) (c:=fun n:ByteArray=>[ts n]) hja;rw[YB hja] at ga;have hs:=ZDR (s:=s) hja;have hle:(JT (o.take j) s).length<=j:=UaG (UbF ..) (by rw[Uai];omega);by_cases h:o[j]=s
  ·rw[if_pos h,Ubm] at hs;simp only[ga,h,Za,seval];exact⟨by rw[Ze];omega,Zz () hja (by rw[hs];rfl) trivial⟩
  ·rw[if_neg h] at hs;simp only[ga,h,Uaa,Za,seval];exact⟨by omega,by rw[Ze];omega,Zz () hja (by rw[hs,Uac,DR];rfl) trivial⟩
 ·have:j=o.length:=by omega
  subst this;rw[Uap]
def YC(a:Int)(n:Nat):List Int:=(List.range n).map fun i:Nat=>a+i
theorem ZDT{a:Int}{n:Nat}:YC a (n+1)=YC a n++[a+n]:=by simp [YC,Ub5]
theorem fromN_len{a:Int}{n:Nat}:(YC a n).length=n:=by simp [YC]
theorem Zbq(a:Int)(n:Nat)(ha:-4294967296<=a/\a<=4294967296)(hn:n<=4294967290)(lvl:Nat)(S:Zb):Sem Ucb US lvl [iI a,iI n] S (.ow 1 (rI (YC a n)) true) S:=by
 refine Zl ZCo trivial ?_;simp only[Zmr,Za,seval];refine ZP (α:=Unit) n (fun j _=>[(5,.hd (lvl,224) [] 0 j none j),(6,iI j)]) (fun j _=>[(224,.ar 1 (rI (YC a j)) true j 0)]) (fun _ _=>True) () (by simp only[Za,seval]) (by (simp only[Za,seval])<;>rfl) trivial ?_;intro j _ hj _;simp only[Uaa,Za,seval];refine Zv (fun hlt=>?_) (fun hge=>?_)
 ·have hl:=fromN_len (a:=a) (n:=j);have hs:rI (YC a j)++[[Tr.v (.int .i64 (a+j))]]=rI (YC a (j+1)):=by rw[ZDT,J4];rfl
  simp only[hl,hs,Za,seval];exact⟨by rw[Ze];omega,by omega,by rw[Ze];omega,Zz () (by omega) rfl trivial⟩
 ·have:j=n:=by omega
  subst this;exact⟨fromN_len.symm,rfl⟩
def JD(a:Int)(n:Nat):List Int:=(List.range n).map fun i:Nat=>-1-a-i
theorem ZDU{a:Int}{n:Nat}:JD a (n+1)=JD a n++[-1-a-n]:=by simp [JD,Ub5]
theorem rootsN_len{a:Int}{n:Nat}:(JD a n).length=n:=by simp [JD]
theorem ZdE(a:Int)(n:Nat)(ha:-4294967296<=a/\a<=4294967296)(hn:n<=4294967290)(lvl:Nat)(S:Zb):Sem Ucb DM lvl [iI a,iI n] S (.ow 1 (rI (JD a n)) true) S:=by
 refine Zl ZCr trivial ?_;simp only[Zmv,Za,seval];refine ZP (α:=Unit) n (fun j _=>[(5,.hd (lvl,224) [] 0 j none j),(6,iI j)]) (fun j _=>[(224,.ar 1 (rI (JD a j)) true j 0)]) (fun _ _=>True) () (by simp only[Za,seval]) (by (simp only[Za,seval])<;>rfl) trivial ?_;intro j _ hj _;simp only[Uaa,Za,seval];refine Zv (fun hlt=>?_) (fun hge=>?_)
 ·have hl:=rootsN_len (a:=a) (n:=j);have hs:rI (JD a j)++[[Tr.v (.int .i64 (-1-a-j))]]=rI (JD a (j+1)):=by rw[ZDU,J4];rfl
  simp only[hl,hs,Za,seval];exact⟨by rw[Ze];omega,by rw[Ze];omega,by omega,by rw[Ze];omega,Zz () (by omega) rfl trivial⟩
 ·have:j=n:=by omega
  subst this;exact⟨rootsN_len.symm,rfl⟩
def Ya(by_:Int)(ps:List Int)(p:Int):Int:=if p<0 then g0 ps (-1-p).toNat else p+by_
theorem Zhu(p by_:Int)(ps:List Int)(h0:-4294967296<=p/\p<=4294967296)(h1:-4294967296<=by_/\by_<=4294967296)(h2:p<0->(-1-p).toNat<ps.length)(lvl:Nat)(S:Zb):Sem Ucb Za8 lvl [iI p,iI by_,tI ps] S (iI (Ya by_ ps p)) S:=by
 refine Zl ZCw trivial ?_;simp only[ZmA,Za,seval];unfold Ya;refine Zv (fun hlt=>?_) (fun hge=>?_)
 ·rw[if_pos hlt];have hk:=h2 hlt;obtain⟨k,hkk⟩:∃ k:Nat,-1-p=k:=⟨(-1-p).toNat,by omega⟩;rw[hkk] at hk ⊢;rw[Int.toNat_natCast] at hk ⊢;have ga:=JC hk;simp only[ga,Za,seval];rw[Ze];omega
 ·rw[if_neg hge];exact⟨by rw[Ze];omega,rfl⟩
theorem D0(b:TBigraph)(by_:Int)(ps:List Int)(hl:b.sites.length<=4294967290)(h1:-4294967296<=by_/\by_<=4294967296)(hp:∀ p∈b.sites,(-4294967296<=p/\p<=4294967296)/\(p<0->(-1-p).toNat<ps.length))(lvl:Nat)(S:Zb):Sem Ucb W9 lvl [.ag ((Zh b).map .tr),iI by_,tI ps] S (.ow 1 (rI (b.sites.map (Ya by_ ps))) true) S:=by
 refine Zl ZCt trivial ?_;simp only[Zmx,Zh,Za,seval];refine ZP (α:=Unit) b.sites.length (fun j _=>[(7,.hd (lvl,288) [] 0 j none j),(8,iI j)]) (fun j _=>[(288,.ar 1 (rI ((b.sites.take j).map (Ya by_ ps))) true j 0)]) (fun _ _=>True) () (by simp only[Za,seval]) (by (simp only[Za,seval])<;>rfl) trivial ?_;intro j _ hj _;simp only[Uaa,Za,seval];refine Zv (fun hlt=>?_) (fun hge=>?_)
 ·have hja:j<b.sites.length:=by omega
  have ga:=JC hja;have e0:g0 b.sites j=b.sites[j]:=by simp [hja]
  have hq:=hp _ (Uaj hja);rw[<-e0] at hq;have hl1:(List.map (Ya by_ ps) (b.sites.take j)).length=j:=by rw[Uaa,Uai];omega
  have hl2:(b.sites.take j).length=j:=by rw[Uai];omega
  simp only[ga,Za,seval,Zc,men];refine Zf (Zhu (g0 b.sites j) by_ ps hq.1 h1 hq.2) ?_;have hs:rI ((b.sites.take j).map (Ya by_ ps))++[[Tr.v (.int .i64 (Ya by_ ps (g0 b.sites j)))]]=rI ((b.sites.take (j+1)).map (Ya by_ ps)):=by rw[Uag hja,Uaw,J4,e0];rfl
  simp only[hl1,hs,Uaa,Za,seval];exact⟨by omega,by rw[Ze];omega,Zz () hja rfl trivial⟩
 ·have:j=b.sites.length:=by omega
  subst this;rw[Uap];exact⟨by simp,rfl⟩
def Uc(ls:List Int)(w:TWire):TWire:=⟨w.name,g0 ls w.link.toNat⟩
theorem ZdF(b:TBigraph)(ls:List Int)(hl:b.inner.length<=4294967290)(hp:∀ w∈b.inner,0<=w.link/\w.link<ls.length)(lvl:Nat)(S:Zb):Sem Ucb DN lvl [.ag ((Zh b).map .tr),tI ls] S (.ow 2 ((b.inner.map (Uc ls)).map ZS) true) S:=by
 refine Zl ZCv trivial ?_;simp only[Zmz,Zh,Za,seval];refine ZP (α:=Unit) b.inner.length (fun j _=>[(5,.hd (lvl,224) [] 0 j none j),(6,iI j)]) (fun j _=>[(224,.ar 2 (((b.inner.take j).map (Uc ls)).map ZS) true j 0)]) (fun _ _=>True) () (by simp only[Za,seval]) (by (simp only[Za,seval])<;>rfl) trivial ?_;intro j _ hj _;simp only[Uaa,Za,seval];refine Zv (fun hlt=>?_) (fun hge=>?_)
 ·have hja:j<b.inner.length:=by omega
  have ga:=Jb (c:=ZS) hja;have hq:=hp _ (Uaj hja);obtain⟨k,hk⟩:∃ k:Nat,b.inner[j].link=k:=⟨b.inner[j].link.toNat,by omega⟩;have hkl:k<ls.length:=by omega
  have gl:=JC hkl;have hl2:(b.inner.take j).length=j:=by rw[Uai];omega
  have hs:((b.inner.take j).map (Uc ls)).map ZS++[[ts b.inner[j].name,tv (g0 ls k)]]=((b.inner.take (j+1)).map (Uc ls)).map ZS:=by rw[Uag hja,Uaw,Uaw];simp [Uc,ZS,hk]
  simp only[ga,ZS,hk,gl,hl2,Uaa,Za,seval];exact⟨by omega,by rw[Ze];omega,Zz () hja (by rw[<-hs];rfl) trivial⟩
 ·have:j=b.inner.length:=by omega
  subst this;rw[Uap];exact⟨by simp,rfl⟩
def Q8(by_:Int)(ps ls:List Int)(x:TNode):TNode:=⟨x.control,Ya by_ ps x.parent,x.links.map fun l=>g0 ls l.toNat⟩
theorem Zbr(b:TBigraph)(by_:Int)(ps ls:List Int)(hl:b.nodes.length<=4294967290)(h1:-4294967296<=by_/\by_<=4294967296)(hp:∀ x∈b.nodes,x.links.length<=4294967290/\((-4294967296<=x.parent/\x.parent<=4294967296)/\(x.parent<0->(-1-x.parent).toNat<ps.length))/\∀ l∈x.links,0<=l/\l<ls.length)(lvl:Nat)(S:Zb):Sem Ucb UT lvl [.ag ((Zh b).map .tr),iI by_,tI ps,tI ls] S (.ow 3 ((b.nodes.map (Q8 by_ ps ls)).map ZQ) true) S:=by
 refine Zl ZCs trivial ?_;simp only[Zmw,Zh,Za,seval];refine ZP (α:=Unit) b.nodes.length (fun j _=>[(9,.hd (lvl,416) [] 0 j none j),(10,iI j)]) (fun j _=>[(416,.ar 3 (((b.nodes.take j).map (Q8 by_ ps ls)).map ZQ) true j 0)]) (fun _ _=>True) () (by simp only[Za,seval]) (by (simp only[Za,seval])<;>rfl) trivial ?_;intro j _ hj _;simp only[Uaa,Za,seval];refine Zv (fun hlt=>?_) (fun hge=>?_)
 ·have hja:j<b.nodes.length:=by omega
  have ga:=Jb (c:=ZQ) hja;obtain⟨q1,q2,q3⟩:=hp _ (Uaj hja);have hl2:(b.nodes.take j).length=j:=by rw[Uai];omega
  refine ZP (α:=Unit) b.nodes[j].links.length (fun k _=>[(11,.hd (lvl,672) [] 0 k none k),(12,iI k)]) (fun k _=>[(672,.ar 1 (rI ((b.nodes[j].links.take k).map fun l=>g0 ls l.toNat)) true k 0)]) (fun _ _=>True) () (by simp only[Za,seval]) (by (simp only[Za,seval])<;>rfl) trivial ?_;intro k _ hk _;simp only[ga,ZQ,Uaa,Za,seval,Zc,men];refine Zv (fun hlt2=>?_) (fun hge2=>?_)
  ·have hka:k<b.nodes[j].links.length:=(by omega);have gl:=JC hka;have e0:g0 b.nodes[j].links k=b.nodes[j].links[k]:=(by simp [hka]);have hq:=q3 _ (Uaj hka);rw[<-e0] at hq;obtain⟨m,hm⟩:∃ m:Nat,g0 b.nodes[j].links k=m:=⟨(g0 b.nodes[j].links k).toNat,by omega⟩;have hml:m<ls.length:=(by omega);have gm:=JC hml;have hl3:(b.nodes[j].links.take k).length=k:=(by rw[Uai];omega);have hs:rI ((b.nodes[j].links.take k).map fun l=>g0 ls l.toNat)++[[tv (g0 ls m)]]=rI ((b.nodes[j].links.take (k+1)).map fun l=>g0 ls l.toNat):=(by rw[Uag hka,Uaw,J4,<-e0];simp only[Uah,Uam,hm,Int.toNat_natCast]);simp only[gl,hm,gm,hl3,hs,Uaa,Za,seval];exact⟨by omega,by rw[Ze];omega,Zz () hka rfl trivial⟩
  ·have:k=b.nodes[j].links.length:=(by omega);subst this;rw[Uap];refine Zf (Zhu b.nodes[j].parent by_ ps q2.1 h1 q2.2) ?_;have hs:((b.nodes.take j).map (Q8 by_ ps ls)).map ZQ++[[tv b.nodes[j].control,tv (Ya by_ ps b.nodes[j].parent),Tr.sl (rI (b.nodes[j].links.map fun l=>g0 ls l.toNat))]]=((b.nodes.take (j+1)).map (Q8 by_ ps ls)).map ZQ:=(by rw[Uag hja,Uaw,Uaw];simp [Q8,ZQ]);simp only[hl2,Uaa,Za,seval];exact⟨by omega,by rw[Ze];omega,Zz () hja (by rw[<-hs];rfl) trivial⟩
 ·have:j=b.nodes.length:=by omega
  subst this;rw[Uap];exact⟨by simp,rfl⟩
end Go.Fd
namespace Go.Fd
open Go.Proofs.Tryz renaming prog->Ucb
set_option maxRecDepth 20000
theorem ZnT:Zk Ucb Za2 Zdp=true:=by kernel_rfl
theorem ZDV:Zk Ucb UM (Zhc Za2)=true:=by kernel_rfl
theorem ZnU(l:List ByteArray)(s:ByteArray)(hl:l.length<=4294967296)(lvl:Nat)(S:Zb):Sem Ucb Za2 lvl [.tr (.sl (rS l)),iS s] S (iI (Jh l s)) S:=Znf ZnT Zne l s (by omega) lvl S
theorem Wx(l:List ByteArray)(s:ByteArray)(hl:l.length<=4294967296)(lvl:Nat)(S:Zb):Sem Ucb UM lvl [.tr (.sl (rS l)),iS s] S (iB (dc (s∈l))) S:=by have h:=ZC8 ZDV ZnT Zne l s (by omega) lvl S;have e:∀ i:Decidable (s∈l),@decide (s∈l) i=dc (s∈l):=fun i=>(@Wu _ i).symm;rw[e] at h;exact h
theorem U0{l:List ByteArray}{s:ByteArray}:-1<=Jh l s:=by
 by_cases h:s∈l
 ·have:=ixS_nn.2 h;omega
 ·rw[DV h];omega
theorem Ud{l:List ByteArray}{s:ByteArray}:Jh l s<=l.length:=by
 by_cases h:s∈l
 ·have:=ZdB h;omega
 ·rw[DV h];omega
mutual
theorem ZDW{P Q:Zd->Prop}:∀ x,men P x->men Q x->men (fun i=>P i/\Q i) x
 | .hd ..,h,g=>⟨h,g⟩
 | .ab ..,h,g=>⟨h,g⟩
 | .sv _,h,g=>⟨h,g⟩
 | .ae ..,h,g=>⟨h,g⟩
 | .ag l,h,g=>by simp only[men] at *;exact Zbs l h g
 | .tu l,h,g=>by simp only[men] at *;exact Zbs l h g
 | .fn f l,h,g=>by simp only[men] at *;exact Zbs l h g
 | .un,_,_=>trivial
 | .tr _,_,_=>trivial
 | .cs _,_,_=>trivial
 | .ta _,_,_=>trivial
 | .ow ..,_,_=>trivial
 | .er,_,_=>trivial
theorem Zbs{P Q:Zd->Prop}:∀ l,Zc P l->Zc Q l->Zc (fun i=>P i/\Q i) l
 | [],_,_=>trivial
 | x::r,h,g=>⟨ZDW x h.1 g.1,Zbs r h.2 g.2⟩
end
theorem ZnV{B S S':Zb}{loc:List (Nat×Ob)}{lvl l':Nat}{cps:List IV}(h:Zc (Qf B S lvl) cps)(h2:Zc (Qf (ZF lvl loc S) S' l') cps):Zc (Qf B S' l') cps :=
 JK (fun i hi=>⟨hi.2.1,fun ob hb=>hi.2.2 ob (by rw[show ZF lvl loc S i=S i from if_neg (by have:=hi.1.1;omega)];exact hi.1.2 ob hb)⟩) _ (Zbs _ h h2)
theorem ZnW{L S:Zb}{l:Nat}{cps:List IV}(h:Zc (XY L S l) cps):Zc (Qf L S l) cps:=JK (fun _ hi=>hi.1) _ h
theorem ZDX{B S:Zb}{lvl:Nat}{cps:List IV}(h:Zc (Qf B S lvl) cps)(js:List Nat):VW lvl js cps=True:=eq_true (JK (fun i hi e=>absurd e (by have:=hi.1;omega)) _ h)
theorem ZDY{B S:Zb}{lvl:Nat}{cs:List (List Tr)}:Zc (Qf B S lvl) (cs.map IV.ta):=by rw[Vf];trivial
theorem ZDZ(b:TBigraph)(l:Int)(e:Int)(o:List ByteArray)(tf:FuncId)(cps:List IV)(B:Zb)(T:Int×ByteArray->Int×ByteArray)(he0:0<=b.edges)(hl:Z6 b l)(ho:b.outer.length<=4294967296)(hb:b.edges<=4294967296)(he:0<=e/\e<=4294967296)(hol:o.length<=4294967296)
  (hT:∀ l' S',Zc (Qf B S' l') cps->Sem Ucb tf l' (oE (Yn b l)::cps) S' (oE (T (Yn b l))) S')
  (lvl:Nat) (S:Zb) (hcp:Zc (Qf B S lvl) cps) (iT iO io:Zd) (c0 c1 c2 c3 c5:IV) (hwo ver:Nat) (u:Bool) (hT1:iT.1<lvl) (hO1:iO.1<lvl) (ho1:io.1<lvl) (sT:S iT=some (.bx [.fn tf cps])) (sO:S iO=some (.bx [c0,c1,c2,c3,.hd io [] 0 o.length none hwo,c5])) (so:S io=some (.ar 1 (rS o) u hwo ver)) :
  Sem Ucb Zde lvl [iI l,.ab iT 0,.ta (Zh b),.ta [tv e],.ab iO 0] S (iI (J1 b e o T l)) S:=by
 have hneT:iT.1≠lvl:=by omega
 have hneO:iO.1≠lvl:=by omega
 have hneo:io.1≠lvl:=by omega
 refine Zl ZCP trivial ?_;simp only[ZmT,Zh,J0 hneT,sT,Za,seval,Zc,men];refine Zf (ZDQ b l he0 hl ho hb) ?_;simp only[Za,seval];refine Zct (fun l' S' hs=>hT l' S' (ZnV hcp (ZnW hs.2))) ?_;simp only[Za,seval];unfold J1;by_cases h2:(T (Yn b l)).2=Ja
 ·rw[if_pos h2];simp only[h2,seval]
 ·rw[if_neg h2];simp only[h2,J0 hneO,J0 hneo,sO,so,Za,seval,Zc,men];rw[show cut (rS o) 0 o.length=rS o from Ym (by rw[Uaa])];refine Zf (ZnU o (T (Yn b l)).2 (by omega)) ?_;have:=U0 (l:=o) (s:=(T (Yn b l)).2);have:=Ud (l:=o) (s:=(T (Yn b l)).2);simp only[Za,seval];rw[Ze];omega
theorem Zhv{y:List Int}{j:Nat}{v:Int}(h:j<y.length):ZK (rI y) [] j 0 (.v (.int .i64 v))=rI (y.set j v):=by simp only[ZK];rw[JC h];exact(UbE (f:=fun n:Int=>[tv n]) (l:=y) (i:=j) (a:=v)).symm
def VI(F:Int->Int)(x:TNode):TNode:=⟨x.control,x.parent,x.links.map F⟩
def Jx(F:Int->Int)(l:List TNode)(j:Nat):List TNode:=(l.take j).map (VI F)++l.drop j
def Jq(F:Int->Int)(l:List Int)(k:Nat):List Int:=(l.take k).map F++l.drop k
theorem Zbt{F:Int->Int}{l:List Int}{k:Nat}:(Jq F l k).length=l.length:=by simp [Jq];omega
theorem Zhw{F:Int->Int}{l:List Int}{k:Nat}(h:k<l.length):g0 (Jq F l k) k=g0 l k:=by
 show (Jq F l k).getD k 0=l.getD k 0;have:((l.take k).map F).length=k:=by rw[Uaa,Uai];omega
 rw[UaD,UaD,Jq,Uas (by omega),this,UaM];simp
theorem Zhx{F:Int->Int}{l:List Int}{k:Nat}(h:k<l.length):(Jq F l k).set k (F (g0 l k))=Jq F l (k+1):=by
 have hl:((l.take k).map F).length=k:=by rw[Uaa,Uai];omega
 have e:g0 l k=l[k]:=by simp [h]
 unfold Jq;rw[Ubh _ _ (by omega),hl,Ubi,UaA h,List.set_cons_zero,Uag h,Uaw,e,UaR];rfl
theorem ZdG{F:Int->Int}{l:List TNode}{j:Nat}:(Jx F l j).length=l.length:=by simp [Jx];omega
theorem Zhy{F:Int->Int}{l:List TNode}{j:Nat}(h:j<l.length):(Jx F l j)[j]? = some l[j]:=by
 have:((l.take j).map (VI F)).length=j:=by rw[Uaa,Uai];omega
 rw[Jx,Uas (by omega),this,UaM];simp [h]
theorem ZnX{F:Int->Int}{l:List TNode}{j:Nat}(h:j<l.length):(Jx F l j).set j (VI F l[j])=Jx F l (j+1):=by
 have hl:((l.take j).map (VI F)).length=j:=by rw[Uaa,Uai];omega
 unfold Jx;rw[Ubh _ _ (by omega),hl,Ubi,UaA h,List.set_cons_zero,Uag h,Uaw,UaR];rfl
def JL(F:Int->Int)(w:TWire):TWire:=⟨w.name,F w.link⟩
def Yw(F:Int->Int)(l:List TWire)(j:Nat):List TWire:=(l.take j).map (JL F)++l.drop j
theorem ZD0{F:Int->Int}{l:List TWire}{j:Nat}:(Yw F l j).length=l.length:=by simp [Yw];omega
theorem Zhz{F:Int->Int}{l:List TWire}{j:Nat}(h:j<l.length):(Yw F l j)[j]? = some l[j]:=by
 have:((l.take j).map (JL F)).length=j:=by rw[Uaa,Uai];omega
 rw[Yw,Uas (by omega),this,UaM];simp [h]
theorem ZhA{F:Int->Int}{l:List TWire}{j:Nat}(h:j<l.length):(Yw F l j).set j (JL F l[j])=Yw F l (j+1):=by
 have hl:((l.take j).map (JL F)).length=j:=by rw[Uaa,Uai];omega
 unfold Yw;rw[Ubh _ _ (by omega),hl,Ubi,UaA h,List.set_cons_zero,Uag h,Uaw,UaR];rfl
theorem ZnY{X:List TNode}{j k:Nat}{x:TNode}{v:Int}(h:X[j]? = some x)(hk:k<x.links.length):ZK (X.map ZQ) [(j,2)] k 0 (.v (.int .i64 v))=(X.set j ⟨x.control,x.parent,x.links.set k v⟩).map ZQ:=by
 have h1:=Zhv (y:=x.links) (j:=k) (v:=v) hk;have e1:ZK (X.map ZQ) [(j,2)] k 0 (.v (.int .i64 v))=(X.map ZQ).set j [tv x.control,tv x.parent,Tr.sl (ZK (rI x.links) [] k 0 (.v (.int .i64 v)))]:=by simp only[ZK,Uao,h,Option.map_some,ZQ,List.getElem?_cons_succ,List.getElem?_cons_zero,List.set_cons_succ,List.set_cons_zero]
 rw[e1,h1,UbE];rfl
theorem ZnZ(b:TBigraph)(e:Int)(o:List ByteArray)(tf:FuncId)(cps:List IV)(B:Zb)(T:Int×ByteArray->Int×ByteArray)(he0:0<=b.edges)(hbd:Jo 4294967290 b)(hb:b.edges<=4294967296)(he:0<=e/\e<=4294967296)(ho:o.length<=4294967290)
  (hln:∀ x∈b.nodes,∀ l∈x.links,Z6 b l) (hlw:∀ w∈b.inner,Z6 b w.link) (hT:∀ l,Z6 b l->∀ l' S',Zc (Qf B S' l') cps->Sem Ucb tf l' (oE (Yn b l)::cps) S' (oE (T (Yn b l))) S')
  (lvl:Nat) (S:Zb) (hcp:Zc (Qf B S lvl) cps):Sem Ucb Wr lvl [.ag ((Zh b).map .tr),iI e,.tr (.sl (rS o)),.fn tf cps] S (ZA (Jp b (J1 b e (ZN o) T) e (ZN o))) S:=by
 have hok:=ZDX hcp;refine Zl ZCd (by simp [ZA,low,men,Zc]) ?_;simp only[Zmg,Zh,Za,seval,Zc,men];refine Zf (ZdD b hbd) ?_;simp only[ZA,Uaa,Za,seval,Zc,men];refine Zf (ZnS o ho) ?_;obtain⟨b1,b2,b3,b4,b5,b6,b7⟩:=hbd;simp only[Uaa,Za,seval];have hFdef:∃ F,F=J1 b e (ZN o) T:=⟨_,rfl⟩;obtain⟨F,hF⟩:=hFdef;rw[<-hF];have hsl:(ZN o).length<=4294967296:=UaG ZnF (by omega)
 have hc:∀(loc:List (Nat×Ob)) (l:Int),Z6 b l->lkO 224 loc=some (.bx [.fn tf cps])->lkO 288 loc=some (.bx [iI b.roots,.hd (lvl,576) [] 0 b.nodes.length none b.nodes.length,.hd (lvl,577) [] 0 b.sites.length none b.sites.length,iI e,.hd (lvl,672) [] 0 (ZN o).length none (ZN o).length,.hd (lvl,579) [] 0 b.inner.length none b.inner.length])->lkO 672 loc=some (.ar 1 (rS (ZN o)) true (ZN o).length 0) ->
   ∀ l' S',Zc (XY (ZF lvl loc S) S' l') [iI l,.ab (lvl,224) 0,.ta (Zh b),.ta [tv e],.ab (lvl,288) 0]->Sem Ucb Zde l' [iI l,.ab (lvl,224) 0,.ta (Zh b),.ta [tv e],.ab (lvl,288) 0] S' (iI (F l)) S':=fun loc l hl h1 h2 h3 l' S' hs=>by
  simp only[Zc,men] at hs;obtain⟨_,h224,_,_,h288,_⟩:=hs;have sT:=h224.1.2 _ (by rw[J3];exact h1);have hc2:=h224.2 _ (by rw[J3];exact h1);simp only[Zc,men,and_true] at hc2;have sO:=h288.1.2 _ (by rw[J3];exact h2);have hm:=h288.2 _ (by rw[J3];exact h2);simp only[Zc,men] at hm;obtain⟨_,_,_,_,h672,_,_⟩:=hm;have so:=h672.2 _ (by rw[J3];exact h3);rw[hF];exact ZDZ b l e (ZN o) tf cps B T he0 hl (by omega) hb he hsl (hT l hl) l' S' (ZnV hcp hc2) (lvl,224) (lvl,288) (lvl,672) _ _ _ _ _ _ _ _ h224.1.1 h288.1.1 h672.1 sT sO so
 refine ZP (α:=Unit) b.nodes.length (fun j _=>[(28,iI j)]) (fun j _=>[(576,.ar 3 ((Jx F b.nodes j).map ZQ) true b.nodes.length 0)]) (fun _ _=>True) () (by simp only[hok,Za,seval]) (by (simp only[Za,seval])<;>rfl) trivial ?_;intro j _ hj _;simp only[Za,seval];refine Zv (fun hlt=>?_) (fun hge=>?_)
 ·have hja:j<b.nodes.length:=by omega
  have gp:=Zhy (F:=F) hja;have ga:((Jx F b.nodes j).map ZQ)[j]? = some [Tr.v (.int .i64 b.nodes[j].control),Tr.v (.int .i64 b.nodes[j].parent),Tr.sl (rI b.nodes[j].links)]:=by rw[Uao,gp];rfl
  have hkl:b.nodes[j].links.length<=4294967290:=b2 _ (Uaj hja);simp only[ga,hja,Uaa,Za,seval];have e0:(Jx F b.nodes j).set j ⟨b.nodes[j].control,b.nodes[j].parent,Jq F b.nodes[j].links 0⟩=Jx F b.nodes j:=by have:(⟨b.nodes[j].control,b.nodes[j].parent,Jq F b.nodes[j].links 0⟩:TNode)=b.nodes[j]:=(by simp [Jq]);rw[this];have hl:j<(Jx F b.nodes j).length:=(by rw[ZdG];exact hja);have e:b.nodes[j]=(Jx F b.nodes j)[j]:=(by have:=gp;rw[Uak hl] at this;exact(UaT this).symm);rw[e];exact UbG hl
  refine ZP (α:=Unit) b.nodes[j].links.length (fun k _=>[(35,iI k)]) (fun k _=>[(576,.ar 3 (((Jx F b.nodes j).set j ⟨b.nodes[j].control,b.nodes[j].parent,Jq F b.nodes[j].links k⟩).map ZQ) true b.nodes.length 0)]) (fun _ _=>True) () (by simp only[hok,Za,seval]) (by (simp only[e0,Za,seval])<;>rfl) trivial ?_;intro k _ hk _;have gq:((Jx F b.nodes j).set j ⟨b.nodes[j].control,b.nodes[j].parent,Jq F b.nodes[j].links k⟩)[j]? = some ⟨b.nodes[j].control,b.nodes[j].parent,Jq F b.nodes[j].links k⟩:=by rw[Ua7 (by rw[ZdG];exact hja)]
  have hgp:(((Jx F b.nodes j).set j ⟨b.nodes[j].control,b.nodes[j].parent,Jq F b.nodes[j].links k⟩).map ZQ)[j]? = some [Tr.v (.int .i64 b.nodes[j].control),Tr.v (.int .i64 b.nodes[j].parent),Tr.sl (rI (Jq F b.nodes[j].links k))]:=by rw[Uao,gq];rfl
  simp only[hgp,Za,seval];refine Zv (fun hlt2=>?_) (fun hge2=>?_)
  ·have hka:k<b.nodes[j].links.length:=(by omega);have hpl:=Zbt (F:=F) (l:=b.nodes[j].links) (k:=k);have gk:(rI (Jq F b.nodes[j].links k))[k]? = some [tv (g0 b.nodes[j].links k)]:=(by rw[JC (by omega),Zhw hka]);have hlk:Z6 b (g0 b.nodes[j].links k):=hln _ (Uaj hja) _ (by simp [hka]);have hsp:=ZnY (v:=F (g0 b.nodes[j].links k)) gq (k:=k) (by show k<(Jq F b.nodes[j].links k).length;omega);simp only[hgp,gk,hka,Uax,Za,seval];refine Zct (hc _ (g0 b.nodes[j].links k) hlk rfl rfl rfl) ?_;have hst:((Jx F b.nodes j).set j ⟨b.nodes[j].control,b.nodes[j].parent,Jq F b.nodes[j].links k⟩).set j ⟨b.nodes[j].control,b.nodes[j].parent,(Jq F b.nodes[j].links k).set k (F (g0 b.nodes[j].links k))⟩=(Jx F b.nodes j).set j ⟨b.nodes[j].control,b.nodes[j].parent,Jq F b.nodes[j].links (k+1)⟩:=(by rw[Ubk,Zhx hka]);rw[hst] at hsp;simp only[hgp,gk,hka,hsp,hok,Uax,Za,seval];exact⟨by rw[Ze];omega,Zz () hka rfl trivial⟩
  ·have:k=b.nodes[j].links.length:=(by omega);subst this;have hst:(Jx F b.nodes j).set j ⟨b.nodes[j].control,b.nodes[j].parent,Jq F b.nodes[j].links b.nodes[j].links.length⟩=Jx F b.nodes (j+1):=(by rw[<-ZnX hja];congr 1;simp [VI,Jq]);rw[hst];simp only[hok,Za,seval];exact⟨by rw[Ze];omega,Zz () hja rfl trivial⟩
 ·have:j=b.nodes.length:=by omega
  subst this;have hpn:Jx F b.nodes b.nodes.length=(Jp b F e (ZN o)).nodes:=by simp [Jx,Jp,VI]
  rw[hpn];refine ZP (α:=Unit) b.inner.length (fun j _=>[(52,iI j)]) (fun j _=>[(579,.ar 2 ((Yw F b.inner j).map ZS) true b.inner.length 0)]) (fun _ _=>True) () (by simp only[hok,Za,seval]) (by (simp only[Za,seval])<;>rfl) trivial ?_;intro j _ hj _;simp only[Uaa,Za,seval];refine Zv (fun hlt=>?_) (fun hge=>?_)
  ·have hja:j<b.inner.length:=(by omega);have gp:=Zhz (F:=F) hja;have ga:((Yw F b.inner j).map ZS)[j]? = some [ts b.inner[j].name,tv b.inner[j].link]:=(by rw[Uao,gp];rfl);have hsp:ZK ((Yw F b.inner j).map ZS) [] j 1 (.v (.int .i64 (F b.inner[j].link)))=(Yw F b.inner (j+1)).map ZS:=(by simp only[ZK];rw[ga,<-ZhA hja,UbE];rfl);have hlk:Z6 b b.inner[j].link:=hlw _ (Uaj hja);simp only[ga,hja,Uax,Za,seval];refine Zct (hc _ b.inner[j].link hlk rfl rfl rfl) ?_;simp only[ga,hja,hsp,hok,Uax,Za,seval];exact⟨by rw[Ze];omega,Zz () hja rfl trivial⟩
  ·have:j=b.inner.length:=(by omega);subst this;have hpw:Yw F b.inner b.inner.length=(Jp b F e (ZN o)).inner:=(by simp [Yw,Jp,JL]);rw[hpw];exact⟨by simp [Jp],by simp [Jp],rfl⟩
theorem ZdH(b:TBigraph)(e:Int)(o:List ByteArray)(tf:FuncId)(cs:List (List Tr))(T:Int×ByteArray->Int×ByteArray)(he0:0<=b.edges)(hbd:Jo 4294967290 b)(hb:b.edges<=4294967296)(he:0<=e/\e<=4294967296)(ho:o.length<=4294967290)
  (hln:∀ x∈b.nodes,∀ l∈x.links,Z6 b l) (hlw:∀ w∈b.inner,Z6 b w.link) (hT:∀ l,Z6 b l->∀ lvl S,Sem Ucb tf lvl (oE (Yn b l)::cs.map IV.ta) S (oE (T (Yn b l))) S)
  (lvl:Nat) (S:Zb):Sem Ucb Wr lvl [.ag ((Zh b).map .tr),iI e,.tr (.sl (rS o)),.fn tf (cs.map IV.ta)] S (ZA (Jp b (J1 b e (ZN o) T) e (ZN o))) S :=
 ZnZ b e o tf (cs.map IV.ta) (fun _=>none) T he0 hbd hb he ho hln hlw (fun l hl l' S' _=>hT l hl l' S') lvl S ZDY
end Go.Fd
namespace Go.Fd
open Go.Proofs.Tryz renaming prog->Ucb
set_option maxRecDepth 20000
theorem ZD1:Zk Ucb ZcV (Q5 1 none)=true:=by kernel_rfl
theorem ZD2(l:List ByteArray)(hl:l.length<=4294967290)(f:ByteArray->Bool){fe:FuncId}{cs:List (List Tr)}(hf:∀ x lvl S,Sem Ucb fe lvl (iS x::cs.map IV.ta) S (iB (f x)) S)(lvl:Nat)(S:Zb)(id:Zd)(u:Bool)(hw ver:Nat)(hid:id.1<lvl)(hS:S id=some (.ar 1 (rS l) u hw ver)) :
  ∃ v2,Sem Ucb Zg1 lvl [.hd id [] 0 l.length none hw,.fn fe (cs.map IV.ta)] S (.hd id [] 0 (l.filter fun n=>!f n).length none hw) (Zo S id (.ar 1 (rS (l.filter fun n=>!f n)) u hw v2)):=by
 have hne:id.1≠lvl:=by omega
 have hix:=Znb (P:=Ucb) ZD1 (t:=fun n:ByteArray=>ts n) (f:=f) (fe:=fe) (cs:=cs) l (by omega) (fun x _ lvl S=>hf x lvl S);rcases Zhs (f:=f) (l:=l) (j:=0) with ⟨h1,h2⟩ | ⟨i0,h,h1,h2,h3⟩
 ·refine⟨ver,?_⟩;rw[ZnM h2,Wn hS];refine Zl Zm2 hid ?_;simp only[Zha,Q6,Vf,J0 hne,hS,Za,seval,Zc,men];rw[show cut (rS l) 0 l.length=rS l from Ym (by rw[Uaa])];refine Zf hix ?_;simp only[h1,ZaM hne,Za,seval]
 ·refine⟨ver+1,?_⟩;rw[Int.zero_add] at h1;refine Zl Zm2 hid ?_;simp only[Zha,Q6,Vf,J0 hne,hS,Za,seval,Zc,men];rw[show cut (rS l) 0 l.length=rS l from Ym (by rw[Uaa])];refine Zf hix ?_;have hm1:¬ (i0:Int) = -1:=by omega
  simp only[h1,hm1,Za,seval];refine⟨by rw[Ze];omega,?_⟩;have f0:(l.take i0).filter (fun n=>!f n)=l.take i0:=ZnM h2;have f1:(l.take (i0+1)).filter (fun n=>!f n)=l.take i0:=by rw[ZnN h,f0,if_pos h3,Ubm]
  refine J9 (α:=Nat×List ByteArray) l.length (fun m x=>⟨lvl,[(0,.hd id [] 0 l.length none hw),(1,.fn fe (cs.map IV.ta)),(5,iI (x.1:Int)),(6,iI ((i0+1+m:Nat):Int))],[],Zo S id (.ar 1 (rS x.2) u hw ver)⟩) (fun m x=>i0+1+m<=l.length/\x.2.length=l.length/\x.1=((l.take (i0+1+m)).filter fun n=>!f n).length/\x.2.take x.1=(l.take (i0+1+m)).filter (fun n=>!f n)/\x.1<=i0+m/\∀ q,i0+1+m<=q->gS x.2 q=gS l q) (i0,l) ⟨by simp only[J8 hne,UX,Za,seval],by (simp only[Wn hS,Za,seval])<;>rfl⟩ ⟨by omega,rfl,by rw[Nat.add_zero,f1,Uai];omega,by rw[Nat.add_zero,f1],by omega,fun _ _=>rfl⟩ ?_;intro m ⟨i,y⟩ hm ⟨hm1,hy,hi,ht,hle,hq⟩;dsimp only at hy hi ht hle hq;simp only[Za,seval];refine Zv (fun hlt2=>?_) (fun hge2=>?_)
  ·have b1:i0+1+m<l.length:=(by omega);have gy:=JS (e0:=Ja) (c:=fun n:ByteArray=>[ts n]) (l:=y) (i:=i0+1+m) (by omega);have q1:=hq (i0+1+m) (by omega);have b4:i<l.length:=(by omega);have e0:gS l (i0+1+m)=l[i0+1+m]:=YB b1;have fs:=ZnN (f:=f) b1;simp only[J0 hne,YU,gy,q1,b1,Q6,Vf,Uax,Za,seval,Zc,men];refine Zf (hf (gS l (i0+1+m))) ?_;rw[<-e0] at fs;cases hx:f (gS l (i0+1+m)) with
   | true =>
    rw[if_pos hx,Ubm] at fs;simp only[J8 hne,UX,Za,seval];exact⟨by rw[Ze];omega,Zz (i,y) (by omega) rfl ⟨by omega,hy,by rw[show i0+1+(m+1)=i0+1+m+1 from rfl,fs];exact hi,by rw[show i0+1+(m+1)=i0+1+m+1 from rfl,fs];exact ht,by show i<=i0+(m+1);omega,fun q hqq=>hq q (by omega)⟩⟩
   | false =>
    rw[if_neg (by rw[hx];decide)] at fs;have s1:=ZdA (y:=y) (j:=i) (v:=gS l (i0+1+m)) (by omega);have gy0:=JS (e0:=Ja) (c:=fun n:ByteArray=>[ts n]) (l:=y) (i:=i) (by omega);simp only[J0 hne,Xr hne,Xu,YU,gy0,b4,s1,Uax,J8 hne,UX,Za,seval];exact⟨by rw[Ze];omega,by rw[Ze];omega,Zz (i+1,y.set i (gS l (i0+1+m))) (by omega) rfl ⟨by omega,by rw[UaU];exact hy,by rw[show i0+1+(m+1)=i0+1+m+1 from rfl,fs,Uac,<-hi];rfl,by rw[ZnA (by omega),ht,show i0+1+(m+1)=i0+1+m+1 from rfl,fs],by show i+1<=i0+(m+1);omega,fun q hqq=>by
     show gx Ja (y.set i (gS l (i0+1+m))) q=_;rw[Zdy (by omega),if_neg (by omega)];exact hq q (by omega)⟩⟩
  ·have en:i0+1+m=l.length:=(by omega);rw[en,Uap] at hi ht;refine⟨by omega,Zbj hne (YU ..),?_⟩;have tk:(rS y).take i=rS (l.filter fun n=>!f n):=(by rw[<-ht];exact(Ubj ..).symm);simp only[J0 hne,Xr hne,Xu,YU,tk,Uaa,hy,Za,seval];refine⟨by omega,by omega,by omega,by omega,Zbj hne (YU ..),?_⟩;simp only[ZaM hne,Nat.sub_zero,hi,Za,seval]
theorem ZD3(x s:ByteArray)(lvl:Nat)(S:Zb):Sem Ucb Zdj lvl [iS x,.ta [ts s]] S (iB (decide (x=s))) S:=by refine Zl ZCY trivial ?_;simp only[Zm3,Za,seval]
theorem ZD4(o:List ByteArray)(s:ByteArray)(ho:o.length<=4294967290)(lvl:Nat)(S:Zb):Sem Ucb ZgY lvl [.tr (.sl (rS o)),iS s] S (.ow 1 (rS (JT o s)) true) S:=by
 refine Zl ZCM trivial ?_;simp only[ZmQ,Za,seval,Zc,men];refine Zf (Zbp o (by omega)) ?_;simp only[Za,seval];have h1:=fun S' hS=>ZD2 o ho (fun n=>decide (n=s)) (fe:=Zdj) (cs:=[[ts s]]) (fun n lvl S=>ZD3 n s lvl S) (lvl+1) S' (lvl,192) true o.length 0 (Ua2 _) hS;refine ZnB 192 _ (h1 _ ?_) fun v=>?_
 ·rw[J3];rfl
 simp only[Uaa,Za,seval];rfl
theorem ZD5(b:TBigraph)(s:ByteArray)(e:Int×ByteArray)(lvl:Nat)(S:Zb):Sem Ucb Zdc lvl [oE e,.ta [ts s],.ta (Zh b)] S (oE (DZ b s e)) S:=by
 refine Zl ZCN (by simp [low,men,Zc]) ?_;simp only[ZmR,Zh,Za,seval];unfold DZ;by_cases h:e.2=s
 ·rw[if_pos h];simp only[h,seval];try rfl
 ·rw[if_neg h];simp only[h,seval];try rfl
theorem ZdI(sig:List TControl)(b:TBigraph)(hn:sig.length<=4294967296)(hbs:∀ y∈sig,Z9 4294967296 y)(hb:Jo 4294967290 b)(hf:JM b)(lvl:Nat)(S:Zb):Sem Ucb DL lvl [.tr (.sl (sig.map Zx)),.ag ((Zh b).map .tr)] S (.tu [ZA (@ite TBigraph (bigOK sig b) (Classical.propDecidable _) b ⟨0,[],[],0,[],[]⟩),iB (dc (bigOK sig b))]) S:=by
 have hb2:Jo 4294967296 b:=by obtain⟨b1,b2,b3,b4,b5,b6,b7⟩:=hb;exact⟨by omega,fun y hy=>UaG (b2 y hy) (by omega),by omega,by omega,fun y hy=>UaG (b5 y hy) (by omega),by omega,fun y hy=>UaG (b7 y hy) (by omega)⟩
 refine Zl ZCa (by simp [ZA,low,men,Zc]) ?_;simp only[Zmd,Zh,Za,seval,Zc,men];refine Zf (UZ sig b hn hbs hb2) ?_;cases h:dc (bigOK sig b)
 ·rw[if_neg (dc_not.1 h)];simp only[Za,seval];try rfl
 ·rw[if_pos (dc_iff.1 h)];simp only[Za,seval,Zc,men];refine Zf (ZdD b hb) ?_;simp only[ZA,Uaa,Za,seval];try rfl
theorem ZD6{n:Nat}{k:Nat}(h:k<n):g0 (JD 0 n) k = -1-(k:Int):=by show (JD 0 n).getD k 0=_;rw[UaD,JD,Uao,Uby h];simp
theorem ZdJ{b:TBigraph}{n:Nat}(hn:b.roots=n){p:Int}(h:-b.roots<=p):Ya 0 (JD 0 n) p=p:=by
 unfold Ya;split
 ·rw[ZD6 (by omega)];omega
 ·omega
theorem Yo{sig:List TControl}{b:TBigraph}{p below:Int}(hr:0<=b.roots)(h:YA sig b p below):-b.roots<=p:=by rcases h with h | h<;>omega
theorem ZD7(sig:List TControl)(b:TBigraph)(h:bigOK sig b)(ls:List Int)(e:Int)(o:List ByteArray)(hb:Jo 4294967296 b)(hls:∀ l,Z6 b l->l<ls.length)(ho:o.length<=4294967290)(lvl:Nat)(S:Zb):Sem Ucb ZgS lvl [.ag ((Zh b).map .tr),tI ls,iI e,.tr (.sl (rS o))] S (ZA (Jp b (fun l=>g0 ls l.toNat) e o)) S:=by
 obtain⟨n,hn⟩:∃ n:Nat,b.roots=n:=⟨b.roots.toNat,by have:=h.roots;omega⟩;have hr:=h.roots;have hsm:=h.small;have hpar:∀ p,-b.roots<=p->p<=100->(-4294967296<=p/\p<=4294967296)/\(p<0->(-1-p).toNat<(JD 0 n).length):=fun p h1 h2=>⟨by omega,fun h3=>by rw[rootsN_len];omega⟩;have hN:∀ x∈b.nodes,x.links.length<=4294967290/\((-4294967296<=x.parent/\x.parent<=4294967296)/\(x.parent<0->(-1-x.parent).toNat<(JD 0 n).length))/\∀ l∈x.links,0<=l/\l<ls.length:=fun x hx=>by obtain⟨k,hk,rfl⟩:=Uar hx;have hnode:=h.nodes k hk;have hl:=hsm.links _ hx;have hnl:=h.nodesL;refine⟨by omega,hpar _ (Yo hr.1 hnode.par) ?_,fun l hl=>⟨(hnode.links l hl).1,hls l (hnode.links l hl)⟩⟩;have:=hnode.par;unfold YA at this;omega
 have hP:∀ p∈b.sites,(-4294967296<=p/\p<=4294967296)/\(p<0->(-1-p).toNat<(JD 0 n).length):=fun p hp=>by have hu:=h.sites p hp;have hnl:=h.nodesL;refine hpar _ (Yo hr.1 hu) ?_;unfold YA at hu;omega
 have hW:∀ w∈b.inner,0<=w.link/\w.link<ls.length:=fun w hw=>⟨(h.inner w hw).1,hls _ (h.inner w hw)⟩;have e1:b.nodes.map (Q8 0 (JD 0 n) ls)=(Jp b (fun l=>g0 ls l.toNat) e o).nodes:=by unfold Jp;refine UaC fun x hx=>?_;obtain⟨k,hk,rfl⟩:=Uar hx;unfold Q8;rw[ZdJ hn (Yo hr.1 (h.nodes k hk).par)]
 have e2:b.sites.map (Ya 0 (JD 0 n))=b.sites:=by have:b.sites.map (Ya 0 (JD 0 n))=b.sites.map id:=UaC fun p hp=>ZdJ hn (Yo hr.1 (h.sites p hp));rw[this,List.map_id]
 have s1:=hsm.nodes;have s2:=hsm.sites;have s3:=hsm.inner;refine Zl ZCp (by simp [ZA,low,men,Zc]) ?_;simp only[Zmt,Zh,hn,Za,seval,Zc,men];refine Zf (ZdE 0 n (by omega) (by omega)) ?_;simp only[Za,seval,Zc,men];have q1:=Zbr b 0 (JD 0 n) ls (by omega) (by omega) hN;rw[e1] at q1;simp only[Zh,hn,Uah,Uam] at q1;refine Zf q1 ?_;simp only[Uaa,Za,seval,Zc,men];have q2:=D0 b 0 (JD 0 n) (by omega) (by omega) hP;rw[e2] at q2;simp only[Zh,hn,Uah,Uam] at q2;refine Zf q2 ?_;simp only[QK,V8,Uaa,Za,seval,Zc,men];refine⟨by omega,?_⟩;have q3:=ZdF b ls (by omega) hW;rw[show b.inner.map (Uc ls)=(Jp b (fun l=>g0 ls l.toNat) e o).inner from rfl] at q3;simp only[Zh,hn,Uah,Uam] at q3;refine Zf q3 ?_;simp only[Uaa,Za,seval];rw[<-hn];rfl
def JN:TBigraph:=⟨0,[],[],0,[],[]⟩
theorem Zn0(sig:List TControl)(b:TBigraph)(hn:sig.length<=4294967296)(hbs:∀ y∈sig,Z9 4294967296 y)(hb:Jo 4294967296 b)(hf:JM b)(hG:bigOK sig b)(lvl:Nat)(S:Zb):Sem Ucb Za7 lvl [.tr (.sl (sig.map Zx)),.ag ((Zh b).map .tr)] S (.tu [.ag ((Zh b).map .tr),iB true]) S:=by refine Zl Zms (by simp [Zh,low,men,Zc]) ?_;simp only[Zg9,Zh,Za,seval,Zc,men];refine Zf (UY sig b hn hbs hb hf) ?_;rw[ZU hG];simp only[Za,seval]
theorem Zn1(sig:List TControl)(b:TBigraph)(hn:sig.length<=4294967296)(hbs:∀ y∈sig,Z9 4294967296 y)(hb:Jo 4294967296 b)(hf:JM b)(hG:¬ bigOK sig b)(lvl:Nat)(S:Zb):Sem Ucb Za7 lvl [.tr (.sl (sig.map Zx)),.ag ((Zh b).map .tr)] S (.tu [ZA JN,iB false]) S:=by refine Zl Zms (by simp [ZA,low,men,Zc]) ?_;simp only[Zg9,Zh,Za,seval,Zc,men];refine Zf (UY sig b hn hbs hb hf) ?_;rw[Zt hG];simp only[Za,seval];rfl
def VJ(sig:List TControl)(b:TBigraph)(s:ByteArray):Prop:=bigOK sig b/\s∈b.outer/\bigOK sig (YY b s)
theorem ZD8{b:TBigraph}{s:ByteArray}(h:0<=b.edges):((Qr b s).length:Int)=b.edges+b.outer.length:=by unfold Qr V7;rw[Uac,Uaa,Uaa,VH];omega
theorem ZD9{sig:List TControl}{b:TBigraph}{s:ByteArray}(h:bigOK sig b){l:Int}(hl:Z6 b l):0<=g0 (Qr b s) l.toNat/\g0 (Qr b s) l.toNat<=100:=by
 have he:=h.edges;have ho:=h.outer.2;unfold Qr;rcases Qq hl with ⟨h0,h1⟩ | ⟨i,hi,rfl⟩
 ·rw[XJ h0 h1];omega
 ·rw[XK h.edges.1 hi];split
  ·omega
  ·rename_i hne;have h1:b.outer[i]∈JT b.outer s:=lessN_mem.2 ⟨Uaj hi,hne⟩;have:=ixS_nn.2 h1;have:=ZdB h1;have:(JT b.outer s).length<=b.outer.length:=UbF ..;omega
theorem ZhB{sig:List TControl}{b:TBigraph}(h:bigOK sig b){F:Int->Int}{e:Int}{o:List ByteArray}(hb:Jo 4294967296 b)(ho:o.length<=100)(hos:∀ y∈o,y.size<=4294967290):Jo 4294967290 (Jp b F e o):=by
 obtain⟨b1,b2,b3,b4,b5,b6,b7⟩:=hb;have hs:=h.small;have s1:=hs.nodes;have s2:=hs.sites;have s3:=hs.inner;refine⟨by simp only[Jp,Uaa];omega,fun y hy=>?_,by simp only[Jp];omega,by simp only[Jp];omega,hos,by simp only[Jp,Uaa];omega,fun y hy=>?_⟩
 ·obtain⟨x,hx,rfl⟩:=Uau.1 hy;have:=hs.links x hx;simp only[ZaW,Uaa];omega
 ·obtain⟨w,hw,rfl⟩:=Uau.1 hy;have hn:w.name∈inn b:=Uau.2 ⟨w,hw,rfl⟩;obtain⟨i,hi,hie⟩:=Uar hn;have:=(h.inn.1 i hi).1.2.2;rw[hie] at this;simp only[W8];omega
theorem Zn2{sig:List TControl}{b:TBigraph}(h:bigOK sig b){F:Int->Int}{e:Int}{o:List ByteArray}(hf:JM b)(hF:∀ l,Z6 b l->0<=F l/\F l<=100)(he:ZZ .i64 e):JM (Jp b F e o):=by
 obtain⟨f1,f2,f3,f4,f5⟩:=hf;refine⟨f1,fun y hy=>?_,f3,he,fun y hy=>?_⟩
 ·obtain⟨x,hx,rfl⟩:=Uau.1 hy;have hq:=f2 x hx;obtain⟨i,hi,hie⟩:=Uar hx;refine⟨hq.1,hq.2.1,fun l hl=>?_⟩;obtain⟨l0,hl0,rfl⟩:=Uau.1 hl;have:=hF l0 ((h.nodes i hi).links l0 (by rw[hie];exact hl0));rw[Ze];omega
 ·obtain⟨w,hw,rfl⟩:=Uau.1 hy;have:=hF _ (h.inner w hw);show ZZ .i64 (F w.link);rw[Ze];omega
theorem QL{l:List ByteArray}(h:Vg l){s:ByteArray}(hs:s∈l):s.size<=4:=by obtain⟨i,hi,rfl⟩:=Uar hs;exact(h.1 i hi).1.2.2
theorem ZhC{sig:List TControl}{b:TBigraph}{s:ByteArray}(h:bigOK sig b)(hb:Jo 4294967296 b):Jo 4294967290 (YY b s) :=
 ZhB h hb (UaG (UbF ..) (by have:=h.outer.2;omega)) fun y hy=>by have:=QL h.outer (lessN_mem.1 hy).1;omega
theorem ZhD{sig:List TControl}{b:TBigraph}{s:ByteArray}(h:bigOK sig b)(hf:JM b):JM (YY b s) :=
 Zn2 h hf (fun l hl=>ZD9 h hl) (by have:=h.edges;rw[Ze];omega)
end Go.Fd
namespace Go.Fd
open Go.Proofs.Tryz renaming prog->Ucb
set_option maxRecDepth 20000
open Classical in
noncomputable def XL(sig:List TControl)(b:TBigraph)(s:ByteArray):TBigraph:=if VJ sig b s then YY b s else JN
noncomputable def XM(sig:List TControl)(b:TBigraph)(s:ByteArray):Bool:=dc (VJ sig b s)
theorem VK{a c:Nat}{b:TBigraph}(h:a<=c)(hb:Jo a b):Jo c b:=by obtain⟨b1,b2,b3,b4,b5,b6,b7⟩:=hb;exact⟨by omega,fun y hy=>UaG (b2 y hy) h,by omega,by omega,fun y hy=>UaG (b5 y hy) h,by omega,fun y hy=>UaG (b7 y hy) h⟩
theorem Q9{sig:List TControl}{b:TBigraph}(h:bigOK sig b):Jo 1000 b:=by
 have hs:=h.small;have s1:=hs.nodes;have s2:=hs.sites;have s3:=hs.inner;have s4:=hs.outer;refine⟨by omega,fun y hy=>hs.links y hy,by omega,by omega,fun y hy=>?_,by omega,fun w hw=>?_⟩
 ·have:=QL h.outer hy;omega
 ·have hn:w.name∈inn b:=Uau.2 ⟨w,hw,rfl⟩;have:=QL h.inn hn;simp only[W8];omega
theorem ZEa(sig:List TControl)(b:TBigraph)(s:ByteArray)(h:bigOK sig b)(hs:s∈b.outer)(lvl:Nat)(S:Zb):Sem Ucb ZgL lvl [.ag ((Zh b).map .tr),iS s] S (ZA (YY b s)) S:=by
 have hsm:=h.small;have s4:=hsm.outer;have he:=h.edges;have hle:(JT b.outer s).length<=16:=UaG (UbF ..) s4;refine Zl ZCc (by simp [ZA,low,men,Zc]) ?_;simp only[Zmf,Zh,Za,seval,Zc,men];refine⟨by rw[Ze];omega,?_⟩;refine Zf (ZD4 b.outer s (by omega)) ?_;simp only[Za,seval,Zc,men];have q:=ZdH b (b.edges+1) (JT b.outer s) Zdc [[ts s],Zh b] (DZ b s) he.1 (VK (by omega) (Q9 h)) (by omega) (by omega) (by omega) (fun x hx l hl=>by
  obtain⟨k,hk,rfl⟩:=Uar hx;exact(h.nodes k hk).links l hl) h.inner (fun l hl lvl S=>ZD5 b s (Yn b l) lvl S)
 rw[ZDO h hs] at q;simp only[Zh,Uah,Uam] at q;refine Zf q ?_;simp only[ZA,Uaa,Za,seval]
theorem ZEb(sig:List TControl)(b:TBigraph)(s:ByteArray)(hn:sig.length<=4294967296)(hbs:∀ y∈sig,Z9 4294967296 y)(hb:Jo 4294967296 b)(_hs:s.size<=4294967296)(hf:JM b)(lvl:Nat)(S:Zb):Sem Ucb Zgy lvl [.tr (.sl (sig.map Zx)),.ag ((Zh b).map .tr),iS s] S (.tu [ZA (XL sig b s),iB (XM sig b s)]) S:=by
 refine Zl ZBR (by simp [ZA,low,men,Zc]) ?_;simp only[ZlU,Zh,Za,seval,Zc,men];refine Zf (UZ sig b hn hbs hb) ?_;unfold XL XM;cases h1:dc (bigOK sig b)
 ·have hno:¬ VJ sig b s:=fun g=>dc_not.1 h1 g.1;rw[if_neg hno,Zt hno];simp only[Za,seval];rfl
 have hG:=dc_iff.1 h1;simp only[Za,seval,Zc,men];refine Zf (Wx b.outer s (by have:=hb.2.2.2.1;omega)) ?_;cases h2:dc (s∈b.outer)
 ·have hno:¬ VJ sig b s:=fun g=>dc_not.1 h2 g.2.1;rw[if_neg hno,Zt hno];simp only[Za,seval];rfl
 have hM:=dc_iff.1 h2;simp only[Za,seval,Zc,men];have q:=ZEa sig b s hG hM;simp only[Zh,Uah,Uam] at q;refine Zf q ?_;simp only[ZA,Za,seval,Zc,men];have qv:=ZdI sig (YY b s) hn hbs (ZhC hG hb) (ZhD hG hf);simp only[Zh,Uah,Uam] at qv;refine Zf qv ?_;cases h3:dc (bigOK sig (YY b s))
 ·have hno:¬ VJ sig b s:=fun g=>dc_not.1 h3 g.2.2;rw[if_neg hno,Zt hno,if_neg (dc_not.1 h3)];simp only[ZA,Za,seval];rfl
 ·have hyes:VJ sig b s:=⟨hG,hM,dc_iff.1 h3⟩;rw[if_pos hyes,ZU hyes,if_pos (dc_iff.1 h3)];simp only[ZA,Uaa,Za,seval]
theorem Zn3{n:Nat}:YC 0 n=(Je n).map fun l=>l:=by simp [YC,Je]
theorem ZEc{o:List ByteArray}{s:ByteArray}(hp:o.Pairwise ltS)(hs:s∈o){j:Nat}(h:j<o.length):(j:Int)=Jh o s↔o[j]=s:=by
 obtain⟨k,hk,rfl⟩:=Uar hs;rw[ZDM hp hk];constructor
 ·intro e;have:j=k:=by omega
  subst this;rfl
 ·intro e;have:=ZnQ hp h hk e;omega
def Qs(b:TBigraph)(g:ByteArray->Int)(j:Nat):List Int:=(Je b.edges.toNat).map (fun l=>l)++(b.outer.take j).map g
theorem ZEd{b:TBigraph}{g:ByteArray->Int}{j:Nat}(h:j<=b.outer.length):(Qs b g j).length=b.edges.toNat+j:=by unfold Qs;rw[Uac,Uaa,Uaa,VH,Uai];omega
theorem ZEe{b:TBigraph}{g:ByteArray->Int}{j:Nat}(h:j<b.outer.length):Qs b g (j+1)=Qs b g j++[g b.outer[j]]:=by unfold Qs;rw[Uag h,Uaw,UaR];rfl
theorem ZEf(sig:List TControl)(b:TBigraph)(s:ByteArray)(hn:sig.length<=4294967296)(hbs:∀ y∈sig,Z9 4294967296 y)(hb:Jo 4294967296 b)(hf:JM b)(hno:¬ (bigOK sig b/\s∈b.outer))(lvl:Nat)(S:Zb):Sem Ucb DK lvl [.tr (.sl (sig.map Zx)),.ag ((Zh b).map .tr),iS s] S (.tu [ZA JN,iB false]) S:=by
 refine Zl Zl2 (by simp [ZA,low,men,Zc]) ?_;simp only[Zg8,Zh,Za,seval,Zc,men];refine Zf (Q7 b.outer s (by have:=hb.2.2.2.1;omega)) ?_;simp only[Za,seval,Zc,men];refine Zf (UY sig b hn hbs hb hf) ?_;cases h1:dc (bigOK sig b)
 ·simp only[Za,seval];rfl
 have hG:=dc_iff.1 h1;have hm:s ∉ b.outer:=fun g=>hno ⟨hG,g⟩;have e:=DV hm;simp only[e,Za,seval];rfl
theorem Zn4(sig:List TControl)(b:TBigraph)(s:ByteArray)(hn:sig.length<=4294967296)(hbs:∀ y∈sig,Z9 4294967296 y)(hb:Jo 4294967296 b)(hf:JM b)(hG:bigOK sig b)(hM:s∈b.outer)
  (lvl:Nat) (S:Zb):Sem Ucb DK lvl [.tr (.sl (sig.map Zx)),.ag ((Zh b).map .tr),iS s] S (.tu [@ite IV (bigOK sig (YY b s)) (Classical.propDecidable _) (.ag ((Zh (YY b s)).map .tr)) (ZA JN),iB (dc (bigOK sig (YY b s)))]) S:=by
 have hsm:=hG.small;have s4:=hsm.outer;have he:=hG.edges;have hp:=Zht hG.outer;have hix:=ixS_nn.2 hM;have hle:(JT b.outer s).length<=16:=UaG (UbF ..) s4;refine Zl Zl2 (by split<;>simp [ZA,Zh,low,men,Zc]) ?_;simp only[Zg8,Zh,Za,seval,Zc,men];refine Zf (Q7 b.outer s (by omega)) ?_;simp only[Za,seval,Zc,men];refine Zf (UY sig b hn hbs hb hf) ?_;rw[ZU hG];have hnl:¬ Jh b.outer s<0:=by omega
 simp only[hnl,Za,seval,Zc,men];refine Zf (ZDS b.outer s (by omega)) ?_;simp only[Za,seval,Zc,men];obtain⟨n,hn2⟩:∃ n:Nat,b.edges=n:=⟨b.edges.toNat,by omega⟩;have qE:=Zbq 0 n (by omega) (by omega);obtain⟨g,hg⟩:∃ g:ByteArray->Int,g=fun x=>if x=s then b.edges else b.edges+1+Jh (JT b.outer s) x:=⟨_,rfl⟩
 have e0:YC 0 n=Qs b g 0:=by unfold Qs;rw[Zn3,show b.edges.toNat=n from by omega];simp
 rw[<-hn2,e0] at qE;refine Zf qE ?_;simp only[Uaa,Za,seval];refine ZP (α:=Unit) b.outer.length (fun j _=>[(10,.hd (lvl,992) [] 0 (Qs b g j).length none (Qs b g j).length),(11,iI j)]) (fun j _=>[(992,.ar 1 (rI (Qs b g j)) true (Qs b g j).length 0)]) (fun _ _=>True) () (by simp only[Za,seval]) (by (simp only[Za,seval])<;>rfl) trivial ?_;intro j _ hj _;simp only[Uaa,Za,seval,Zc,men];refine Zv (fun hlt=>?_) (fun hge=>?_)
 ·have hja:j<b.outer.length:=by omega
  have ga:=JS (e0:=Ja) (c:=fun n:ByteArray=>[ts n]) hja;rw[YB hja] at ga;have htl:=ZEd (b:=b) (g:=g) hj;have hs:=ZEe (b:=b) (g:=g) hja;have hiff:=ZEc hp hM hja;by_cases hx:b.outer[j]=s
  ·have hx2:=hiff.2 hx;have hgx:g b.outer[j]=b.edges:=(by rw[hg];simp [hx]);rw[hgx] at hs;have hx3:Jh b.outer s=(j:Int):=hx2.symm;simp only[hx3,seval];exact⟨by omega,by rw[Ze];omega,Zz () hja (by rw[hs,Uac,J4];rfl) trivial⟩
  ·have hx3:¬ (j:Int)=Jh b.outer s:=fun e=>hx (hiff.1 e);have hgx:g b.outer[j]=b.edges+1+Jh (JT b.outer s) b.outer[j]:=(by rw[hg];simp [hx]);rw[hgx] at hs;have hm:b.outer[j]∈JT b.outer s:=lessN_mem.2 ⟨Uaj hja,hx⟩;have:=ixS_nn.2 hm;have:=ZdB hm;simp only[hx3,ga,Za,seval,Zc,men];refine⟨by rw[Ze];omega,?_⟩;refine Zf (Q7 (JT b.outer s) b.outer[j] (by omega)) ?_;simp only[Uaa,Za,seval];have:(JT b.outer s).length<=16:=hle;exact⟨by rw[Ze];omega,by omega,by rw[Ze];omega,Zz () hja (by rw[hs,Uac,J4];rfl) trivial⟩
 ·have:j=b.outer.length:=by omega
  subst this;have hfin:Qs b g b.outer.length=Qr b s:=by rw[hg,Qs,Uap];rfl
  rw[hfin];refine⟨by rw[Ze];omega,?_⟩;rw[show cut (rI (Qr b s)) 0 (Qr b s).length=rI (Qr b s) from Ym (by rw[Uaa])];have qR:=ZD7 sig b hG (Qr b s) (b.edges+1) (JT b.outer s) hb (fun l hl=>by rw[ZD8 he.1];have:=hl.2;omega) (by omega);rw[show Jp b (fun l=>g0 (Qr b s) l.toNat) (b.edges+1) (JT b.outer s)=YY b s from rfl] at qR;simp only[Zh,Uah,Uam] at qR;refine Zf qR ?_;simp only[ZA,Za,seval,Zc,men];by_cases hq:bigOK sig (YY b s)
  ·have qG:=Zn0 sig (YY b s) hn hbs (VK (by omega) (ZhC hG hb)) (ZhD hG hf) hq;simp only[Zh,Uah,Uam] at qG;rw[if_pos hq,ZU hq];refine Zf qG ?_;simp only[Za,seval]
  ·have qG:=Zn1 sig (YY b s) hn hbs (VK (by omega) (ZhC hG hb)) (ZhD hG hf) hq;simp only[Zh,Uah,Uam] at qG;rw[if_neg hq,Zt hq];refine Zf qG ?_;simp only[ZA,Uaa,Za,seval];try rfl
theorem ZEg(sig:List TControl)(b:TBigraph)(s:ByteArray)(hn:sig.length<=4294967296)(hbs:∀ y∈sig,Z9 4294967296 y)(hb:Jo 4294967296 b)(_hs:s.size<=4294967296)(hf:JM b)(hB:VJ sig b s)(lvl:Nat)(S:Zb):Sem Ucb DK lvl [.tr (.sl (sig.map Zx)),.ag ((Zh b).map .tr),iS s] S (.tu [.ag ((Zh (XL sig b s)).map .tr),iB (XM sig b s)]) S:=by have h:=Zn4 sig b s hn hbs hb hf hB.1 hB.2.1 lvl S;unfold XL XM;rw[if_pos hB,ZU hB];rw[if_pos hB.2.2,ZU hB.2.2] at h;exact h
theorem ZEh(sig:List TControl)(b:TBigraph)(s:ByteArray)(hn:sig.length<=4294967296)(hbs:∀ y∈sig,Z9 4294967296 y)(hb:Jo 4294967296 b)(_hs:s.size<=4294967296)(hf:JM b)(hB:¬ VJ sig b s)(lvl:Nat)(S:Zb):Sem Ucb DK lvl [.tr (.sl (sig.map Zx)),.ag ((Zh b).map .tr),iS s] S (.tu [ZA (XL sig b s),iB (XM sig b s)]) S:=by
 unfold XL XM;rw[if_neg hB,Zt hB];by_cases hl:bigOK sig b/\s∈b.outer
 ·have h:=Zn4 sig b s hn hbs hb hf hl.1 hl.2 lvl S;have hq:¬ bigOK sig (YY b s):=fun g=>hB ⟨hl.1,hl.2,g⟩;rw[if_neg hq,Zt hq] at h;exact h
 ·exact ZEf sig b s hn hbs hb hf hl lvl S
end Go.Fd
namespace Go.Fd
open Go.Proofs.Tryz renaming prog->Ucb
set_option maxRecDepth 20000
theorem ZhE{n k:Nat}(h:k<n):g0 (Je n) k=k:=by show (Je n).getD k 0=_;rw[UaD,Je,Uao,Uby h];simp
theorem Zn5(p:Int)(n:Nat)(h:p<n)(lvl:Nat)(S:Zb):Sem Ucb ZcR lvl [iI p,tI (Je n)] S (iI p) S:=by
 refine Zl ZBL trivial ?_;simp only[ZlO,Za,seval];refine Zv (fun hlt=>?_) (fun hge=>?_)
 ·trivial
 ·obtain⟨k,rfl⟩:∃ k:Nat,p=k:=⟨p.toNat,by omega⟩;have hk:k<(Je n).length:=by rw[VH];omega
  have ga:=JC hk;rw[ZhE (by omega)] at ga;simp only[ga,Za,seval];try rfl
theorem Zn6(b:TBigraph)(l:Int)(n:Nat)(hn:b.edges=n)(h:0<=l)(lvl:Nat)(S:Zb):Sem Ucb ZcQ lvl [.ag ((Zh b).map .tr),iI l,tI (Je n)] S (iI l) S:=by
 refine Zl ZBK trivial ?_;simp only[ZlN,Zh,hn,Za,seval];refine Zv (fun hlt=>?_) (fun hge=>?_)
 ·trivial
 ·obtain⟨k,rfl⟩:∃ k:Nat,l=k:=⟨l.toNat,by omega⟩;have hk:k<(Je n).length:=by rw[VH];omega
  have ga:=JC hk;rw[ZhE (by omega)] at ga;simp only[ga,Za,seval];try rfl
def VL(l:List TNode)(j:Nat):Row:=(l.take j).map ZQ++List.replicate (l.length-j) [tv 0,tv 0,Tr.sl []]
theorem ZEi{l:List TNode}:List.replicate l.length [tv 0,tv 0,Tr.sl []]=VL l 0:=by simp [VL]
theorem ZEj{l:List TNode}:VL l l.length=l.map ZQ:=by simp [VL]
theorem ZEk{l:List TNode}{j:Nat}(h:j<=l.length):(VL l j).length=l.length:=by simp [VL];omega
theorem ZEl{l:List TNode}{j:Nat}(h:j<l.length):(VL l j)[j]? = some [tv 0,tv 0,Tr.sl []]:=by
 have:(((l.take j).map ZQ)).length=j:=by rw[Uaa,Uai];omega
 rw[VL,Uas (by omega),this,Uba];rw[if_pos (by omega)]
theorem ZEm{l:List TNode}{j:Nat}(h:j<l.length):(VL l j).set j (ZQ l[j])=VL l (j+1):=by
 have e:(((l.take j).map ZQ)).length=j:=by rw[Uaa,Uai];omega
 rw[VL,Ubh _ _ (by omega),e,Ubi];rw[show l.length-j=(l.length-(j+1))+1 by omega,List.replicate_succ,List.set_cons_zero,VL,Uag h,Uaw,UaR];rfl
theorem ZdK{R:Row}{j k:Nat}{e:List Tr}{t:Tr}(h:R[j]? = some e):ZK R [] j k t=R.set j (e.set k t):=by simp only[ZK,h]
theorem ZdL{R:Row}{j:Nat}{e:List Tr}(h:j<R.length):(R.set j e)[j]? = some e:=Ua7 h
theorem ZEn(b:TBigraph)(n E:Nat)(hn:b.nodes.length=n)(hE:b.edges=E)(hbd:Jo 4294967290 b)(hE2:E<=4294967290)(hp:∀ x∈b.nodes,x.parent<n/\∀ l∈x.links,0<=l)(hs:∀ p∈b.sites,p<n)(hw:∀ w∈b.inner,0<=w.link)(lvl:Nat)(S:Zb):Sem Ucb Zgo lvl [.ag ((Zh b).map .tr),tI (Je n),tI (Je E)] S (ZA b) S:=by
 refine Zl ZBy (by simp [ZA,low,men,Zc]) ?_;simp only[ZlD,Zh,QK,V8,UbX,Uaa,Za,seval];obtain⟨b1,b2,b3,b4,b5,b6,b7⟩:=hbd;refine⟨by omega,by omega,?_⟩;refine ZP (α:=Unit) b.nodes.length (fun j _=>[(8,iI j)]) (fun j _=>[(576,.ar 3 (VL b.nodes j) true b.nodes.length j)]) (fun _ _=>True) () (by simp only[Za,seval]) (by (simp only[ZEi,Za,seval])<;>rfl) trivial ?_;intro j _ hj _;simp only[Uaa,Za,seval];refine Zv (fun hlt=>?_) (fun hge=>?_)
 ·have hja:j<b.nodes.length:=by omega
  have ga:=Jb (c:=ZQ) hja;have hkl:b.nodes[j].links.length<=4294967290:=b2 _ (Uaj hja);obtain⟨p1,p2⟩:=hp _ (Uaj hja);refine ZP (α:=Unit) b.nodes[j].links.length (fun k _=>[(9,.hd (lvl,1056) [] 0 k none k),(10,iI k)]) (fun k _=>[(1056,.ar 1 (rI (b.nodes[j].links.take k)) true k 0)]) (fun _ _=>True) () (by simp only[Za,seval]) (by (simp only[Za,seval])<;>rfl) trivial ?_;intro k _ hk _;simp only[ga,ZQ,Uaa,Za,seval];refine Zv (fun hlt2=>?_) (fun hge2=>?_)
  ·have hka:k<b.nodes[j].links.length:=(by omega);have gl:=JC hka;have e0:g0 b.nodes[j].links k=b.nodes[j].links[k]:=(by simp [hka]);have hq:=p2 _ (Uaj hka);rw[<-e0] at hq;have hl3:(b.nodes[j].links.take k).length=k:=(by rw[Uai];omega);have hs:rI (b.nodes[j].links.take k)++[[tv (g0 b.nodes[j].links k)]]=rI (b.nodes[j].links.take (k+1)):=(by rw[Uag hka,J4,<-e0];rfl);simp only[gl,Za,seval,Zc,men];have q:=Zn6 b (g0 b.nodes[j].links k) E hE hq;simp only[Zh,Uah,Uam] at q;refine Zf q ?_;simp only[hl3,hs,Uaa,Za,seval];exact⟨by omega,by rw[Ze];omega,Zz () hka rfl trivial⟩
  ·have:k=b.nodes[j].links.length:=(by omega);subst this;rw[Uap];rw[<-hn] at p1;have hj2:(Je n).length=n:=VH;have gu:=JC (l:=Je n) (i:=j) (by omega);rw[ZhE (by omega)] at gu;have q:=Zn5 b.nodes[j].parent n (by omega);have g1:=ZEl hja;have hfl:=ZEk (Nat.le_of_lt hja);have hst:=ZEm hja;simp only[ga,ZQ,gu,Za,seval,Zc,men];refine Zf q ?_;have t1:=ZdK (k:=0) (t:=Tr.v (.int .i64 b.nodes[j].control)) g1;simp only[List.set_cons_zero] at t1;have t2:=ZdK (k:=1) (t:=Tr.v (.int .i64 b.nodes[j].parent)) (ZdL (e:=[Tr.v (.int .i64 b.nodes[j].control),tv 0,Tr.sl []]) (by rw[hfl];exact hja));simp only[List.set_cons_zero,List.set_cons_succ,Ubk] at t2;have t3:=ZdK (k:=2) (t:=Tr.sl (rI b.nodes[j].links)) (ZdL (e:=[Tr.v (.int .i64 b.nodes[j].control),Tr.v (.int .i64 b.nodes[j].parent),Tr.sl []]) (by rw[hfl];exact hja));simp only[List.set_cons_zero,List.set_cons_succ,Ubk] at t3;have hst':(VL b.nodes j).set j [Tr.v (.int .i64 b.nodes[j].control),Tr.v (.int .i64 b.nodes[j].parent),Tr.sl (rI b.nodes[j].links)]=VL b.nodes (j+1):=hst;rw[hst'] at t3;have g2:=ZdL (e:=[Tr.v (.int .i64 b.nodes[j].control),tv 0,Tr.sl []]) (by rw[hfl];exact hja);have g3:=ZdL (e:=[Tr.v (.int .i64 b.nodes[j].control),Tr.v (.int .i64 b.nodes[j].parent),Tr.sl []]) (by rw[hfl];exact hja);simp only[g1,g2,g3,t1,t2,t3,hja,Uaa,Za,seval];exact⟨by rw[Ze];omega,Zz () hja rfl trivial⟩
 ·have:j=b.nodes.length:=by omega
  subst this;rw[ZEj];refine ZP (α:=Unit) b.sites.length (fun j _=>[(11,iI j)]) (fun j _=>[(224,.bx [iI b.roots,.hd (lvl,576) [] 0 b.nodes.length none b.nodes.length,.hd (lvl,800) [] 0 j none j,iI b.edges,.hd (lvl,672) [] 0 b.outer.length none b.outer.length,.hd (lvl,801) [] 0 0 none 0]),(800,.ar 1 (rI (b.sites.take j)) true j 0)]) (fun _ _=>True) () (by simp only[Za,seval]) (by (simp only[Za,seval])<;>rfl) trivial ?_;intro j _ hj _;simp only[Uaa,Za,seval];refine Zv (fun hlt=>?_) (fun hge=>?_)
  ·have hja:j<b.sites.length:=(by omega);have ga:=JC hja;have e0:g0 b.sites j=b.sites[j]:=(by simp [hja]);have hq:=hs _ (Uaj hja);rw[<-e0] at hq;have hl3:(b.sites.take j).length=j:=(by rw[Uai];omega);have hs:rI (b.sites.take j)++[[tv (g0 b.sites j)]]=rI (b.sites.take (j+1)):=(by rw[Uag hja,J4,<-e0];rfl);simp only[ga,Za,seval,Zc,men];refine Zf (Zn5 (g0 b.sites j) n hq) ?_;simp only[hl3,hs,Uaa,Za,seval];exact⟨by omega,by rw[Ze];omega,Zz () hja rfl trivial⟩
  ·have:j=b.sites.length:=(by omega);subst this;rw[Uap];refine ZP (α:=Unit) b.inner.length (fun j _=>[(12,iI j)]) (fun j _=>[(224,.bx [iI b.roots,.hd (lvl,576) [] 0 b.nodes.length none b.nodes.length,.hd (lvl,800) [] 0 b.sites.length none b.sites.length,iI b.edges,.hd (lvl,672) [] 0 b.outer.length none b.outer.length,.hd (lvl,801) [] 0 j none j]),(801,.ar 2 ((b.inner.take j).map ZS) true j 0)]) (fun _ _=>True) () (by simp only[Za,seval]) (by (simp only[Za,seval])<;>rfl) trivial ?_;intro j _ hj _;simp only[Uaa,Za,seval];refine Zv (fun hlt=>?_) (fun hge=>?_)
   ·have hja:j<b.inner.length:=(by omega);have ga:=Jb (c:=ZS) hja;have hq:=hw _ (Uaj hja);have hl3:(b.inner.take j).length=j:=(by rw[Uai];omega);have hs:(b.inner.take j).map ZS++[[ts b.inner[j].name,tv b.inner[j].link]]=(b.inner.take (j+1)).map ZS:=(by rw[Uag hja,Uaw];rfl);simp only[ga,ZS,Za,seval,Zc,men];have q:=Zn6 b b.inner[j].link E hE hq;simp only[Zh,Uah,Uam] at q;refine Zf q ?_;simp only[hl3,hs,Uaa,Za,seval];exact⟨by omega,by rw[Ze];omega,Zz () hja rfl trivial⟩
   ·have:j=b.inner.length:=(by omega);subst this;rw[Uap];exact⟨rfl,rfl⟩
theorem ZhF(b:TBigraph)(E:Nat)(hE:b.edges=E)(hbd:Jo 4294967290 b)(hE2:E<=4294967290)(hp:∀ x∈b.nodes,x.parent<b.nodes.length/\∀ l∈x.links,0<=l)(hs:∀ p∈b.sites,p<b.nodes.length)(hw:∀ w∈b.inner,0<=w.link)(lvl:Nat)(S:Zb):Sem Ucb DF lvl [.ag ((Zh b).map .tr)] S (ZA b) S:=by
 refine Zl ZBg (by simp [ZA,low,men,Zc]) ?_;simp only[Zlq,Zh,Za,seval];have b1:=hbd.1;refine ZP (α:=Unit) b.nodes.length (fun j _=>[(3,.hd (lvl,224) [] 0 j none j),(5,iI j)]) (fun j _=>[(224,.ar 1 (rI (Je j)) true j 0)]) (fun _ _=>True) () (by simp only[Za,seval]) (by (simp only[Za,seval])<;>rfl) trivial ?_;intro j _ hj _;simp only[Uaa,Za,seval];refine Zv (fun hlt=>?_) (fun hge=>?_)
 ·have hja:j<b.nodes.length:=by omega
  have hl:(Je j).length=j:=VH;have hs:rI (Je j)++[[tv (j:Int)]]=rI (Je (j+1)):=by simp [Je,rI,Ub5]
  simp only[hl,hs,Za,seval];exact⟨by omega,by rw[Ze];omega,Zz () hja rfl trivial⟩
 ·have:j=b.nodes.length:=by omega
  subst this;refine ZP (α:=Unit) E (fun j _=>[(4,.hd (lvl,256) [] 0 j none j),(6,iI j)]) (fun j _=>[(256,.ar 1 (rI (Je j)) true j 0)]) (fun _ _=>True) () (by simp only[Za,seval]) (by (simp only[Za,seval])<;>rfl) trivial ?_;intro j _ hj _;simp only[hE,Uaa,Za,seval,Zc,men];refine Zv (fun hlt=>?_) (fun hge=>?_)
  ·have hja:j<E:=(by omega);have hl:(Je j).length=j:=VH;have hs:rI (Je j)++[[tv (j:Int)]]=rI (Je (j+1)):=(by simp [Je,rI,Ub5]);simp only[hl,hs,Za,seval];exact⟨by omega,by rw[Ze];omega,Zz () hja rfl trivial⟩
  ·have:j=E:=(by omega);subst this;have l1:(Je b.nodes.length).length=b.nodes.length:=VH;have l2:(Je j).length=j:=VH;have q:=ZEn b b.nodes.length j rfl hE hbd hE2 hp hs hw;simp only[Zh,Uah,Uam,hE] at q;rw[show cut (rI (Je b.nodes.length)) 0 b.nodes.length=rI (Je b.nodes.length) from Ym (by rw[Uaa,l1]),show cut (rI (Je j)) 0 j=rI (Je j) from Ym (by rw[Uaa,l2])];refine⟨by omega,by omega,Zf q ?_⟩;simp only[ZA,hE,Uaa,Za,seval];try rfl
theorem ZEo{F:Int->Int}{l:List TNode}{j:Nat}(h:j<l.length):(Jx F l j).set j ⟨l[j].control,l[j].parent,Jq F l[j].links 0⟩=Jx F l j:=by
 have:(⟨l[j].control,l[j].parent,Jq F l[j].links 0⟩:TNode)=l[j]:=by simp [Jq]
 rw[this];have hl:j<(Jx F l j).length:=by rw[ZdG];exact h
 have e:l[j]=(Jx F l j)[j]:=by have:=Zhy (F:=F) h;rw[Uak hl] at this;exact(UaT this).symm
 rw[e];exact UbG hl
theorem ZEp{F:Int->Int}{l:List Int}{k:Nat}(h:k<l.length)(hf:F (g0 l k)=g0 l k):Jq F l (k+1)=Jq F l k:=by
 rw[<-Zhx h,hf];have e:g0 l k=(Jq F l k)[k]'(by rw[Zbt];exact h):=by have:=Zhw (F:=F) h;rw[<-this];simp [Zbt,h]
 rw[e];exact UbG _
theorem ZEq{F:Int->Int}{l:List TWire}{j:Nat}(h:j<l.length)(hf:F l[j].link=l[j].link):Yw F l (j+1)=Yw F l j:=by
 rw[<-ZhA h];have hl:j<(Yw F l j).length:=by rw[ZD0];exact h
 have e:JL F l[j]=(Yw F l j)[j]:=by have:=Zhz (F:=F) h;rw[Uak hl] at this;rw[UaT this,JL,hf]
 rw[e];exact UbG hl
def XN(b:TBigraph)(names o:List ByteArray)(l:Int):Int:=if b.edges<=l then b.edges+Jh o (gS names (l-b.edges).toNat) else l
theorem ZEr(b:TBigraph)(names o:List ByteArray)(E:Nat)(hE:b.edges=E)(hbd:Jo 4294967290 b)(hE2:E<=4294967290)(hp:∀ x∈b.nodes,x.parent<b.nodes.length/\∀ l∈x.links,0<=l/\l<E+names.length)(hs:∀ p∈b.sites,p<b.nodes.length)(hw:∀ w∈b.inner,0<=w.link/\w.link<E+names.length)(hn:names.length<=4294967290)(ho:o.length<=4294967290)(lvl:Nat)(S:Zb):Sem Ucb Zc1 lvl [.ag ((Zh b).map .tr),.tr (.sl (rS names)),.tr (.sl (rS o))] S (ZA (Jp b (XN b names o) b.edges o)) S:=by
 refine Zl ZCq (by simp [ZA,low,men,Zc]) ?_;simp only[Zmu,Zh,Za,seval,Zc,men];have q:=ZhF b E hE hbd hE2 (fun x hx=>⟨(hp x hx).1,fun l hl=>((hp x hx).2 l hl).1⟩) hs (fun w hh=>(hw w hh).1);simp only[Zh,Uah,Uam] at q;refine Zf q ?_;simp only[ZA,QK,V8,UbX,Uaa,Za,seval];obtain⟨b1,b2,b3,b4,b5,b6,b7⟩:=hbd;refine⟨by omega,?_⟩;have hFdef:∃ F,F=XN b names o:=⟨_,rfl⟩;obtain⟨F,hF⟩:=hFdef;rw[<-hF];refine ZP (α:=Unit) b.nodes.length (fun j _=>[(8,iI j)]) (fun j _=>[(448,.ar 3 ((Jx F b.nodes j).map ZQ) true b.nodes.length 0)]) (fun _ _=>True) () (by simp only[Za,seval]) (by (simp only[Za,seval])<;>rfl) trivial ?_;intro j _ hj _;simp only[Za,seval];refine Zv (fun hlt=>?_) (fun hge=>?_)
 ·have hja:j<b.nodes.length:=by omega
  have gp:=Zhy (F:=F) hja;have ga:((Jx F b.nodes j).map ZQ)[j]? = some [Tr.v (.int .i64 b.nodes[j].control),Tr.v (.int .i64 b.nodes[j].parent),Tr.sl (rI b.nodes[j].links)]:=by rw[Uao,gp];rfl
  have hkl:b.nodes[j].links.length<=4294967290:=b2 _ (Uaj hja);have e0:(Jx F b.nodes j).set j ⟨b.nodes[j].control,b.nodes[j].parent,Jq F b.nodes[j].links 0⟩=Jx F b.nodes j:=ZEo hja;refine ZP (α:=Unit) b.nodes[j].links.length (fun k _=>[(9,iI k)]) (fun k _=>[(448,.ar 3 (((Jx F b.nodes j).set j ⟨b.nodes[j].control,b.nodes[j].parent,Jq F b.nodes[j].links k⟩).map ZQ) true b.nodes.length 0)]) (fun _ _=>True) () (by simp only[Za,seval]) (by (simp only[e0,Za,seval])<;>rfl) trivial ?_;intro k _ hk _;have gq:((Jx F b.nodes j).set j ⟨b.nodes[j].control,b.nodes[j].parent,Jq F b.nodes[j].links k⟩)[j]? = some ⟨b.nodes[j].control,b.nodes[j].parent,Jq F b.nodes[j].links k⟩:=by rw[Ua7 (by rw[ZdG];exact hja)]
  have hgp:(((Jx F b.nodes j).set j ⟨b.nodes[j].control,b.nodes[j].parent,Jq F b.nodes[j].links k⟩).map ZQ)[j]? = some [Tr.v (.int .i64 b.nodes[j].control),Tr.v (.int .i64 b.nodes[j].parent),Tr.sl (rI (Jq F b.nodes[j].links k))]:=by rw[Uao,gq];rfl
  simp only[hgp,hja,Uaa,Za,seval];refine Zv (fun hlt2=>?_) (fun hge2=>?_)
  ·have hpl:=Zbt (F:=F) (l:=b.nodes[j].links) (k:=k);have hka:k<b.nodes[j].links.length:=(by omega);have gk:(rI (Jq F b.nodes[j].links k))[k]? = some [tv (g0 b.nodes[j].links k)]:=(by rw[JC (by omega),Zhw hka]);have hlk:=(hp _ (Uaj hja)).2 _ (show g0 b.nodes[j].links k∈b.nodes[j].links by simp [hka]);have hsp:=ZnY (v:=F (g0 b.nodes[j].links k)) gq (k:=k) (by show k<(Jq F b.nodes[j].links k).length;omega);have hst:((Jx F b.nodes j).set j ⟨b.nodes[j].control,b.nodes[j].parent,Jq F b.nodes[j].links k⟩).set j ⟨b.nodes[j].control,b.nodes[j].parent,(Jq F b.nodes[j].links k).set k (F (g0 b.nodes[j].links k))⟩=(Jx F b.nodes j).set j ⟨b.nodes[j].control,b.nodes[j].parent,Jq F b.nodes[j].links (k+1)⟩:=(by rw[Ubk,Zhx hka]);rw[hst] at hsp;simp only[hgp,gk,hja,hka,hpl,Uax,Uaa,Za,seval];refine Zv (fun hl1=>?_) (fun hl1=>?_)
   ·obtain⟨i,hi⟩:∃ i:Nat,g0 b.nodes[j].links k-b.edges=i:=⟨(g0 b.nodes[j].links k-b.edges).toNat,by omega⟩;have hin:i<names.length:=by omega
    have gn:=JS (e0:=Ja) (c:=fun n:ByteArray=>[ts n]) hin;have hFe:F (g0 b.nodes[j].links k)=b.edges+Jh o (gS names i):=(by rw[hF,XN,if_pos hl1,hi,Int.toNat_natCast]);have x1:=U0 (l:=o) (s:=gS names i);have x2:=Ud (l:=o) (s:=gS names i);rw[hFe] at hsp;simp only[hi,gn,Uax,Za,seval,Zc,men];refine⟨by rw[Ze];omega,?_⟩;refine Zf (Q7 o (gS names i) (by omega)) ?_;simp only[hgp,gk,hka,hsp,Uax,Za,seval];exact⟨by rw[Ze];omega,by rw[Ze];omega,Zz () hka rfl trivial⟩
   ·have hFe:F (g0 b.nodes[j].links k)=g0 b.nodes[j].links k:=(by rw[hF,XN,if_neg hl1]);exact⟨by rw[Ze];omega,Zz () hka (by rw[ZEp hka hFe];rfl) trivial⟩
  ·have:k=b.nodes[j].links.length:=(by have hpl:=Zbt (F:=F) (l:=b.nodes[j].links) (k:=k);omega);subst this;have hst:(Jx F b.nodes j).set j ⟨b.nodes[j].control,b.nodes[j].parent,Jq F b.nodes[j].links b.nodes[j].links.length⟩=Jx F b.nodes (j+1):=(by rw[<-ZnX hja];congr 1;simp [VI,Jq]);rw[hst];exact⟨by rw[Ze];omega,Zz () hja rfl trivial⟩
 ·have:j=b.nodes.length:=by omega
  subst this;have hpn:Jx F b.nodes b.nodes.length=(Jp b F b.edges o).nodes:=by simp [Jx,Jp,VI]
  rw[hpn];refine ZP (α:=Unit) b.inner.length (fun j _=>[(11,iI j)]) (fun j _=>[(451,.ar 2 ((Yw F b.inner j).map ZS) true b.inner.length 0)]) (fun _ _=>True) () (by simp only[Za,seval]) (by (simp only[Za,seval])<;>rfl) trivial ?_;intro j _ hj _;simp only[Uaa,Za,seval];refine Zv (fun hlt=>?_) (fun hge=>?_)
  ·have hja:j<b.inner.length:=(by omega);have gp:=Zhz (F:=F) hja;have ga:((Yw F b.inner j).map ZS)[j]? = some [ts b.inner[j].name,tv b.inner[j].link]:=(by rw[Uao,gp];rfl);have hsp:ZK ((Yw F b.inner j).map ZS) [] j 1 (.v (.int .i64 (F b.inner[j].link)))=(Yw F b.inner (j+1)).map ZS:=(by simp only[ZK];rw[ga,<-ZhA hja,UbE];rfl);have hlk:=hw _ (Uaj hja);simp only[ga,hja,Uax,Za,seval];refine Zv (fun hl1=>?_) (fun hl1=>?_)
   ·obtain⟨i,hi⟩:∃ i:Nat,b.inner[j].link-b.edges=i:=⟨(b.inner[j].link-b.edges).toNat,by omega⟩;have hin:i<names.length:=by omega
    have gn:=JS (e0:=Ja) (c:=fun n:ByteArray=>[ts n]) hin;have hFe:F b.inner[j].link=b.edges+Jh o (gS names i):=(by rw[hF,XN,if_pos hl1,hi,Int.toNat_natCast]);have x1:=U0 (l:=o) (s:=gS names i);have x2:=Ud (l:=o) (s:=gS names i);rw[hFe] at hsp;simp only[hi,gn,Uax,Za,seval,Zc,men];refine⟨by rw[Ze];omega,?_⟩;refine Zf (Q7 o (gS names i) (by omega)) ?_;simp only[ga,hja,hsp,Uax,Za,seval];exact⟨by rw[Ze];omega,by rw[Ze];omega,Zz () hja rfl trivial⟩
   ·have hFe:F b.inner[j].link=b.inner[j].link:=(by rw[hF,XN,if_neg hl1]);exact⟨by rw[Ze];omega,Zz () hja (by rw[ZEq hja hFe];rfl) trivial⟩
  ·have:j=b.inner.length:=(by omega);subst this;have hpw:Yw F b.inner b.inner.length=(Jp b F b.edges o).inner:=(by simp [Yw,Jp,JL]);rw[hpw];exact⟨by simp [Jp],by simp [Jp],rfl⟩
theorem XO{sig:List TControl}{b:TBigraph}(h:bigOK sig b){x:TNode}(hx:x∈b.nodes):x.parent<b.nodes.length/\∀ l∈x.links,0<=l/\l<b.edges+b.outer.length:=by
 obtain⟨k,hk,rfl⟩:=Uar hx;have q:=h.nodes k hk;refine⟨?_,fun l hl=>?_⟩
 ·rcases q.par with p | p<;>omega
 ·have:=q.links l hl;unfold Z6 at this;omega
theorem XP{sig:List TControl}{b:TBigraph}(h:bigOK sig b){p:Int}(hp:p∈b.sites):p<b.nodes.length:=by rcases h.sites p hp with q | q<;>omega
theorem ZEs(sig:List TControl)(b:TBigraph)(h:bigOK sig b)(lvl:Nat)(S:Zb):Sem Ucb DF lvl [.ag ((Zh b).map .tr)] S (ZA b) S:=by have he:=h.edges;exact ZhF b b.edges.toNat (by omega) (VK (by omega) (Q9 h)) (by omega) (fun x hx=>⟨(XO h hx).1,fun l hl=>((XO h hx).2 l hl).1⟩) (fun p hp=>XP h hp) (fun w hw=>(h.inner w hw).1) lvl S
theorem ZEt(sig:List TControl)(b:TBigraph)(h:bigOK sig b)(names o:List ByteArray)(hn:names.length=b.outer.length)(ho:o.length<=4294967290)(lvl:Nat)(S:Zb):Sem Ucb Zc1 lvl [.ag ((Zh b).map .tr),.tr (.sl (rS names)),.tr (.sl (rS o))] S (ZA (Jp b (XN b names o) b.edges o)) S:=by
 have he:=h.edges;have h4:=h.small.outer;refine ZEr b names o b.edges.toNat (by omega) (VK (by omega) (Q9 h)) (by omega) (fun x hx=>⟨(XO h hx).1,fun l hl=>?_⟩) (fun p hp=>XP h hp) (fun w hw=>?_) (by omega) ho lvl S
 ·have:=(XO h hx).2 l hl;omega
 ·have:=h.inner w hw;unfold Z6 at this;omega
theorem ZEu{O:List ByteArray}{x:ByteArray}{k:Nat}(hp:O.Pairwise ltS)(h1:∀ y∈O.take k,ltS y x)(h2:∀ y∈O.drop k,ltS x y):(O.take k++([x]++O.drop k)).Pairwise ltS:=by
 refine Ua6.2 ⟨hp.sublist (List.take_sublist ..),Ua6.2 ⟨List.pairwise_singleton ..,hp.sublist (List.drop_sublist ..),fun a ha b hb=>?_⟩,fun a ha b hb=>?_⟩
 ·rw[UaI.1 ha];exact h2 b hb
 ·rcases Uaq.1 hb with hb | hb
  ·rw[UaI.1 hb];exact h1 a ha
  ·have q:=hp;rw[<-Ua5 k O] at q;exact(Ua6.1 q).2.2 a ha b hb
theorem ZdM{l:List ByteArray}:(ZN l).Pairwise ltS:=ZnE ordsS
theorem setS_mem{l:List ByteArray}{c:ByteArray}:c∈ZN l↔c∈l:=setG_mem
theorem D7{l:List ByteArray}:(ZN l).length<=l.length:=ZnF
theorem Zn7{l:List ByteArray}{i k:Nat}(hi:i<l.length)(h1:∀ y∈(ZN (l.take i)).take k,ltS y l[i])(h2:∀ y∈(ZN (l.take i)).drop k,ltS l[i] y):ZN (l.take (i+1))=(ZN (l.take i)).take k++([l[i]]++(ZN (l.take i)).drop k):=by
 refine Zdz ordsS (ZEu ZdM h1 h2) fun c=>?_;rw[Uag hi];have e:c∈ZN (l.take i)↔c∈l.take i:=setS_mem;rw[<-Ua5 k (ZN (l.take i)),Uaq] at e;simp only[Uaq,<-e];constructor
 ·rintro((h | h) | h)
  ·exact .inl h
  ·exact .inr (.inr h)
  ·exact .inr (.inl h)
 ·rintro(h | h | h)
  ·exact .inl (.inl h)
  ·exact .inr h
  ·exact .inl (.inr h)
theorem ZEv{l:List ByteArray}{i:Nat}(hi:i<l.length)(h:l[i]∈ZN (l.take i)):ZN (l.take (i+1))=ZN (l.take i):=by
 refine Zdz ordsS ZdM fun c=>?_;rw[Uag hi,Uaq,setS_mem];constructor
 ·rintro(h2 | h2)
  ·exact h2
  ·rw[UaI.1 h2];exact setS_mem.1 h
 ·exact .inl
theorem ZEw{l:List ByteArray}{j:Nat}:cut (rS l) 0 (j-0)=rS (l.take j):=by simp [cut,rS,Ubj]
theorem Zn8{l:List ByteArray}{j:Nat}:cut (rS l) j (l.length-j)=rS (l.drop j):=by simp only[cut,rS,<-List.map_drop];rw[<-Ubj,UaQ (by rw[UaL];omega)]
theorem Zn9{a b:List ByteArray}{x:ByteArray}:rS a++[[Tr.v (Value.string x)]]++rS b=rS (a++([x]++b)):=by simp [rS]
theorem ZEx:ZN []=[]:=Zdz ordsS List.Pairwise.nil fun c=>UbB
theorem ZdN(l:List ByteArray)(hl:l.length<=4294967290)(lvl:Nat)(S:Zb):Sem Ucb DJ lvl [.tr (.sl (rS l))] S (.ow 1 (rS (ZN l)) true) S:=by
 refine Zl ZBW (by simp [low,men]) ?_;simp only[ZlY,Za,seval];refine ZP (α:=Unit) l.length (fun j _=>[(3,.hd (lvl,96) [] 0 (ZN (l.take j)).length none (ZN (l.take j)).length),(4,iI j)]) (fun j _=>[(96,.ar 1 (rS (ZN (l.take j))) true (ZN (l.take j)).length 0)]) (fun _ _=>True) () (by simp only[Za,seval]) (by rw[List.take_zero,ZEx]; (simp only[Za,seval])<;>rfl) trivial ?_;intro j _ hj _;simp only[Uaa,Za,seval];refine Zv (fun hlt=>?_) (fun hge=>?_)
 ·have hja:j<l.length:=by omega
  have ga:=JS (e0:=Ja) (c:=fun n:ByteArray=>[ts n]) hja;rw[YB hja] at ga;obtain⟨O,hO⟩:∃ O,O=ZN (l.take j):=⟨_,rfl⟩;have hOl:O.length<=j:=by rw[hO];exact UaG D7 (by rw[Uai];omega)
  have hOp:O.Pairwise ltS:=by rw[hO];exact ZdM
  rw[<-hO];refine ZP (α:=Unit) O.length (fun k _=>[(5,iI k)]) (fun _ _=>[]) (fun k _=>∀ y∈O.take k,ltS y l[j]) () (by simp only[Za,seval]) (by (simp only[Za,seval])<;>rfl) (by simp) ?_;intro k _ hk hK;simp only[Uaa,Za,seval];refine Zv (fun hlt2=>?_) (fun hge2=>?_)
  ·have hka:k<O.length:=(by omega);have gk:=JS (e0:=Ja) (c:=fun n:ByteArray=>[ts n]) hka;rw[YB hka] at gk;have hm:min k O.length=k:=(by omega);have hq1:k+1+(O.length-k)=O.length+1:=(by omega);have hq2:max (max (max 0 k) (k+1)) (O.length+1)=O.length+1:=(by omega);have hq3:k+(O.length-k)=O.length:=(by omega);simp only[ga,gk,hka,hm,hq1,hq2,hq3,ZEw,Zn8,QK,V8,Zn9,Uac,Uai,UaL,Uaa,Za,seval];refine Zv (fun h1=>?_) (fun h1=>?_)
   ·exact⟨by rw[Ze];omega,Zz () hka rfl fun y hy=>by
     rw[Uag hka] at hy;rcases Uaq.1 hy with hy | hy
     ·exact hK y hy
     ·rw[UaI.1 hy];exact h1⟩
   ·have hkn:decide ((k:Int)=(O.length:Int))=false:=(by simp;omega);rw[if_pos hkn];refine Zv (fun h2=>?_) (fun h2=>?_)
    ·have h3:ltS l[j] O[k]:=by
      rcases ordsS.tri l[j] O[k] with q | q | q
      ·exact q
      ·exact absurd q.symm h2
      ·exact absurd q h1
     have hput:=Zn7 (k:=k) hja (by rw[<-hO];exact hK) (by
      rw[<-hO];intro y hy;rw[UaA hka] at hy;rcases UaF.1 hy with rfl | hy
      ·exact h3
      ·have q:=hOp;rw[<-Ua5 k O,UaA hka] at q;exact ordsS.tr _ _ _ h3 ((Ua4.1 (Ua6.1 q).2.1).1 y hy))
     rw[<-hO] at hput;have hpl:(O.take k++([l[j]]++O.drop k)).length=O.length+1:=by simp only[Uac,Uai,UaL,List.length_cons,List.length_nil];omega
     have hfit:ZZ .i64 ((j:Int)+1):=by rw[Ze];omega
     and_intros
     all_goals try first | omega | exact fun _=>trivial
     ·exact hfit.1
     ·exact hfit.2
     ·exact Zz () hja (by rw[hput,hpl];rfl) trivial
    ·have hkeep:=ZEv hja (by rw[<-hO,<-(Classical.not_not.1 h2)];exact Uaj hka);rw[<-hO] at hkeep;exact⟨by rw[Ze];omega,Zz () hja (by rw[hkeep];rfl) trivial⟩
  ·have:k=O.length:=(by omega);subst this;have hq1:O.length+1+(O.length-O.length)=O.length+1:=(by omega);have hq2:max (max (max 0 O.length) (O.length+1)) (O.length+1)=O.length+1:=(by omega);simp only[ga,hq1,hq2,Zn8,QK,V8,Zn9,Uac,UaL,Uaa,Za,seval];have hput:=Zn7 (k:=O.length) hja (by rw[<-hO];exact hK) (by
    rw[<-hO,Ubo];intro y hy;cases hy)
   rw[<-hO] at hput;rw[Uap] at hput;have hpl:(O++([l[j]]++O.drop O.length)).length=O.length+1:=by simp only[Uac,UaL,List.length_cons,List.length_nil];omega
   have hfit:ZZ .i64 ((j:Int)+1):=by rw[Ze];omega
   and_intros
   all_goals try first | omega | exact fun _=>trivial
   ·exact hfit.1
   ·exact hfit.2
   ·exact Zz () hja (by rw[hput,hpl];rfl) trivial
 ·have:j=l.length:=by omega
  subst this;rw[Uap]
theorem Zbu(names:List ByteArray)(e:Int)(o:List ByteArray)(hn:names.length<=4294967290)(he:-4294967296<=e/\e<=4294967296)(ho:o.length<=4294967290)(lvl:Nat)(S:Zb):Sem Ucb UQ lvl [.tr (.sl (rS names)),iI e,.tr (.sl (rS o))] S (.ow 1 (rI (names.map fun x=>e+Jh o x)) true) S:=by
 refine Zl ZBX trivial ?_;simp only[ZlZ,Za,seval];refine ZP (α:=Unit) names.length (fun j _=>[(7,.hd (lvl,288) [] 0 j none j),(8,iI j)]) (fun j _=>[(288,.ar 1 (rI ((names.take j).map fun x=>e+Jh o x)) true j 0)]) (fun _ _=>True) () (by simp only[Za,seval]) (by (simp only[Za,seval])<;>rfl) trivial ?_;intro j _ hj _;simp only[Uaa,Za,seval];refine Zv (fun hlt=>?_) (fun hge=>?_)
 ·have hja:j<names.length:=by omega
  have ga:=JS (e0:=Ja) (c:=fun n:ByteArray=>[ts n]) hja;rw[YB hja] at ga;have hl2:(names.take j).length=j:=by rw[Uai];omega
  have x1:=U0 (l:=o) (s:=names[j]);have x2:=Ud (l:=o) (s:=names[j]);have hs:rI ((names.take j).map fun x=>e+Jh o x)++[[tv (e+Jh o names[j])]]=rI ((names.take (j+1)).map fun x=>e+Jh o x):=by rw[Uag hja,Uaw,J4];rfl
  simp only[ga,Za,seval,Zc,men];refine Zf (Q7 o names[j] (by omega)) ?_;simp only[hl2,hs,Uaa,Za,seval];exact⟨by rw[Ze];omega,by omega,by rw[Ze];omega,Zz () hja rfl trivial⟩
 ·have:j=names.length:=by omega
  subst this;rw[Uap];exact⟨by simp,rfl⟩
theorem ZEy{b:TBigraph}{l:Int}(he:0<=b.edges/\b.edges<=8)(hl:Z6 b l):-4294967296<=(Yn b l).1/\(Yn b l).1<=4294967296:=by
 rcases Qq hl with ⟨h0,h1⟩ | ⟨i,hi,rfl⟩
 ·rw[DX h1];dsimp only;omega
 ·rw[DY hi];dsimp only;omega
theorem ZEz{sig:List TControl}{b:TBigraph}(h:bigOK sig b){F:Int->Int}{e:Int}{o:List ByteArray}(ho:o.length<=100)(hos:∀ y∈o,y.size<=4294967296):Jo 4294967296 (Jp b F e o):=by
 obtain⟨b1,b2,b3,b4,b5,b6,b7⟩:=ZhB (F:=F) (e:=e) (o:=[]) h (VK (by omega) (Q9 h)) (by simp) (by simp);refine⟨UaG (show (Jp b F e o).nodes.length<=4294967290 from b1) (by omega),fun y hy=>?_,UaG (show (Jp b F e o).sites.length<=4294967290 from b3) (by omega),by show o.length<=_;omega,hos,UaG (show (Jp b F e o).inner.length<=4294967290 from b6) (by omega),fun y hy=>?_⟩
 ·have:=b2 y hy;simp only[ZaW] at this ⊢;omega
 ·have:=b7 y hy;simp only[W8] at this ⊢;omega
def Vh(a b:TBigraph)(roots:Int)(ss:List Int)(o:List ByteArray)(FL FR mv:Int->Int):TBigraph :=
 ⟨roots,a.nodes.map (VI FL)++b.nodes.map (fun x=>⟨x.control,mv x.parent,x.links.map FR⟩),ss++b.sites.map mv,a.edges+b.edges,o,b.inner.map (JL FR)⟩
theorem Zoa{sig:List TControl}{a b:TBigraph}(ha:bigOK sig a)(hb:bigOK sig b){roots:Int}{ss:List Int}{o:List ByteArray}{FL FR mv FL' FR' mv':Int->Int}(hL:∀ l,Z6 a l->FL l=FL' l)(hR:∀ l,Z6 b l->FR l=FR' l)(hm:∀ p,-b.roots<=p->mv p=mv' p) :
  Vh a b roots ss o FL FR mv=Vh a b roots ss o FL' FR' mv':=by
 have hr:=hb.roots.1;unfold Vh;have e1:a.nodes.map (VI FL)=a.nodes.map (VI FL'):=UaC fun x hx=>by obtain⟨i,hi,rfl⟩:=Uar hx;unfold VI;congr 1;exact UaC fun l hl=>hL l ((ha.nodes i hi).links l hl)
 have e2:b.nodes.map (fun x=>(⟨x.control,mv x.parent,x.links.map FR⟩:TNode))=b.nodes.map (fun x=>⟨x.control,mv' x.parent,x.links.map FR'⟩):=UaC fun x hx=>by obtain⟨i,hi,rfl⟩:=Uar hx;have hn:=hb.nodes i hi;rw[hm _ (Yo hr hn.par)];congr 1;exact UaC fun l hl=>hR l (hn.links l hl)
 have e3:b.sites.map mv=b.sites.map mv':=UaC fun p hp=>hm p (Yo hr (hb.sites p hp));have e4:b.inner.map (JL FR)=b.inner.map (JL FR'):=UaC fun w hw=>by unfold JL;rw[hR _ (hb.inner w hw)]
 rw[e1,e2,e3,e4]
def Qb(a:TBigraph)(e:Int)(o:List ByteArray):List Int:=V7 a (fun l=>l) fun x=>e+Jh o x
def Xa(a b:TBigraph)(g:ByteArray->Int):List Int:=V7 b (fun l=>a.edges+l) g
theorem ZEA{c:Int}{n:Nat}:YC c n=(Je n).map fun l=>c+l:=by simp [YC,Je]
theorem Zob{a:TBigraph}{e:Int}{o:List ByteArray}{n:Nat}(hn:a.edges=n):YC 0 n++a.outer.map (fun x=>e+Jh o x)=Qb a e o:=by rw[Qb,V7,Zn3,hn,Int.toNat_natCast]
theorem Zoc{a b:TBigraph}{g:ByteArray->Int}{n:Nat}(hn:b.edges=n):YC a.edges n++b.outer.map g=Xa a b g:=by rw[Xa,V7,ZEA,hn,Int.toNat_natCast]
theorem Zod{b:TBigraph}{f:Int->Int}{g:ByteArray->Int}(h:0<=b.edges):((V7 b f g).length:Int)=b.edges+b.outer.length:=by rw[V7,Uac,Uaa,Uaa,VH];omega
theorem Zbv{sig:List TControl}{a:TBigraph}(ha:bigOK sig a){e:Int}{o:List ByteArray}{l:Int}(hl:Z6 a l):J1 a e o (fun x=>x) l=g0 (Qb a e o) l.toNat:=by
 have he:=ha.edges;unfold J1 Qb;rcases Qq hl with ⟨h0,h1⟩ | ⟨i,hi,rfl⟩
 ·rw[XJ h0 h1,DX h1,if_pos rfl]
 ·rw[XK he.1 hi,DY hi,if_neg (DW ha.outer (Uaj hi))]
def QM(a:TBigraph)(nm:ByteArray->Int×ByteArray)(x:Int×ByteArray):Int×ByteArray:=if x.2=Ja then (x.1+a.edges,Ja) else nm x.2
theorem Zoe{sig:List TControl}{a b:TBigraph}(hb:bigOK sig b){e:Int}{o:List ByteArray}{nm:ByteArray->Int×ByteArray}{g:ByteArray->Int}(hg:∀ i (h:i<b.outer.length),(if (nm b.outer[i]).2=Ja then (nm b.outer[i]).1 else e+Jh o (nm b.outer[i]).2)=g b.outer[i]){l:Int}(hl:Z6 b l):J1 b e o (QM a nm) l=g0 (Xa a b g) l.toNat:=by
 have he:=hb.edges;unfold J1 Xa;rcases Qq hl with ⟨h0,h1⟩ | ⟨i,hi,rfl⟩
 ·rw[XJ h0 h1,DX h1];unfold QM;rw[if_pos rfl,if_pos rfl];omega
 ·rw[XK he.1 hi,DY hi];unfold QM;rw[if_neg (DW hb.outer (Uaj hi)),hg i hi]
def ZdO(a b:TBigraph)(o:List ByteArray)(L R:List Int):TBigraph:=Vh a b a.roots [] o (fun l=>g0 L l.toNat) (fun l=>g0 R l.toNat) (Ya a.nodes.length a.sites)
def ZdP(a:TBigraph)(p:Int):Int:=if 0<=p then p+a.nodes.length else g0 a.sites (-1-p).toNat
theorem ZEB{a:TBigraph}{p:Int}:ZdP a p=Ya a.nodes.length a.sites p:=by
 unfold ZdP Ya;by_cases h:0<=p
 ·rw[if_pos h,if_neg (by omega)]
 ·rw[if_neg h,if_pos (by omega)]
noncomputable def Jn(a b:TBigraph):List ByteArray:=ZN (a.outer++b.outer)
noncomputable def YK(a b:TBigraph):TBigraph:=ZdO a b (Jn a b) (Qb a (a.edges+b.edges) (Jn a b)) (Xa a b fun x=>a.edges+b.edges+Jh (Jn a b) x)
theorem ZEC{sig:List TControl}{a b:TBigraph}(ha:bigOK sig a)(hb:bigOK sig b) :
  Vh a b a.roots [] (Jn a b) (J1 a (a.edges+b.edges) (Jn a b) fun x=>x) (J1 b (a.edges+b.edges) (Jn a b) (QM a fun s=>(0,s))) (ZdP a)=YK a b :=
 Zoa ha hb (fun l hl=>Zbv ha hl) (fun l hl=>Zoe hb (fun i hi=>if_neg (DW hb.outer (Uaj hi))) hl) fun p _=>ZEB
theorem Zof{sig:List TControl}{b:TBigraph}(h:bigOK sig b){ps:List Int}(hp:(ps.length:Int)=b.roots){p:Int}(h1:-b.roots<=p)(h2:p<b.nodes.length):(-4294967296<=p/\p<=4294967296)/\(p<0->(-1-p).toNat<ps.length):=by have hr:=h.roots;have hn:=h.small.nodes;exact⟨by omega,fun h3=>by omega⟩
theorem ZdQ{sig:List TControl}{b:TBigraph}(h:bigOK sig b){ps ls:List Int}(hp:(ps.length:Int)=b.roots)(hl:(ls.length:Int)=b.edges+b.outer.length):∀ x∈b.nodes,x.links.length<=4294967290/\((-4294967296<=x.parent/\x.parent<=4294967296)/\(x.parent<0->(-1-x.parent).toNat<ps.length))/\∀ l∈x.links,0<=l/\l<ls.length:=fun x hx=>by have hl2:=h.small.links _ hx;have hb:=XO h hx;obtain⟨k,hk,rfl⟩:=Uar hx;refine⟨by omega,Zof h hp (Yo h.roots.1 (h.nodes k hk).par) hb.1,fun l hl3=>?_⟩;have:=hb.2 l hl3;omega
theorem ZdR{sig:List TControl}{b:TBigraph}(h:bigOK sig b){ps:List Int}(hp:(ps.length:Int)=b.roots):∀ p∈b.sites,(-4294967296<=p/\p<=4294967296)/\(p<0->(-1-p).toNat<ps.length):=fun p hq=>Zof h hp (Yo h.roots.1 (h.sites p hq)) (XP h hq)
theorem ZhG{sig:List TControl}{b:TBigraph}(h:bigOK sig b){ls:List Int}(hl:(ls.length:Int)=b.edges+b.outer.length):∀ w∈b.inner,0<=w.link/\w.link<ls.length:=fun w hw=>by have:=h.inner w hw;unfold Z6 at this;omega
theorem Zog{sig:List TControl}{b:TBigraph}(h:bigOK sig b){n:Nat}(hn:b.roots=n){ls:List Int}:b.nodes.map (Q8 0 (JD 0 n) ls)=b.nodes.map (VI fun l=>g0 ls l.toNat):=UaC fun x hx=>by obtain⟨k,hk,rfl⟩:=Uar hx;unfold Q8 VI;rw[ZdJ hn (Yo h.roots.1 (h.nodes k hk).par)]
theorem Zoh{sig:List TControl}{b:TBigraph}(h:bigOK sig b){n:Nat}(hn:b.roots=n):b.sites.map (Ya 0 (JD 0 n))=b.sites:=by have:b.sites.map (Ya 0 (JD 0 n))=b.sites.map id:=UaC fun p hp=>ZdJ hn (Yo h.roots.1 (h.sites p hp));rw[this,List.map_id]
theorem Zoi{l:List TNode}:ZC 3 (l.map ZQ)=True:=eq_true (VD ZQ (fun _=>rfl) l)
abbrev Wy(b:TBigraph)(u:Bool):IV:=.ag [iI b.roots,.ow 3 (b.nodes.map ZQ) u,.ow 1 (rI b.sites) true,iI b.edges,.ow 1 (rS b.outer) true,.ow 2 (b.inner.map ZS) true]
theorem ZED(sig:List TControl)(a b:TBigraph)(o:List ByteArray)(above below:List Int)(ha:bigOK sig a)(hb:bigOK sig b)(hf:(a.sites.length:Int)=b.roots)(hA:above.length=a.outer.length)(hB:below.length=b.outer.length)(ho:o.length<=4294967290)(L R:List Int)(hL:∀ n:Nat,a.edges=n->YC 0 n++above=L)(hR:∀ n:Nat,b.edges=n->YC a.edges n++below=R)
  (lvl:Nat) (S:Zb):Sem Ucb ZgO lvl [.ag ((Zh a).map .tr),.ag ((Zh b).map .tr),.tr (.sl (rS o)),tI above,tI below] S (Wy (ZdO a b o L R) false) S:=by
 have ra:=ha.roots;have rb:=hb.roots;have ea:=ha.edges;have eb:=hb.edges;have sa:=ha.small;have sb:=hb.small;have a1:=sa.nodes;have a2:=sa.sites;have a3:=sa.inner;have a4:=sa.outer;have b1:=sb.nodes;have b2:=sb.sites;have b3:=sb.inner;have b4:=sb.outer;obtain⟨n,hn⟩:∃ n:Nat,a.roots=n:=⟨a.roots.toNat,by omega⟩;obtain⟨m,hm⟩:∃ m:Nat,a.edges=m:=⟨a.edges.toNat,by omega⟩;obtain⟨k,hk⟩:∃ k:Nat,b.edges=k:=⟨b.edges.toNat,by omega⟩;have hLL:=hL m hm;have hRR:=hR k hk;have lenL:(L.length:Int)=a.edges+a.outer.length:=by rw[<-hLL,Uac,fromN_len,hA];omega
 have lenR:(R.length:Int)=b.edges+b.outer.length:=by rw[<-hRR,Uac,fromN_len,hB];omega
 have w1:rI (YC 0 m)++rI above=rI L:=by rw[<-J4,hLL]
 have w2:m+above.length=L.length:=by rw[<-hLL,Uac,fromN_len]
 have w3:rI (YC (m:Int) k)++rI below=rI R:=by rw[<-J4,<-hm,hRR]
 have w4:k+below.length=R.length:=by rw[<-hRR,Uac,fromN_len]
 have w5:max m L.length=L.length:=by omega
 have w6:max k R.length=R.length:=by omega
 have c1:cut (rI L) 0 L.length=rI L:=Ym (by rw[Uaa]);have c2:cut (rI R) 0 R.length=rI R:=Ym (by rw[Uaa]);refine Zl ZCh (by simp [low,men,Zc]) ?_;simp only[Zmk,Zh,hn,Za,seval,Zc,men];refine Zf (ZdE 0 n (by omega) (by omega)) ?_;simp only[hm,Za,seval,Zc,men];refine Zf (Zbq 0 m (by omega) (by omega)) ?_;simp only[V9,Qa,hk,w1,w2,w5,fromN_len,Uaa,Za,seval,Zc,men];refine⟨by omega,Zf (Zbq m k (by omega) (by omega)) ?_⟩;simp only[V9,Qa,w3,w4,w6,fromN_len,Uaa,Za,seval,Zc,men];refine⟨by omega,?_⟩;have q1:=D0 a 0 (JD 0 n) (by omega) (by omega) (ZdR ha (by rw[rootsN_len];omega));rw[Zoh ha hn] at q1;simp only[Zh,hn,hm,Uah,Uam] at q1;refine Zf q1 ?_;simp only[c1,Uaa,Za,seval,Zc,men];have q2:=Zbr a 0 (JD 0 n) L (by omega) (by omega) (ZdQ ha (by rw[rootsN_len];omega) lenL);rw[Zog ha hn] at q2;simp only[Zh,hn,hm,Uah,Uam] at q2;refine Zf q2 ?_;simp only[c2,Uaa,Za,seval,Zc,men];have q3:=Zbr b a.nodes.length a.sites R (by omega) (by omega) (ZdQ hb hf lenR);simp only[Zh,hk,Uah,Uam] at q3;refine Zf q3 ?_;simp only[Zoi,Uaa,Za,seval,Zc,men];refine⟨by omega,?_⟩;have q4:=D0 b a.nodes.length a.sites (by omega) (by omega) (ZdR hb hf);simp only[Zh,hk,Uah,Uam] at q4;refine Zf q4 ?_;simp only[QK,V8,c2,Uaa,Za,seval,Zc,men];refine⟨by rw[Ze];omega,by omega,?_⟩;have q5:=ZdF b R (by omega) (ZhG hb lenR);simp only[Zh,hk,Uah,Uam] at q5;refine Zf q5 ?_;simp only[Uac,Uaa,Za,seval];simp only[Wy,ZdO,Vh,Uaw,List.nil_append,hn,hm,hk];rfl
theorem Zoj{sig:List TControl}{a b:TBigraph}(ha:bigOK sig a)(hb:bigOK sig b){roots:Int}{ss:List Int}{o:List ByteArray}{FL FR mv:Int->Int}(hs:ss.length<=4)(ho:o.length<=100)(hos:∀ y∈o,y.size<=4294967290):Jo 4294967290 (Vh a b roots ss o FL FR mv):=by
 have sa:=ha.small;have sb:=hb.small;have a1:=sa.nodes;have a2:=sa.sites;have a3:=sa.inner;have b1:=sb.nodes;have b2:=sb.sites;have b3:=sb.inner;refine⟨by simp only[Vh,Uaa,Uac];omega,fun y hy=>?_,by simp only[Vh,Uaa,Uac];omega,by show o.length<=_;omega,hos,by simp only[Vh,Uaa];omega,fun y hy=>?_⟩
 ·rcases Uaq.1 hy with hy | hy
  ·obtain⟨x,hx,rfl⟩:=Uau.1 hy;have:=sa.links x hx;simp only[ZaW,VI,Uaa];omega
  ·obtain⟨x,hx,rfl⟩:=Uau.1 hy;have:=sb.links x hx;simp only[ZaW,Uaa];omega
 ·obtain⟨w,hw,rfl⟩:=Uau.1 hy;have hn:w.name∈inn b:=Uau.2 ⟨w,hw,rfl⟩;have:=QL hb.inn hn;simp only[W8,JL];omega
def sm(n:Int):Prop:=-1000<=n/\n<=1000
theorem Wz{n:Int}(h:sm n):ZZ .i64 n:=by unfold sm at h;rw[Ze];omega
theorem Zok{sig:List TControl}{a b:TBigraph}(ha:bigOK sig a)(hb:bigOK sig b)(fa:JM a)(fb:JM b){roots:Int}{ss:List Int}{o:List ByteArray}{FL FR mv:Int->Int}(hr:sm roots)(hs:∀ p∈ss,sm p)(hL:∀ l,Z6 a l->sm (FL l))(hR:∀ l,Z6 b l->sm (FR l))(hm:∀ p,-b.roots<=p->p<b.nodes.length->sm (mv p)):JM (Vh a b roots ss o FL FR mv):=by
 have ea:=ha.edges;have eb:=hb.edges;refine⟨Wz hr,fun y hy=>?_,fun p hp=>?_,by show ZZ .i64 (a.edges+b.edges);rw[Ze];omega,fun y hy=>?_⟩
 ·rcases Uaq.1 hy with hy | hy
  ·obtain⟨x,hx,rfl⟩:=Uau.1 hy;have hq:=fa.2.1 x hx;obtain⟨i,hi,hie⟩:=Uar hx;refine⟨hq.1,hq.2.1,fun l hl=>?_⟩;obtain⟨l0,hl0,rfl⟩:=Uau.1 hl;exact Wz (hL l0 ((ha.nodes i hi).links l0 (by rw[hie];exact hl0)))
  ·obtain⟨x,hx,rfl⟩:=Uau.1 hy;have hq:=fb.2.1 x hx;have hbp:=XO hb hx;obtain⟨i,hi,hie⟩:=Uar hx;refine⟨hq.1,Wz (hm _ (Yo hb.roots.1 (by rw[<-hie];exact(hb.nodes i hi).par)) hbp.1),fun l hl=>?_⟩;obtain⟨l0,hl0,rfl⟩:=Uau.1 hl;exact Wz (hR l0 ((hb.nodes i hi).links l0 (by rw[hie];exact hl0)))
 ·rcases Uaq.1 hp with hp | hp
  ·exact Wz (hs p hp)
  ·obtain⟨x,hx,rfl⟩:=Uau.1 hp;exact Wz (hm _ (Yo hb.roots.1 (hb.sites x hx)) (XP hb hx))
 ·obtain⟨w,hw,rfl⟩:=Uau.1 hy;exact Wz (hR _ (hb.inner w hw))
theorem ZEE{sig:List TControl}{a b:TBigraph}(ha:bigOK sig a)(hb:bigOK sig b)(hf:(a.sites.length:Int)=b.roots){p:Int}(h1:-b.roots<=p)(h2:p<b.nodes.length):sm (Ya a.nodes.length a.sites p):=by
 have a1:=ha.small.nodes;have b1:=hb.small.nodes;have ra:=ha.roots;unfold Ya sm;split
 ·rename_i h;have hl:(-1-p).toNat<a.sites.length:=by omega
  have hg:g0 a.sites (-1-p).toNat=a.sites[(-1-p).toNat]:=by simp [hl]
  have hm:=Uaj hl;have:=Yo ra.1 (ha.sites _ hm);have:=XP ha hm;rw[hg];omega
 ·omega
theorem ZEF{sig:List TControl}{a:TBigraph}(ha:bigOK sig a){e:Int}(he:0<=e/\e<=100){o:List ByteArray}(ho:o.length<=100){l:Int}(hl:Z6 a l):sm (g0 (Qb a e o) l.toNat):=by
 have ea:=ha.edges;unfold Qb sm;rcases Qq hl with ⟨h0,h1⟩ | ⟨i,hi,rfl⟩
 ·rw[XJ h0 h1];omega
 ·rw[XK ea.1 hi];have:=U0 (l:=o) (s:=a.outer[i]);have:=Ud (l:=o) (s:=a.outer[i]);omega
theorem Zol{sig:List TControl}{a b:TBigraph}(ha:bigOK sig a)(hb:bigOK sig b){g:ByteArray->Int}(hg:∀ x∈b.outer,sm (g x)){l:Int}(hl:Z6 b l):sm (g0 (Xa a b g) l.toNat):=by
 have ea:=ha.edges;have eb:=hb.edges;unfold Xa;rcases Qq hl with ⟨h0,h1⟩ | ⟨i,hi,rfl⟩
 ·rw[XJ h0 h1];unfold sm;omega
 ·rw[XK eb.1 hi];exact hg _ (Uaj hi)
end Go.Fd
