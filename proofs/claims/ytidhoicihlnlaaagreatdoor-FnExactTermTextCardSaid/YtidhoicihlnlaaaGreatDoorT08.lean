/-
  THE VALUE OF A TERM, THE REFERENCE'S SIDE. Own work.
-/
import Derived.Test.YtidhoicihlnlaaaGreatDoorT07
import Derived.Shelf.Strconv.Itoa3
import Derived.Test.YtidhoicihlnlaaaGreatDoorProg
import Derived.Shelf.Strings.OnBuilder
import Derived.KernelRfl
set_option linter.all false
namespace Go.Fd
set_option maxRecDepth 20000
theorem Zgs(sig:List TControl)(t:List TTermStep)(hn:sig.length<=4294967296)(hbs:∀ y∈sig,Zp 4294967296 y)(hlt:t.length<=4294967296)(hbt:∀ y∈t,Zw 4294967296 y)(lvl:Nat)(S:Sto):Sem Proofs.Tryz.prog Qx lvl [.tr (.sl (sig.map Zh)),.tr (.sl (t.map Zg))] S (.tu [Zi (Zp6 sig t),iB (Zdn sig t).isSome]) S:=by
 refine Zc ZgD (by simp [Zi,low,men,Zd]) ?_
 simp only[ZbE,EVA,seval,Zd,men]
 refine Za (Zj1 sig (by omega) (fun y hy=>DN (hbs y hy))) ?_
 cases hsg:dc (Yl sig)
 ·have e:=Zfa (t:=t) fun g=>dc_not.1 hsg g.1
  rw[e,Qw e]
  simp only[Option.isSome_none,EVA,seval,Zd,men]
  try rfl
 have hs:=dc_iff.1 hsg
 simp only[List.length_map,EVA,seval,Zd,men]
 refine Zl (fun hlo=>?_) (fun hlo=>?_)
 ·have e:=Zfa (sig:=sig) (t:=t) fun g=>by have:=g.2;omega
  rw[e,Qw e]
  simp only[Option.isSome_none,EVA,seval,Zd,men]
  try rfl
 have hl60:t.length<=60:=by omega
 refine Za (ZpQ sig t hn hbs hbt hs hl60) ?_
 cases hr:Zby sig t with
 | none =>
  have e:Zdn sig t=none:=Zd4 fun x m g=>by rw[hr] at g;cases g
  rw[e,Qw e]
  simp only[Option.isSome_none,EVA,seval,Zd,men]
  try rfl
 | some z =>
  rw[ZmK hr]
  obtain⟨L,m⟩:=z
  have hz:=Zcd hs (j:=t.length) (Nat.le_refl _) (by rw[List.take_length];exact hr)
  simp only[Option.isSome_some,List.length_map,EVA,seval,Zd,men]
  refine Zl (fun h1=>?_) (fun h1=>?_)
  ·obtain⟨x,rfl⟩:∃ x,L=[x]:=Zkp (by have:=of_decide_eq_false h1;omega)
   have hp:=hz.1 x (by simp)
   have h4:=hp.big.sitesL
   have hlen:=hp.len
   have ga:([x].map ptC)[0]? = some (ptC x):=rfl
   have hf:(decide ¬ ((([x]:List Q3).length:Nat):Int)=1)=false:=h1
   have q:=ZnB x.2 (x.2.length:Int) (by omega) rfl
   simp only[ga,hf,ptC,Zb,List.map_cons,List.map_nil,List.length_map,List.length_cons,List.length_nil,EVA,seval,Zd,men]
   refine Za q ?_
   cases ho:dc (Zbx x.2.length x.2)
   ·have e:Zdn sig t=none:=Zd4 fun y m' g=>by
     rw[hr] at g
     cases g
     exact dc_not.1 ho
    rw[e,Qw e]
    simp only[Option.isSome_none,EVA,seval,Zd,men]
    try rfl
   have hord:=dc_iff.1 ho
   have e:=ZmL hs hl60 hr hord
   rw[e,Zkt e]
   have qo:=Zng sig x.1 hp.big
   simp only[Zb,List.map_cons,List.map_nil] at qo
   simp only[Option.isSome_some,EVA,seval,Zd,men]
   refine Za qo ?_
   simp only[Zi,List.length_map,EVA,seval,Zd,men]
   obtain⟨R,hR⟩:∃ R,R=List.replicate x.2.length (0:Int):=⟨_,rfl⟩
   have hRl:R.length=x.2.length:=by rw[hR,List.length_replicate]
   have hrep:rI R=List.replicate x.2.length [Tr.v (Value.int .i64 0)]:=by rw[hR];show List.map _ _=_;rw[List.map_replicate]
   refine⟨by omega,?_⟩
   refine Zz (α:=Unit) x.2.length (fun j _=>[(11,iI j)]) (fun j _=>[(1888,.ar 1 (rI (ZiX x.2 x.1.sites R j)) true x.2.length 0)]) (fun _ _=>True) () (by simp only[EVA,seval,Zd,men]) (by (simp only[ZiX,hrep,EVA,seval,Zd,men]) <;> rfl) trivial ?_
   intro j _ hj _
   simp only[List.length_map,EVA,seval,Zd,men]
   refine Zl (fun hlt2=>?_) (fun hge=>?_)
   ·have hja:j<x.2.length:=by omega
    have hjs:j<x.1.sites.length:=by omega
    have gk:=ZiZ hja
    have gv:=ZiZ hjs
    have hm:=Zki hord (List.getElem_mem hja)
    have hst:=ZmM (ini:=R) hja hjs hm.1 (by omega)
    have hkl:x.2[j].toNat<x.2.length:=by omega
    have gp:=ZiZ (l:=ZiX x.2 x.1.sites R j) (j:=x.2[j].toNat) (by rw[QF];omega)
    simp only[gk,gv,gp,hst,hkl,hja,hjs,List.getElem?_cons_zero,QF,List.length_map,EVA,seval,Zd,men]
    exact⟨hm.1,by rw[Ze];omega,Zf () hja rfl trivial⟩
   ·have:j=x.2.length:=by omega
    subst this
    have hpa:=Zri (v:=x.1.sites) (a:=R) (b:=x.1.sites) hord hRl (by omega)
    rw[hpa]
    simp only[QF,List.length_map,EVA,seval,Zd,men]
    exact⟨hlen,rfl⟩
  ·have e:Zdn sig t=none:=Zd4 fun x m' g=>by
    rw[hr] at g
    cases g
    simp at h1
   rw[e,Qw e]
   simp only[Option.isSome_none,EVA,seval,Zd,men]
   try rfl
end Go.Fd

/-
  IsTerm, TermValue, TermDepth: BOTH SIDES. Own work.
-/
namespace Go.Fd
set_option maxRecDepth 20000
theorem Zfb{sig:List TControl}{t:List TTermStep}{b:TBigraph}(h:Zdn sig t=some b):Yl sig/\t.length<=60/\∃ z,Zby sig t=some z:=by
 unfold Zdn at h
 split at h
 ·rename_i g
  refine⟨g.1,g.2,?_⟩
  cases hr:Zby sig t with
  | none=>rw[hr] at h;cases h
  | some z=>exact⟨z,rfl⟩
 ·cases h
end Go.Fd

/-
  NUMBERS OF LIBRARY FUNCTIONS IN THIS PROGRAM, as the guide's shelf lays them (printed by lay.py out of the kit's own command).
-/
namespace Go.Proofs
open Go.Shelf
def Tryz.lays171_ren:Go.Shelf.Ren:=⟨fun | 171=>120 | 243=>165 | 246=>219 | 283=>267 | 284=>268 | 285=>269 | 286=>270 | 129=>192 | 317=>286 | 318=>287 | 319=>288 | 320=>289 | 337=>305 | 338=>306 | n=>n,fun | 3=>3 | 9=>9 | 2=>2 | 4=>4 | 171=>272 | 0=>0 | 53=>218 | 37=>110 | 5=>5 | 173=>274 | 212=>289 | 51=>216 | 20=>20 | 213=>290 | 46=>181 | 232=>316 | 233=>317 | n=>n,fun | 17=>1 | 18=>4 | 19=>5 | n=>n⟩
theorem Tryz.lays171:Go.Proofs.Lays.n171 Tryz.prog Tryz.lays171_ren:={
  mixed:=by kernel_rfl,
  f129:=Tryz.func192.trans (congrArg some (by kernel_rfl)),
  f171:=Tryz.func120.trans (congrArg some (by kernel_rfl)),
  f243:=Tryz.func165.trans (congrArg some (by kernel_rfl)),
  f246:=Tryz.func219.trans (congrArg some (by kernel_rfl)),
  f283:=Tryz.func267.trans (congrArg some (by kernel_rfl)),
  f284:=Tryz.func268.trans (congrArg some (by kernel_rfl)),
  f285:=Tryz.func269.trans (congrArg some (by kernel_rfl)),
  f286:=Tryz.func270.trans (congrArg some (by kernel_rfl)),
  f317:=Tryz.func286.trans (congrArg some (by kernel_rfl)),
  f318:=Tryz.func287.trans (congrArg some (by kernel_rfl)),
  f319:=Tryz.func288.trans (congrArg some (by kernel_rfl)),
  f320:=Tryz.func289.trans (congrArg some (by kernel_rfl)),
  f337:=Tryz.func305.trans (congrArg some (by kernel_rfl)),
  f338:=Tryz.func306.trans (congrArg some (by kernel_rfl)),
  t0:=Tryz.underlying0,
  a0:=Tryz.isAgg0,
  z0:=Tryz.sizeOf0,
  v0:=Tryz.zeroValue0,
  t2:=Tryz.underlying2,
  a2:=Tryz.isAgg2,
  z2:=Tryz.sizeOf2,
  v2:=Tryz.zeroValue2,
  t3:=Tryz.underlying3,
  a3:=Tryz.isAgg3,
  z3:=Tryz.sizeOf3,
  v3:=Tryz.zeroValue3,
  t4:=Tryz.underlying4,
  a4:=Tryz.isAgg4,
  z4:=Tryz.sizeOf4,
  v4:=Tryz.zeroValue4,
  t5:=Tryz.underlying5,
  a5:=Tryz.isAgg5,
  z5:=Tryz.sizeOf5,
  v5:=Tryz.zeroValue5,
  t9:=Tryz.underlying9,
  a9:=Tryz.isAgg9,
  z9:=Tryz.sizeOf9,
  v9:=Tryz.zeroValue9,
  t20:=Tryz.underlying20,
  a20:=Tryz.isAgg20,
  z20:=Tryz.sizeOf20,
  v20:=Tryz.zeroValue20,
  t37:=Tryz.underlying110,
  a37:=Tryz.isAgg110,
  z37:=Tryz.sizeOf110,
  v37:=Tryz.zeroValue110,
  t46:=Tryz.underlying181,
  a46:=Tryz.isAgg181,
  z46:=Tryz.sizeOf181,
  v46:=Tryz.zeroValue181,
  t51:=Tryz.underlying216,
  a51:=Tryz.isAgg216,
  z51:=Tryz.sizeOf216,
  v51:=Tryz.zeroValue216,
  t53:=Tryz.underlying218,
  a53:=Tryz.isAgg218,
  z53:=Tryz.sizeOf218,
  v53:=Tryz.zeroValue218,
  t171:=Tryz.underlying272,
  a171:=Tryz.isAgg272,
  z171:=Tryz.sizeOf272,
  v171:=Tryz.zeroValue272,
  t173:=Tryz.underlying274,
  a173:=Tryz.isAgg274,
  z173:=Tryz.sizeOf274,
  v173:=Tryz.zeroValue274,
  t212:=Tryz.underlying289,
  a212:=Tryz.isAgg289,
  z212:=Tryz.sizeOf289,
  v212:=Tryz.zeroValue289,
  t213:=Tryz.underlying290,
  a213:=Tryz.isAgg290,
  z213:=Tryz.sizeOf290,
  t232:=Tryz.underlying316,
  a232:=Tryz.isAgg316,
  z232:=Tryz.sizeOf316,
  v232:=Tryz.zeroValue316,
  t233:=Tryz.underlying317,
  a233:=Tryz.isAgg317,
  z233:=Tryz.sizeOf317,
  v233:=Tryz.zeroValue317,
  g17:=by kernel_rfl,
  g18:=by kernel_rfl,
  g19:=by kernel_rfl }
end Go.Proofs

/-
  BYTES, NUMBERS, JOINED WORDS (the parts of ST and ST2 that terms need). Own work.
-/
namespace Go.Fd
open Go.RowKit
set_option maxRecDepth 20000
def bl(s:ByteArray):List UInt8:=s.data.toList
theorem ZhB(a b:ByteArray):bl (a++b)=bl a++bl b:=by simp [bl,ByteArray.data_append]
theorem Zgt{a b:ByteArray}(h:bl a=bl b):a=b:=by
 cases a with | mk a=>cases b with | mk b=>exact congrArg ByteArray.mk (Array.toList_inj.1 h)
theorem ZnG(l:List UInt8):bl ⟨l.toArray⟩=l:=by simp [bl]
theorem Zsi(a:ByteArray):(bl a).length=a.size:=(ZfZ a).symm
abbrev SP:ByteArray:=⟨#[32]⟩
def ZhC(n:Int):ByteArray:=⟨(Lib.decDigits n.toNat).toArray⟩
theorem dd1{u:Nat}(h:u<10):Lib.decDigits u=[UInt8.ofNat (48+u)]:=by rw[Lib.decDigits,dif_pos h]
theorem dd2{u:Nat}(h0:10<=u)(h:u<100):Lib.decDigits u=[UInt8.ofNat (48+u / 10),UInt8.ofNat (48+u % 10)]:=by
 rw[Lib.decDigits,dif_neg (by omega),dd1 (by omega)]
 rfl
theorem Zgu{n:Int}(h0:0<=n)(h1:n<100):(ZhC n).size<=2:=by
 rw[<-Zsi,ZhC,ZnG]
 by_cases h:n.toNat<10
 ·rw[dd1 h];simp
 ·rw[dd2 (by omega) (by omega)];simp
abbrev DIG:ByteArray:=⟨#[48,49,50,51,52,53,54,55,56,57]⟩
theorem ZCp:∀ n:Fin 10,bl (DIG.extract n.val (n.val+1))=[UInt8.ofNat (48+n.val)]:=by decide +kernel
theorem ZDJ{n:Nat}(h:n<10):DIG.extract n (n+1)=ZhC n:=Zgt (by
 rw[ZCp ⟨n,h⟩,ZhC,ZnG,Int.toNat_natCast,dd1 h])
theorem ZDK{n:Nat}(h0:10<=n)(h:n<100):ZhC ((n / 10:Nat):Int)++DIG.extract (n % 10) (n % 10+1)=ZhC n:=Zgt (by
 rw[ZhB,ZCp ⟨n % 10,by omega⟩,ZhC,ZnG,Int.toNat_natCast,dd1 (by omega),ZhC,ZnG,Int.toNat_natCast,dd2 h0 h]
 rfl)
def Zgv(sig:List TControl)(k:Int):ByteArray:=((sig[k.toNat]?).map TControl.name).getD ⟨#[]⟩
theorem Zdp{sig:List TControl}{k:Nat}(h:k<sig.length):Zgv sig k=sig[k].name:=by simp [Zgv,h]
theorem Zcf{sig:List TControl}(h:Yl sig)(k:Int):(Zgv sig k).size<=4:=by
 unfold Zgv
 cases e:sig[k.toNat]? with
 | none=>decide
 | some x =>
  obtain⟨hl,rfl⟩:=List.getElem?_eq_some_iff.1 e
  exact((h.1 _ hl).1).1.2.2
open Go.RowKit
set_option maxRecDepth 20000
theorem Zry{n:Int}(h0:0<=n)(h1:n<100)(lvl:Nat)(S:Sto):Sem Proofs.Tryz.prog D7 lvl [iI n] S (iS (ZhC n)) S:=by
 obtain⟨u,rfl⟩:=Int.eq_ofNat_of_zero_le h0
 exact ZfD (xs:=[.int .i64 u]) (Zc8 (by kernel_rfl)) rfl (fun w=>(Go.Proofs.Any.strconv_Itoa_small Proofs.Tryz.lays171 u (by omega) w).mono fun e w' ⟨h,h'⟩=>⟨h,h' ▸ Below.refl _ _⟩)
theorem Zlw{n:Int}(h0:0<=n)(h1:n<100)(lvl:Nat)(S:Sto):Sem Proofs.Tryz.prog Uy lvl [iI n] S (iS (ZhC n)) S:=by
 refine Zc Zm0 trivial ?_
 simp only[Zhm,EVA,seval,Zd,men]
 refine Za (Zry h0 h1) ?_
 simp only[EVA,seval,Zd,men]
theorem ZhD{n:Nat}(h:n<10)(lvl:Nat)(S:Sto):Sem Proofs.Tryz.prog YE lvl [iI n] S (iS (ZhC n)) S:=by
 refine Zc Zeq trivial ?_
 have h0:¬ (n:Int)<0:=by omega
 have h1:(n:Int)<10:=by omega
 have h2:((n:Int)+1).toNat=n+1:=by omega
 simp only[ZaH,h0,h1,h2,EVA,seval,Zd,men]
 refine⟨by rw[Ze];omega,by omega,by omega,?_,?_⟩
 ·show n+1<=10
  omega
 ·rw[<-ZDJ h]
theorem ZnH{n:Nat}(h0:10<=n)(h:n<100)(lvl:Nat)(S:Sto):Sem Proofs.Tryz.prog YE lvl [iI n] S (iS (ZhC n)) S:=by
 refine Zc Zeq trivial ?_
 have g0:¬ (n:Int)<0:=by omega
 have g1:¬ (n:Int)<10:=by omega
 have e1:(n:Int) / 10=((n / 10:Nat):Int):=by omega
 have e2:(n:Int) % 10=((n % 10:Nat):Int):=by omega
 have e3:(((n % 10:Nat):Int)+1).toNat=n % 10+1:=by omega
 simp only[ZaH,g0,g1,e1,e2,e3,EVA,seval,Zd,men]
 refine⟨by rw[Ze];omega,?_⟩
 refine Za (ZhD (n:=n / 10) (by omega)) ?_
 simp only[e2,e3,EVA,seval,Zd,men]
 have s1:=Zgu (n:=((n / 10:Nat):Int)) (by omega) (by omega)
 have d2:=ZDK h0 h
 refine⟨by rw[Ze];omega,by omega,by omega,?_,?_,?_⟩
 ·show n % 10+1<=10
  omega
 ·have:=congrArg ByteArray.size d2
  rw[ByteArray.size_append] at this
  have s2:=Zgu (n:=(n:Int)) (by omega) (by omega)
  show (ZhC ((n / 10:Nat):Int)).size+(DIG.extract (n % 10) (n % 10+1)).size<=4294967296
  omega
 ·rw[<-d2]
theorem ZpU{n:Int}(h0:0<=n)(h1:n<100)(lvl:Nat)(S:Sto):Sem Proofs.Tryz.prog YE lvl [iI n] S (iS (ZhC n)) S:=by
 obtain⟨u,rfl⟩:=Int.eq_ofNat_of_zero_le h0
 by_cases h:u<10
 ·exact ZhD h lvl S
 ·exact ZnH (by omega) (by omega) lvl S
end Go.Fd

/-
  WORDS OF STEPS, THE REFERENCE'S SIDE. Own work.
-/
namespace Go.Fd
set_option maxRecDepth 20000
def jn(sep w:ByteArray)(ns:List ByteArray):Nat->ByteArray
 | 0=>w
 | j+1=>(if 0<j then jn sep w ns j++sep else jn sep w ns j)++gS ns j
theorem Zi0{sep w:ByteArray}{ns:List ByteArray}{B:Nat}(h:∀ x∈ns,x.size<=B):∀{j:Nat},j<=ns.length->(jn sep w ns j).size<=w.size+j*(B+sep.size)
 | 0,_=>by simp [jn]
 | j+1,hj=>by
  have ih:=Zi0 (sep:=sep) (w:=w) h (j:=j) (by omega)
  have hg:gS ns j=ns[j]:=XV (by omega)
  have hb:=h _ (List.getElem_mem (show j<ns.length by omega))
  rw[jn,hg,Nat.succ_mul]
  split
  ·rw[ByteArray.size_append,ByteArray.size_append];omega
  ·rw[ByteArray.size_append];omega
def WJ(sig:List TControl)(s:TTermStep):ByteArray :=
 if s.kind_=0 then ⟨#[48]⟩ else if s.kind_=1 then ⟨#[49]⟩ else if s.kind_=2 then ⟨#[64]⟩++ZhC s.site
 else if s.kind_=4 then ⟨#[124]⟩ else if s.kind_=5 then ⟨#[124,124]⟩
 else if s.kind_=6 then ⟨#[47]⟩++gS s.names 0 else if s.kind_=7 then ⟨#[43]⟩++gS s.names 0
 else jn ⟨#[44]⟩ (Zgv sig s.control++⟨#[58]⟩) s.names s.names.length
theorem ZnI(sig:List TControl)(s:TTermStep)(hs:Yl sig)(h:stepOK sig s)(hb:∀ x∈s.names,x.size<=100)(lvl:Nat)(S:Sto):Sem Proofs.Tryz.prog WX lvl [.tr (.sl (sig.map Zh)),.ag ((Zg s).map .tr)] S (iS (WJ sig s)) S:=by
 obtain⟨k,c,p,ns⟩:=s
 have hkind:=h.kind
 simp only at hkind hb
 refine Zc Zik trivial ?_
 by_cases h0:k=0
 ·subst h0; (simp only[J0,Zg,EVA,seval,Zd,men]) <;> rfl
 by_cases h1:k=1
 ·subst h1; (simp only[J0,Zg,h0,EVA,seval,Zd,men]) <;> rfl
 by_cases h2:k=2
 ·subst h2
  have hp:=h.site rfl
  simp only at hp
  simp only[J0,Zg,h0,h1,EVA,seval,Zd,men]
  refine Za (ZpU (n:=p) (by omega) (by omega)) ?_
  have:=Zgu (n:=p) (by omega) (by omega)
  simp only[EVA,seval,Zd,men]
  exact⟨by show 1+(ZhC p).size<=_;omega,rfl⟩
 by_cases h4:k=4
 ·subst h4; (simp only[J0,Zg,h0,h1,h2,EVA,seval,Zd,men]) <;> rfl
 by_cases h5:k=5
 ·subst h5; (simp only[J0,Zg,h0,h1,h2,h4,EVA,seval,Zd,men]) <;> rfl
 by_cases h6:k=6
 ·subst h6
  obtain⟨n,rfl⟩:=Zce (h.one (.inl rfl))
  have g0:(rS [n])[0]? = some [ts n]:=rfl
  simp only[J0,Zg,h0,h1,h2,h4,h5,g0,EVA,seval,Zd,men]
  have hbn:=hb n (by simp)
  exact⟨by show 1+n.size<=_;omega,rfl⟩
 by_cases h7:k=7
 ·subst h7
  obtain⟨n,rfl⟩:=Zce (h.one (.inr rfl))
  have g0:(rS [n])[0]? = some [ts n]:=rfl
  simp only[J0,Zg,h0,h1,h2,h4,h5,h6,g0,EVA,seval,Zd,men]
  have hbn:=hb n (by simp)
  exact⟨by show 1+n.size<=_;omega,rfl⟩
 have h3:k=3:=by omega
 subst h3
 have hw:=h.ctl rfl
 simp only at hw
 obtain⟨m,hm⟩:∃ m:Nat,c=m:=⟨c.toNat,by omega⟩
 have hms:m<sig.length:=by omega
 have gs:=WH (c:=Zh) hms
 simp only[J0,Zg,Zh,hm,gs,h0,h1,h2,h4,h5,h6,h7,List.length_map,EVA,seval,Zd,men]
 have hnm:=Zcf hs (m:Int)
 rw[Zdp hms] at hnm
 have hnl:ns.length<=3:=by have:=h.ports rfl;have:=Zbn hs (c:=c);simp only at *;omega
 obtain⟨w,hw0⟩:∃ w,w=sig[m].name++(⟨#[58]⟩:ByteArray):=⟨_,rfl⟩
 have hws:w.size<=5:=by rw[hw0,ByteArray.size_append];show _+1<=5;omega
 have hwt:WJ sig ⟨3,c,p,ns⟩=jn ⟨#[44]⟩ w ns ns.length:=by
  rw[hw0,<-Zdp hms,<-hm]
  rfl
 rw[hm] at hwt
 rw[hwt,<-hw0]
 refine⟨by show _+1<=_;omega,?_⟩
 refine Zz (α:=Unit) ns.length (fun j _=>[(5,iS (jn ⟨#[44]⟩ w ns j)),(6,iI j)]) (fun _ _=>[]) (fun _ _=>True) () (by simp only[EVA,seval,Zd,men]) (by (simp only[jn,EVA,seval,Zd,men]) <;> rfl) trivial ?_
 intro j _ hj _
 simp only[List.length_map,EVA,seval,Zd,men]
 refine Zl (fun hlt=>?_) (fun hge=>?_)
 ·have hja:j<ns.length:=by omega
  have hsz:=Zi0 (sep:=(⟨#[44]⟩:ByteArray)) (w:=w) (ns:=ns) (B:=100) hb (j:=j) hj
  have hs1:(⟨#[44]⟩:ByteArray).size=1:=rfl
  rw[hs1] at hsz
  have hm2:j*(100+1)<=3*101:=Nat.mul_le_mul_right _ (by omega)
  have hbj:=hb _ (List.getElem_mem hja)
  have hst:jn ⟨#[44]⟩ w ns (j+1)=(if 0<j then jn ⟨#[44]⟩ w ns j++⟨#[44]⟩ else jn ⟨#[44]⟩ w ns j)++ns[j]:=by rw[jn,show gS ns j=ns[j] from XV hja]
  have ga:=ZeN (e0:=e0S) (c:=fun n:ByteArray=>[ts n]) hja
  rw[XV hja] at ga
  by_cases h0j:0<j
  ·have h0i:(0:Int)<(j:Int):=by omega
   rw[if_pos h0j] at hst
   simp only[ga,hja,h0i,List.length_map,EVA,seval,Zd,men]
   exact⟨by rw[hs1];omega,by rw[ByteArray.size_append,hs1];omega,by rw[Ze];omega,Zf () hja (by rw[hst];rfl) trivial⟩
  ·have h0i:¬ (0:Int)<(j:Int):=by omega
   rw[if_neg h0j] at hst
   simp only[ga,hja,h0i,List.length_map,EVA,seval,Zd,men]
   exact⟨by omega,by rw[Ze];omega,Zf () hja (by rw[hst];rfl) trivial⟩
 ·have:j=ns.length:=by omega
  subst this
  simp only[EVA,seval,Zd,men]
  try rfl
end Go.Fd

/-
  THE TEXT OF A TERM, THE REFERENCE'S SIDE. Own work.
-/
namespace Go.Fd
set_option maxRecDepth 20000
def tx(sig:List TControl)(t:List TTermStep):Nat->ByteArray
 | 0=>⟨#[]⟩
 | j+1=>(if 0<j then tx sig t j++⟨#[32]⟩ else tx sig t j)++((t[j]?).map (WJ sig)).getD ⟨#[]⟩
theorem Zlx{sig:List TControl}{t:List TTermStep}{j:Nat}(h:j<t.length):tx sig t (j+1)=(if 0<j then tx sig t j++⟨#[32]⟩ else tx sig t j)++WJ sig t[j]:=by
 rw[tx]
 simp [h]
theorem ZhE{sig:List TControl}{s:TTermStep}(hs:Yl sig)(h:stepOK sig s):(WJ sig s).size<=1000:=by
 have hk:=h.kind
 have hn:∀ x∈s.names,x.size<=4:=fun x hx=>(h.nms x hx).2.2
 have hg:(gS s.names 0).size<=4:=by
  by_cases g:0<s.names.length
  ·rw[show gS s.names 0=s.names[0] from XV g];exact hn _ (List.getElem_mem g)
  ·have:s.names=[]:=List.length_eq_zero_iff.1 (by omega)
   rw[this];show (0:Nat)<=4;omega
 unfold WJ
 split
 ·show 1<=1000;omega
 split
 ·show 1<=1000;omega
 split
 ·rename_i h2
  have hp:=h.site h2
  have:=Zgu (n:=s.site) (by omega) (by omega)
  rw[ByteArray.size_append];show 1+_<=1000;omega
 split
 ·show 1<=1000;omega
 split
 ·show 2<=1000;omega
 split
 ·rw[ByteArray.size_append];show 1+_<=1000;omega
 split
 ·rw[ByteArray.size_append];show 1+_<=1000;omega
 ·have h3:s.kind_=3:=by omega
  have h1:=Zi0 (sep:=(⟨#[44]⟩:ByteArray)) (w:=Zgv sig s.control++⟨#[58]⟩) (B:=4) hn (j:=s.names.length) (Nat.le_refl _)
  have h2:=Zcf hs s.control
  have h4:=h.ports h3
  have h5:=Zbn hs (c:=s.control)
  have h6:(⟨#[44]⟩:ByteArray).size=1:=rfl
  have h7:(⟨#[58]⟩:ByteArray).size=1:=rfl
  rw[ByteArray.size_append,h6,h7] at h1
  have h8:s.names.length*(4+1)<=3*5:=Nat.mul_le_mul_right _ (by omega)
  omega
theorem Zly{sig:List TControl}{t:List TTermStep}(hs:Yl sig)(h:∀ s∈t,stepOK sig s):∀{j:Nat},j<=t.length->(tx sig t j).size<=j*1001
 | 0,_=>Nat.le_refl 0
 | j+1,hj=>by
  have ih:=Zly hs h (j:=j) (by omega)
  have hw:=ZhE hs (h _ (List.getElem_mem (show j<t.length by omega)))
  have h1:(⟨#[32]⟩:ByteArray).size=1:=rfl
  rw[Zlx (by omega),ByteArray.size_append]
  split
  ·rw[ByteArray.size_append,h1];omega
  ·omega
theorem ZnJ(sig:List TControl)(t:List TTermStep)(hs:Yl sig)(h:∀ s∈t,stepOK sig s)(hl:t.length<=60)(lvl:Nat)(S:Sto):Sem Proofs.Tryz.prog WV lvl [.tr (.sl (sig.map Zh)),.tr (.sl (t.map Zg))] S (iS (tx sig t t.length)) S:=by
 refine Zc Zii trivial ?_
 simp only[ZcF,List.length_map,EVA,seval,Zd,men]
 refine Zz (α:=Unit) t.length (fun j _=>[(5,iS (tx sig t j)),(6,iI j)]) (fun _ _=>[]) (fun _ _=>True) () (by simp only[EVA,seval,Zd,men]) (by (simp only[tx,EVA,seval,Zd,men]) <;> rfl) trivial ?_
 intro j _ hj _
 simp only[List.length_map,EVA,seval,Zd,men]
 refine Zl (fun hlt=>?_) (fun hge=>?_)
 ·have hja:j<t.length:=by omega
  have ga:=WH (c:=Zg) hja
  have hok:=h _ (List.getElem_mem hja)
  have q:=ZnI sig t[j] hs hok (fun x hx=>by have:=(hok.nms x hx).2.2;omega)
  have hsz:=Zly hs h hj
  have hw:=ZhE hs hok
  have hs1:(⟨#[32]⟩:ByteArray).size=1:=rfl
  have hst:=Zlx (sig:=sig) hja
  simp only[Zg,List.map_cons,List.map_nil] at q
  by_cases h0j:0<j
  ·have h0i:(0:Int)<(j:Int):=by omega
   rw[if_pos h0j] at hst
   simp only[ga,hja,Zg,h0i,List.length_map,EVA,seval,Zd,men]
   refine⟨by rw[hs1];omega,Za q ?_⟩
   simp only[EVA,seval,Zd,men]
   exact⟨by rw[ByteArray.size_append,hs1];omega,by rw[Ze];omega,Zf () hja (by rw[hst];rfl) trivial⟩
  ·have h0i:¬ (0:Int)<(j:Int):=by omega
   rw[if_neg h0j] at hst
   simp only[ga,hja,Zg,h0i,List.length_map,EVA,seval,Zd,men]
   refine Za q ?_
   simp only[EVA,seval,Zd,men]
   exact⟨by omega,by rw[Ze];omega,Zf () hja (by rw[hst];rfl) trivial⟩
 ·have:j=t.length:=by omega
  subst this
  simp only[EVA,seval,Zd,men]
  try rfl
end Go.Fd

/-
  NUMBERS OF LIBRARY FUNCTIONS IN THIS PROGRAM, as the guide's shelf lays them (printed by lay.py out of the kit's own command).
-/
namespace Go.Proofs
open Go.Shelf
def Tryz.lays156_ren:Go.Shelf.Ren:=⟨fun | 156=>71 | 165=>121 | 166=>122 | 169=>123 | 240=>166 | 241=>167 | 276=>220 | 277=>221 | n=>n,fun | 31=>46 | 9=>9 | 3=>3 | 4=>4 | 0=>0 | 20=>20 | 72=>150 | 76=>154 | 70=>148 | 37=>110 | 75=>153 | 127=>196 | 164=>237 | 5=>5 | 80=>156 | n=>n,fun | n=>n⟩
theorem Tryz.lays156:Go.Proofs.Lays.n156 Tryz.prog Tryz.lays156_ren:={
  mixed:=by kernel_rfl,
  f156:=Tryz.func71.trans (congrArg some (by kernel_rfl)),
  f165:=Tryz.func121.trans (congrArg some (by kernel_rfl)),
  f166:=Tryz.func122.trans (congrArg some (by kernel_rfl)),
  f169:=Tryz.func123.trans (congrArg some (by kernel_rfl)),
  f240:=Tryz.func166.trans (congrArg some (by kernel_rfl)),
  f241:=Tryz.func167.trans (congrArg some (by kernel_rfl)),
  f276:=Tryz.func220.trans (congrArg some (by kernel_rfl)),
  f277:=Tryz.func221.trans (congrArg some (by kernel_rfl)),
  t0:=Tryz.underlying0,
  a0:=Tryz.isAgg0,
  z0:=Tryz.sizeOf0,
  v0:=Tryz.zeroValue0,
  t3:=Tryz.underlying3,
  a3:=Tryz.isAgg3,
  z3:=Tryz.sizeOf3,
  v3:=Tryz.zeroValue3,
  t4:=Tryz.underlying4,
  a4:=Tryz.isAgg4,
  z4:=Tryz.sizeOf4,
  v4:=Tryz.zeroValue4,
  t9:=Tryz.underlying9,
  a9:=Tryz.isAgg9,
  z9:=Tryz.sizeOf9,
  v9:=Tryz.zeroValue9,
  t20:=Tryz.underlying20,
  a20:=Tryz.isAgg20,
  z20:=Tryz.sizeOf20,
  v20:=Tryz.zeroValue20,
  t31:=Tryz.underlying46,
  a31:=Tryz.isAgg46,
  z31:=Tryz.sizeOf46,
  v31:=Tryz.zeroValue46,
  t37:=Tryz.underlying110,
  a37:=Tryz.isAgg110,
  z37:=Tryz.sizeOf110,
  v37:=Tryz.zeroValue110,
  t70:=Tryz.underlying148,
  a70:=Tryz.isAgg148,
  z70:=Tryz.sizeOf148,
  v70:=Tryz.zeroValue148,
  t72:=Tryz.underlying150,
  a72:=Tryz.isAgg150,
  z72:=Tryz.sizeOf150,
  v72:=Tryz.zeroValue150,
  t75:=Tryz.underlying153,
  a75:=Tryz.isAgg153,
  z75:=Tryz.sizeOf153,
  v75:=Tryz.zeroValue153,
  t76:=Tryz.underlying154,
  a76:=Tryz.isAgg154,
  z76:=Tryz.sizeOf154,
  v76:=Tryz.zeroValue154,
  t127:=Tryz.underlying196,
  a127:=Tryz.isAgg196,
  z127:=Tryz.sizeOf196,
  v127:=Tryz.zeroValue196,
  t164:=Tryz.underlying237,
  a164:=Tryz.isAgg237,
  z164:=Tryz.sizeOf237,
  v164:=Tryz.zeroValue237 }
end Go.Proofs

/-
  JOINED WORDS: strings.Join; A TERM'S TEXT IN PLAIN TERMS. Own work.
-/
namespace Go.Fd
open Go.RowKit
set_option maxRecDepth 20000
theorem Zsj:Go.Proofs.Builder.Extra Proofs.Tryz.prog Proofs.Tryz.lays156_ren where
 sizeBuilder:=by kernel_rfl
 liesBuilder:=by kernel_rfl
 t5:=Proofs.Tryz.underlying5
 a5:=Proofs.Tryz.isAgg5
 z5:=Proofs.Tryz.sizeOf5
 v5:=Proofs.Tryz.zeroValue5
 infoByte:=by kernel_rfl
 cellsByte:=by kernel_rfl
 sizeByte:=by kernel_rfl
 neB5:=by decide
def Dm(xs:List ByteArray)(sep:ByteArray):ByteArray:=⟨(Lib.join (xs.map fun x=>x.data.toList) sep.data.toList).toArray⟩
theorem Zi1{x:ByteArray}{r:List ByteArray}{sep:ByteArray}:bl (Dm (x::r) sep)=bl x++r.flatMap fun y=>bl sep++bl y:=by
 unfold Dm
 rw[ZnG,List.map_cons,Lib.join_cons,Lib.joinTail,List.map_map,List.flatMap_def]
 rfl
theorem ZmN(xs:List ByteArray)(sep:ByteArray)(hN:xs.length<=4294967296)(hlen:(Dm xs sep).size<=140737488355328)(lvl:Nat)(S:Sto):Sem Proofs.Tryz.prog Qy lvl [tS xs,iS sep] S (iS (Dm xs sep)) S:=by
 have hlen':(Lib.join (xs.map fun x=>x.data.toList) sep.data.toList).length<=140737488355328:=by
  rw[<-Zsi,Dm,ZnG] at hlen
  exact hlen
 refine Zhk (Zc8 (by kernel_rfl)) rfl trivial fun _ G w vs hok hv=>?_
 simp only[VRs] at hv
 obtain⟨v,vr,rfl,h1,v2,vr2,rfl,h2,rfl⟩:=hv
 have h2':Rds w (Av G S w) v2 (.v (.string sep)):=h2
 cases h2'
 have h1':Rds w (Av G S w) v (.sl (rS xs)):=h1
 generalize hes:rS xs=es at h1'
 have hnil:xs=[]->∀ a c,Calls Proofs.Tryz.prog Qy #[.slice a 0 c,.string sep] w fun e w' => ∃ v,e = .returned v/\VR G S w' (iS (Dm xs sep)) v/\Below w.heap.size w w':=by
  rintro rfl a c
  refine(Go.Proofs.Any.strings_Join_none Proofs.Tryz.lays156 Zsj a c sep w).mono fun e w' ⟨he,hw⟩=>⟨_,he,?_,hw ▸ Below.refl _ _⟩
  exact Rds.v _ rfl
 cases h1' with
 | nil a c=>exact hnil (by cases xs with | nil=>rfl | cons x r=>cases hes) a c
 | sl b o c k _ f hA hk hl hc hr =>
  subst hes
  by_cases hx:xs=[]
  ·subst hx
   exact hnil rfl _ _
  obtain⟨x0,r0,hxs⟩:∃ x r,xs=x::r:=by
   cases xs with
   | nil=>exact absurd rfl hx
   | cons x r=>exact⟨x,r,rfl⟩
  have hk1:k=1:=(hk [ts x0] (by simp [hxs])).symm
  subst hk1
  rw[List.length_map] at hl ⊢
  refine(Go.Proofs.Any.strings_Join Proofs.Tryz.lays156 Zsj b o c xs sep w ?_ hA.1 (by omega) hl hlen').mono fun e w' ⟨he,hw⟩=>⟨_,he,Rds.v _ rfl,hw⟩
  intro j x hj
  have e1:(rS xs)[j]? = some [ts x]:=by simp [hj]
  have e2:=hc j _ 0 _ e1 rfl
  have e3:=hr j _ 0 _ e1 rfl
  rw[show o+j*1+0=o+j by omega] at e2
  rw[e2]
  generalize f j 0=y at e3
  cases e3
  rfl
theorem Zdq{sep:ByteArray}:Dm [] sep=⟨#[]⟩:=rfl
theorem ZpV{x sep:ByteArray}:Dm [x] sep=x:=Zgt (by rw[Zi1];simp)
theorem ZnK{x y sep:ByteArray}{r:List ByteArray}:Dm (x::r++[y]) sep=Dm (x::r) sep++sep++y:=Zgt (by
 rw[List.cons_append,Zi1,ZhB,ZhB,Zi1,List.flatMap_append]
 simp)
theorem ZhF{l:List ByteArray}{sep:ByteArray}{j:Nat}(h0:0<j)(hj:j<l.length):Dm (l.take (j+1)) sep=Dm (l.take j) sep++sep++l[j]:=by
 rw[List.take_succ_eq_append_getElem hj]
 cases l with
 | nil=>simp at hj
 | cons x r =>
  obtain⟨k,rfl⟩:∃ k,j=k+1:=⟨j-1,by omega⟩
  rw[List.take_succ_cons]
  exact ZnK
theorem ZhG{l:List ByteArray}{sep:ByteArray}(hj:0<l.length):Dm (l.take 1) sep=l[0]:=by
 cases l with
 | nil=>simp at hj
 | cons x r=>exact ZpV
theorem ZpW{w:ByteArray}:w++(⟨#[]⟩:ByteArray)=w:=Zgt (by rw[ZhB];simp [bl])
theorem Zt8{w:ByteArray}:(⟨#[]⟩:ByteArray)++w=w:=Zgt (by rw[ZhB];simp [bl])
theorem ZpX{a b c:ByteArray}:a++b++c=a++(b++c):=Zgt (by simp only[ZhB,List.append_assoc])
theorem Zt9{sep w:ByteArray}{ns:List ByteArray}:∀{j:Nat},j<=ns.length->jn sep w ns j=w++Dm (ns.take j) sep
 | 0,_=>by rw[jn,List.take_zero,Zdq,ZpW]
 | j+1,hj=>by
  have hg:gS ns j=ns[j]:=XV (by omega)
  rw[jn,Zt9 (by omega),hg]
  by_cases h0:0<j
  ·rw[if_pos h0,ZhF h0 (by omega)]
   simp only[ZpX]
  ·have:j=0:=by omega
   subst this
   rw[if_neg h0,ZhG (by omega),List.take_zero,Zdq,ZpW]
theorem ZxE{sig:List TControl}{t:List TTermStep}:∀{j:Nat},j<=t.length->tx sig t j=Dm ((t.map (WJ sig)).take j) ⟨#[32]⟩
 | 0,_=>by rw[tx,List.take_zero,Zdq]
 | j+1,hj=>by
  have hl:j<(t.map (WJ sig)).length:=by rw[List.length_map];omega
  have he:(t.map (WJ sig))[j]=WJ sig t[j]:=by simp
  rw[Zlx (by omega),ZxE (by omega)]
  by_cases h0:0<j
  ·rw[if_pos h0,ZhF h0 hl,he]
  ·have:j=0:=by omega
   subst this
   rw[if_neg h0,ZhG hl,List.take_zero,Zdq,Zt8,he]
def XJ(sig:List TControl)(t:List TTermStep):List ByteArray:=t.map (WJ sig)
theorem Zsk{sig:List TControl}{t:List TTermStep}:tx sig t t.length=Dm (XJ sig t) ⟨#[32]⟩:=by
 rw[ZxE (Nat.le_refl _),List.take_of_length_le (by rw[List.length_map];exact Nat.le_refl _)]
 rfl
theorem wordT_0{sig:List TControl}{c p:Int}{ns:List ByteArray}:WJ sig ⟨0,c,p,ns⟩=ZhC 0:=by
 unfold WJ
 rw[if_pos rfl]
 show (⟨#[48]⟩:ByteArray)=⟨(Lib.decDigits 0).toArray⟩
 rw[dd1 (by omega)]
 rfl
theorem wordT_1{sig:List TControl}{c p:Int}{ns:List ByteArray}:WJ sig ⟨1,c,p,ns⟩=ZhC 1:=by
 unfold WJ
 rw[if_neg (show ¬ (1:Int)=0 by decide),if_pos rfl]
 show (⟨#[49]⟩:ByteArray)=⟨(Lib.decDigits 1).toArray⟩
 rw[dd1 (by omega)]
 rfl
set_option maxHeartbeats 1000000 in
theorem Zku(sig:List TControl)(t:List TTermStep)(hs:Yl sig)(h:∀ s∈t,stepOK sig s)(hl:t.length<=60)(lvl:Nat)(S:Sto):Sem Proofs.Tryz.prog XO lvl [.tr (.sl (sig.map Zh)),.tr (.sl (t.map Zg))] S (iS (Dm (XJ sig t) ⟨#[32]⟩)) S:=by
 have hwl:(XJ sig t).length=t.length:=List.length_map ..
 refine Zc ZfJ trivial ?_
 simp only[ZaD,List.length_map,EVA,seval,Zd,men]
 refine Zz (α:=Unit) t.length (fun j _=>[(5,.hd (lvl,256) [] 0 j none j),(11,iI j)]) (fun j _=>[(256,.ar 1 (rS ((XJ sig t).take j)) true j 0)]) (fun _ _=>True) () (by simp only[EVA,seval,Zd,men]) (by (simp only[EVA,seval,Zd,men]) <;> rfl) trivial ?_
 intro j _ hj _
 simp only[List.length_map,EVA,seval,Zd,men]
 refine Zl (fun hlt=>?_) (fun hge=>?_)
 ·have hja:j<t.length:=by omega
  have ga:=WH (c:=Zg) hja
  have hok:=h _ (List.getElem_mem hja)
  have hlN:(rS ((XJ sig t).take j)).length=j:=by rw[List.length_map,List.length_take];omega
  have hstep:rS ((XJ sig t).take j)++[[ts (WJ sig t[j])]]=rS ((XJ sig t).take (j+1)):=by
   rw[List.take_succ_eq_append_getElem (by omega),Zf2]
   simp [XJ]
  have fin:∀ w,w=WJ sig t[j]->rS ((XJ sig t).take j)++[[ts w]]=rS ((XJ sig t).take (j+1)):=fun w hw=>by rw[hw];exact hstep
  generalize t[j]=s at ga hok fin
  obtain⟨k,c,p,ns⟩:=s
  have hkind:=hok.kind
  simp only at hkind
  have close:∀{α:Type} {mk:Nat->α->St} {A:Nat->α->Prop} {s':St} (y:α),s'=mk (j+1) y->A (j+1) y->j<=4294967295/\XE .i64 ((j:Int)+1)/\ZxQ t.length mk A (t.length-j) s':=fun y h1 h2=>⟨by omega,by rw[Ze];omega,Zf y hja h1 h2⟩
  by_cases h0:k=0
  ·subst h0
   simp only[ga,hja,Zg,hlN,Int.sub_self,List.length_map,EVA,seval,Zd,men]
   refine⟨by rw[Ze];omega,Za (Zlw (n:=0) (by omega) (by omega)) ?_⟩
   simp only[hlN,fin _ wordT_0.symm,EVA,seval,Zd,men]
   exact close () rfl trivial
  by_cases h1:k=1
  ·subst h1
   simp only[ga,hja,Zg,hlN,h0,Int.sub_zero,List.length_map,EVA,seval,Zd,men]
   refine⟨by rw[Ze];omega,Za (Zlw (n:=1) (by omega) (by omega)) ?_⟩
   simp only[hlN,fin _ wordT_1.symm,EVA,seval,Zd,men]
   exact close () rfl trivial
  by_cases h2:k=2
  ·subst h2
   have hp:=hok.site rfl
   simp only at hp
   have hw:(⟨#[64]⟩:ByteArray)++ZhC p=WJ sig ⟨2,c,p,ns⟩:=rfl
   simp only[ga,hja,Zg,hlN,h0,h1,List.length_map,EVA,seval,Zd,men]
   refine Za (Zlw (n:=p) (by omega) (by omega)) ?_
   have:=Zgu (n:=p) (by omega) (by omega)
   simp only[hlN,fin _ hw,EVA,seval,Zd,men]
   refine⟨by show 1+(ZhC p).size<=_;omega,close () rfl trivial⟩
  by_cases h3:k=3
  ·subst h3
   have hw0:=hok.ctl rfl
   simp only at hw0
   obtain⟨m,hm⟩:∃ m:Nat,c=m:=⟨c.toNat,by omega⟩
   have hms:m<sig.length:=by omega
   have gs:=WH (c:=Zh) hms
   have hnm:=Zcf hs (m:Int)
   rw[Zdp hms] at hnm
   have hnl:ns.length<=3:=by have:=hok.ports rfl;have:=Zbn hs (c:=c);simp only at *;omega
   have hnz:∀ x∈ns,x.size<=4:=fun x hx=>(hok.nms x hx).2.2
   have hsz:=Zi0 (sep:=(⟨#[44]⟩:ByteArray)) (w:=sig[m].name++(⟨#[58]⟩:ByteArray)) (ns:=ns) (B:=4) hnz (j:=ns.length) (Nat.le_refl _)
   rw[Zt9 (Nat.le_refl _),List.take_of_length_le (Nat.le_refl _),ByteArray.size_append,ByteArray.size_append] at hsz
   have s1:(⟨#[44]⟩:ByteArray).size=1:=rfl
   have s2:(⟨#[58]⟩:ByteArray).size=1:=rfl
   rw[s1,s2] at hsz
   have h5:ns.length*(4+1)<=3*5:=Nat.mul_le_mul_right _ hnl
   have hw:(sig[m].name++(⟨#[58]⟩:ByteArray))++Dm ns ⟨#[44]⟩=WJ sig ⟨3,c,p,ns⟩:=by
    have e:WJ sig ⟨3,c,p,ns⟩=jn ⟨#[44]⟩ (Zgv sig c++⟨#[58]⟩) ns ns.length:=rfl
    rw[e,Zt9 (Nat.le_refl _),List.take_of_length_le (Nat.le_refl _),hm,Zdp hms]
   simp only[ga,hja,Zg,Zh,hm,gs,hlN,h0,h1,h2,List.length_map,EVA,seval,Zd,men]
   refine⟨by rw[s2];omega,Za (ZmN ns ⟨#[44]⟩ (by omega) (by omega)) ?_⟩
   simp only[hlN,fin _ hw,EVA,seval,Zd,men]
   refine⟨by rw[ByteArray.size_append,s2];omega,close () rfl trivial⟩
  by_cases h4:k=4
  ·subst h4
   have hw:(⟨#[124]⟩:ByteArray)=WJ sig ⟨4,c,p,ns⟩:=rfl
   simp only[ga,hja,Zg,hlN,h0,h1,h2,h3,fin _ hw,List.length_map,EVA,seval,Zd,men]
   exact close () rfl trivial
  by_cases h5:k=5
  ·subst h5
   have hw:(⟨#[124,124]⟩:ByteArray)=WJ sig ⟨5,c,p,ns⟩:=rfl
   simp only[ga,hja,Zg,hlN,h0,h1,h2,h3,h4,fin _ hw,List.length_map,EVA,seval,Zd,men]
   exact close () rfl trivial
  by_cases h6:k=6
  ·subst h6
   obtain⟨n,rfl⟩:=Zce (hok.one (.inl rfl))
   have g0:(rS [n])[0]? = some [ts n]:=rfl
   have hbn:=(hok.nms n (by simp)).2.2
   have hw:(⟨#[47]⟩:ByteArray)++n=WJ sig ⟨6,c,p,[n]⟩:=rfl
   simp only[ga,hja,Zg,hlN,h0,h1,h2,h3,h4,h5,g0,fin _ hw,List.length_map,EVA,seval,Zd,men]
   exact⟨by show 1+n.size<=_;omega,close () rfl trivial⟩
  have h7:k=7:=by omega
  subst h7
  obtain⟨n,rfl⟩:=Zce (hok.one (.inr rfl))
  have g0:(rS [n])[0]? = some [ts n]:=rfl
  have hbn:=(hok.nms n (by simp)).2.2
  have hw:(⟨#[43]⟩:ByteArray)++n=WJ sig ⟨7,c,p,[n]⟩:=rfl
  simp only[ga,hja,Zg,hlN,h0,h1,h2,h3,h4,h5,h6,g0,fin _ hw,List.length_map,EVA,seval,Zd,men]
  exact⟨by show 1+n.size<=_;omega,close () rfl trivial⟩
 ·have:j=t.length:=by omega
  subst this
  have tk:(XJ sig t).take t.length=XJ sig t:=List.take_of_length_le (by omega)
  have hz:(Dm (XJ sig t) ⟨#[32]⟩).size<=100000:=by
   rw[<-Zsk]
   have:=Zly hs h (Nat.le_refl t.length)
   omega
  rw[tk]
  have c1:cut (rS (XJ sig t)) 0 t.length=rS (XJ sig t):=Yg (by rw[List.length_map];exact hwl)
  have l1:(rS (XJ sig t)).length=t.length:=by rw[List.length_map];exact hwl
  simp only[c1,l1,EVA,seval,Zd,men]
  refine⟨by omega,Za (ZmN (XJ sig t) ⟨#[32]⟩ (by omega) (by omega)) ?_⟩
  simp only[EVA,seval,Zd,men]
  try rfl
end Go.Fd

/-
  WHERE THE PARTS OF A TERM BEGIN, BOTH SIDES. Own work.
-/
namespace Go.Fd
set_option maxRecDepth 20000
def Zp7(t:List TTermStep)(j:Nat):Nat:=((t[j]?).map fun s=>Jn s.kind_).getD 0
theorem Zfc{t:List TTermStep}{j:Nat}(h:j<t.length):Zp7 t j=Jn t[j].kind_:=by simp [Zp7,h]
def stS(t:List TTermStep):Nat->List Int×List Int
 | 0=>([],[])
 | j+1=>((stS t j).1++[if 0<Zp7 t j then g0 (stS t j).2 ((stS t j).2.length-Zp7 t j) else (j:Int)],(stS t j).2.take ((stS t j).2.length-Zp7 t j)++[if 0<Zp7 t j then g0 (stS t j).2 ((stS t j).2.length-Zp7 t j) else (j:Int)])
theorem stS_one{t:List TTermStep}:∀{j:Nat},(stS t j).1.length=j
 | 0=>rfl
 | j+1=>by simp [stS,stS_one (j:=j)]
theorem Zi2{sig:List TControl}{t:List TTermStep}:∀{j:Nat} {z:Stk},j<=t.length->Zby sig (t.take j)=some z->(stS t j).2.length=z.1.length
 | 0,z,_,h=>by
  rw[List.take_zero,ZmD] at h
  cases h;rfl
 | j+1,z,hj,h=>by
  rw[Za0 (by omega)] at h
  cases hp:Zby sig (t.take j) with
  | none=>rw[hp] at h;cases h
  | some z0 =>
   rw[hp] at h
   have ih:=Zi2 (j:=j) (by omega) hp
   have hst:stT sig z0 t[j]=some z:=h
   unfold stT at hst
   split at hst
   ·rename_i hA
    split at hst
    ·cases hst
     have e:=Zfc (t:=t) (j:=j) (by omega)
     simp only[stS,List.length_append,List.length_take,List.length_cons,List.length_nil,ih,e]
    ·cases hst
   ·cases hst
theorem ZmO{sig:List TControl}{t:List TTermStep}{y:Stk}(h:Zby sig t=some y){j:Nat}(hj:j<t.length):∃ z,Zby sig (t.take j)=some z/\stepOK sig t[j]/\Jn t[j].kind_<=z.1.length:=by
 cases hp:Zby sig (t.take j) with
 | none=>rw[Zdm hp] at h;cases h
 | some z =>
  refine⟨z,rfl,?_⟩
  refine Classical.byContradiction fun g=>?_
  have hb:=Zgn (sig:=sig) (z:=z) (s:=t[j]) g
  have hs:=Za0 (sig:=sig) hj
  rw[hp] at hs
  have:Zby sig (t.take (j+1))=none:=by rw[hs];exact hb
  rw[Zdm this] at h
  cases h
structure goodT (t:List TTermStep):Prop where
 len:t.length<=60
 tak:∀ j,j<t.length->Zp7 t j<=(stS t j).2.length
 sml:∀ j,j<=t.length->(stS t j).2.length<=60
 ned:∀ j (h:j<t.length),Zkn t[j].kind_=Jn t[j].kind_
theorem ZmP{sig:List TControl}{t:List TTermStep}{b:TBigraph}(h:Zdn sig t=some b):goodT t:=by
 obtain⟨hs,hl,y,hr⟩:=Zfb h
 refine⟨hl,fun j hj=>?_,fun j hj=>?_,fun j hj=>?_⟩
 ·obtain⟨z,h1,h2,h3⟩:=ZmO hr hj
  rw[Zi2 (by omega) h1,Zfc hj]
  exact h3
 ·rcases Nat.lt_or_eq_of_le hj with hj2 | hj2
  ·obtain⟨z,h1,h2,h3⟩:=ZmO hr hj2
   have:=(Zcd hs hj h1).2.1
   rw[Zi2 hj h1]
   omega
  ·subst hj2
   have h1:Zby sig (t.take t.length)=some y:=by rw[List.take_length];exact hr
   have:=(Zcd hs (Nat.le_refl _) h1).2.1
   rw[Zi2 (Nat.le_refl _) h1]
   omega
 ·obtain⟨z,h1,h2,h3⟩:=ZmO hr hj
  exact ZmG h2
theorem ZxF{l:List Int}{n:Nat}:cut (rI l) 0 (n-0)=rI (l.take n):=by
 rw[cut,Nat.sub_zero,List.drop_zero]
 exact(List.map_take ..).symm
theorem Zkv(t:List TTermStep)(h:goodT t)(lvl:Nat)(S:Sto):Sem Proofs.Tryz.prog XP lvl [.tr (.sl (t.map Zg))] S (.ow 1 (rI (stS t t.length).1) true) S:=by
 have hl:=h.len
 refine Zc ZfK trivial ?_
 simp only[ZaE,List.length_map,EVA,seval,Zd,men]
 refine Zz (α:=Unit) t.length (fun j _=>[(3,.hd (lvl,256) [] 0 j none j),(4,.tr (.sl (rI (stS t j).2))),(5,iI j)]) (fun j _=>[(256,.ar 1 (rI (stS t j).1) true j 0)]) (fun _ _=>True) () (by simp only[EVA,seval,Zd,men]) (by (simp only[stS,EVA,seval,Zd,men]) <;> rfl) trivial ?_
 intro j _ hj _
 have hsm:=h.sml j hj
 have h1:=stS_one (t:=t) (j:=j)
 simp only[List.length_map,EVA,seval,Zd,men]
 refine Zl (fun hlt=>?_) (fun hge=>?_)
 ·have hja:j<t.length:=by omega
  have ga:=WH (c:=Zg) hja
  have htk:=h.tak j hja
  obtain⟨T,hT⟩:∃ T,T=Zp7 t j:=⟨_,rfl⟩
  have hT2:Jn t[j].kind_=T:=by rw[hT,Zfc hja]
  have qt:=Zgp t[j].kind_
  rw[hT2] at qt
  rw[<-hT] at htk
  obtain⟨n,hn⟩:∃ n,n=(stS t j).2.length-T:=⟨_,rfl⟩
  have hn2:(((stS t j).2.length:Int)-(T:Int))=(n:Int):=by omega
  have hst:stS t (j+1)=((stS t j).1++[if 0<T then g0 (stS t j).2 n else (j:Int)],(stS t j).2.take n++[if 0<T then g0 (stS t j).2 n else (j:Int)]):=by rw[stS,<-hT,<-hn]
  obtain⟨Z,hZ⟩:∃ Z,Z=stS t j:=⟨_,rfl⟩
  rw[<-hZ] at hn hn2 htk hst hsm h1 ⊢
  simp only[ga,hja,Zg,hn2,List.length_map,EVA,seval,Zd,men]
  refine Za qt ?_
  simp only[hn2,List.length_map,EVA,seval,Zd,men]
  refine⟨by rw[Ze];omega,?_⟩
  by_cases h0:0<T
  ·have hlt2:(n:Int)<(Z.2.length:Int):=by omega
   have hnl:n<Z.2.length:=by omega
   have gn:=ZiZ hnl
   simp only[hlt2,gn,hnl,List.length_map,EVA,seval,Zd,men]
   refine⟨fun g=>g.elim,by omega,by omega,?_⟩
   rw[ZxF]
   refine Za (Zgr (Z.2.take n) (by rw[List.length_take];omega)) ?_
   simp only[Zbt,Zbu,List.length_map,EVA,seval,Zd,men]
   have e1:∀ L:List Int,rI L++[[Tr.v (Value.int .i64 Z.2[n])]]=rI (L++[Z.2[n]]):=fun L=>by rw[YA];rfl
   rw[if_pos h0,show g0 Z.2 n=Z.2[n] by simp [hnl]] at hst
   refine⟨by rw[List.length_take];omega,by rw[e1,List.length_map,List.length_append];rfl,h1.symm,by omega,by rw[Ze];omega,Zf () hja ?_ trivial⟩
   rw[hst,e1,e1]
   rfl
  ·have hlt2:¬ (n:Int)<(Z.2.length:Int):=by omega
   simp only[hlt2,List.length_map,EVA,seval,Zd,men]
   refine⟨fun g=>g.elim,by omega,by omega,?_⟩
   rw[ZxF]
   refine Za (Zgr (Z.2.take n) (by rw[List.length_take];omega)) ?_
   simp only[Zbt,Zbu,List.length_map,EVA,seval,Zd,men]
   have e1:∀ L:List Int,rI L++[[Tr.v (Value.int .i64 j)]]=rI (L++[(j:Int)]):=fun L=>by rw[YA];rfl
   rw[if_neg h0] at hst
   refine⟨by rw[List.length_take];omega,by rw[e1,List.length_map,List.length_append];rfl,h1.symm,by omega,by rw[Ze];omega,Zf () hja ?_ trivial⟩
   rw[hst,e1,e1]
   rfl
 ·have:j=t.length:=by omega
  subst this
  simp only[List.length_map,EVA,seval,Zd,men]
  exact stS_one.symm
end Go.Fd

/-
  TermText: BOTH SIDES. Own work.
-/
namespace Go.Fd
set_option maxRecDepth 20000
theorem ZmQ{sig:List TControl}{t:List TTermStep}{b:TBigraph}(h:Zdn sig t=some b):∀ s∈t,stepOK sig s:=fun s hs=>by
 obtain⟨_,_,z,hr⟩:=Zfb h
 obtain⟨j,hj,rfl⟩:=List.getElem_of_mem hs
 obtain⟨_,_,h2,_⟩:=ZmO hr hj
 exact h2
open Classical in
noncomputable def DU(sig:List TControl)(t:List TTermStep):ByteArray:=if (Zdn sig t).isSome then Dm (XJ sig t) ⟨#[32]⟩ else ⟨#[]⟩
noncomputable def DV(sig:List TControl)(t:List TTermStep):Bool:=(Zdn sig t).isSome
theorem Zd5(sig:List TControl)(t:List TTermStep)(hn:sig.length<=4294967296)(hbs:∀ y∈sig,Zp 4294967296 y)(hlt:t.length<=4294967296)(hbt:∀ y∈t,Zw 4294967296 y)(lvl:Nat)(S:Sto):Sem Proofs.Tryz.prog XL lvl [.tr (.sl (sig.map Zh)),.tr (.sl (t.map Zg))] S (.tu [iS (DU sig t),iB (DV sig t)]) S:=by
 unfold DU DV
 have q:=Zgs sig t hn hbs hlt hbt
 obtain⟨V,hV⟩:∃ V,V=Zp6 sig t:=⟨_,rfl⟩
 rw[<-hV] at q
 refine Zc ZfH (by simp [low,men,Zd]) ?_
 simp only[ZaB,EVA,seval,Zd,men]
 refine Za q ?_
 cases hv:Zdn sig t with
 | none =>
  simp only[Zi,Option.isSome_none,Bool.false_eq_true,List.length_map,EVA,seval,Zd,men]
  try rfl
 | some b =>
  obtain⟨hs,hl,z,hr⟩:=Zfb hv
  simp only[Zi,Option.isSome_some,List.length_map,EVA,seval,Zd,men]
  refine Za (ZnJ sig t hs (ZmQ hv) hl) ?_
  rw[Zsk]
  simp only[Option.isSome_some,EVA,seval,Zd,men]
  try rfl
theorem Zd6(sig:List TControl)(t:List TTermStep)(hn:sig.length<=4294967296)(hbs:∀ y∈sig,Zp 4294967296 y)(hlt:t.length<=4294967296)(hbt:∀ y∈t,Zw 4294967296 y)(lvl:Nat)(S:Sto):Sem Proofs.Tryz.prog XM lvl [.tr (.sl (sig.map Zh)),.tr (.sl (t.map Zg))] S (.tu [iS (DU sig t),iB (DV sig t)]) S:=by
 unfold DU DV
 have q:=Zdo sig t hn hbs hlt hbt
 obtain⟨V,hV⟩:∃ V,V=Zp6 sig t:=⟨_,rfl⟩
 rw[<-hV] at q
 refine Zc ZfI (by simp [low,men,Zd]) ?_
 simp only[ZaC,EVA,seval,Zd,men]
 refine Za q ?_
 cases hv:Zdn sig t with
 | none =>
  simp only[Zi,Option.isSome_none,Bool.false_eq_true,List.length_map,EVA,seval,Zd,men]
  try rfl
 | some b =>
  obtain⟨hs,hl,z,hr⟩:=Zfb hv
  simp only[Zi,Option.isSome_some,List.length_map,EVA,seval,Zd,men]
  refine Za (Zku sig t hs (ZmQ hv) hl) ?_
  simp only[Option.isSome_some,EVA,seval,Zd,men]
  try rfl
end Go.Fd

/-
  The annotated codes of the functions, printed by a program of mine (gen.py), and the check that they belong to the program.
-/
namespace Go.Fd
def XK:F2 :=
 { nt:=58,res:=[.t 4 [0]],body:=(.sq (rg [om 4 (.k (.bool false))]) (.sq (rg [om 5 (i6 1048576)]) (.sq (rg [qM 12 0,qM 13 5,oo 14 (.ca .pure false (.f Y1) [.t 12,.t 13]),qM 5 14]) (.sq (.sq (rg [qM 15 5,oo 16 (.bi .lss 0 (.t 15) (i6 0))]) (.cd (.t 16) (.sq (rg [om 4 (.k (.bool true))]) (.rt)) (.sk))) (.sq (rg [qM 17 1,qM 18 5,oo 19 (.ca .pure false (.f YK) [.t 17,.t 18]),qM 5 19]) (.sq (.sq (rg [qM 20 5,oo 21 (.bi .lss 0 (.t 20) (i6 0))]) (.cd (.t 21) (.sq (rg [om 4 (.k (.bool true))]) (.rt)) (.sk))) (.sq (rg [qM 23 0,oo 24 (.ca .pure false (.f ZY) [.t 23]),qM 25 1,oo 26 (.ca .pure false (.f ZS) [.t 25]),oo 27 (.ca .pure false (.f XL) [.t 24,.t 26]),qM 22 27,qE 28 0 22,qE 29 1 22,qM 6 28,qM 7 29]) (.sq (rg [qM 30 0,oo 31 (.ca .pure false (.f ZY) [.t 30]),qM 8 31]) (.sq (rg [qM 32 1,oo 33 (.ca .pure false (.f ZS) [.t 32]),qM 9 33]) (.sq (rg [qM 35 8,qM 36 9,oo 37 (.ca .pure false (.f XM) [.t 35,.t 36]),qM 34 37,qE 38 0 34,qE 39 1 34,qM 10 38,qM 11 39]) (.sq (.sq (rg [qM 40 10,qM 41 6,qB 42 .neq 40 41,qM 43 42,og 44 43 false (.mv (.t 11) none),og 45 43 false (.mv (.t 7) none),og 46 43 false (.bi .neq 2 (.t 44) (.t 45)),oo 47 (.pk (.t 43) (.k (.bool true)) (.t 46))]) (.cd (.t 47) (.sq (rg [om 4 (.k (.bool false))]) (.rt)) (.sk))) (.sq (.sq (rg [qM 48 8,qM 49 0,oo 50 (.ca .pure false (.f ZY) [.t 49]),oo 51 (.ca .pure false (.f Y2) [.t 48,.t 50]),oo 52 (.nt (.t 51))]) (.cd (.t 52) (.sq (rg [om 4 (.k (.bool false))]) (.rt)) (.sk))) (.sq (.sq (rg [qM 53 9,qM 54 1,oo 55 (.ca .pure false (.f ZS) [.t 54]),oo 56 (.ca .pure false (.f YL) [.t 53,.t 55]),oo 57 (.nt (.t 56))]) (.cd (.t 57) (.sq (rg [om 4 (.k (.bool false))]) (.rt)) (.sk))) (.sq (rg [om 4 (.k (.bool true))]) (.rt))))))))))))))) }
theorem Zan:ZK Proofs.Tryz.prog QX XK=true:=by kernel_rfl
def XD:F2 :=
 { nt:=119,res:=[.t 4 [0]],body:=(.sq (rg [om 4 (.k (.bool false))]) (.sq (rg [om 5 (i6 1048576)]) (.sq (rg [qM 17 0,qM 18 5,oo 19 (.ca .pure false (.f Y1) [.t 17,.t 18]),qM 5 19]) (.sq (.sq (rg [qM 20 5,oo 21 (.bi .lss 0 (.t 20) (i6 0))]) (.cd (.t 21) (.sq (rg [om 4 (.k (.bool true))]) (.rt)) (.sk))) (.sq (rg [qM 22 1,qM 23 5,oo 24 (.ca .pure false (.f YK) [.t 22,.t 23]),qM 5 24]) (.sq (.sq (rg [qM 25 5,oo 26 (.bi .lss 0 (.t 25) (i6 0))]) (.cd (.t 26) (.sq (rg [om 4 (.k (.bool true))]) (.rt)) (.sk))) (.sq (rg [qM 28 0,oo 29 (.ca .pure false (.f ZY) [.t 28]),qM 30 1,oo 31 (.ca .pure false (.f ZS) [.t 30]),oo 32 (.ca .pure false (.f Xf) [.t 29,.t 31]),qM 27 32,qE 33 0 27,qE 34 1 27,qM 6 33,qM 7 34]) (.sq (rg [qM 35 0,oo 36 (.ca .pure true (.f ZY) [.t 35]),qM 8 36]) (.sq (rg [qM 37 1,oo 38 (.ca .pure true (.f ZS) [.t 37]),qM 9 38]) (.sq (rg [qM 40 8,qM 41 9,oo 42 (.ca .pure true (.f Vo) [.t 40,.t 41]),qM 39 42,qE 43 0 39,qE 44 1 39,qM 10 43,qM 11 44]) (.sq (.sq (rg [qM 45 10,qM 46 6,oo 47 (.ca .pure false (.f Vx) [.t 45,.t 46]),oo 48 (.nt (.t 47)),qM 49 48,og 50 49 false (.mv (.t 11) none),og 51 49 false (.mv (.t 7) none),og 52 49 false (.bi .neq 2 (.t 50) (.t 51)),oo 53 (.pk (.t 49) (.k (.bool true)) (.t 52))]) (.cd (.t 53) (.sq (rg [om 4 (.k (.bool false))]) (.rt)) (.sk))) (.sq (.sq (rg [qM 54 8,qM 55 0,oo 56 (.ca .pure false (.f ZY) [.t 55]),oo 57 (.ca .pure false (.f Y2) [.t 54,.t 56]),oo 58 (.nt (.t 57))]) (.cd (.t 58) (.sq (rg [om 4 (.k (.bool false))]) (.rt)) (.sk))) (.sq (.sq (rg [qM 59 9,qM 60 1,oo 61 (.ca .pure false (.f ZS) [.t 60]),oo 62 (.ca .pure false (.f YL) [.t 59,.t 61]),oo 63 (.nt (.t 62))]) (.cd (.t 63) (.sq (rg [om 4 (.k (.bool false))]) (.rt)) (.sk))) (.sq (rg [om 12 (i6 1)]) (.sq (rg [qM 64 8,qM 65 12,oo 66 (.ca .any true (.f Vy) [.t 64,.t 65]),qM 12 66]) (.sq (rg [qM 67 9,qM 68 12,oo 69 (.ca .any true (.f Vj) [.t 67,.t 68]),qM 12 69]) (.sq (.sq (rg [qM 70 12,oo 71 (.bi .lss 0 (.t 70) (i6 0)),qM 72 71,og 73 72 false (.mv (.t 10) none),og 74 72 false (.mv (.t 6) none),og 75 72 false (.ca .pure false (.f Vx) [.t 73,.t 74]),og 76 72 false (.nt (.t 75)),oo 77 (.pk (.t 72) (.k (.bool true)) (.t 76)),qM 78 77,og 79 78 false (.mv (.t 11) none),og 80 78 false (.mv (.t 7) none),og 81 78 false (.bi .neq 2 (.t 79) (.t 80)),oo 82 (.pk (.t 78) (.k (.bool true)) (.t 81))]) (.cd (.t 82) (.sq (rg [om 4 (.k (.bool false))]) (.rt)) (.sk))) (.sq (rg [om 13 (i6 1)]) (.sq (rg [qM 83 10,qM 84 13,oo 85 (.ca .any true (.f XN) [.t 83,.t 84]),qM 13 85]) (.sq (rg [om 14 (i6 1)]) (.sq (rg [qM 86 10,qM 87 14,oo 88 (.ca .pure false (.f VT) [.t 86,.t 87]),qM 14 88]) (.sq (.sq (rg [qM 89 14,oo 90 (.bi .lss 0 (.t 89) (i6 0))]) (.cd (.t 90) (.sq (rg [om 4 (.k (.bool false))]) (.rt)) (.sk))) (.sq (.sq (rg [qM 91 14,qM 92 13,qB 93 .neq 91 92]) (.cd (.t 93) (.sq (rg [om 4 (.k (.bool false))]) (.rt)) (.sk))) (.sq (rg [qM 95 0,oo 96 (.ca .pure false (.f ZY) [.t 95]),qM 97 1,oo 98 (.ca .pure false (.f ZS) [.t 97]),oo 99 (.ca .pure false (.f Vo) [.t 96,.t 98]),qM 94 99,qE 100 0 94,qE 101 1 94,qM 15 100,qM 16 101]) (.sq (.sq (rg [qM 102 15,qM 103 6,oo 104 (.ca .pure false (.f Vx) [.t 102,.t 103]),oo 105 (.nt (.t 104)),qM 106 105,og 107 106 false (.mv (.t 16) none),og 108 106 false (.mv (.t 7) none),og 109 106 false (.bi .neq 2 (.t 107) (.t 108)),oo 110 (.pk (.t 106) (.k (.bool true)) (.t 109))]) (.cd (.t 110) (.sq (rg [om 4 (.k (.bool false))]) (.rt)) (.sk))) (.sq (rg [om 14 (i6 1)]) (.sq (rg [qM 111 10,qM 112 14,oo 113 (.ca .pure false (.f VT) [.t 111,.t 112]),qM 14 113]) (.sq (.sq (rg [qM 114 14,oo 115 (.bi .lss 0 (.t 114) (i6 0))]) (.cd (.t 115) (.sq (rg [om 4 (.k (.bool false))]) (.rt)) (.sk))) (.sq (.sq (rg [qM 116 14,qM 117 13,qB 118 .neq 116 117]) (.cd (.t 118) (.sq (rg [om 4 (.k (.bool false))]) (.rt)) (.sk))) (.sq (rg [om 4 (.k (.bool true))]) (.rt))))))))))))))))))))))))))))))) }
theorem DW:ZK Proofs.Tryz.prog Qm XD=true:=by kernel_rfl
def Uo:F2 :=
 { nt:=35,res:=[.t 4 [0]],body:=(.sq (rg [om 4 (i6 0)]) (.sq (.sq (rg [om 5 (i6 0)]) (.bl 0 (.lp [0,1,5] [] (.sq (.sq (rg [qM 6 5,qM 7 0,qN 8 7,qB 9 .lss 6 8]) (.cd (.t 9) (.sk) (.ex 0))) (.sq (.bl 1 (.sq (rg [qM 12 0,qM 13 5,qM 14 1,oo 15 (.ca .pure false (.f VU) [.t 14]),qI 16 3 12 13,qF 17 0 16,on1 (.st 1 (.t 17) (.t 15))]) (.sq (rg [qM 18 1,oo 19 (.bi .add 0 (.t 18) (i6 1)),qM 1 19]) (.sq (rg [qM 20 0,qM 21 5,qM 22 1,qI 23 3 20 21,qF 24 1 23,on1 (.st 1 (.t 24) (.t 22))]) (.sq (rg [qM 25 1,oo 26 (.bi .add 0 (.t 25) (i6 1)),qM 1 26]) (.sq (rg [qM 27 0,qM 28 5,qM 29 1,qI 30 3 27 28,qF 31 2 30,on1 (.st 1 (.t 31) (.t 29))])
 (rg [qM 32 1,oo 33 (.bi .add 0 (.t 32) (i6 1)),qM 1 33])))))))
 (rg [qM 10 5,oo 11 (.bi .add 0 (.t 10) (i6 1)),qM 5 11])))))) (.sq (rg [qM 34 1,qM 4 34]) (.rt)))) }
theorem Zcg:ZK Proofs.Tryz.prog Vy Uo=true:=by kernel_rfl
def WA:F2 :=
 { nt:=41,res:=[.t 4 [0]],body:=(.sq (rg [om 4 (i6 0)]) (.sq (.sq (rg [om 5 (i6 0)]) (.bl 0 (.lp [0,1,5] [] (.sq (.sq (rg [qM 6 5,qM 7 0,qN 8 7,qB 9 .lss 6 8]) (.cd (.t 9) (.sk) (.ex 0))) (.sq (.bl 1 (.sq (rg [qM 12 0,qM 13 5,qM 14 1,qI 15 4 12 13,qF 16 0 15,on1 (.st 1 (.t 16) (.t 14))]) (.sq (rg [qM 17 1,oo 18 (.bi .add 0 (.t 17) (i6 1)),qM 1 18]) (.sq (rg [qM 19 0,qM 20 5,qM 21 1,qI 22 4 19 20,qF 23 1 22,on1 (.st 1 (.t 23) (.t 21))]) (.sq (rg [qM 24 1,oo 25 (.bi .add 0 (.t 24) (i6 1)),qM 1 25]) (.sq (rg [qM 26 0,qM 27 5,qM 28 1,qI 29 4 26 27,qF 30 2 29,on1 (.st 1 (.t 30) (.t 28))]) (.sq (rg [qM 31 1,oo 32 (.bi .add 0 (.t 31) (i6 1)),qM 1 32])
 (rg [qM 33 0,qM 34 5,qI 35 4 33 34,qF 36 3 35,qL 37 36,qM 38 1,oo 39 (.ca .any true (.f V7) [.t 37,.t 38]),qM 1 39]))))))))
 (rg [qM 10 5,oo 11 (.bi .add 0 (.t 10) (i6 1)),qM 5 11])))))) (.sq (rg [qM 40 1,qM 4 40]) (.rt)))) }
theorem Zbz:ZK Proofs.Tryz.prog Vj WA=true:=by kernel_rfl
def Za1:F2 :=
 { nt:=19,res:=[.t 4 [0]],body:=(.sq (rg [om 4 (i6 0)]) (.sq (.sq (rg [om 5 (i6 0)]) (.bl 0 (.lp [0,1,5] [] (.sq (.sq (rg [qM 6 5,qM 7 0,qN 8 7,qB 9 .lss 6 8]) (.cd (.t 9) (.sk) (.ex 0))) (.sq (.bl 1 (.sq (rg [qM 12 0,qM 13 5,qM 14 1,qI 15 1 12 13,on1 (.st 1 (.t 15) (.t 14))])
 (rg [qM 16 1,oo 17 (.bi .add 0 (.t 16) (i6 1)),qM 1 17])))
 (rg [qM 10 5,oo 11 (.bi .add 0 (.t 10) (i6 1)),qM 5 11])))))) (.sq (rg [qM 18 1,qM 4 18]) (.rt)))) }
theorem Zgw:ZK Proofs.Tryz.prog XN Za1=true:=by kernel_rfl
def Za2:F2 :=
 { nt:=21,res:=[.t 4 [0]],body:=(.sq (rg [om 4 (i6 0)]) (.sq (.sq (rg [om 5 (i6 0)]) (.bl 0 (.lp [0,1,5] [] (.sq (.sq (rg [qM 6 5,qM 7 0,qN 8 7,qB 9 .lss 6 8]) (.cd (.t 9) (.sk) (.ex 0))) (.sq (.bl 1 (.sq (.sq (rg [qM 12 0,qM 13 5,qI 14 1 12 13,qL 15 14,qM 16 1,qB 17 .neq 15 16]) (.cd (.t 17) (.sq (rg [om 4 (i6 (-1))]) (.rt)) (.sk)))
 (rg [qM 18 1,oo 19 (.bi .add 0 (.t 18) (i6 1)),qM 1 19])))
 (rg [qM 10 5,oo 11 (.bi .add 0 (.t 10) (i6 1)),qM 5 11])))))) (.sq (rg [qM 20 1,qM 4 20]) (.rt)))) }
theorem Zgx:ZK Proofs.Tryz.prog VT Za2=true:=by kernel_rfl
def Za3:F2 :=
 { nt:=20,res:=[.t 2 [0]],body:=(.sq (rg [om 2 (.k (.string ⟨#[]⟩))]) (.sq (.sq (rg [qM 4 0,oo 5 (.bi .leq 0 (.t 4) (i6 0))]) (.cd (.t 5) (.sq (rg [om 2 (.k (.string ⟨#[109,48]⟩))]) (.rt)) (.sk))) (.sq (rg [om 3 (.k (.string ⟨#[]⟩))]) (.sq (.bl 0 (.lp [0,3] [] (.sq (.sq (rg [qM 6 0,oo 7 (.bi .gtr 0 (.t 6) (i6 0))]) (.cd (.t 7) (.sk) (.ex 0))) (.bl 1 (.sq (rg [qM 8 0,oo 9 (.bi .rem 0 (.t 8) (i6 10)),oo 10 (.bi .add 0 (i6 48) (.t 9)),oo 11 (.cv (.int .u8) (.t 10)),oo 12 (.bs 1 1 [.int .u8 0] [(0,.t 11)]),oo 13 (.sb (.t 12)),qM 14 3,qB 15 .add 13 14,qM 3 15])
 (rg [qM 16 0,oo 17 (.bi .quo 0 (.t 16) (i6 10)),qM 0 17])))))) (.sq (rg [qM 18 3,oo 19 (.bi .add 0 (.k (.string ⟨#[109]⟩)) (.t 18)),qM 2 19]) (.rt)))))) }
theorem Zgy:ZK Proofs.Tryz.prog VU Za3=true:=by kernel_rfl
def UJ:F2 :=
 { nt:=20,res:=[.t 4 [0]],body:=(.sq (rg [om 4 (i6 0)]) (.sq (.sq (rg [om 5 (i6 0)]) (.bl 0 (.lp [0,1,5] [] (.sq (.sq (rg [qM 6 5,qM 7 0,qN 8 7,qB 9 .lss 6 8]) (.cd (.t 9) (.sk) (.ex 0))) (.sq (.bl 1 (.sq (rg [qM 12 0,qM 13 5,qM 14 1,oo 15 (.ca .pure false (.f VU) [.t 14]),qI 16 1 12 13,on1 (.st 1 (.t 16) (.t 15))])
 (rg [qM 17 1,oo 18 (.bi .add 0 (.t 17) (i6 1)),qM 1 18])))
 (rg [qM 10 5,oo 11 (.bi .add 0 (.t 10) (i6 1)),qM 5 11])))))) (.sq (rg [qM 19 1,qM 4 19]) (.rt)))) }
theorem Zdr:ZK Proofs.Tryz.prog V7 UJ=true:=by kernel_rfl
end Go.Fd

/-
  THE TEXT OF A MARK; THE MARKS OF NUMBERS AND TEXTS. Own work.
-/
namespace Go.Fd
set_option maxRecDepth 20000
abbrev Zsl(_:Int)(k:Int):Int:=k
abbrev Zd7(_:Int):Nat:=1
def mt(q:Nat)(o:ByteArray):ByteArray:=if q=0 then o else mt (q / 10) (⟨#[UInt8.ofNat (48+q % 10)]⟩++o)
 termination_by q
 decreasing_by omega
theorem ZxG{q:Nat}{o:ByteArray}(h:0<q):mt q o=mt (q / 10) (⟨#[UInt8.ofNat (48+q % 10)]⟩++o):=by
 rw[mt,if_neg (by omega)]
theorem Zua{o:ByteArray}:mt 0 o=o:=by rw[mt,if_pos rfl]
def Zrz(k:Int):ByteArray:=if k<=0 then ⟨#[109,48]⟩ else ⟨#[109]⟩++mt k.toNat ⟨#[]⟩
theorem ZeE(k:Int)(h:k<=4611686018427387904)(lvl:Nat)(S:Sto):Sem Proofs.Tryz.prog VU lvl [iI k] S (iS (Zrz k)) S:=by
 refine Zc Zgy trivial ?_
 simp only[Za3,EVA,seval,Zd,men]
 unfold Zrz
 refine Zl (fun h0=>?_) (fun h0=>?_)
 ·rw[if_pos h0]
 ·rw[if_neg h0]
  obtain⟨K,hK⟩:∃ K:Nat,k=K:=⟨k.toNat,by omega⟩
  subst hK
  rw[Int.toNat_natCast]
  refine Z8 (α:=Nat×ByteArray) K (fun j y=>⟨lvl,[(0,iI y.1),(3,iS y.2)],[],S⟩) (fun j y=>y.1+j<=K/\mt y.1 y.2=mt K ⟨#[]⟩/\y.1*10 ^ y.2.size<=K/\y.2.size<=19) (K,⟨#[]⟩) ⟨by simp only[EVA,seval,Zd,men],by simp only[EVA,seval,Zd,men]⟩ ⟨Nat.le_refl _,rfl,Nat.le_of_eq (Nat.mul_one K),(by decide:(0:Nat)<=19)⟩ ?_
  intro j y hj hA
  obtain⟨q,o⟩:=y
  obtain⟨h1,h2,h3,h4⟩:=hA
  simp only at h1 h2 h3 h4
  simp only[EVA,seval,Zd,men]
  refine Zl (fun hq=>?_) (fun hq=>?_)
  ·have hq0:0<q:=by omega
   have hby:byR [[Tr.v (Value.int IntKind.u8 (48+(q:Int) % 10))]]=some [UInt8.ofNat (48+q % 10)]:=by
    have e:(48+(q:Int) % 10).toNat=48+q % 10:=by omega
    simp only[cut,List.replicate_one,List.set_cons_zero,List.drop_zero,List.take_succ_cons,List.take_zero,byR,Option.map_some,e]
   have h5:o.size<19:=by
    apply Classical.byContradiction
    intro hc
    have e:o.size=19:=by omega
    rw[e] at h3
    have:1*10 ^ 19<=q*10 ^ 19:=Nat.mul_le_mul_right _ hq0
    omega
   have h6:q / 10*10 ^ (o.size+1)<=K:=by
    refine Nat.le_trans ?_ h3
    rw[Nat.pow_succ,Nat.mul_comm (10 ^ o.size) 10,<-Nat.mul_assoc]
    exact Nat.mul_le_mul_right _ (by omega)
   rw[hby]
   simp only[EVA,seval,Zd,men]
   have hs:(ByteArray.mk #[UInt8.ofNat (48+q % 10)]++o).size=o.size+1:=by
    rw[ByteArray.size_append,Nat.add_comm];rfl
   have e8:XE .u8 (48+(q:Int) % 10):=by
    constructor
    ·show (0:Int)<=_;omega
    ·show _<=(255:Int);omega
   refine⟨by rw[Ze];omega,e8,?_,by rw[Ze];omega,Zf (q / 10,ByteArray.mk #[UInt8.ofNat (48+q % 10)]++o) (by omega) ?_ ⟨by simp only;omega,?_,?_,?_⟩⟩
   ·show 1+o.size<=4294967296
    omega
   ·rfl
   ·rw[<-h2,ZxG hq0]
   ·simp only[hs];exact h6
   ·simp only[hs];omega
  ·have:q=0:=by omega
   subst this
   rw[<-h2,Zua]
   refine⟨?_,rfl⟩
   show 1+o.size<=4294967296
   omega
abbrev Zuk(_:ByteArray)(k:Int):ByteArray:=Zrz k
abbrev ZmR(_:ByteArray):Nat:=1
end Go.Fd

/-
  WHAT THE MARKING FUNCTIONS DO (printed by lawgen.py). Own work.
-/
namespace Go.Fd
set_option maxRecDepth 20000
theorem ZpY:MarkS Proofs.Tryz.prog XN (fun n:Int=>[tv n]) Zsl Zd7 (fun _=>True):=by
 intro a k lvl S id p es r0 kk hw ver st cap hid hv hst h0 hk hl hB
 have hne:id.1≠lvl:=by omega
 have hgp:∀ r,getp (Zak es p r) p=some r:=fun r=>U9 hv
 refine Zc Zgw trivial ?_
 simp only[Za1,EVA,seval,Zd,men]
 refine Z8 (α:=Unit) a.length (fun j _=>⟨lvl,[(0,.hd id p 0 a.length cap st),(1,iI (kJ Zd7 a k j)),(5,iI j)],[],ZP S id (.ar kk (Zak es p ((lJ Zsl Zd7 a k j).map (fun n:Int=>[tv n]))) true hw ver)⟩) (fun _ _=>True) () ⟨by simp only[Jv hne,EVA,seval,Zd,men],by (simp only[ZfF,Zie,EVA,seval,Zd,men]) <;> rfl⟩ trivial ?_
 intro j _ hj _
 simp only[List.length_map,EVA,seval,Zd,men]
 refine Zl (fun hlt=>?_) (fun hge=>?_)
 ·have hja:j<a.length:=by omega
  obtain⟨R,hjR,hR,hR'⟩:=Zl8 Zsl Zd7 (fun n:Int=>[tv n]) (k:=k) hja
  have hge2:=ZoA Zd7 (a:=a) (k:=k) (j:=j+1)
  rw[UO Zd7 hja] at hge2
  have hge3:=ZoB Zd7 (a:=a) (k:=k) (j:=j)
  rw[hR]
  try simp only[Zd7] at hge2
  try simp only[Z9 hne,VS hne,J6,V3,hst,hgp,Ux hjR,DE hv hjR,Nat.zero_add,hja,Jv hne,List.length_map,tv,EVA,seval,Zd,men]
  refine⟨by rw[Ze];omega,⟨by rw[Ze];omega,Zf () hja ?_ trivial⟩⟩
  rw[UO Zd7 hja,hR']
  simp only[Zd7,Zsl,tv,Int.natCast_add,Int.natCast_one,Int.add_assoc]
  try rfl
 ·have:j=a.length:=by omega
  subst this
  rw[ZjI,Zl7]
  exact⟨rfl,rfl⟩
theorem Zkw:MarkS Proofs.Tryz.prog V7 (fun n:ByteArray=>[ts n]) Zuk ZmR (fun x=>x.size<=4294967296):=by
 intro a k lvl S id p es r0 kk hw ver st cap hid hv hst h0 hk hl hB
 have hne:id.1≠lvl:=by omega
 have hgp:∀ r,getp (Zak es p r) p=some r:=fun r=>U9 hv
 refine Zc Zdr trivial ?_
 simp only[UJ,EVA,seval,Zd,men]
 refine Z8 (α:=Unit) a.length (fun j _=>⟨lvl,[(0,.hd id p 0 a.length cap st),(1,iI (kJ ZmR a k j)),(5,iI j)],[],ZP S id (.ar kk (Zak es p ((lJ Zuk ZmR a k j).map (fun n:ByteArray=>[ts n]))) true hw ver)⟩) (fun _ _=>True) () ⟨by simp only[Jv hne,EVA,seval,Zd,men],by (simp only[ZfF,Zie,EVA,seval,Zd,men]) <;> rfl⟩ trivial ?_
 intro j _ hj _
 simp only[List.length_map,EVA,seval,Zd,men]
 refine Zl (fun hlt=>?_) (fun hge=>?_)
 ·have hja:j<a.length:=by omega
  obtain⟨R,hjR,hR,hR'⟩:=Zl8 Zuk ZmR (fun n:ByteArray=>[ts n]) (k:=k) hja
  have hge2:=ZoA ZmR (a:=a) (k:=k) (j:=j+1)
  rw[UO ZmR hja] at hge2
  have hge3:=ZoB ZmR (a:=a) (k:=k) (j:=j)
  rw[hR]
  try simp only[ZmR] at hge2
  try simp only[Z9 hne,VS hne,J6,V3,hst,hgp,Ux hjR,DE hv hjR,Nat.zero_add,hja,Jv hne,List.length_map,tv,EVA,seval,Zd,men]
  refine Za (ZeE (kJ ZmR a k j) (by omega)) ?_
  simp only[Z9 hne,VS hne,J6,V3,hst,hgp,Ux hjR,DE hv hjR,Nat.zero_add,hja,Jv hne,List.length_map,tv,EVA,seval,Zd,men]
  refine⟨by rw[Ze];omega,⟨by rw[Ze];omega,Zf () hja ?_ trivial⟩⟩
  rw[UO ZmR hja,hR']
  simp only[ZmR,Zuk,tv,Int.natCast_add,Int.natCast_one,Int.add_assoc]
  try rfl
 ·have:j=a.length:=by omega
  subst this
  rw[ZjI,Zl7]
  exact⟨rfl,rfl⟩
def Zfd(x:TControl)(k:Int):TControl:={ name:=Zrz (k),ports:=k+1,kind_:=k+1+1 }
def Va(x:TControl):Nat:=1+1+1
theorem Zi3:MarkS Proofs.Tryz.prog Vy Zh Zfd Va (Zp 4294967296):=by
 intro a k lvl S id p es r0 kk hw ver st cap hid hv hst h0 hk hl hB
 have hne:id.1≠lvl:=by omega
 have hgp:∀ r,getp (Zak es p r) p=some r:=fun r=>U9 hv
 refine Zc Zcg trivial ?_
 simp only[Uo,EVA,seval,Zd,men]
 refine Z8 (α:=Unit) a.length (fun j _=>⟨lvl,[(0,.hd id p 0 a.length cap st),(1,iI (kJ Va a k j)),(5,iI j)],[],ZP S id (.ar kk (Zak es p ((lJ Zfd Va a k j).map Zh)) true hw ver)⟩) (fun _ _=>True) () ⟨by simp only[Jv hne,EVA,seval,Zd,men],by (simp only[ZfF,Zie,EVA,seval,Zd,men]) <;> rfl⟩ trivial ?_
 intro j _ hj _
 simp only[List.length_map,EVA,seval,Zd,men]
 refine Zl (fun hlt=>?_) (fun hge=>?_)
 ·have hja:j<a.length:=by omega
  obtain⟨R,hjR,hR,hR'⟩:=Zl8 Zfd Va Zh (k:=k) hja
  have hge2:=ZoA Va (a:=a) (k:=k) (j:=j+1)
  rw[UO Va hja] at hge2
  have hge3:=ZoB Va (a:=a) (k:=k) (j:=j)
  rw[hR]
  try simp only[Va] at hge2
  have hb:=hB _ (List.getElem_mem hja)
  have b0:(a[j]).name.size<=4294967296:=hb
  try simp only[Z9 hne,VS hne,J6,V3,hst,hgp,Ux hjR,DE hv hjR,Nat.zero_add,hja,Jv hne,List.length_map,Zh,EVA,seval,Zd,men]
  refine Za (ZeE (kJ Va a k j) (by omega)) ?_
  simp only[Z9 hne,VS hne,J6,V3,hst,hgp,Ux hjR,DE hv hjR,Nat.zero_add,hja,Jv hne,List.length_map,Zh,EVA,seval,Zd,men]
  refine⟨by rw[Ze];omega,⟨by rw[Ze];omega,⟨by rw[Ze];omega,⟨by rw[Ze];omega,Zf () hja ?_ trivial⟩⟩⟩⟩
  rw[UO Va hja,hR']
  simp only[Va,Zfd,Zh,Int.natCast_add,Int.natCast_one,Int.add_assoc]
  try rfl
 ·have:j=a.length:=by omega
  subst this
  rw[ZjI,Zl7]
  exact⟨rfl,rfl⟩
def Zds(x:TTermStep)(k:Int):TTermStep:={ kind_:=k,control:=k+1,site:=k+1+1,names:=mL Zuk ZmR x.names (k+1+1+1) }
def YD(x:TTermStep):Nat:=1+1+1+nL ZmR x.names
theorem Zg5:MarkS Proofs.Tryz.prog Vj Zg Zds YD (Zw 4294967296):=by
 intro a k lvl S id p es r0 kk hw ver st cap hid hv hst h0 hk hl hB
 have hne:id.1≠lvl:=by omega
 have hgp:∀ r,getp (Zak es p r) p=some r:=fun r=>U9 hv
 refine Zc Zbz trivial ?_
 simp only[WA,EVA,seval,Zd,men]
 refine Z8 (α:=Unit) a.length (fun j _=>⟨lvl,[(0,.hd id p 0 a.length cap st),(1,iI (kJ YD a k j)),(5,iI j)],[],ZP S id (.ar kk (Zak es p ((lJ Zds YD a k j).map Zg)) true hw ver)⟩) (fun _ _=>True) () ⟨by simp only[Jv hne,EVA,seval,Zd,men],by (simp only[ZfF,Zie,EVA,seval,Zd,men]) <;> rfl⟩ trivial ?_
 intro j _ hj _
 simp only[List.length_map,EVA,seval,Zd,men]
 refine Zl (fun hlt=>?_) (fun hge=>?_)
 ·have hja:j<a.length:=by omega
  obtain⟨R,hjR,hR,hR'⟩:=Zl8 Zds YD Zg (k:=k) hja
  have hge2:=ZoA YD (a:=a) (k:=k) (j:=j+1)
  rw[UO YD hja] at hge2
  have hge3:=ZoB YD (a:=a) (k:=k) (j:=j)
  rw[hR]
  try simp only[YD] at hge2
  have hb:=hB _ (List.getElem_mem hja)
  obtain⟨b0,b1⟩:=hb
  try simp only[Z9 hne,VS hne,J6,V3,hst,hgp,Ux hjR,DE hv hjR,Nat.zero_add,hja,Jv hne,List.length_map,Zg,EVA,seval,Zd,men]
  refine⟨by rw[Ze];omega,⟨by rw[Ze];omega,⟨by rw[Ze];omega,?_⟩⟩⟩
  simp only[Zjf]
  refine ZqQ Zkw hid hv (by omega) (by omega) b0 b1 hjR rfl (by simp only[List.length_map]) ?_
  simp only[List.set_cons_succ,List.set_cons_zero,Z9 hne,VS hne,J6,V3,hst,hgp,Ux hjR,DE hv hjR,Nat.zero_add,hja,Jv hne,List.length_map,Zg,EVA,seval,Zd,men]
  refine⟨by rw[Ze];omega,Zf () hja ?_ trivial⟩
  rw[UO YD hja,hR']
  simp only[YD,Zds,Zg,Int.natCast_add,Int.natCast_one,Int.add_assoc]
  try rfl
 ·have:j=a.length:=by omega
  subst this
  rw[ZjI,Zl7]
  exact⟨rfl,rfl⟩
end Go.Fd

/-
  The annotated codes of the functions, printed by a program of mine (gen.py), and the check that they belong to the program.
-/
namespace Go.Fd
def Dn:F2 :=
 { nt:=23,res:=[.t 2 [4]],body:=(.sq (rg [om 2 (.k (.slice none 0 0))]) (.sq (rg [qM 5 0,qN 6 5,oo 7 (.ms 3 [.string ⟨#[]⟩,.int .i64 0,.int .i64 0] (.t 6)),qM 3 7]) (.sq (.sq (rg [om 4 (i6 0)]) (.bl 0 (.lp [0,3,4] [224] (.sq (.sq (rg [qM 8 4,qM 9 0,qN 10 9,qB 11 .lss 8 10]) (.cd (.t 11) (.sk) (.ex 0))) (.sq (.bl 1 (rg [qM 14 3,qM 15 4,qM 16 0,qM 17 4,qI 18 3 16 17,qS 19 3 18,oo 20 (.ca .pure true (.f Xh) [.t 19]),qI 21 3 14 15,on1 (.st 3 (.t 21) (.t 20))]))
 (rg [qM 12 4,oo 13 (.bi .add 0 (.t 12) (i6 1)),qM 4 13])))))) (.sq (rg [qM 22 3,qM 2 22]) (.rt))))) }
theorem Zd8:ZK Proofs.Tryz.prog ZY Dn=true:=by kernel_rfl
def UK:F2 :=
 { nt:=23,res:=[.t 2 [5]],body:=(.sq (rg [om 2 (.k (.slice none 0 0))]) (.sq (rg [qM 5 0,qN 6 5,oo 7 (.ms 4 [.int .i64 0,.int .i64 0,.int .i64 0,.slice none 0 0] (.t 6)),qM 3 7]) (.sq (.sq (rg [om 4 (i6 0)]) (.bl 0 (.lp [0,3,4] [224,640] (.sq (.sq (rg [qM 8 4,qM 9 0,qN 10 9,qB 11 .lss 8 10]) (.cd (.t 11) (.sk) (.ex 0))) (.sq (.bl 1 (rg [qM 14 3,qM 15 4,qM 16 0,qM 17 4,qI 18 4 16 17,qS 19 4 18,oo 20 (.ca .pure true (.f QJ) [.t 19]),qI 21 4 14 15,on1 (.st 4 (.t 21) (.t 20))]))
 (rg [qM 12 4,oo 13 (.bi .add 0 (.t 12) (i6 1)),qM 4 13])))))) (.sq (rg [qM 22 3,qM 2 22]) (.rt))))) }
theorem Zdt:ZK Proofs.Tryz.prog ZS UK=true:=by kernel_rfl
def Zag:F2 :=
 { nt:=13,res:=[.t 4 [0]],body:=(.sq (rg [oo 2 (.bt (.t 0)),om 4 (i6 0)]) (.sq (rg [qM 5 1,qF 6 0 2,qL 7 6,oo 8 (.lg (.t 7)),qB 9 .sub 5 8,qM 1 9]) (.sq (.sq (rg [qM 10 1,oo 11 (.bi .lss 0 (.t 10) (i6 0))]) (.cd (.t 11) (.sq (rg [om 4 (i6 (-1))]) (.rt)) (.sk))) (.sq (rg [qM 12 1,qM 4 12]) (.rt))))) }
theorem ZeT:ZK Proofs.Tryz.prog Xg Zag=true:=by kernel_rfl
def Do:F2 :=
 { nt:=12,res:=[.t 4 [0]],body:=(.sq (rg [oo 2 (.bt (.t 0)),om 4 (i6 0)]) (.sq (rg [qF 5 3 2,qL 6 5,qM 7 1,oo 8 (.ca .pure false (.f Xk) [.t 6,.t 7]),qM 1 8]) (.sq (.sq (rg [qM 9 1,oo 10 (.bi .lss 0 (.t 9) (i6 0))]) (.cd (.t 10) (.sq (rg [om 4 (i6 (-1))]) (.rt)) (.sk))) (.sq (rg [qM 11 1,qM 4 11]) (.rt))))) }
theorem Zd9:ZK Proofs.Tryz.prog QI Do=true:=by kernel_rfl
def Zah:F2 :=
 { nt:=14,res:=[.c 2 (some 3) [0,0,0]],body:=(.sq (rg [oo 1 (.bt (.t 0)),oo 2 (.al [.string ⟨#[]⟩,.int .i64 0,.int .i64 0] [])]) (.sq (rg [oo 3 (.al [.string ⟨#[]⟩,.int .i64 0,.int .i64 0] [])]) (.sq (rg [qF 4 0 1,qL 5 4,qF 6 0 3,on1 (.st 1 (.t 6) (.t 5))]) (.sq (rg [qF 7 1 1,qL 8 7,qF 9 1 3,on1 (.st 1 (.t 9) (.t 8))]) (.sq (rg [qF 10 2 1,qL 11 10,qF 12 2 3,on1 (.st 1 (.t 12) (.t 11))]) (.sq (rg [qS 13 3 3,on1 (.st 3 (.t 2) (.t 13))]) (.rt))))))) }
theorem ZeU:ZK Proofs.Tryz.prog Xh Zah=true:=by kernel_rfl
def Dp:F2 :=
 { nt:=18,res:=[.c 2 (some 4) [0,0,0,2]],body:=(.sq (rg [oo 1 (.bt (.t 0)),oo 2 (.al [.int .i64 0,.int .i64 0,.int .i64 0,.slice none 0 0] [])]) (.sq (rg [oo 3 (.al [.int .i64 0,.int .i64 0,.int .i64 0,.slice none 0 0] [])]) (.sq (rg [qF 4 0 1,qL 5 4,qF 6 0 3,on1 (.st 1 (.t 6) (.t 5))]) (.sq (rg [qF 7 1 1,qL 8 7,qF 9 1 3,on1 (.st 1 (.t 9) (.t 8))]) (.sq (rg [qF 10 2 1,qL 11 10,qF 12 2 3,on1 (.st 1 (.t 12) (.t 11))]) (.sq (rg [qF 13 3 1,qL 14 13,oo 15 (.ca .pure true (.f Xl) [.t 14]),qF 16 3 3,on1 (.st 1 (.t 16) (.t 15))]) (.sq (rg [qS 17 4 3,on1 (.st 4 (.t 2) (.t 17))]) (.rt)))))))) }
theorem Zea:ZK Proofs.Tryz.prog QJ Dp=true:=by kernel_rfl
def Zai:F2 :=
 { nt:=20,res:=[.t 4 [0]],body:=(.sq (rg [oo 2 (.bt (.t 0)),oo 3 (.bt (.t 1)),om 4 (.k (.bool false))]) (.sq (.sq (rg [qF 5 0 2,qL 6 5,qF 7 0 3,qL 8 7,qB 9 .neq 6 8]) (.cd (.t 9) (.sq (rg [om 4 (.k (.bool false))]) (.rt)) (.sk))) (.sq (.sq (rg [qF 10 1 2,qL 11 10,qF 12 1 3,qL 13 12,qB 14 .neq 11 13]) (.cd (.t 14) (.sq (rg [om 4 (.k (.bool false))]) (.rt)) (.sk))) (.sq (.sq (rg [qF 15 2 2,qL 16 15,qF 17 2 3,qL 18 17,qB 19 .neq 16 18]) (.cd (.t 19) (.sq (rg [om 4 (.k (.bool false))]) (.rt)) (.sk))) (.sq (rg [om 4 (.k (.bool true))]) (.rt)))))) }
theorem ZeV:ZK Proofs.Tryz.prog Xi Zai=true:=by kernel_rfl
def Dq:F2 :=
 { nt:=26,res:=[.t 4 [0]],body:=(.sq (rg [oo 2 (.bt (.t 0)),oo 3 (.bt (.t 1)),om 4 (.k (.bool false))]) (.sq (.sq (rg [qF 5 0 2,qL 6 5,qF 7 0 3,qL 8 7,qB 9 .neq 6 8]) (.cd (.t 9) (.sq (rg [om 4 (.k (.bool false))]) (.rt)) (.sk))) (.sq (.sq (rg [qF 10 1 2,qL 11 10,qF 12 1 3,qL 13 12,qB 14 .neq 11 13]) (.cd (.t 14) (.sq (rg [om 4 (.k (.bool false))]) (.rt)) (.sk))) (.sq (.sq (rg [qF 15 2 2,qL 16 15,qF 17 2 3,qL 18 17,qB 19 .neq 16 18]) (.cd (.t 19) (.sq (rg [om 4 (.k (.bool false))]) (.rt)) (.sk))) (.sq (.sq (rg [qF 20 3 2,qL 21 20,qF 22 3 3,qL 23 22,oo 24 (.ca .pure false (.f Xm) [.t 21,.t 23]),oo 25 (.nt (.t 24))]) (.cd (.t 25) (.sq (rg [om 4 (.k (.bool false))]) (.rt)) (.sk))) (.sq (rg [om 4 (.k (.bool true))]) (.rt))))))) }
theorem Zeb:ZK Proofs.Tryz.prog QK Dq=true:=by kernel_rfl
end Go.Fd

/-
  MARKING STRUCTS; WHETHER MARKS ARE HELD (printed by lawgen.py). Own work.
-/
namespace Go.Fd
set_option maxRecDepth 20000
theorem Zkx(a:List Int)(k:Int)(hl:a.length<=4294967296)(h0:0<=k)(hk:k+nL Zd7 a<=4611686018427387904)(lvl:Nat)(S:Sto):Sem Proofs.Tryz.prog VT lvl [.tr (.sl (rI (mL Zsl Zd7 a k))),iI k] S (iI (k+nL Zd7 a)) S:=by
 refine Zc Zgx trivial ?_
 simp only[Za2,EVA,seval,Zd,men]
 refine Z8 (α:=Unit) a.length (fun j _=>⟨lvl,[(0,.tr (.sl (rI (mL Zsl Zd7 a k)))),(1,iI (kJ Zd7 a k j)),(5,iI j)],[],S⟩) (fun _ _=>True) () ⟨by simp only[EVA,seval,Zd,men],by (simp only[ZfF,EVA,seval,Zd,men]) <;> rfl⟩ trivial ?_
 intro j _ hj _
 simp only[List.length_map,Zs,EVA,seval,Zd,men]
 refine Zl (fun hlt=>?_) (fun hge=>?_)
 ·have hja:j<a.length:=by omega
  have ga:=Zxt (c:=(fun n:Int=>[tv n])) (m:=Zsl) (n:=Zd7) (k:=k) hja
  have hge2:=ZoA Zd7 (a:=a) (k:=k) (j:=j+1)
  rw[UO Zd7 hja] at hge2
  have hge3:=ZoB Zd7 (a:=a) (k:=k) (j:=j)
  try simp only[Zd7] at hge2
  simp only[ga,Zsl,Zuk,Nat.zero_add,hja,ne_eq,not_true_eq_false,EVA,seval,Zd,men]
  refine⟨by rw[Ze];omega,⟨by rw[Ze];omega,Zf () hja ?_ trivial⟩⟩
  rw[UO Zd7 hja]
  simp only[Zd7,Int.natCast_add,Int.natCast_one,Int.add_assoc]
  try rfl
 ·have:j=a.length:=by omega
  subst this
  rw[ZjI]
end Go.Fd

/-
  HOW MANY MARKS A THING TAKES, AGAINST ITS SIZE (printed by lawgen.py). Own work.
-/
namespace Go.Fd
theorem ZpZ(x:TControl):Zq 256 (fun l=>JD x l) (Va x):=Zmd (ZwV (by omega) (by omega) (ZwW x.name.size) ZwU) (by simp only[Va];omega)
theorem ZnL(x:TTermStep):Zq 256 (fun l=>J7 x l) (YD x):=Zmd (ZwV (by omega) (by omega) (ZBJ (n:=ZmR) (fun y=>ZtE y.size) x.names) ZwU) (by simp only[YD];omega)
end Go.Fd

/-
  WHAT HOLDS OF THE HELPERS OF THE LAWS (printed by lawgen.py). Own work.
-/
namespace Go.Fd
set_option maxRecDepth 20000
theorem Zsm{α:Type}{f:α->Int->Int}:∀(a:List α) (l:Int),(∀ x∈a,∀ l:Int,0<=l->l<=1048576->f x l<=l)->0<=l->l<=1048576->szF f a l<=l
 | [],l,_,_,_=>Int.le_refl l
 | x::r,l,hf,h0,h1=>by
  simp only[szF]
  have:=hf x (by simp) l h0 h1
  split
  ·omega
  ·have h2:=Zsm r (f x l) (fun y hy=>hf y (by simp [hy])) (by omega) (by omega)
   omega
theorem Zp0{α:Type}{f:α->Int->Int}(a:List α){l:Int}(hf:∀ x∈a,∀ l:Int,0<=l->l<=1048576->f x l<=l)(h0:0<=l)(h1:l<=1048576):szL f a l<=l:=by
 unfold szL
 split
 ·omega
 ·have:=Zsm a (l-a.length) hf (by omega) (by omega)
  omega
theorem Zp1{l m:Int}{g:Int->Int}(h0:0<=l)(h:m<=l)(hg:0<=m->g m<=m):Zmc m g<=l:=by
 unfold Zmc
 split
 ·omega
 ·have:=hg (by omega)
  omega
theorem Zlz:ZK Proofs.Tryz.prog Xk ZBH=true:=by kernel_rfl
theorem Zdu(a:List ByteArray)(hl:a.length<=9223372036854775807)(hb:∀ y∈a,y.size<=9223372036854775807)(l:Int)(h0:0<=l)(h1:l<=1048576):szL (fun x m=>m-x.size) a l<=l/\∀ lvl S,Sem Proofs.Tryz.prog Xk lvl [tS a,iI l] S (iI (szL (fun x m=>m-x.size) a l)) S :=
 ⟨Zp0 a (fun x _ l _ _=>by omega) h0 h1,fun lvl S=>ZqS Zlz a l hl h0 h1 hb lvl S⟩
theorem Zdv(x:TControl)(hb:Zp 9223372036854775807 x)(l:Int)(h0:0<=l)(h1:l<=1048576):JD x l<=l/\∀ lvl S,Sem Proofs.Tryz.prog Xg lvl [.ag ((Zh x).map .tr),iI l] S (iI (JD x l)) S:=by
 have b0:x.name.size<=9223372036854775807:=hb
 refine⟨?_,fun lvl S=>?_⟩
 ·unfold JD
  refine Zp1 h0 (m:=l-x.name.size) (by omega) (fun p0=>?_)
  have r0:_<=(1048576:Int):=Int.le_trans (show l-x.name.size<=l by omega) h1
  exact Int.le_refl _
 ·refine Zc ZeT trivial ?_
  simp only[Zag,Zh,List.map_cons,List.map_nil,EVA,seval,Zd,men]
  unfold JD
  refine⟨by rw[Ze];omega,?_⟩
  obtain⟨l1,hl1⟩:∃ m:Int,m=l-x.name.size:=⟨_,rfl⟩
  have u1:l1<=l:=by omega
  rw[<-hl1]
  split
  ·rename_i hn;rw[Zmc,if_pos hn]
  rename_i hn0
  rw[Zmc,if_neg hn0]
theorem Zky:ZK Proofs.Tryz.prog Y1 (ZxT 3 (some 3) Xg)=true:=by kernel_rfl
theorem ZbZ(a:List TControl)(hl:a.length<=9223372036854775807)(hb:∀ y∈a,Zp 9223372036854775807 y)(l:Int)(h0:0<=l)(h1:l<=1048576):szL JD a l<=l/\∀ lvl S,Sem Proofs.Tryz.prog Y1 lvl [.tr (.sl (a.map Zh)),iI l] S (iI (szL JD a l)) S :=
 ⟨Zp0 a (fun x hx l h0 h1=>(Zdv x (hb x hx) l h0 h1).1) h0 h1,fun lvl S=>Zma Zky Zh JD Zek a l hl h0 h1 (fun x hx l h0 h1=>Zdv x (hb x hx) l h0 h1) lvl S⟩
theorem Zb0(x:TTermStep)(hb:Zw 9223372036854775807 x)(l:Int)(h0:0<=l)(h1:l<=1048576):J7 x l<=l/\∀ lvl S,Sem Proofs.Tryz.prog QI lvl [.ag ((Zg x).map .tr),iI l] S (iI (J7 x l)) S:=by
 obtain⟨b0,b1⟩:=hb
 refine⟨?_,fun lvl S=>?_⟩
 ·unfold J7
  have q0:=Zdu x.names b0 b1 _ h0 h1
  refine Zp1 h0 q0.1 (fun p0=>?_)
  have r0:_<=(1048576:Int):=Int.le_trans q0.1 h1
  exact Int.le_refl _
 ·refine Zc Zd9 trivial ?_
  simp only[Do,Zg,List.map_cons,List.map_nil,EVA,seval,Zd,men]
  unfold J7
  have q0:=Zdu x.names b0 b1 l h0 h1
  refine Za q0.2 ?_
  simp only[EVA,seval,Zd,men]
  obtain⟨l1,hl1⟩:∃ m:Int,m=(szL (fun x m=>m-x.size) x.names l):=⟨_,rfl⟩
  have u1:l1<=l:=by rw[hl1];exact q0.1
  rw[<-hl1]
  split
  ·rename_i hn;rw[Zmc,if_pos hn]
  rename_i hn0
  rw[Zmc,if_neg hn0]
theorem Zi4:ZK Proofs.Tryz.prog YK (ZxT 4 (some 4) QI)=true:=by kernel_rfl
theorem Za4(a:List TTermStep)(hl:a.length<=9223372036854775807)(hb:∀ y∈a,Zw 9223372036854775807 y)(l:Int)(h0:0<=l)(h1:l<=1048576):szL J7 a l<=l/\∀ lvl S,Sem Proofs.Tryz.prog YK lvl [.tr (.sl (a.map Zg)),iI l] S (iI (szL J7 a l)) S :=
 ⟨Zp0 a (fun x hx l h0 h1=>(Zb0 x (hb x hx) l h0 h1).1) h0 h1,fun lvl S=>Zma Zi4 Zg J7 Zih a l hl h0 h1 (fun x hx l h0 h1=>Zb0 x (hb x hx) l h0 h1) lvl S⟩
end Go.Fd

/-
  WHAT HOLDS OF THE HELPERS OF THE LAWS: eq.. (printed by lawgen.py). Own work.
-/
namespace Go.Fd
set_option maxRecDepth 20000
theorem ZrA:ZK Proofs.Tryz.prog Vx Zuf=true:=by kernel_rfl
theorem Zec(a b:(List Int))(ha:a.length<=9223372036854775807)(lvl:Nat)(S:Sto):Sem Proofs.Tryz.prog Vx lvl [.tr (.sl (rI a)),.tr (.sl (rI b))] S (iB (decide (a=b))) S:=ZtB ZrA a b ha lvl S
theorem ZlA:ZK Proofs.Tryz.prog Xm Zuf=true:=by kernel_rfl
theorem Zi5(a b:(List ByteArray))(ha:a.length<=9223372036854775807)(lvl:Nat)(S:Sto):Sem Proofs.Tryz.prog Xm lvl [.tr (.sl (rS a)),.tr (.sl (rS b))] S (iB (decide (a=b))) S:=ZtC ZlA a b ha lvl S
theorem Zi6(x y:TControl)(hb:Zp 9223372036854775807 x)(lvl:Nat)(S:Sto):Sem Proofs.Tryz.prog Xi lvl [.ag ((Zh x).map .tr),.ag ((Zh y).map .tr)] S (iB (decide (x=y))) S:=by
 have b0:x.name.size<=9223372036854775807:=hb
 refine Zc ZeV trivial ?_
 simp only[Zai,Zh,List.map_cons,List.map_nil,EVA,seval,Zd,men]
 refine Zl (fun hne=>?_) (fun heq0=>?_)
 ·have:¬ x=y:=fun e=>(by rw[e] at hne;simp at hne)
  simp [this]
 refine Zl (fun hne=>?_) (fun heq1=>?_)
 ·have:¬ x=y:=fun e=>(by rw[e] at hne;simp at hne)
  simp [this]
 refine Zl (fun hne=>?_) (fun heq2=>?_)
 ·have:¬ x=y:=fun e=>(by rw[e] at hne;simp at hne)
  simp [this]
 have:x=y:=by
  cases x;cases y;simp_all
 simp [this]
theorem Zkz:ZK Proofs.Tryz.prog Y2 (ZxU 3 (some 3) Xi)=true:=by kernel_rfl
theorem Zb1(a b:(List TControl))(ha:a.length<=9223372036854775807)(ha2:∀ y∈a,Zp 9223372036854775807 y)(lvl:Nat)(S:Sto):Sem Proofs.Tryz.prog Y2 lvl [.tr (.sl (a.map Zh)),.tr (.sl (b.map Zh))] S (iB (decide (a=b))) S :=
 Zmb Zkz Zh (fun _=>rfl) a b ha (fun x hx y _ lvl S=>Zi6 x y (ha2 x hx) lvl S) lvl S
theorem Zg6(x y:TTermStep)(hb:Zw 9223372036854775807 x)(lvl:Nat)(S:Sto):Sem Proofs.Tryz.prog QK lvl [.ag ((Zg x).map .tr),.ag ((Zg y).map .tr)] S (iB (decide (x=y))) S:=by
 obtain⟨b0,b1⟩:=hb
 refine Zc Zeb trivial ?_
 simp only[Dq,Zg,List.map_cons,List.map_nil,EVA,seval,Zd,men]
 refine Zl (fun hne=>?_) (fun heq0=>?_)
 ·have:¬ x=y:=fun e=>(by rw[e] at hne;simp at hne)
  simp [this]
 refine Zl (fun hne=>?_) (fun heq1=>?_)
 ·have:¬ x=y:=fun e=>(by rw[e] at hne;simp at hne)
  simp [this]
 refine Zl (fun hne=>?_) (fun heq2=>?_)
 ·have:¬ x=y:=fun e=>(by rw[e] at hne;simp at hne)
  simp [this]
 refine Za (Zi5 x.names y.names b0) ?_
 simp only[Bool.not_eq_true',EVA,seval,Zd,men]
 refine Zl (fun hne=>?_) (fun heq3=>?_)
 ·have:¬ x=y:=fun e=>(by rw[e] at hne;simp at hne)
  simp [this]
 have:x=y:=by
  cases x;cases y;simp_all
 simp [this]
theorem Zi7:ZK Proofs.Tryz.prog YL (ZxU 4 (some 4) QK)=true:=by kernel_rfl
theorem Za5(a b:(List TTermStep))(ha:a.length<=9223372036854775807)(ha2:∀ y∈a,Zw 9223372036854775807 y)(lvl:Nat)(S:Sto):Sem Proofs.Tryz.prog YL lvl [.tr (.sl (a.map Zg)),.tr (.sl (b.map Zg))] S (iB (decide (a=b))) S :=
 Zmb Zi7 Zg (fun _=>rfl) a b ha (fun x hx y _ lvl S=>Zg6 x y (ha2 x hx) lvl S) lvl S
end Go.Fd

/-
  WHAT HOLDS OF THE HELPERS OF THE LAWS: to.. (printed by lawgen.py). Own work.
-/
namespace Go.Fd
set_option maxRecDepth 20000
theorem ZlB:ZK Proofs.Tryz.prog Xl (ZBI (.string ⟨#[]⟩))=true:=by kernel_rfl
theorem Zi8(a:(List ByteArray))(ha:a.length<=4294967296)(lvl:Nat)(S:Sto):Sem Proofs.Tryz.prog Xl lvl [.tr (.sl (rS a))] S (.ow 1 (rS a) true) S:=ZtD ZlB a ha lvl S
theorem Zi9(x:TControl)(hb:Zp 4294967296 x)(lvl:Nat)(S:Sto):Sem Proofs.Tryz.prog Xh lvl [.ag ((Zh x).map .tr)] S (Ze7 x) S:=by
 have b0:x.name.size<=4294967296:=hb
 refine Zc ZeU (by simp [Ze7,low,men,Zd]) ?_
 simp only[Zah,Zh,zfill,zobs,List.map_cons,List.map_nil,Ze3,Ze4,List.set_cons_zero,List.set_cons_succ,EVA,seval,Zd,men]
 rfl
theorem YH(a:(List TControl))(ha:a.length<=4294967296)(hb:∀ y∈a,Zp 4294967296 y)(lvl:Nat)(S:Sto):Sem Proofs.Tryz.prog ZY lvl [.tr (.sl (a.map Zh))] S (.ow 3 (a.map Zh) true) S:=by
 refine Zc Zd8 trivial ?_
 simp only[Dn,List.length_map,bigN,Int.natCast_nonneg,EVA,seval,Zd,men]
 refine⟨by omega,?_⟩
 refine Z8 (α:=Unit) a.length (fun j _=>⟨lvl,[(0,.tr (.sl (a.map Zh))),(3,.hd (lvl,224) [] 0 a.length none a.length),(4,iI j)],[(224,.ar 3 (Xe Zh [ts ⟨#[]⟩,tv 0,tv 0] a j) true a.length (j*0))],S⟩) (fun _ _=>True) () ⟨by simp only[EVA,seval,Zd,men],by (simp only[Zb6,EVA,seval,Zd,men]) <;> rfl⟩ trivial ?_
 intro j _ hj _
 simp only[List.length_map,EVA,seval,Zd,men]
 refine Zl (fun hlt=>?_) (fun hge=>?_)
 ·have hja:j<a.length:=by omega
  have ga:(a.map Zh)[j]? = some (Zh a[j]):=by simp [hja]
  have gz:(Xe Zh [ts ⟨#[]⟩,tv 0,tv 0] a j)[j]? = some [ts ⟨#[]⟩,tv 0,tv 0]:=ZdM hja
  have hfl:(Xe Zh [ts ⟨#[]⟩,tv 0,tv 0] a j).length=a.length:=ZcD hj
  have hsem:=fun lvl S=>Zi9 a[j] (hb a[j] (List.getElem_mem hja)) lvl S
  simp only[ga,gz,Int.natCast_nonneg,Nat.le_refl,hja,Zh,Ze7,Nat.reduceLeDiff,EVA,↓reduceIte,Nat.reduceEqDiff,Nat.reduceMul,reduceCtorEq,Nat.reduceAdd,Nat.reduceSub,Nat.reduceLT,Int.reduceToNat,Int.reduceLE,Int.reduceLT,Zd,men]
  refine Za hsem ?_
  simp only[Ze7,gz,Int.natCast_nonneg,Nat.le_refl,hja,hfl,YU,List.getElem?_set_self,List.set_set,List.length_set,List.set_cons_zero,List.set_cons_succ,Prod.mk.injEq,ne_eq,not_false_eq_true,EVA,seval,Zd,men]
  refine⟨by rw[Ze];omega,Zf () hja ?_ trivial⟩
  have hse:=ZdN (c:=Zh) (z:=[ts ⟨#[]⟩,tv 0,tv 0]) (e:=[ts a[j].name,tv a[j].ports,tv a[j].kind_]) hja rfl
  rw[hse,show (j+1)*0=j*0 from by omega]
  rfl
 ·have:j=a.length:=by omega
  subst this
  rw[ZdL]
  simp
theorem Zg7(x:TTermStep)(hb:Zw 4294967296 x)(lvl:Nat)(S:Sto):Sem Proofs.Tryz.prog QJ lvl [.ag ((Zg x).map .tr)] S (ZcE x) S:=by
 obtain⟨b0,b1⟩:=hb
 refine Zc Zea (by simp [ZcE,low,men,Zd]) ?_
 simp only[Dp,Zg,zfill,zobs,List.map_cons,List.map_nil,Ze3,Ze4,List.set_cons_zero,List.set_cons_succ,EVA,seval,Zd,men]
 refine Za (Zi8 x.names b0) ?_
 simp only[Ze3,Ze4,List.set_cons_zero,List.set_cons_succ,Prod.mk.injEq,EVA,seval,Zd,men]
 rfl
theorem Yh(a:(List TTermStep))(ha:a.length<=4294967296)(hb:∀ y∈a,Zw 4294967296 y)(lvl:Nat)(S:Sto):Sem Proofs.Tryz.prog ZS lvl [.tr (.sl (a.map Zg))] S (.ow 4 (a.map Zg) true) S:=by
 refine Zc Zdt trivial ?_
 simp only[UK,List.length_map,bigN,Int.natCast_nonneg,EVA,seval,Zd,men]
 refine⟨by omega,?_⟩
 refine Z8 (α:=Unit) a.length (fun j _=>⟨lvl,[(0,.tr (.sl (a.map Zg))),(3,.hd (lvl,224) [] 0 a.length none a.length),(4,iI j)],[(224,.ar 4 (Xe Zg [tv 0,tv 0,tv 0,.sl []] a j) true a.length (j*1))],S⟩) (fun _ _=>True) () ⟨by simp only[EVA,seval,Zd,men],by (simp only[Zb6,EVA,seval,Zd,men]) <;> rfl⟩ trivial ?_
 intro j _ hj _
 simp only[List.length_map,EVA,seval,Zd,men]
 refine Zl (fun hlt=>?_) (fun hge=>?_)
 ·have hja:j<a.length:=by omega
  have ga:(a.map Zg)[j]? = some (Zg a[j]):=by simp [hja]
  have gz:(Xe Zg [tv 0,tv 0,tv 0,.sl []] a j)[j]? = some [tv 0,tv 0,tv 0,.sl []]:=ZdM hja
  have hfl:(Xe Zg [tv 0,tv 0,tv 0,.sl []] a j).length=a.length:=ZcD hj
  have hsem:=fun lvl S=>Zg7 a[j] (hb a[j] (List.getElem_mem hja)) lvl S
  simp only[ga,gz,Int.natCast_nonneg,Nat.le_refl,hja,Zg,ZcE,Nat.reduceLeDiff,EVA,↓reduceIte,Nat.reduceEqDiff,Nat.reduceMul,reduceCtorEq,Nat.reduceAdd,Nat.reduceSub,Nat.reduceLT,Int.reduceToNat,Int.reduceLE,Int.reduceLT,Zd,men]
  refine Za hsem ?_
  simp only[ZcE,gz,Int.natCast_nonneg,Nat.le_refl,hja,hfl,YU,List.getElem?_set_self,List.set_set,List.length_set,List.set_cons_zero,List.set_cons_succ,Prod.mk.injEq,ne_eq,not_false_eq_true,EVA,seval,Zd,men]
  refine⟨by rw[Ze];omega,Zf () hja ?_ trivial⟩
  have hse:=ZdN (c:=Zg) (z:=[tv 0,tv 0,tv 0,.sl []]) (e:=[tv a[j].kind_,tv a[j].control,tv a[j].site,.sl (rS a[j].names)]) hja rfl
  rw[hse,show (j+1)*1=j*1+1 from by omega]
  rfl
 ·have:j=a.length:=by omega
  subst this
  rw[ZdL]
  simp
end Go.Fd

/-
  WHAT THE LAWS' ARGUMENTS READ AS (printed by lawgen.py). Own work.
-/
namespace Go.Fd
set_option maxRecDepth 20000
theorem ZCq:Zaj Proofs.Tryz.prog 9 (fun n:ByteArray=>[ts n]) (fun n=>n.size<=9223372036854775807):=ZjB Proofs.Tryz.underlying9
theorem ZxH:Zaj Proofs.Tryz.prog 3 (fun n:Int=>[tv n]) (XE .i64):=Zox Proofs.Tryz.underlying3
theorem ZBS:Zaj Proofs.Tryz.prog 67 Zh (fun x=>Zp 9223372036854775807 x/\ZjO x):=Zl4 (Zeh Proofs.Tryz.underlying67 (show Zhi Proofs.Tryz.prog 0 [(0,9),(1,3),(2,3)] _ _ from (QH (k:=1) (by kernel_rfl) (fun _=>rfl) ZCq (QH (k:=1) (by kernel_rfl) (fun _=>rfl) ZxH (QH (k:=1) (by kernel_rfl) (fun _=>rfl) ZxH Zhj))))) (fun p=>TControl.mk p.1 p.2.1 p.2.2.1) (fun _=>rfl) (fun x h=>⟨h.1,⟨h.2.1,h.2.2.1⟩⟩)
theorem ZxI:Zaj Proofs.Tryz.prog 22 (fun l:List TControl=>[Tr.sl (l.map Zh)]) (fun l=>l.length<=9223372036854775807/\∀ x∈l,(fun x=>Zp 9223372036854775807 x/\ZjO x) x):=Zb4 (k:=2) Proofs.Tryz.underlying22 (by kernel_rfl) (fun _=>rfl) ZBS
theorem ZBT:Zaj Proofs.Tryz.prog 46 (fun l:List ByteArray=>[Tr.sl (l.map (fun n:ByteArray=>[ts n]))]) (fun l=>l.length<=9223372036854775807/\∀ x∈l,(fun n=>n.size<=9223372036854775807) x):=Zb4 (k:=0) Proofs.Tryz.underlying46 (by kernel_rfl) (fun _=>rfl) ZCq
theorem ZBU:Zaj Proofs.Tryz.prog 70 Zg (fun x=>Zw 9223372036854775807 x/\Zhl x):=Zl4 (Zeh Proofs.Tryz.underlying70 (show Zhi Proofs.Tryz.prog 0 [(0,3),(1,3),(2,3),(3,46)] _ _ from (QH (k:=1) (by kernel_rfl) (fun _=>rfl) ZxH (QH (k:=1) (by kernel_rfl) (fun _=>rfl) ZxH (QH (k:=1) (by kernel_rfl) (fun _=>rfl) ZxH (QH (k:=1) (by kernel_rfl) (fun _=>rfl) ZBT Zhj)))))) (fun p=>TTermStep.mk p.1 p.2.1 p.2.2.1 p.2.2.2.1) (fun _=>rfl) (fun x h=>⟨⟨h.2.2.2.1.1,(fun y hy=>(h.2.2.2.1.2 y hy))⟩,⟨h.1,h.2.1,h.2.2.1⟩⟩)
theorem ZxJ:Zaj Proofs.Tryz.prog 23 (fun l:List TTermStep=>[Tr.sl (l.map Zg)]) (fun l=>l.length<=9223372036854775807/\∀ x∈l,(fun x=>Zw 9223372036854775807 x/\Zhl x) x):=Zb4 (k:=3) Proofs.Tryz.underlying23 (by kernel_rfl) (fun _=>rfl) ZBU
end Go.Fd

/-
  WHERE THE PARTS OF A TERM BEGIN, THE PROGRAM'S SIDE, AND TermParts. Own work.
-/
namespace Go.Fd
set_option maxRecDepth 20000
theorem Zja(t:List TTermStep)(h:goodT t)(lvl:Nat)(S:Sto):Sem Proofs.Tryz.prog Xj lvl [.tr (.sl (t.map Zg))] S (.ow 1 (rI (stS t t.length).1) true) S:=by
 have hl:=h.len
 refine Zc ZeK trivial ?_
 simp only[Zac,List.length_map,EVA,seval,Zd,men]
 refine Zz (α:=Nat×Nat) t.length (fun j w=>[(3,.hd (lvl,288) [] 0 j none j),(4,.hd (lvl,320) [] 0 (stS t j).2.length none w.1),(13,iI j)]) (fun j w=>[(288,.ar 1 (rI (stS t j).1) true j 0),(320,.ar 1 (rI (stS t j).2) true w.1 w.2)]) (fun j w=>(stS t j).2.length<=w.1/\w.1<=100) (0,0) (by simp only[EVA,seval,Zd,men]) (by (simp only[stS,EVA,seval,Zd,men]) <;> rfl) (by simp [stS]) ?_
 intro j w hj hw
 have hsm:=h.sml j hj
 have h1:=stS_one (t:=t) (j:=j)
 simp only[List.length_map,EVA,seval,Zd,men]
 refine Zl (fun hlt=>?_) (fun hge=>?_)
 ·have hja:j<t.length:=by omega
  have ga:=WH (c:=Zg) hja
  have htk:=h.tak j hja
  have hsm2:=h.sml (j+1) (by omega)
  have hnd:=h.ned j hja
  obtain⟨T,hT⟩:∃ T,T=Zp7 t j:=⟨_,rfl⟩
  have hT2:Jn t[j].kind_=T:=by rw[hT,Zfc hja]
  have qn:=Zgo t[j].kind_ t[j].control t[j].site t[j].names
  rw[hnd,hT2] at qn
  rw[<-hT] at htk
  obtain⟨n,hn⟩:∃ n,n=(stS t j).2.length-T:=⟨_,rfl⟩
  have hn2:(((stS t j).2.length:Int)-(T:Int))=(n:Int):=by omega
  have hst:stS t (j+1)=((stS t j).1++[if 0<T then g0 (stS t j).2 n else (j:Int)],(stS t j).2.take n++[if 0<T then g0 (stS t j).2 n else (j:Int)]):=by rw[stS,<-hT,<-hn]
  obtain⟨Z,hZ⟩:∃ Z,Z=stS t j:=⟨_,rfl⟩
  rw[<-hZ] at hn hn2 htk hst hsm h1 hw ⊢
  simp only[ga,hja,Zg,hn2,List.length_map,EVA,seval,Zd,men]
  refine Za qn ?_
  by_cases h0:0<T
  ·have h0i:(0:Int)<(T:Int):=by omega
   have hnl:n<Z.2.length:=by omega
   have gn:=ZiZ hnl
   simp only[h0i,hn2,gn,hnl,List.length_map,EVA,seval,Zd,men]
   have e1:∀ L:List Int,rI L++[[Tr.v (Value.int .i64 Z.2[n])]]=rI (L++[Z.2[n]]):=fun L=>by rw[YA];rfl
   have e2:List.take n (rI Z.2)=rI (Z.2.take n):=(List.map_take ..).symm
   rw[if_pos h0,show g0 Z.2 n=Z.2[n] by simp [hnl]] at hst
   have e3:(stS t (j+1)).2.length=n+1:=by rw[hst];simp;omega
   refine⟨by rw[Ze];omega,by rw[Ze];omega,by omega,by rw[e2,List.length_map,List.length_take];omega,by omega,h1.symm,by omega,by rw[Ze];omega,Zf (max w.1 (n+1),w.2+1) hja ?_ ⟨by rw[e3];exact Nat.le_max_right _ _,by show max w.1 (n+1)<=100;omega⟩⟩
   rw[e3,hst,e1,e2,e1]
   rfl
  ·have h0i:¬ (0:Int)<(T:Int):=by omega
   simp only[h0i,hn2,List.length_map,EVA,seval,Zd,men]
   have e1:∀ L:List Int,rI L++[[Tr.v (Value.int .i64 j)]]=rI (L++[(j:Int)]):=fun L=>by rw[YA];rfl
   have hnz:n=Z.2.length:=by omega
   rw[if_neg h0,hnz,List.take_length] at hst
   have e3:(stS t (j+1)).2.length=Z.2.length+1:=by rw[hst];simp
   refine⟨by omega,h1.symm,by omega,by rw[Ze];omega,Zf (max w.1 (Z.2.length+1),w.2) hja ?_ ⟨by rw[e3];exact Nat.le_max_right _ _,by show max w.1 (Z.2.length+1)<=100;omega⟩⟩
   rw[e3,hst,e1,e1]
   rfl
 ·have:j=t.length:=by omega
  subst this
  simp only[List.length_map,EVA,seval,Zd,men]
  exact stS_one.symm
end Go.Fd

/-
  TermParts: BOTH SIDES. Own work.
-/
namespace Go.Fd
set_option maxRecDepth 20000
open Classical in
noncomputable def ZO(sig:List TControl)(t:List TTermStep):List Int:=if (Zdn sig t).isSome then (stS t t.length).1 else []
noncomputable def UL(sig:List TControl)(t:List TTermStep):Bool:=(Zdn sig t).isSome
theorem Zdw(sig:List TControl)(t:List TTermStep)(hn:sig.length<=4294967296)(hbs:∀ y∈sig,Zp 4294967296 y)(hlt:t.length<=4294967296)(hbt:∀ y∈t,Zw 4294967296 y)(lvl:Nat)(S:Sto):Sem Proofs.Tryz.prog Xf lvl [.tr (.sl (sig.map Zh)),.tr (.sl (t.map Zg))] S (.tu [.ow 1 (rI (ZO sig t)) true,iB (UL sig t)]) S:=by
 unfold ZO UL
 have q:=Zgs sig t hn hbs hlt hbt
 obtain⟨V,hV⟩:∃ V,V=Zp6 sig t:=⟨_,rfl⟩
 rw[<-hV] at q
 refine Zc ZeH (by simp [low,men,Zd]) ?_
 simp only[D9,EVA,seval,Zd,men]
 refine Za q ?_
 cases hv:Zdn sig t with
 | none =>
  simp only[Zi,Option.isSome_none,Bool.false_eq_true,List.length_map,EVA,seval,Zd,men]
  try rfl
 | some b =>
  simp only[Zi,Option.isSome_some,List.length_map,EVA,seval,Zd,men]
  refine Za (Zkv t (ZmP hv)) ?_
  simp only[Option.isSome_some,EVA,seval,Zd,men]
  try rfl
theorem UM(sig:List TControl)(t:List TTermStep)(hn:sig.length<=4294967296)(hbs:∀ y∈sig,Zp 4294967296 y)(hlt:t.length<=4294967296)(hbt:∀ y∈t,Zw 4294967296 y)(lvl:Nat)(S:Sto):Sem Proofs.Tryz.prog Vo lvl [.tr (.sl (sig.map Zh)),.tr (.sl (t.map Zg))] S (.tu [.ow 1 (rI (ZO sig t)) true,iB (UL sig t)]) S:=by
 unfold ZO UL
 have q:=Zdo sig t hn hbs hlt hbt
 obtain⟨V,hV⟩:∃ V,V=Zp6 sig t:=⟨_,rfl⟩
 rw[<-hV] at q
 refine Zc ZeI (by simp [low,men,Zd]) ?_
 simp only[Zaa,EVA,seval,Zd,men]
 refine Za q ?_
 cases hv:Zdn sig t with
 | none =>
  simp only[Zi,Option.isSome_none,Bool.false_eq_true,List.length_map,EVA,seval,Zd,men]
  try rfl
 | some b =>
  simp only[Zi,Option.isSome_some,List.length_map,EVA,seval,Zd,men]
  refine Za (Zja t (ZmP hv)) ?_
  simp only[Option.isSome_some,EVA,seval,Zd,men]
  try rfl
end Go.Fd

/-
  HOW MANY MARKS SMALL THINGS TAKE. Own work.
-/
namespace Go.Fd
theorem Zsn:∀(l:List Int),nL Zd7 l=l.length
 | []=>rfl
 | x::r=>by simp only[nL,List.length_cons,Zsn r,Zd7];omega
end Go.Fd
