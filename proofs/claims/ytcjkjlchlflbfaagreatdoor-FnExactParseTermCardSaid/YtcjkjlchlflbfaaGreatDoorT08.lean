/-
  THE VALUE OF A TERM, THE REFERENCE'S SIDE. Own work.
-/
import Derived.Test.YtcjkjlchlflbfaaGreatDoorT07
import Derived.Shelf.Strconv.Itoa3
import Derived.Test.YtcjkjlchlflbfaaGreatDoorProg
import Derived.Lib.AppendIntMem
import Derived.Lib.SplitLaws
import Derived.Lib.IndexLaws
import Derived.Lib.CutLaws
import Derived.Lib.AtoiAll
import Derived.Shelf.Strings.Cut
import Derived.Shelf.Strconv.AtoiAll
import Derived.Shelf.Strconv.ErrVarAll
import Derived.Shelf.Strings.OnBuilder
import Derived.Shelf.Small.Wraps
import Derived.MakeChecks
import Derived.Stop.LaidErr
import Derived.Shelf.Vars
import Derived.Handed
import Derived.KernelRfl
set_option linter.all false
namespace Go.Fd
open Go.Proofs.Tryz renaming prog->Uch
set_option maxRecDepth 20000
theorem ZFl(sig:List TControl)(t:List TTermStep)(hn:sig.length<=4294967296)(hbs:∀ y∈sig,Jc 4294967296 y)(hlt:t.length<=4294967296)(hbt:∀ y∈t,Yx 4294967296 y)(lvl:Nat)(S:Zc):Sem Uch Zfp lvl [.tr (.sl (sig.map Zr)),.tr (.sl (t.map Zv))] S (.tu [Zw (WY sig t),iB (Yk sig t).isSome]) S:=by
 refine Zi ZzY (by simp [Zw,low,men,Za]) ?_
 simp only[Zkv,Zb,seval,Za,men]
 refine Zf (ZgI sig (by omega) (fun y hy=>Zc3 (hbs y hy))) ?_
 cases hsg:dc (Z2 sig)
 ·have e:=ZdG (t:=t) fun g=>dc_not.1 hsg g.1
  rw[e,XF e]
  simp only[Option.isSome_none,Zb,seval,Za,men]
  try rfl
 have hs:=dc_iff.1 hsg
 simp only[Uaa,Zb,seval,Za,men]
 refine Zs (fun hlo=>?_) (fun hlo=>?_)
 ·have e:=ZdG (sig:=sig) (t:=t) fun g=>by have:=g.2;omega
  rw[e,XF e]
  simp only[Option.isSome_none,Zb,seval,Za,men]
  try rfl
 have hl60:t.length<=60:=by omega
 refine Zf (ZE8 sig t hn hbs hbt hs hl60) ?_
 cases hr:JP sig t with
 | none =>
  have e:Yk sig t=none:=UA fun x m g=>by rw[hr] at g;cases g
  rw[e,XF e]
  simp only[Option.isSome_none,Zb,seval,Za,men]
  try rfl
 | some z =>
  rw[Zox hr]
  obtain⟨L,m⟩:=z
  have hz:=Zbf hs (j:=t.length) (Ual _) (by rw[Uaw];exact hr)
  simp only[Option.isSome_some,Uaa,Zb,seval,Za,men]
  refine Zs (fun h1=>?_) (fun h1=>?_)
  ·obtain⟨x,rfl⟩:∃ x,L=[x]:=Zbg (by have:=of_decide_eq_false h1;omega)
   have hp:=hz.1 x (by simp)
   have h4:=hp.big.sitesL
   have hlen:=hp.len
   have ga:([x].map Zx)[0]? = some (Zx x):=rfl
   have hf:(decide ¬ ((([x]:List ZS).length:Nat):Int)=1)=false:=h1
   have q:=ZE4 x.2 (x.2.length:Int) (by omega) rfl
   simp only[ga,hf,Zx,Ze,Uai,Uaj,Uaa,List.length_cons,List.length_nil,Zb,seval,Za,men]
   refine Zf q ?_
   cases ho:dc (Vu x.2.length x.2)
   ·have e:Yk sig t=none:=UA fun y m' g=>by
     rw[hr] at g
     cases g
     exact dc_not.1 ho
    rw[e,XF e]
    simp only[Option.isSome_none,Zb,seval,Za,men]
    try rfl
   have hord:=dc_iff.1 ho
   have e:=ZoB hs hl60 hr hord
   rw[e,ZoC e]
   have qo:=ZDo sig x.1 hp.big
   simp only[Ze,Uai,Uaj] at qo
   simp only[Option.isSome_some,Zb,seval,Za,men]
   refine Zf qo ?_
   simp only[Zw,Uaa,Zb,seval,Za,men]
   obtain⟨R,hR⟩:∃ R,R=List.replicate x.2.length (0:Int):=⟨_,rfl⟩
   have hRl:R.length=x.2.length:=by rw[hR,UbB]
   have hrep:rI R=List.replicate x.2.length [Tr.v (Value.int .i64 0)]:=by rw[hR];show List.map _ _=_;rw[List.map_replicate]
   refine⟨by omega,?_⟩
   refine ZJ (α:=Unit) x.2.length (fun j _=>[(11,iI j)]) (fun j _=>[(1888,.ar 1 (rI (Y0 x.2 x.1.sites R j)) true x.2.length 0)]) (fun _ _=>True) () (by simp only[Zb,seval,Za,men]) (by (simp only[Y0,hrep,Zb,seval,Za,men]) <;> rfl) trivial ?_
   intro j _ hj _
   simp only[Uaa,Zb,seval,Za,men]
   refine Zs (fun hlt2=>?_) (fun hge=>?_)
   ·have hja:j<x.2.length:=by omega
    have hjs:j<x.1.sites.length:=by omega
    have gk:=Uz hja
    have gv:=Uz hjs
    have hm:=Zob hord (Uak hja)
    have hst:=ZoD (ini:=R) hja hjs hm.1 (by omega)
    have hkl:x.2[j].toNat<x.2.length:=by omega
    have gp:=Uz (l:=Y0 x.2 x.1.sites R j) (j:=x.2[j].toNat) (by rw[QE];omega)
    simp only[gk,gv,gp,hst,hkl,hja,hjs,List.getElem?_cons_zero,QE,Uaa,Zb,seval,Za,men]
    exact⟨hm.1,by rw[Zg];omega,Zu () hja rfl trivial⟩
   ·have:j=x.2.length:=by omega
    subst this
    have hpa:=ZEq (v:=x.1.sites) (a:=R) (b:=x.1.sites) hord hRl (by omega)
    rw[hpa]
    simp only[QE,Uaa,Zb,seval,Za,men]
    exact⟨hlen,rfl⟩
  ·have e:Yk sig t=none:=UA fun x m' g=>by
    rw[hr] at g
    cases g
    simp at h1
   rw[e,XF e]
   simp only[Option.isSome_none,Zb,seval,Za,men]
   try rfl
theorem Zbi{sig:List TControl}{t:List TTermStep}{b:TBigraph}(h:Yk sig t=some b):Z2 sig/\t.length<=60/\∃ z,JP sig t=some z:=by
 unfold Yk at h
 split at h
 ·rename_i g
  refine⟨g.1,g.2,?_⟩
  cases hr:JP sig t with
  | none=>rw[hr] at h;cases h
  | some z=>exact⟨z,rfl⟩
 ·cases h
end Go.Fd

namespace Go.Proofs
open Go.Shelf
def Tryz.lays171_ren:Go.Shelf.Ren:=⟨fun | 171=>71 | 243=>99 | 246=>152 | 283=>212 | 284=>213 | 285=>214 | 286=>215 | 129=>151 | 317=>234 | 318=>235 | 319=>236 | 320=>237 | 337=>249 | 338=>250 | n=>n,fun | 3=>3 | 9=>9 | 2=>2 | 4=>4 | 171=>225 | 0=>0 | 53=>174 | 37=>86 | 5=>5 | 173=>227 | 212=>246 | 51=>172 | 20=>20 | 213=>247 | 46=>135 | 232=>266 | 233=>267 | n=>n,fun | 17=>3 | 18=>6 | 19=>7 | n=>n⟩
theorem Tryz.lays171:Go.Proofs.Lays.n171 Tryz.prog Tryz.lays171_ren:={
  mixed:=by kernel_rfl,
  f129:=Tryz.func151.trans (congrArg some (by kernel_rfl)),
  f171:=Tryz.func71.trans (congrArg some (by kernel_rfl)),
  f243:=Tryz.func99.trans (congrArg some (by kernel_rfl)),
  f246:=Tryz.func152.trans (congrArg some (by kernel_rfl)),
  f283:=Tryz.func212.trans (congrArg some (by kernel_rfl)),
  f284:=Tryz.func213.trans (congrArg some (by kernel_rfl)),
  f285:=Tryz.func214.trans (congrArg some (by kernel_rfl)),
  f286:=Tryz.func215.trans (congrArg some (by kernel_rfl)),
  f317:=Tryz.func234.trans (congrArg some (by kernel_rfl)),
  f318:=Tryz.func235.trans (congrArg some (by kernel_rfl)),
  f319:=Tryz.func236.trans (congrArg some (by kernel_rfl)),
  f320:=Tryz.func237.trans (congrArg some (by kernel_rfl)),
  f337:=Tryz.func249.trans (congrArg some (by kernel_rfl)),
  f338:=Tryz.func250.trans (congrArg some (by kernel_rfl)),
  t0:=Tryz.underlying0,
  a0:=Tryz.isAgg0,
  z0:=Tryz.sizeOf0,
  v0:=Tryz.zeroValue0,
  t2:=Tryz.underlying2,
  a2:=Tryz.isAgg2,
  z2:=Tryz.sizeOf2,
  v2:=Tryz.zeroValue2,
  t3:=Tryz.underlying3,
  a3:=Tryz.isAgg3,
  z3:=Tryz.sizeOf3,
  v3:=Tryz.zeroValue3,
  t4:=Tryz.underlying4,
  a4:=Tryz.isAgg4,
  z4:=Tryz.sizeOf4,
  v4:=Tryz.zeroValue4,
  t5:=Tryz.underlying5,
  a5:=Tryz.isAgg5,
  z5:=Tryz.sizeOf5,
  v5:=Tryz.zeroValue5,
  t9:=Tryz.underlying9,
  a9:=Tryz.isAgg9,
  z9:=Tryz.sizeOf9,
  v9:=Tryz.zeroValue9,
  t20:=Tryz.underlying20,
  a20:=Tryz.isAgg20,
  z20:=Tryz.sizeOf20,
  v20:=Tryz.zeroValue20,
  t37:=Tryz.underlying86,
  a37:=Tryz.isAgg86,
  z37:=Tryz.sizeOf86,
  v37:=Tryz.zeroValue86,
  t46:=Tryz.underlying135,
  a46:=Tryz.isAgg135,
  z46:=Tryz.sizeOf135,
  v46:=Tryz.zeroValue135,
  t51:=Tryz.underlying172,
  a51:=Tryz.isAgg172,
  z51:=Tryz.sizeOf172,
  v51:=Tryz.zeroValue172,
  t53:=Tryz.underlying174,
  a53:=Tryz.isAgg174,
  z53:=Tryz.sizeOf174,
  v53:=Tryz.zeroValue174,
  t171:=Tryz.underlying225,
  a171:=Tryz.isAgg225,
  z171:=Tryz.sizeOf225,
  v171:=Tryz.zeroValue225,
  t173:=Tryz.underlying227,
  a173:=Tryz.isAgg227,
  z173:=Tryz.sizeOf227,
  v173:=Tryz.zeroValue227,
  t212:=Tryz.underlying246,
  a212:=Tryz.isAgg246,
  z212:=Tryz.sizeOf246,
  v212:=Tryz.zeroValue246,
  t213:=Tryz.underlying247,
  a213:=Tryz.isAgg247,
  z213:=Tryz.sizeOf247,
  t232:=Tryz.underlying266,
  a232:=Tryz.isAgg266,
  z232:=Tryz.sizeOf266,
  v232:=Tryz.zeroValue266,
  t233:=Tryz.underlying267,
  a233:=Tryz.isAgg267,
  z233:=Tryz.sizeOf267,
  v233:=Tryz.zeroValue267,
  g17:=by kernel_rfl,
  g18:=by kernel_rfl,
  g19:=by kernel_rfl }
end Go.Proofs

namespace Go.Fd
open Go.Proofs.Tryz renaming prog->Uch
open Go.RowKit
set_option maxRecDepth 20000
def bl(s:ByteArray):List UInt8:=s.data.toList
theorem YM(a b:ByteArray):bl (a++b)=bl a++bl b:=by simp [bl,ByteArray.data_append]
theorem Vw{a b:ByteArray}(h:bl a=bl b):a=b:=by
 cases a with | mk a=>cases b with | mk b=>exact congrArg ByteArray.mk (Array.toList_inj.1 h)
theorem Vi(l:List UInt8):bl ⟨l.toArray⟩=l:=by simp [bl]
theorem JB(a:ByteArray):(bl a).length=a.size:=(ZgF a).symm
abbrev SP:ByteArray:=⟨#[32]⟩
def JG(n:Int):ByteArray:=⟨(Lib.decDigits n.toNat).toArray⟩
theorem WZ{u:Nat}(h:u<10):Lib.decDigits u=[UInt8.ofNat (48+u)]:=by rw[Lib.decDigits,dif_pos h]
theorem dd2{u:Nat}(h0:10<=u)(h:u<100):Lib.decDigits u=[UInt8.ofNat (48+u / 10),UInt8.ofNat (48+u % 10)]:=by
 rw[Lib.decDigits,dif_neg (by omega),WZ (by omega)]
 rfl
theorem Zbj{n:Int}(h0:0<=n)(h1:n<100):(JG n).size<=2:=by
 rw[<-JB,JG,Vi]
 by_cases h:n.toNat<10
 ·rw[WZ h];simp
 ·rw[dd2 (by omega) (by omega)];simp
abbrev DIG:ByteArray:=⟨#[48,49,50,51,52,53,54,55,56,57]⟩
theorem ZdH:∀ n:Fin 10,bl (DIG.extract n.val (n.val+1))=[UInt8.ofNat (48+n.val)]:=by decide +kernel
theorem ZFm{n:Nat}(h:n<10):DIG.extract n (n+1)=JG n:=Vw (by
 rw[ZdH ⟨n,h⟩,JG,Vi,Int.toNat_natCast,WZ h])
theorem ZFn{n:Nat}(h0:10<=n)(h:n<100):JG ((n / 10:Nat):Int)++DIG.extract (n % 10) (n % 10+1)=JG n:=Vw (by
 rw[YM,ZdH ⟨n % 10,by omega⟩,JG,Vi,Int.toNat_natCast,WZ (by omega),JG,Vi,Int.toNat_natCast,dd2 h0 h]
 rfl)
def Vx(sig:List TControl)(k:Int):ByteArray:=((sig[k.toNat]?).map TControl.name).getD ⟨#[]⟩
theorem DJ{sig:List TControl}{k:Nat}(h:k<sig.length):Vx sig k=sig[k].name:=by simp [Vx,h]
theorem Zhq{sig:List TControl}(h:Z2 sig)(k:Int):(Vx sig k).size<=4:=by
 unfold Vx
 cases e:sig[k.toNat]? with
 | none=>decide
 | some x =>
  obtain⟨hl,rfl⟩:=Uac.1 e
  exact((h.1 _ hl).1).1.2.2
open Go.RowKit
set_option maxRecDepth 20000
theorem ZFo{n:Int}(h0:0<=n)(h1:n<100)(lvl:Nat)(S:Zc):Sem Uch ZfT lvl [iI n] S (iS (JG n)) S:=by
 obtain⟨u,rfl⟩:=Ua0 h0
 exact ZjZ (xs:=[.int .i64 u]) (Xs (by kernel_rfl)) rfl (fun w=>(Go.Proofs.Any.strconv_Itoa_small Proofs.Tryz.lays171 u (by omega) w).mono fun e w' ⟨h,h'⟩=>⟨h,h' ▸ Below.refl _ _⟩)
theorem Zhr{n:Int}(h0:0<=n)(h1:n<100)(lvl:Nat)(S:Zc):Sem Uch Db lvl [iI n] S (iS (JG n)) S:=by
 refine Zi ZkN trivial ?_
 simp only[Zgy,Zb,seval,Za,men]
 refine Zf (ZFo h0 h1) ?_
 simp only[Zb,seval,Za,men]
theorem Zhs{n:Nat}(h:n<10)(lvl:Nat)(S:Zc):Sem Uch Xp lvl [iI n] S (iS (JG n)) S:=by
 refine Zi ZcV trivial ?_
 have h0:¬ (n:Int)<0:=by omega
 have h1:(n:Int)<10:=by omega
 have h2:((n:Int)+1).toNat=n+1:=by omega
 simp only[ZaP,h0,h1,h2,Zb,seval,Za,men]
 refine⟨by rw[Zg];omega,by omega,by omega,?_,?_⟩
 ·show n+1<=10
  omega
 ·rw[<-ZFm h]
theorem ZFp{n:Nat}(h0:10<=n)(h:n<100)(lvl:Nat)(S:Zc):Sem Uch Xp lvl [iI n] S (iS (JG n)) S:=by
 refine Zi ZcV trivial ?_
 have g0:¬ (n:Int)<0:=by omega
 have g1:¬ (n:Int)<10:=by omega
 have e1:(n:Int) / 10=((n / 10:Nat):Int):=by omega
 have e2:(n:Int) % 10=((n % 10:Nat):Int):=by omega
 have e3:(((n % 10:Nat):Int)+1).toNat=n % 10+1:=by omega
 simp only[ZaP,g0,g1,e1,e2,e3,Zb,seval,Za,men]
 refine⟨by rw[Zg];omega,?_⟩
 refine Zf (Zhs (n:=n / 10) (by omega)) ?_
 simp only[e2,e3,Zb,seval,Za,men]
 have s1:=Zbj (n:=((n / 10:Nat):Int)) (by omega) (by omega)
 have d2:=ZFn h0 h
 refine⟨by rw[Zg];omega,by omega,by omega,?_,?_,?_⟩
 ·show n % 10+1<=10
  omega
 ·have:=congrArg ByteArray.size d2
  rw[UaD] at this
  have s2:=Zbj (n:=(n:Int)) (by omega) (by omega)
  show (JG ((n / 10:Nat):Int)).size+(DIG.extract (n % 10) (n % 10+1)).size<=4294967296
  omega
 ·rw[<-d2]
theorem ZFq{n:Int}(h0:0<=n)(h1:n<100)(lvl:Nat)(S:Zc):Sem Uch Xp lvl [iI n] S (iS (JG n)) S:=by
 obtain⟨u,rfl⟩:=Ua0 h0
 by_cases h:u<10
 ·exact Zhs h lvl S
 ·exact ZFp (by omega) (by omega) lvl S
end Go.Fd

namespace Go.Proofs
open Go.Shelf
def Tryz.laysM171_ren:Go.Shelf.Ren:=⟨fun | 171=>71 | 243=>99 | 246=>152 | 283=>212 | 284=>213 | 285=>214 | 286=>215 | 129=>151 | 317=>234 | 318=>235 | 319=>236 | 320=>237 | 337=>249 | 338=>250 | n=>n,fun | 3=>3 | 9=>9 | 2=>2 | 4=>4 | 171=>225 | 0=>0 | 53=>174 | 37=>86 | 5=>5 | 173=>227 | 212=>246 | 51=>172 | 20=>20 | 213=>247 | 46=>135 | 232=>266 | 233=>267 | n=>n,fun | 17=>3 | 18=>6 | 19=>7 | n=>n⟩
theorem Tryz.laysM171:Go.Proofs.LaysM.n171 Tryz.prog Tryz.laysM171_ren:={
  mixed:=by kernel_rfl,
  f129:=Tryz.func151.trans (congrArg some (by kernel_rfl)),
  f171:=Tryz.func71.trans (congrArg some (by kernel_rfl)),
  f243:=Tryz.func99.trans (congrArg some (by kernel_rfl)),
  f246:=Tryz.func152.trans (congrArg some (by kernel_rfl)),
  f283:=Tryz.func212.trans (congrArg some (by kernel_rfl)),
  f284:=Tryz.func213.trans (congrArg some (by kernel_rfl)),
  f285:=Tryz.func214.trans (congrArg some (by kernel_rfl)),
  f286:=Tryz.func215.trans (congrArg some (by kernel_rfl)),
  f317:=Tryz.func234.trans (congrArg some (by kernel_rfl)),
  f318:=Tryz.func235.trans (congrArg some (by kernel_rfl)),
  f319:=Tryz.func236.trans (congrArg some (by kernel_rfl)),
  f320:=Tryz.func237.trans (congrArg some (by kernel_rfl)),
  f337:=Tryz.func249.trans (congrArg some (by kernel_rfl)),
  f338:=Tryz.func250.trans (congrArg some (by kernel_rfl)),
  t0:=Tryz.underlying0,
  a0:=Tryz.isAgg0,
  z0:=Tryz.sizeOf0,
  v0:=Tryz.zeroValue0,
  t2:=Tryz.underlying2,
  a2:=Tryz.isAgg2,
  z2:=Tryz.sizeOf2,
  v2:=Tryz.zeroValue2,
  t3:=Tryz.underlying3,
  a3:=Tryz.isAgg3,
  z3:=Tryz.sizeOf3,
  v3:=Tryz.zeroValue3,
  t4:=Tryz.underlying4,
  a4:=Tryz.isAgg4,
  z4:=Tryz.sizeOf4,
  v4:=Tryz.zeroValue4,
  t5:=Tryz.underlying5,
  a5:=Tryz.isAgg5,
  z5:=Tryz.sizeOf5,
  v5:=Tryz.zeroValue5,
  t9:=Tryz.underlying9,
  a9:=Tryz.isAgg9,
  z9:=Tryz.sizeOf9,
  v9:=Tryz.zeroValue9,
  t20:=Tryz.underlying20,
  a20:=Tryz.isAgg20,
  z20:=Tryz.sizeOf20,
  v20:=Tryz.zeroValue20,
  t37:=Tryz.underlying86,
  a37:=Tryz.isAgg86,
  z37:=Tryz.sizeOf86,
  v37:=Tryz.zeroValue86,
  t46:=Tryz.underlying135,
  a46:=Tryz.isAgg135,
  z46:=Tryz.sizeOf135,
  v46:=Tryz.zeroValue135,
  t51:=Tryz.underlying172,
  a51:=Tryz.isAgg172,
  z51:=Tryz.sizeOf172,
  v51:=Tryz.zeroValue172,
  t53:=Tryz.underlying174,
  a53:=Tryz.isAgg174,
  z53:=Tryz.sizeOf174,
  v53:=Tryz.zeroValue174,
  t171:=Tryz.underlying225,
  a171:=Tryz.isAgg225,
  z171:=Tryz.sizeOf225,
  v171:=Tryz.zeroValue225,
  t173:=Tryz.underlying227,
  a173:=Tryz.isAgg227,
  z173:=Tryz.sizeOf227,
  v173:=Tryz.zeroValue227,
  t212:=Tryz.underlying246,
  a212:=Tryz.isAgg246,
  z212:=Tryz.sizeOf246,
  v212:=Tryz.zeroValue246,
  t213:=Tryz.underlying247,
  a213:=Tryz.isAgg247,
  z213:=Tryz.sizeOf247,
  t232:=Tryz.underlying266,
  a232:=Tryz.isAgg266,
  z232:=Tryz.sizeOf266,
  v232:=Tryz.zeroValue266,
  t233:=Tryz.underlying267,
  a233:=Tryz.isAgg267,
  z233:=Tryz.sizeOf267,
  v233:=Tryz.zeroValue267,
  g17:=by kernel_rfl,
  g18:=by kernel_rfl,
  g19:=by kernel_rfl,
  i0:=by kernel_rfl,
  i2:=by kernel_rfl,
  i3:=by kernel_rfl,
  i4:=by kernel_rfl,
  i5:=by kernel_rfl,
  i9:=by kernel_rfl,
  i20:=by kernel_rfl,
  i37:=by kernel_rfl,
  i46:=by kernel_rfl,
  i51:=by kernel_rfl,
  i53:=by kernel_rfl,
  i171:=by kernel_rfl,
  i173:=by kernel_rfl,
  i212:=by kernel_rfl,
  i232:=by kernel_rfl,
  i233:=by kernel_rfl,
  m17:=by kernel_rfl,
  m18:=by kernel_rfl,
  m19:=by kernel_rfl }
end Go.Proofs

namespace Go.Fd
set_option maxRecDepth 20000
def JH(n:Int):ByteArray:=⟨(Lib.itoa n).toArray⟩
theorem Zbk{n:Int}(h:0<=n):JH n=JG n:=by unfold JH JG Lib.itoa;rw[if_neg (by omega)]
theorem ZoE{n:Int}(h:n<0):JH n=⟨#[45]⟩++JG (-n):=Vw (by
 rw[YM]
 unfold JH JG Lib.itoa
 rw[if_pos h,Vi,Vi,show (-n).toNat=n.natAbs by omega]
 rfl)
def smN(n:Int):Prop:=-100<n/\n<100
theorem DK(s:ByteArray)(a c:Nat):bl (s.extract a c)=((bl s).take c).drop a:=by
 unfold bl
 rw[ByteArray.data_extract,Array.toList_extract,List.extract_eq_take_drop,List.drop_take]
def ZH(s:ByteArray)(b:UInt8):Nat->List ByteArray×Nat
 | 0=>([],0)
 | i+1=>if (bl s)[i]? = some b then ((ZH s b i).1++[s.extract (ZH s b i).2 i],i+1) else ZH s b i
def JC(s:ByteArray)(b:UInt8):List ByteArray:=(ZH s b s.size).1++[s.extract (ZH s b s.size).2 s.size]
theorem Zbl{s:ByteArray}{b:UInt8}:∀{i:Nat},(ZH s b i).2<=i
 | 0=>Ual 0
 | i+1=>by
  rw[ZH]
  split
  ·exact Ual _
  ·exact Nat.le_succ_of_le Zbl
theorem ZdI{s:ByteArray}{b:UInt8}:∀{i:Nat},(ZH s b i).1.length<=i
 | 0=>Ual 0
 | i+1=>by
  rw[ZH]
  have:=ZdI (s:=s) (b:=b) (i:=i)
  split
  ·simp;omega
  ·omega
theorem Zht{s:ByteArray}{b:UInt8}:∀{i:Nat},∀ k,(ZH s b i).2<=k->k<i->(bl s)[k]? ≠ some b
 | 0,k,_,h=>by omega
 | i+1,k,h1,h2=>by
  rw[ZH] at h1
  split at h1
  ·simp only at h1;omega
  ·rename_i hn
   by_cases e:k=i
   ·rw[e];exact hn
   ·exact Zht k h1 (by omega)
theorem ZoF{s:ByteArray}{b:UInt8}{a c:Nat}(h:∀ k,a<=k->k<c->(bl s)[k]? ≠ some b):b ∉ bl (s.extract a c):=by
 rw[DK]
 intro hb
 obtain⟨k,hk⟩:=Ubj hb
 rw[UaK,UaB] at hk
 split at hk
 ·exact h (a+k) (by omega) (by assumption) hk
 ·cases hk
theorem Zhu{s:ByteArray}{b:UInt8}:∀{i:Nat},∀ p∈(ZH s b i).1,b ∉ bl p
 | 0,p,h=>by simp [ZH] at h
 | i+1,p,h=>by
  rw[ZH] at h
  split at h
  ·rcases Uap.1 h with h | h
   ·exact Zhu p h
   ·rw[UaN] at h
    subst h
    exact ZoF fun k h1 h2=>Zht k h1 h2
  ·exact Zhu p h
theorem ZoG{s:ByteArray}{b:UInt8}:∀{i:Nat},i<=s.size->((ZH s b i).1.flatMap fun p=>bl p++[b])=(bl s).take (ZH s b i).2
 | 0,_=>by simp [ZH]
 | i+1,hi=>by
  have ih:=ZoG (s:=s) (b:=b) (i:=i) (by omega)
  have hl:=Zbl (s:=s) (b:=b) (i:=i)
  rw[ZH]
  split
  ·rename_i hb
   simp only[List.flatMap_append,Ubf,List.flatMap_nil,Ubq,ih,DK]
   have hlt:i<(bl s).length:=by rw[JB];omega
   rw[Uah hlt] at hb
   rw[Uaf hlt,UaC hb,<-UaA]
   congr 1
   generalize (ZH s b i).2=f at hl
   have:(bl s).take f=((bl s).take i).take f:=by rw[List.take_take];congr 1;omega
   rw[this,Ua8]
  ·exact ih
theorem ZFr{s:ByteArray}{b:UInt8}:∀ p∈JC s b,b ∉ bl p:=fun p hp=>by
 unfold JC at hp
 rcases Uap.1 hp with h | h
 ·exact Zhu p h
 ·rw[UaN] at h
  subst h
  exact ZoF fun k h1 h2=>Zht k h1 h2
theorem ZoH{s:ByteArray}{b:UInt8}:bl s=((ZH s b s.size).1.flatMap fun p=>bl p++[b])++bl (s.extract (ZH s b s.size).2 s.size):=by
 have h1:=ZoG (s:=s) (b:=b) (Ual s.size)
 have h2:=Zbl (s:=s) (b:=b) (i:=s.size)
 rw[h1,DK]
 have:(bl s).take s.size=bl s:=Uau (by rw[JB];exact Ual _)
 rw[this,Ua8]
theorem Zhv{b:UInt8}:∀(l:List ByteArray) (z:ByteArray),∃ y r,l++[z]=y::r/\(l.flatMap fun p=>bl p++[b])++bl z=bl y++r.flatMap fun p=>b::bl p
 | [],z=>⟨z,[],rfl,by simp⟩
 | x::l,z=>by
  obtain⟨y,r,h1,h2⟩:=Zhv (b:=b) l z
  refine⟨x,y::r,by rw[List.cons_append,h1],?_⟩
  rw[Ubf,Ubf,UaA,h2]
  simp
theorem ZoI{b:UInt8}:∀{x x' t t':List UInt8},b ∉ x->b ∉ x'->(t=[]\/∃ u,t=b::u)->(t'=[]\/∃ u,t'=b::u)->x++t=x'++t'->x=x'/\t=t'
 | [],[],t,t',_,_,_,_,h=>⟨rfl,h⟩
 | [],c::x',t,t',_,h2,h3,_,h=>by
  rcases h3 with rfl | ⟨u,rfl⟩
  ·cases h
  ·rw[List.nil_append,List.cons_append] at h
   injection h with e _
   exact absurd (by simp [e]) h2
 | c::x,[],t,t',h1,_,_,h4,h=>by
  rcases h4 with rfl | ⟨u,rfl⟩
  ·cases h
  ·rw[List.nil_append,List.cons_append] at h
   injection h with e _
   exact absurd (by simp [e]) h1
 | c::x,d::x',t,t',h1,h2,h3,h4,h=>by
  rw[List.cons_append,List.cons_append] at h
  injection h with e h
  obtain⟨g1,g2⟩:=ZoI (x:=x) (x':=x') (fun q=>h1 (by simp [q])) (fun q=>h2 (by simp [q])) h3 h4 h
  exact⟨by rw[e,g1],g2⟩
theorem ZoJ{b:UInt8}{r:List ByteArray}:(r.flatMap fun p=>b::bl p)=[]\/∃ u,(r.flatMap fun p=>b::bl p)=b::u:=by
 cases r with
 | nil=>exact .inl rfl
 | cons x r=>exact .inr ⟨_,by rw[Ubf,List.cons_append]⟩
theorem ZoK{b:UInt8}:∀{x y:ByteArray} {r q:List ByteArray},b ∉ bl x->b ∉ bl y->(∀ p∈r,b ∉ bl p)->(∀ p∈q,b ∉ bl p)->bl x++(r.flatMap fun p=>b::bl p)=bl y++(q.flatMap fun p=>b::bl p)->x=y/\r=q
 | x,y,r,q,hx,hy,hr,hq,h=>by
  obtain⟨h1,h2⟩:=ZoI hx hy ZoJ ZoJ h
  refine⟨Vw h1,?_⟩
  match r,q with
  | [],[]=>rfl
  | [],z::q=>rw[List.flatMap_nil,Ubf] at h2;cases h2
  | z::r,[]=>rw[List.flatMap_nil,Ubf] at h2;cases h2
  | z::r,z'::q =>
   rw[Ubf,Ubf,List.cons_append,List.cons_append] at h2
   injection h2 with _ h2
   obtain⟨g1,g2⟩:=ZoK (hr z (by simp)) (hq z' (by simp)) (fun p hp=>hr p (by simp [hp])) (fun p hp=>hq p (by simp [hp])) h2
   rw[g1,g2]
  termination_by _ _ r=>r.length
theorem ZoL{s x:ByteArray}{b:UInt8}{r:List ByteArray}(h:bl s=bl x++r.flatMap fun p=>b::bl p)(hx:b ∉ bl x)(hr:∀ p∈r,b ∉ bl p):JC s b=x::r:=by
 have h1:=ZoH (s:=s) (b:=b)
 obtain⟨y,q,e,h2⟩:=Zhv (b:=b) (ZH s b s.size).1 (s.extract (ZH s b s.size).2 s.size)
 have hf:=ZFr (s:=s) (b:=b)
 have es:JC s b=y::q:=e
 rw[es] at hf ⊢
 rw[h2,h] at h1
 obtain⟨g1,g2⟩:=ZoK hx (hf y (by simp)) hr (fun p hp=>hf p (by simp [hp])) h1
 rw[g1,g2]
theorem Zhw{s:ByteArray}{b:UInt8}:(JC s b).length<=s.size+1:=by
 have:=ZdI (s:=s) (b:=b) (i:=s.size)
 simp [JC];omega
theorem ZoM{b:UInt8}:∀{q:List ByteArray} {p:ByteArray},p∈q->p.size+1<=(q.flatMap fun p=>b::bl p).length
 | [],p,h=>by cases h
 | z::q,p,h=>by
  rw[Ubf,Uad,List.length_cons,JB]
  rcases UaE.1 h with rfl | h
  ·omega
  ·have:=ZoM (b:=b) h
   omega
theorem ZdJ{s:ByteArray}{b:UInt8}{p:ByteArray}(h:p∈JC s b):p.size<=s.size:=by
 have h1:=ZoH (s:=s) (b:=b)
 obtain⟨y,q,e,h2⟩:=Zhv (b:=b) (ZH s b s.size).1 (s.extract (ZH s b s.size).2 s.size)
 have es:JC s b=y::q:=e
 rw[es] at h
 rw[h2] at h1
 have hl:=congrArg List.length h1
 rw[Uad,JB,JB] at hl
 rcases UaE.1 h with rfl | h
 ·omega
 ·have:=ZoM (b:=b) h
  omega
def JU(s sep:ByteArray):ByteArray×ByteArray:=(⟨(Lib.cut (bl s) (bl sep)).1.toArray⟩,⟨(Lib.cut (bl s) (bl sep)).2.1.toArray⟩)
theorem ZoN{s sep:List UInt8}{j k:Nat}{c:UInt8}(h:Lib.occAt s sep j=true)(hk:sep[k]? = some c):s[j+k]? = some c:=by
 unfold Lib.occAt at h
 rw[List.isPrefixOf_iff_prefix] at h
 obtain⟨t,ht⟩:=h
 have e:(s.drop j)[k]? = some c:=by
  rw[<-ht,Uav (Uac.1 hk).1,hk]
 rw[UaK] at e
 exact e
theorem ZFs{x y sep p q:List UInt8}{c:UInt8}(hs:sep=p++c::q)(hx:c ∉ x)(hp:c ∉ p):Lib.index (x++(sep++y)) sep=x.length:=by
 refine Lib.index_first (by simp) ?_ fun j hj=>?_
 ·unfold Lib.occAt
  rw[List.drop_left,List.isPrefixOf_iff_prefix]
  exact⟨y,rfl⟩
 ·cases e:Lib.occAt (x++(sep++y)) sep j
  ·rfl
  ·exfalso
   have h:=ZoN (k:=p.length) (c:=c) e (by rw[hs];simp)
   have hlt:j+p.length<x.length+p.length:=by omega
   rw[hs,UaA,<-UaA x,Uav (by rw[Uad];exact hlt)] at h
   rcases Uap.1 (Uae h) with g | g
   ·exact hx g
   ·exact hp g
theorem ZoO{s x y sep:ByteArray}{p q:List UInt8}{c:UInt8}(h:bl s=bl x++(bl sep++bl y))(hs:bl sep=p++c::q)(hx:c ∉ bl x)(hp:c ∉ p):JU s sep=(x,y):=by
 have hi:=ZFs (y:=bl y) hs hx hp
 unfold JU Lib.cut
 rw[h,hi,if_pos (by omega)]
 simp only[Int.toNat_natCast,List.take_left]
 refine Prod.ext (Vw (by rw[Vi])) (Vw ?_)
 show bl ⟨(List.drop _ _).toArray⟩=_
 rw[Vi,<-UaA,show (bl x).length+(bl sep).length=(bl x++bl sep).length by rw[Uad],List.drop_left]
end Go.Fd

namespace Go.Proofs
open Go.Shelf
def Tryz.lays145_ren:Go.Shelf.Ren:=⟨fun | 145=>40 | 220=>57 | 219=>86 | 217=>116 | 225=>117 | 224=>118 | 267=>119 | 266=>176 | 314=>177 | n=>n,fun | 9=>9 | 4=>4 | 59=>76 | 3=>3 | 5=>5 | 46=>135 | 146=>200 | 51=>172 | n=>n,fun | 1=>0 | n=>n⟩
theorem Tryz.lays145:Go.Proofs.Lays.n145 Tryz.prog Tryz.lays145_ren:={
  mixed:=by kernel_rfl,
  f145:=Tryz.func40.trans (congrArg some (by kernel_rfl)),
  f217:=Tryz.func116.trans (congrArg some (by kernel_rfl)),
  f219:=Tryz.func86.trans (congrArg some (by kernel_rfl)),
  f220:=Tryz.func57.trans (congrArg some (by kernel_rfl)),
  f224:=Tryz.func118.trans (congrArg some (by kernel_rfl)),
  f225:=Tryz.func117.trans (congrArg some (by kernel_rfl)),
  f266:=Tryz.func176.trans (congrArg some (by kernel_rfl)),
  f267:=Tryz.func119.trans (congrArg some (by kernel_rfl)),
  f314:=Tryz.func177.trans (congrArg some (by kernel_rfl)),
  t3:=Tryz.underlying3,
  a3:=Tryz.isAgg3,
  z3:=Tryz.sizeOf3,
  v3:=Tryz.zeroValue3,
  t4:=Tryz.underlying4,
  a4:=Tryz.isAgg4,
  z4:=Tryz.sizeOf4,
  v4:=Tryz.zeroValue4,
  t5:=Tryz.underlying5,
  a5:=Tryz.isAgg5,
  z5:=Tryz.sizeOf5,
  v5:=Tryz.zeroValue5,
  t9:=Tryz.underlying9,
  a9:=Tryz.isAgg9,
  z9:=Tryz.sizeOf9,
  v9:=Tryz.zeroValue9,
  t46:=Tryz.underlying135,
  a46:=Tryz.isAgg135,
  z46:=Tryz.sizeOf135,
  v46:=Tryz.zeroValue135,
  t51:=Tryz.underlying172,
  a51:=Tryz.isAgg172,
  z51:=Tryz.sizeOf172,
  v51:=Tryz.zeroValue172,
  t59:=Tryz.underlying76,
  a59:=Tryz.isAgg76,
  z59:=Tryz.sizeOf76,
  v59:=Tryz.zeroValue76,
  t146:=Tryz.underlying200,
  a146:=Tryz.isAgg200,
  z146:=Tryz.sizeOf200,
  v146:=Tryz.zeroValue200,
  g1:=by kernel_rfl }
end Go.Proofs

namespace Go.Proofs
open Go.Shelf
def Tryz.laysC172_ren:Go.Shelf.Ren:=⟨fun | 172=>56 | 244=>84 | 245=>85 | 247=>111 | 279=>112 | 280=>113 | 281=>114 | 282=>115 | 287=>173 | 316=>174 | 171=>71 | 205=>175 | 321=>216 | 322=>217 | 243=>99 | 246=>152 | 283=>212 | 284=>213 | 285=>214 | 286=>215 | 129=>151 | 317=>234 | 318=>235 | 319=>236 | 320=>237 | 337=>249 | 338=>250 | n=>n,fun | 9=>9 | 3=>3 | 75=>93 | 76=>94 | 4=>4 | 5=>5 | 167=>140 | 37=>86 | 0=>0 | 85=>141 | 2=>2 | 168=>143 | 53=>174 | 175=>194 | 46=>135 | 210=>198 | 127=>136 | 145=>232 | 143=>230 | 21=>21 | 171=>225 | 173=>227 | 212=>246 | 51=>172 | 20=>20 | 213=>247 | 232=>266 | 233=>267 | 80=>114 | n=>n,fun | 15=>1 | 16=>2 | 17=>3 | 18=>6 | 19=>7 | n=>n⟩
theorem Tryz.laysC172:Go.Proofs.LaysC.n172 Tryz.prog Tryz.laysC172_ren:={
  mixed:=by kernel_rfl,
  f129:=Tryz.func151.trans (congrArg some (by kernel_rfl)),
  f171:=Tryz.func71.trans (congrArg some (by kernel_rfl)),
  f172:=Tryz.func56.trans (congrArg some (by kernel_rfl)),
  f205:=Tryz.func175.trans (congrArg some (by kernel_rfl)),
  f243:=Tryz.func99.trans (congrArg some (by kernel_rfl)),
  f244:=Tryz.func84.trans (congrArg some (by kernel_rfl)),
  f245:=Tryz.func85.trans (congrArg some (by kernel_rfl)),
  f246:=Tryz.func152.trans (congrArg some (by kernel_rfl)),
  f247:=Tryz.func111.trans (congrArg some (by kernel_rfl)),
  f279:=Tryz.func112.trans (congrArg some (by kernel_rfl)),
  f280:=Tryz.func113.trans (congrArg some (by kernel_rfl)),
  f281:=Tryz.func114.trans (congrArg some (by kernel_rfl)),
  f282:=Tryz.func115.trans (congrArg some (by kernel_rfl)),
  f283:=Tryz.func212.trans (congrArg some (by kernel_rfl)),
  f284:=Tryz.func213.trans (congrArg some (by kernel_rfl)),
  f285:=Tryz.func214.trans (congrArg some (by kernel_rfl)),
  f286:=Tryz.func215.trans (congrArg some (by kernel_rfl)),
  f287:=Tryz.func173.trans (congrArg some (by kernel_rfl)),
  f316:=Tryz.func174.trans (congrArg some (by kernel_rfl)),
  f317:=Tryz.func234.trans (congrArg some (by kernel_rfl)),
  f318:=Tryz.func235.trans (congrArg some (by kernel_rfl)),
  f319:=Tryz.func236.trans (congrArg some (by kernel_rfl)),
  f320:=Tryz.func237.trans (congrArg some (by kernel_rfl)),
  f321:=Tryz.func216.trans (congrArg some (by kernel_rfl)),
  f322:=Tryz.func217.trans (congrArg some (by kernel_rfl)),
  f337:=Tryz.func249.trans (congrArg some (by kernel_rfl)),
  f338:=Tryz.func250.trans (congrArg some (by kernel_rfl)),
  t0:=Tryz.underlying0,
  a0:=Tryz.isAgg0,
  z0:=Tryz.sizeOf0,
  v0:=Tryz.zeroValue0,
  t2:=Tryz.underlying2,
  a2:=Tryz.isAgg2,
  z2:=Tryz.sizeOf2,
  v2:=Tryz.zeroValue2,
  t3:=Tryz.underlying3,
  a3:=Tryz.isAgg3,
  z3:=Tryz.sizeOf3,
  v3:=Tryz.zeroValue3,
  t4:=Tryz.underlying4,
  a4:=Tryz.isAgg4,
  z4:=Tryz.sizeOf4,
  v4:=Tryz.zeroValue4,
  t5:=Tryz.underlying5,
  a5:=Tryz.isAgg5,
  z5:=Tryz.sizeOf5,
  v5:=Tryz.zeroValue5,
  t9:=Tryz.underlying9,
  a9:=Tryz.isAgg9,
  z9:=Tryz.sizeOf9,
  v9:=Tryz.zeroValue9,
  t20:=Tryz.underlying20,
  a20:=Tryz.isAgg20,
  z20:=Tryz.sizeOf20,
  v20:=Tryz.zeroValue20,
  t21:=Tryz.underlying21,
  a21:=Tryz.isAgg21,
  z21:=Tryz.sizeOf21,
  v21:=Tryz.zeroValue21,
  t37:=Tryz.underlying86,
  a37:=Tryz.isAgg86,
  z37:=Tryz.sizeOf86,
  v37:=Tryz.zeroValue86,
  t46:=Tryz.underlying135,
  a46:=Tryz.isAgg135,
  z46:=Tryz.sizeOf135,
  v46:=Tryz.zeroValue135,
  t51:=Tryz.underlying172,
  a51:=Tryz.isAgg172,
  z51:=Tryz.sizeOf172,
  v51:=Tryz.zeroValue172,
  t53:=Tryz.underlying174,
  a53:=Tryz.isAgg174,
  z53:=Tryz.sizeOf174,
  v53:=Tryz.zeroValue174,
  t75:=Tryz.underlying93,
  a75:=Tryz.isAgg93,
  z75:=Tryz.sizeOf93,
  v75:=Tryz.zeroValue93,
  t76:=Tryz.underlying94,
  a76:=Tryz.isAgg94,
  z76:=Tryz.sizeOf94,
  v76:=Tryz.zeroValue94,
  t85:=Tryz.underlying141,
  a85:=Tryz.isAgg141,
  z85:=Tryz.sizeOf141,
  v85:=Tryz.zeroValue141,
  t127:=Tryz.underlying136,
  a127:=Tryz.isAgg136,
  z127:=Tryz.sizeOf136,
  v127:=Tryz.zeroValue136,
  t143:=Tryz.underlying230,
  a143:=Tryz.isAgg230,
  z143:=Tryz.sizeOf230,
  v143:=Tryz.zeroValue230,
  t145:=Tryz.underlying232,
  a145:=Tryz.isAgg232,
  z145:=Tryz.sizeOf232,
  v145:=Tryz.zeroValue232,
  t167:=Tryz.underlying140,
  a167:=Tryz.isAgg140,
  z167:=Tryz.sizeOf140,
  v167:=Tryz.zeroValue140,
  t168:=Tryz.underlying143,
  a168:=Tryz.isAgg143,
  z168:=Tryz.sizeOf143,
  v168:=Tryz.zeroValue143,
  t171:=Tryz.underlying225,
  a171:=Tryz.isAgg225,
  z171:=Tryz.sizeOf225,
  v171:=Tryz.zeroValue225,
  t173:=Tryz.underlying227,
  a173:=Tryz.isAgg227,
  z173:=Tryz.sizeOf227,
  v173:=Tryz.zeroValue227,
  t175:=Tryz.underlying194,
  a175:=Tryz.isAgg194,
  z175:=Tryz.sizeOf194,
  v175:=Tryz.zeroValue194,
  t210:=Tryz.underlying198,
  a210:=Tryz.isAgg198,
  z210:=Tryz.sizeOf198,
  v210:=Tryz.zeroValue198,
  t212:=Tryz.underlying246,
  a212:=Tryz.isAgg246,
  z212:=Tryz.sizeOf246,
  v212:=Tryz.zeroValue246,
  t213:=Tryz.underlying247,
  a213:=Tryz.isAgg247,
  z213:=Tryz.sizeOf247,
  t232:=Tryz.underlying266,
  a232:=Tryz.isAgg266,
  z232:=Tryz.sizeOf266,
  v232:=Tryz.zeroValue266,
  t233:=Tryz.underlying267,
  a233:=Tryz.isAgg267,
  z233:=Tryz.sizeOf267,
  v233:=Tryz.zeroValue267,
  g15:=by kernel_rfl,
  g16:=by kernel_rfl,
  g17:=by kernel_rfl,
  g18:=by kernel_rfl,
  g19:=by kernel_rfl,
  t80:=Tryz.underlying114,
  a80:=Tryz.isAgg114,
  z80:=Tryz.sizeOf114,
  v80:=Tryz.zeroValue114,
  i0:=by kernel_rfl,
  i2:=by kernel_rfl,
  i3:=by kernel_rfl,
  i4:=by kernel_rfl,
  i5:=by kernel_rfl,
  i9:=by kernel_rfl,
  i20:=by kernel_rfl,
  i21:=by kernel_rfl,
  i37:=by kernel_rfl,
  i46:=by kernel_rfl,
  i51:=by kernel_rfl,
  i53:=by kernel_rfl,
  i75:=by kernel_rfl,
  i76:=by kernel_rfl,
  i80:=by kernel_rfl,
  i85:=by kernel_rfl,
  i127:=by kernel_rfl,
  i143:=by kernel_rfl,
  i145:=by kernel_rfl,
  i167:=by kernel_rfl,
  i168:=by kernel_rfl,
  i171:=by kernel_rfl,
  i173:=by kernel_rfl,
  i175:=by kernel_rfl,
  i210:=by kernel_rfl,
  i212:=by kernel_rfl,
  i232:=by kernel_rfl,
  i233:=by kernel_rfl,
  m15:=by kernel_rfl,
  m16:=by kernel_rfl,
  m17:=by kernel_rfl,
  m18:=by kernel_rfl,
  m19:=by kernel_rfl,
  c0:=by kernel_rfl,
  c2:=by kernel_rfl,
  c3:=by kernel_rfl,
  c4:=by kernel_rfl,
  c5:=by kernel_rfl,
  c9:=by kernel_rfl,
  c20:=by kernel_rfl,
  c21:=by kernel_rfl,
  c37:=by kernel_rfl,
  c46:=by kernel_rfl,
  c51:=by kernel_rfl,
  c53:=by kernel_rfl,
  c75:=by kernel_rfl,
  c76:=by kernel_rfl,
  c80:=by kernel_rfl,
  c85:=by kernel_rfl,
  c127:=by kernel_rfl,
  c143:=by kernel_rfl,
  c145:=by kernel_rfl,
  c167:=by kernel_rfl,
  c168:=by kernel_rfl,
  c171:=by kernel_rfl,
  c173:=by kernel_rfl,
  c175:=by kernel_rfl,
  c210:=by kernel_rfl,
  c212:=by kernel_rfl,
  c213:=by kernel_rfl,
  c232:=by kernel_rfl,
  c233:=by kernel_rfl }
end Go.Proofs

namespace Go.Fd
open Go.Proofs.Tryz renaming prog->Uch
open Go.RowKit
set_option maxRecDepth 20000
abbrev iU(b:UInt8):IV:=.tr (.v (.int .u8 b.toNat))
theorem u8_inj{a b:UInt8}:((a.toNat:Int)=b.toNat)↔a=b:=by
 constructor
 ·intro h
  exact UInt8.toNat_inj.1 (by omega)
 ·intro h
  rw[h]
theorem ZdK{a b:List ByteArray}:rS (a++b)=rS a++rS b:=Uay
theorem Zhx{P:Program}{w0 w:World}{nm:String}{cs:Array Value}(hb:∀ b,b<w0.heap.size->w.heap[b]? = w0.heap[b]?)(h:w0.var? P nm=some cs):w.var? P nm=some cs:=by
 unfold World.var? at h ⊢
 generalize P.globalNamed nm=o at h ⊢
 cases o with
 | none=>exact h
 | some g =>
  simp only[Option.bind_some] at h ⊢
  rcases Nat.lt_or_ge g w0.heap.size with hl | hl
  ·rw[hb g hl];exact h
  ·rw[UbM hl] at h;cases h
theorem Zhy{G:Gh}{S:Zc}{w:World}(h:Fix G S w):Zfe Uch w:=by
 obtain⟨w0,hg,hs,hb⟩:=h
 have hg':Zfe Uch w0:=hg
 obtain⟨h1,⟨m,h2⟩,⟨t,p,h3⟩,⟨t',p',h4⟩⟩:=hg'
 have k:∀ b,b<w0.heap.size->w.heap[b]? = w0.heap[b]?:=fun b hl=>(hb b hl).2
 exact⟨Zhx k h1,⟨m,(Zbn (k _ (Lib.lt_of_cell h2))).trans h2⟩,⟨t,p,Zhx k h3⟩,⟨t',p',Zhx k h4⟩⟩
theorem ZFt{G:Gh}{S:Zc}{w:World}(h:Fix G S w):∃ m,w.cell? ⟨0,0,none⟩=some (.int .i64 m):=(Zhy h).2.1
def ZoP(s sep:ByteArray):Bool:=(Lib.cut (bl s) (bl sep)).2.2
theorem ZFu(s sep:ByteArray)(hs:s.size<=4000000000)(lvl:Nat)(S:Zc):Sem Uch Zkl lvl [iS s,iS sep] S (.tu [iS (JU s sep).1,iS (JU s sep).2,iB (ZoP s sep)]) S:=by
 refine Zca (Xs (by kernel_rfl)) rfl (by simp [low,men,Za]) fun _ G w vs _ hv hf=>?_
 rw[Uh (xs:=[.string s,.string sep]) hv]
 obtain⟨m,hm⟩:=ZFt hf
 refine(Go.Proofs.Any.strings_Cut Proofs.Tryz.lays145 s sep m w (by omega) hm).mono fun e w' ⟨h,n,h'⟩=>⟨_,h,?_,h' ▸ ⟨rfl,rfl,rfl,Ual _,fun _ _=>rfl⟩⟩
 simp only[VR]
 exact⟨_,rfl,Zb9 (xs:=[.string (JU s sep).1,.string (JU s sep).2,.bool (ZoP s sep)]) fun y hy=>by
  simp only[UaE,Ubl,or_false] at hy
  rcases hy with rfl | rfl | rfl <;> rfl⟩
def ZoQ(s:ByteArray):Int:=match Lib.atoiAll (bl s) with | .ok v=>v | .range=>Lib.atoiSat (bl s) | _=>0
theorem ZFv(s:ByteArray)(hs:s.size<=4000000000)(v:Int)(h:Lib.atoiAll (bl s) = .ok v)(lvl:Nat)(S:Zc):Sem Uch ZfN lvl [iS s] S (.tu [iI v,.tr (.v .nilIface)]) S:=by
 refine Zcb (Xs (by kernel_rfl)) rfl (by simp [low,men,Za]) fun _ G w vs _ hv=>?_
 rw[Uh (xs:=[.string s]) hv]
 refine(Go.Proofs.Any.strconv_Atoi_ok Proofs.Tryz.laysC172 s (by omega) v h w).mono fun e w' ⟨he,hw⟩=>⟨_,he,?_,by rcases hw with rfl | ⟨t,rfl⟩;exact Below.refl _ _;exact Lib.bytesWorld_below _ _ _⟩
 simp only[VR]
 exact⟨_,rfl,Zb9 (xs:=[.int .i64 v,.nilIface]) fun y hy=>by
  simp only[UaE,Ubl,or_false] at hy
  rcases hy with rfl | rfl <;> rfl⟩
theorem ZFw(s:ByteArray)(hs:s.size<=4000000000)(h:∀ v,Lib.atoiAll (bl s) ≠ .ok v)(lvl:Nat)(S:Zc):Sem Uch ZfN lvl [iS s] S (.tu [iI (ZoQ s),.er]) S:=by
 refine Zca (Xs (by kernel_rfl)) rfl (by simp [low,men,Za]) fun _ G w vs _ hv hf=>?_
 rw[Uh (xs:=[.string s]) hv]
 obtain⟨_,_,⟨t,p,h3⟩,⟨t',p',h4⟩⟩:=Zhy hf
 have Ja:∀(x:Int) (T:TypeId) (a:Value) (w':World),VR G S w' (.tu [iI x,.er]) (.tuple #[.int .i64 x,.iface T a]):=fun x T a w' => by
  simp only[VR,Zo]
  exact⟨_,rfl,_,_,rfl,Rds.v _ rfl,_,_,rfl,⟨_,_,rfl⟩,rfl⟩
 unfold ZoQ
 cases e:Lib.atoiAll (bl s)
 ·exact absurd e (h _)
 ·exact(Go.Proofs.Any.strconv_Atoi_syntax_var Proofs.Tryz.laysC172 s (by omega) e t p w h3).mono fun e w' ⟨N,he,_,_,hb⟩=>⟨_,he,Ja _ _ _ _,hb⟩
 ·exact(Go.Proofs.Any.strconv_Atoi_range_var Proofs.Tryz.laysC172 s (by omega) e t' p' w h4).mono fun e w' ⟨N,he,_,_,hb⟩=>⟨_,he,Ja _ _ _ _,hb⟩
def n64(n:Int):Prop:=-9223372036854775808<=n/\n<=9223372036854775807
theorem ZFx(n:Int)(hn:n64 n)(lvl:Nat)(S:Zc):Sem Uch ZfT lvl [iI n] S (iS (JH n)) S:=by
 obtain⟨h0,h1⟩:=hn
 refine Zca (Xs (by kernel_rfl)) rfl trivial fun _ G w vs _ hv hf=>?_
 rw[Uh (xs:=[.int .i64 n]) hv]
 exact(Go.Proofs.Any.strconv_Itoa Proofs.Tryz.laysM171 n (by omega) (by omega) w (Zhy hf).1).mono fun e w' ⟨h,k,os,h'⟩=>⟨_,h,.v _ rfl,h' ▸ Go.Lib.below_grow _ w (Ual _) k os⟩
theorem ZFy(n:Int)(hn:n64 n)(lvl:Nat)(S:Zc):Sem Uch Db lvl [iI n] S (iS (JH n)) S:=by
 refine Zi ZkN trivial ?_
 simp only[Zgy,Zb,seval,Za,men]
 refine Zf (ZFx n hn) ?_
 simp only[Zb,seval,Za,men]
def JS(s:ByteArray):Option Int:=match Lib.atoiAll (bl s) with | .ok v=>if JH v=s then some v else none | _=>none
theorem ZFz(s:ByteArray)(hs:s.size<=4000000000)(lvl:Nat)(S:Zc):Sem Uch ZfE lvl [iS s] S (.tu [iI ((JS s).getD 0),iB (JS s).isSome]) S:=by
 refine Zi ZAc (by simp [low,men,Za]) ?_
 simp only[ZkH,Zb,seval,Za,men]
 by_cases hv:∃ v,Lib.atoiAll (bl s) = .ok v
 ·obtain⟨v,hv⟩:=hv
  refine Zf (ZFv s hs v hv) ?_
  simp only[Zb,seval,Za,men]
  refine Zf (ZFy v (Lib.atoiAll_bounds hv)) ?_
  by_cases e:JH v=s
  ·have hr:JS s=some v:=by unfold JS;rw[hv];exact if_pos e
   have e':=eq_true e
   rw[hr]
   simp only[e',ne_eq,not_true_eq_false,Option.isSome_some,Zb,seval,Za,men]
   try rfl
  ·have hr:JS s=none:=by unfold JS;rw[hv];exact if_neg e
   have e':=eq_false e
   rw[hr]
   simp only[e',ne_eq,not_false_eq_true,Option.isSome_none,Zb,seval,Za,men]
   try rfl
 ·have hr:JS s=none:=by
   unfold JS
   split
   ·rename_i u hu;exact absurd ⟨u,hu⟩ hv
   ·rfl
  refine Zf (ZFw s hs fun v h=>hv ⟨v,h⟩) ?_
  rw[hr]
  simp only[Option.isSome_none,Zb,seval,Za,men]
  try rfl
theorem ZoR(s:ByteArray)(b:UInt8)(hs:s.size<=2000000)(lvl:Nat)(S:Zc):Sem Uch Zch lvl [iS s,iU b] S (.ow 1 (rS (JC s b)) true) S:=by
 refine Zi Zz0 trivial ?_
 simp only[Zkx,Zb,seval,Za,men]
 refine ZJ (α:=Unit) s.size (fun j _=>[(5,.hd (lvl,256) [] 0 (ZH s b j).1.length none (ZH s b j).1.length),(6,iI (ZH s b j).2),(11,iI j)]) (fun j _=>[(256,.ar 1 (rS (ZH s b j).1) true (ZH s b j).1.length 0)]) (fun _ _=>True) () (by simp only[Zb,seval,Za,men]) (by (simp only[Zb,seval,Za,men]) <;> rfl) trivial ?_
 intro j _ hj _
 have hle:=Zbl (s:=s) (b:=b) (i:=j)
 have hln:=ZdI (s:=s) (b:=b) (i:=j)
 simp only[Zb,seval,Za,men]
 refine Zs (fun hlt=>?_) (fun hge=>?_)
 ·have hja:j<s.size:=by omega
  have hjl:j<(bl s).length:=by rw[JB];exact hja
  have gb:s.data.toList[j]? = some (bl s)[j]:=Uah hjl
  have gb2:(bl s)[j]? = some (bl s)[j]:=Uah hjl
  simp only[gb,Int.toNat_natCast,Zb,seval,Za,men]
  refine Zs (fun he=>?_) (fun hne=>?_)
  ·have hsp:ZH s b (j+1)=((ZH s b j).1++[s.extract (ZH s b j).2 j],j+1):=by
    rw[ZH,if_pos (by rw[gb2,u8_inj.1 he])]
   have hmx:max (ZH s b j).1.length ((ZH s b j).1.length+1)=(ZH s b j).1.length+1:=by omega
   have e1:rS (ZH s b j).1++[[ts (s.extract (ZH s b j).2 j)]]=rS (ZH s b (j+1)).1:=by
    rw[hsp,ZdK]
    rfl
   have e2:(ZH s b (j+1)).1.length=(ZH s b j).1.length+1:=by rw[hsp];simp
   have e3:(ZH s b (j+1)).2=j+1:=by rw[hsp]
   simp only[hmx,e1,Uaa,Int.toNat_natCast,Zb,seval,Za,men]
   exact⟨hle,by omega,by omega,by rw[Zg];omega,by rw[Zg];omega,Zu () hja (by rw[e2,e3];rfl) trivial⟩
  ·have hsp:ZH s b (j+1)=ZH s b j:=by
    rw[ZH,if_neg (by rw[gb2];intro q;exact hne (u8_inj.2 (UaC q)))]
   exact⟨by rw[Zg];omega,Zu () hja (by rw[hsp];rfl) trivial⟩
 ·have hj1:j=s.size:=by omega
  subst hj1
  have hmx:max (ZH s b s.size).1.length ((ZH s b s.size).1.length+1)=(ZH s b s.size).1.length+1:=by omega
  have e1:rS (ZH s b s.size).1++[[ts (s.extract (ZH s b s.size).2 s.size)]]=rS (JC s b):=by
   unfold JC
   rw[ZdK]
   rfl
  have e2:(JC s b).length=(ZH s b s.size).1.length+1:=by simp [JC]
  simp only[hmx,e1,e2,Uaa,Int.toNat_natCast,Zb,seval,Za,men]
  exact⟨hle,by omega⟩
theorem ZoS(s:ByteArray)(b:UInt8)(hs:s.size<=2000000)(lvl:Nat)(S:Zc):Sem Uch Zcg lvl [iS s,iU b] S (.ow 1 (rS (JC s b)) true) S:=by
 refine Zi ZzW trivial ?_
 simp only[Zku,Zb,seval,Za,men]
 refine ZJ (α:=Unit) s.size (fun j _=>[(5,.hd (lvl,256) [] 0 (ZH s b j).1.length none (ZH s b j).1.length),(6,iI (ZH s b j).2),(7,iI j)]) (fun j _=>[(256,.ar 1 (rS (ZH s b j).1) true (ZH s b j).1.length 0)]) (fun _ _=>True) () (by simp only[Zb,seval,Za,men]) (by (simp only[Zb,seval,Za,men]) <;> rfl) trivial ?_
 intro j _ hj _
 have hle:=Zbl (s:=s) (b:=b) (i:=j)
 have hln:=ZdI (s:=s) (b:=b) (i:=j)
 simp only[Zb,seval,Za,men]
 refine Zs (fun hlt=>?_) (fun hge=>?_)
 ·have hja:j<s.size:=by omega
  have hjl:j<(bl s).length:=by rw[JB];exact hja
  have gb:s.data.toList[j]? = some (bl s)[j]:=Uah hjl
  have gb2:(bl s)[j]? = some (bl s)[j]:=Uah hjl
  simp only[gb,Int.toNat_natCast,Zb,seval,Za,men]
  refine Zs (fun he=>?_) (fun hne=>?_)
  ·have hsp:ZH s b (j+1)=((ZH s b j).1++[s.extract (ZH s b j).2 j],j+1):=by
    rw[ZH,if_pos (by rw[gb2,u8_inj.1 he])]
   have hmx:max (ZH s b j).1.length ((ZH s b j).1.length+1)=(ZH s b j).1.length+1:=by omega
   have e1:rS (ZH s b j).1++[[ts (s.extract (ZH s b j).2 j)]]=rS (ZH s b (j+1)).1:=by
    rw[hsp,ZdK]
    rfl
   have e2:(ZH s b (j+1)).1.length=(ZH s b j).1.length+1:=by rw[hsp];simp
   have e3:(ZH s b (j+1)).2=j+1:=by rw[hsp]
   simp only[hmx,e1,Uaa,Int.toNat_natCast,Zb,seval,Za,men]
   exact⟨hle,by omega,by omega,by rw[Zg];omega,by rw[Zg];omega,Zu () hja (by rw[e2,e3];rfl) trivial⟩
  ·have hsp:ZH s b (j+1)=ZH s b j:=by
    rw[ZH,if_neg (by rw[gb2];intro q;exact hne (u8_inj.2 (UaC q)))]
   exact⟨by rw[Zg];omega,Zu () hja (by rw[hsp];rfl) trivial⟩
 ·have hj1:j=s.size:=by omega
  subst hj1
  have hmx:max (ZH s b s.size).1.length ((ZH s b s.size).1.length+1)=(ZH s b s.size).1.length+1:=by omega
  have e1:rS (ZH s b s.size).1++[[ts (s.extract (ZH s b s.size).2 s.size)]]=rS (JC s b):=by
   unfold JC
   rw[ZdK]
   rfl
  have e2:(JC s b).length=(ZH s b s.size).1.length+1:=by simp [JC]
  simp only[hmx,e1,e2,Uaa,Int.toNat_natCast,Zb,seval,Za,men]
  exact⟨hle,by omega⟩
theorem occ1{l:List UInt8}{b:UInt8}{j:Nat}:Lib.occAt l [b] j=true↔l[j]? = some b:=by
 constructor
 ·intro h
  exact ZoN (k:=0) h rfl
 ·intro h
  unfold Lib.occAt
  rw[List.isPrefixOf_iff_prefix]
  have hl:=(Uac.1 h).1
  rw[Uah hl] at h
  rw[UaJ hl,UaC h]
  exact⟨_,rfl⟩
theorem ZFA{l:List UInt8}{b:UInt8}{j:Nat}(h:l[j]? ≠ some b):Lib.occAt l [b] j=false:=by
 cases e:Lib.occAt l [b] j
 ·rfl
 ·exact absurd (occ1.1 e) h
abbrev ZD(b:UInt8):ByteArray:=⟨#[b]⟩
theorem ZoT{s sep:ByteArray}{i:Nat}(h:Lib.index (bl s) (bl sep)=i):JU s sep=(s.extract 0 i,s.extract (i+sep.size) s.size):=by
 obtain⟨h1,h2,_⟩:=Lib.cutB_hit s sep i h
 exact Prod.ext h1 h2
theorem ZoU{s sep:ByteArray}(h:Lib.index (bl s) (bl sep) = -1):JU s sep=(s,⟨#[]⟩):=by
 obtain⟨h1,h2,_⟩:=Lib.cutB_miss s sep h
 exact Prod.ext h1 h2
theorem ZFB(s:ByteArray)(b:UInt8)(hs:s.size<=2000000)(lvl:Nat)(S:Zc):Sem Uch Zfz lvl [iS s,iU b] S (.tu [iS (JU s (ZD b)).1,iS (JU s (ZD b)).2]) S:=by
 refine Zi Zz6 (by simp [low,men,Za]) ?_
 simp only[ZkC,Zb,seval,Za,men]
 refine ZJ (α:=Unit) s.size (fun j _=>[(6,iI j)]) (fun _ _=>[]) (fun j _=>Lib.NoOcc (bl s) [b] j) () (by simp only[Zb,seval,Za,men]) (by (simp only[Zb,seval,Za,men]) <;> rfl) (Lib.NoOcc.zero _ _) ?_
 intro j _ hj hA
 simp only[Zb,seval,Za,men]
 refine Zs (fun hlt=>?_) (fun hge=>?_)
 ·have hja:j<s.size:=by omega
  have hjl:j<(bl s).length:=by rw[JB];exact hja
  have gb:s.data.toList[j]? = some (bl s)[j]:=Uah hjl
  have gb2:(bl s)[j]? = some (bl s)[j]:=Uah hjl
  simp only[gb,Int.toNat_natCast,Zb,seval,Za,men]
  refine Zs (fun he=>?_) (fun hne=>?_)
  ·have ho:Lib.occAt (bl s) [b] j=true:=occ1.2 (by rw[gb2,u8_inj.1 he])
   have hc:=ZoT (s:=s) (sep:=ZD b) (i:=j) (Lib.index_hit hA (by omega) ho)
   rw[show (ZD b).size=1 from rfl] at hc
   rw[hc]
   have e9:((j:Int)+1).toNat=j+1:=by omega
   simp only[e9,Int.toNat_natCast,Zb,seval,Za,men]
   repeat' first | omega | (rw[Zg];omega) | rfl | refine Uab ?_ ?_
  ·exact⟨by rw[Zg];omega,Zu () hja rfl (hA.succ (ZFA (by rw[gb2];intro q;exact hne (u8_inj.2 (UaC q)))))⟩
 ·have hj1:j=s.size:=by omega
  subst hj1
  have hc:=ZoU (s:=s) (sep:=ZD b) (Lib.index_past (by show [b]≠[];simp) hA (by show (bl s).length<s.size+1;rw[JB];omega))
  rw[hc]
def Wl(sig:List TControl)(nm:ByteArray):Int:=J9 (fun d:TControl=>decide (d.name=nm)) sig 0
theorem ZFC(nm:ByteArray)(d:TControl)(lvl:Nat)(S:Zc):Sem Uch Zcl lvl [.ag ((Zr d).map .tr),.ta [ts nm]] S (iB (decide (d.name=nm))) S:=by
 refine Zi ZAm trivial ?_
 simp only[ZkQ,Zr,Zb,seval,Za,men]
theorem ZFD(sig:List TControl)(nm:ByteArray)(hl:sig.length<=4294967296)(lvl:Nat)(S:Zc):Sem Uch ZfF lvl [.tr (.sl (sig.map Zr)),iS nm] S (iI (Wl sig nm)) S:=by
 refine Zi ZAd trivial ?_
 simp only[ZkI,Uaa,Zb,seval,Za,men]
 refine Zf (Zmt (P:=Uch) ZmB Zfh (f:=fun d:TControl=>decide (d.name=nm)) (fe:=Zcl) (cs:=[[ts nm]]) sig (by omega) (fun d _ lvl S=>ZFC nm d lvl S)) ?_
 simp only[Zb,seval,Za,men]
 try rfl
theorem ZFE{α:Type}{f:α->Bool}{j:Int}:J9 f [] j = -1:=rfl
theorem ZFF(sig:List TControl)(nm:ByteArray)(hl:sig.length<=4294967296)(lvl:Nat)(S:Zc):Sem Uch ZfA lvl [.tr (.sl (sig.map Zr)),iS nm] S (iI (Wl sig nm)) S:=by
 refine Zi Zz7 trivial ?_
 simp only[ZkD,Uaa,Zb,seval,Za,men]
 refine ZJ (α:=Unit) sig.length (fun j _=>[(5,iI j)]) (fun _ _=>[]) (fun j _=>Wl sig nm=J9 (fun d:TControl=>decide (d.name=nm)) (sig.drop j) j) () (by simp only[Zb,seval,Za,men]) (by (simp only[Zb,seval,Za,men]) <;> rfl) rfl ?_
 intro j _ hj hA
 simp only[Uaa,Zb,seval,Za,men]
 refine Zs (fun hlt=>?_) (fun hge=>?_)
 ·have hja:j<sig.length:=by omega
  have ga:=Z6 (c:=Zr) hja
  rw[ZaS hja,Qy] at hA
  simp only[ga,Zr,Uaa,Zb,seval,Za,men]
  refine Zs (fun he=>?_) (fun hne=>?_)
  ·rw[if_pos (by simp [he])] at hA
   rw[hA]
  ·rw[if_neg (by simp [hne])] at hA
   exact⟨by rw[Zg];omega,Zu () hja rfl hA⟩
 ·have hj1:j=sig.length:=by omega
  subst hj1
  rw[Ubv,ZFE] at hA
  rw[hA]
theorem ZoV{n:Nat}(h0:10<=n):JG ((n / 10:Nat):Int)++DIG.extract (n % 10) (n % 10+1)=JG n:=Vw (by
 rw[YM,ZdH ⟨n % 10,by omega⟩,JG,Vi,Int.toNat_natCast,JG,Vi,Int.toNat_natCast]
 conv=>rhs;rw[Lib.decDigits,dif_neg (by omega)])
theorem ZoW(n:Nat):(JG n).size<=n+1:=by
 induction n using Nat.strongRecOn with
 | _ n ih0 =>
  by_cases h:n<10
  ·rw[<-JB,JG,Vi,Int.toNat_natCast,WZ h]
   simp
  ·have ih:=ih0 (n / 10) (by omega)
   have e:=congrArg ByteArray.size (ZoV (n:=n) (by omega))
   rw[UaD] at e
   have e1:(DIG.extract (n % 10) (n % 10+1)).size=1:=by rw[<-JB,ZdH ⟨n % 10,by omega⟩];rfl
   omega
theorem Zhz:∀(n:Nat),n<=9999999->∀(lvl:Nat) (S:Zc),Sem Uch Xp lvl [iI n] S (iS (JG n)) S
 | n,hn,lvl,S=>by
  by_cases h:n<10
  ·exact Zhs h lvl S
  refine Zi ZcV trivial ?_
  have g0:¬ (n:Int)<0:=by omega
  have g1:¬ (n:Int)<10:=by omega
  have e1:(n:Int) / 10=((n / 10:Nat):Int):=by omega
  have e2:(n:Int) % 10=((n % 10:Nat):Int):=by omega
  have e3:(((n % 10:Nat):Int)+1).toNat=n % 10+1:=by omega
  simp only[ZaP,g0,g1,e1,e2,e3,Zb,seval,Za,men]
  refine⟨by rw[Zg];omega,?_⟩
  refine Zf (Zhz (n / 10) (by omega)) ?_
  simp only[e2,e3,Zb,seval,Za,men]
  have d2:=ZoV (n:=n) (by omega)
  have s2:=ZoW n
  refine⟨by rw[Zg];omega,by omega,by omega,?_,?_,?_⟩
  ·show n % 10+1<=10
   omega
  ·have:=congrArg ByteArray.size d2
   rw[UaD] at this
   show (JG ((n / 10:Nat):Int)).size+(DIG.extract (n % 10) (n % 10+1)).size<=4294967296
   omega
  ·rw[<-d2]
theorem ZhA(n:Int)(hn:-9999999<=n/\n<=9999999)(lvl:Nat)(S:Zc):Sem Uch Xp lvl [iI n] S (iS (JH n)) S:=by
 by_cases h:0<=n
 ·rw[Zbk h]
  obtain⟨u,rfl⟩:=Ua0 h
  exact Zhz u (by omega) lvl S
 ·rw[ZoE (by omega)]
  refine Zi ZcV trivial ?_
  obtain⟨u,hu⟩:=Ua0 (show 0 <= -n by omega)
  have hlt:n<0:=by omega
  have z:=ZoW u
  have e:(⟨#[45]⟩:ByteArray).size=1:=rfl
  have hz:(0:Int)-n=u:=by omega
  have hz2:-n=u:=by omega
  rw[hz2]
  simp only[ZaP,hlt,hz,hz2,Zb,seval,Za,men]
  refine⟨by rw[Zg];omega,Zf (Zhz u (by omega)) ?_⟩
  simp only[e,Zb,seval,Za,men]
  try omega
def Yl(l:List UInt8):Nat:=l.foldl (fun n c=>10*n+(c.toNat-48)) 0
theorem ZdL{l:List UInt8}{j:Nat}(h:j<l.length):Yl (l.take (j+1))=10*Yl (l.take j)+(l[j].toNat-48):=by
 unfold Yl
 rw[Uaf h,List.foldl_append]
 rfl
theorem UB{l:List UInt8}:∀{j:Nat},j<=l.length->(∀ i (hi:i<l.length),i<j->48<=l[i].toNat/\l[i].toNat<=57)->Yl (l.take j)+1<=10 ^ j
 | 0,_,_=>by simp [Yl]
 | j+1,hj,h=>by
  have ih:=UB (l:=l) (j:=j) (by omega) fun i hi hij=>h i hi (by omega)
  have h1:=h j (by omega) (by omega)
  rw[ZdL (by omega),Nat.pow_succ]
  omega
theorem DL{j:Nat}(h:j<=6):10 ^ j<=1000000:=Nat.pow_le_pow_right (by decide) h
def ZdM(t:ByteArray):Prop:=∀ c∈bl t,48<=c.toNat/\c.toNat<=57
open Classical in
noncomputable def tR(s:ByteArray):ByteArray:=if 1<s.size/\(bl s)[0]? = some 45 then s.extract 1 s.size else s
open Classical in
noncomputable def Va(s:ByteArray):Int:=if (tR s).size<s.size then -(Yl (bl (tR s)):Int) else ((Yl (bl (tR s)):Nat):Int)
open Classical in
noncomputable def ZU(s:ByteArray):Option Int:=if (1<=(tR s).size/\(tR s).size<=6)/\ZdM (tR s)/\JH (Va s)=s then some (Va s) else none
theorem ZoX{s:ByteArray}(h:1<s.size):(s.extract 1 s.size).size=s.size-1:=by
 rw[Uca];omega
theorem ZFG(s:ByteArray)(hs:s.size<=2000000)(h1:¬ 1<s.size)(lvl:Nat)(S:Zc):Sem Uch U8 lvl [iS s] S (.tu [iI ((ZU s).getD 0),iB (ZU s).isSome]) S:=by
 refine Zi Zgx (by simp [low,men,Za]) ?_
 have hT0:tR s=s:=if_neg fun g=>h1 g.1
 have f1:=eq_false (show ¬ (1:Int)<s.size by omega)
 simp only[ZcU,f1,Zb,seval,Za,men]
 have hT:tR s=s:=hT0
 have hTs:(s).size<=2000000:=hs
 by_cases hl:1<=(s).size/\(s).size<=6
 rotate_left
 ·have hin:Jo ((s).size:Int) 1 6=false:=by
   cases e:Jo ((s).size:Int) 1 6
   ·rfl
   ·simp [Jo] at e;omega
  have hr:ZU s=none:=by unfold ZU;rw[hT];exact if_neg fun g=>hl g.1
  rw[hr]
  refine Zf (Y6 ((s).size) 1 6) ?_
  rw[hin]
  simp only[Option.isSome_none,Zb,seval,Za,men]
  try rfl
 have hin:Jo ((s).size:Int) 1 6=true:=by simp [Jo];omega
 refine Zf (Y6 ((s).size) 1 6) ?_
 rw[hin]
 simp only[Zb,seval,Za,men]
 refine ZJ (α:=Unit) (s).size (fun j _=>[(5,iI (Yl ((bl (s)).take j))),(6,iI j)]) (fun _ _=>[]) (fun j _=>∀ i (hi:i<(bl (s)).length),i<j->48<=(bl (s))[i].toNat/\(bl (s))[i].toNat<=57) () (by simp only[Zb,seval,Za,men]) (by (simp only[Zb,seval,Za,men]) <;> rfl) (fun i _ h=>absurd h (Ua2 i)) ?_
 intro j _ hj hA
 simp only[Zb,seval,Za,men]
 refine Zs (fun hlt=>?_) (fun hge=>?_)
 ·have hja:j<(s).size:=by omega
  have hjl:j<(bl (s)).length:=by rw[JB];exact hja
  have gb:(s).data.toList[j]? = some (bl (s))[j]:=Uah hjl
  by_cases c1:48<=(bl (s))[j].toNat
  rotate_left
  ·have e1:=eq_true (show ((bl (s))[j].toNat:Int)<48 by omega)
   have hr:ZU s=none:=by unfold ZU;rw[hT];exact if_neg fun g=>by have:=g.2.1 _ (Uak hjl);omega
   rw[hr]
   simp only[gb,e1,Int.toNat_natCast,Option.isSome_none,Zb,seval,Za,men]
   try rfl
  have e1:=eq_false (show ¬ ((bl (s))[j].toNat:Int)<48 by omega)
  by_cases c2:(bl (s))[j].toNat<=57
  rotate_left
  ·have e2:=eq_true (show (57:Int)<((bl (s))[j].toNat:Int) by omega)
   have hr:ZU s=none:=by unfold ZU;rw[hT];exact if_neg fun g=>by have:=g.2.1 _ (Uak hjl);omega
   rw[hr]
   simp only[gb,e1,e2,Int.toNat_natCast,Option.isSome_none,Zb,seval,Za,men]
   try rfl
  have e2:=eq_false (show ¬ (57:Int)<((bl (s))[j].toNat:Int) by omega)
  have hv:=UB (l:=bl (s)) (j:=j) (by omega) hA
  have hv2:=DL (j:=j) (by omega)
  have hw:IntKind.u8.wrap (((bl (s))[j].toNat:Int)-48)=(((bl (s))[j].toNat-48:Nat):Int):=by
   rw[Xc (by constructor <;> simp [IntKind.min,IntKind.max,IntKind.signed,IntKind.bits] <;> omega)];omega
  have hs2:10*((Yl ((bl (s)).take j):Nat):Int)+(((bl (s))[j].toNat-48:Nat):Int)=((Yl ((bl (s)).take (j+1)):Nat):Int):=by rw[ZdL hjl];omega
  simp only[gb,e1,e2,hw,hs2,Int.toNat_natCast,Zb,seval,Za,men]
  exact⟨by rw[Zg];omega,by rw[Zg];omega,by rw[Zg];omega,by rw[Zg];omega,Zu () hja rfl fun i hi hij=>by
   by_cases e:i=j
   ·subst e;exact⟨c1,c2⟩
   ·exact hA i hi (by omega)⟩
 ·have hj1:j=(s).size:=by omega
  subst hj1
  have hd:ZdM (s):=fun c hc=>by
   obtain⟨i,hi,rfl⟩:=Uao hc
   exact hA i hi (by rw[JB] at hi;exact hi)
  have ht:(bl (s)).take (s).size=bl (s):=Uau (by rw[JB];exact Ual _)
  have hv:=UB (l:=bl (s)) (j:=(s).size) (by rw[JB];exact Ual _) hA
  have hv2:=DL (j:=(s).size) (by omega)
  rw[ht] at hv
  rw[ht]
  have e5:=eq_false (show ¬ ((s).size:Int)<s.size by omega)
  have hn:Va s=((Yl (bl (s)):Nat):Int):=by unfold Va;rw[hT];exact if_neg (by omega)
  simp only[e5,Zb,seval,Za,men]
  refine(Zf (ZhA (((Yl (bl (s)):Nat):Int)) (by omega)) ?_)
  by_cases he:JH (Va s)=s
  ·have hr:ZU s=some (Va s):=by unfold ZU;rw[hT];exact if_pos ⟨hl,hd,he⟩
   rw[hn] at he hr
   have he':=eq_true he
   rw[hr]
   simp only[he',ne_eq,not_true_eq_false,Option.isSome_some,Zb,seval,Za,men]
   try rfl
  ·have hr:ZU s=none:=by unfold ZU;rw[hT];exact if_neg fun g=>he g.2.2
   rw[hn] at he
   have he':=eq_false he
   rw[hr]
   simp only[he',ne_eq,not_false_eq_true,Option.isSome_none,Zb,seval,Za,men]
   try rfl
theorem ZFH(s:ByteArray)(hs:s.size<=2000000)(h1:1<s.size)(h2:(bl s)[0]? ≠ some 45)(lvl:Nat)(S:Zc):Sem Uch U8 lvl [iS s] S (.tu [iI ((ZU s).getD 0),iB (ZU s).isSome]) S:=by
 refine Zi Zgx (by simp [low,men,Za]) ?_
 have hT0:tR s=s:=if_neg fun g=>h2 g.2
 have f1:=eq_true (show (1:Int)<s.size by omega)
 have f0:0<(bl s).length:=by rw[JB];omega
 have g0':s.data.toList[0]? = some (bl s)[0]:=Uah f0
 have f2:=eq_false (show ¬ ((bl s)[0].toNat:Int)=45 from fun e=>h2 (by rw[Uah f0];exact congrArg some (UInt8.toNat_inj.1 (by show (bl s)[0].toNat=45;omega))))
 simp only[ZcU,f1,g0',f2,Zb,seval,Za,men]
 have hT:tR s=s:=hT0
 have hTs:(s).size<=2000000:=hs
 by_cases hl:1<=(s).size/\(s).size<=6
 rotate_left
 ·have hin:Jo ((s).size:Int) 1 6=false:=by
   cases e:Jo ((s).size:Int) 1 6
   ·rfl
   ·simp [Jo] at e;omega
  have hr:ZU s=none:=by unfold ZU;rw[hT];exact if_neg fun g=>hl g.1
  rw[hr]
  refine Zf (Y6 ((s).size) 1 6) ?_
  rw[hin]
  simp only[Option.isSome_none,Zb,seval,Za,men]
  try rfl
 have hin:Jo ((s).size:Int) 1 6=true:=by simp [Jo];omega
 refine Zf (Y6 ((s).size) 1 6) ?_
 rw[hin]
 simp only[Zb,seval,Za,men]
 refine ZJ (α:=Unit) (s).size (fun j _=>[(5,iI (Yl ((bl (s)).take j))),(6,iI j)]) (fun _ _=>[]) (fun j _=>∀ i (hi:i<(bl (s)).length),i<j->48<=(bl (s))[i].toNat/\(bl (s))[i].toNat<=57) () (by simp only[Zb,seval,Za,men]) (by (simp only[Zb,seval,Za,men]) <;> rfl) (fun i _ h=>absurd h (Ua2 i)) ?_
 intro j _ hj hA
 simp only[Zb,seval,Za,men]
 refine Zs (fun hlt=>?_) (fun hge=>?_)
 ·have hja:j<(s).size:=by omega
  have hjl:j<(bl (s)).length:=by rw[JB];exact hja
  have gb:(s).data.toList[j]? = some (bl (s))[j]:=Uah hjl
  by_cases c1:48<=(bl (s))[j].toNat
  rotate_left
  ·have e1:=eq_true (show ((bl (s))[j].toNat:Int)<48 by omega)
   have hr:ZU s=none:=by unfold ZU;rw[hT];exact if_neg fun g=>by have:=g.2.1 _ (Uak hjl);omega
   rw[hr]
   simp only[gb,e1,Int.toNat_natCast,Option.isSome_none,Zb,seval,Za,men]
   try rfl
  have e1:=eq_false (show ¬ ((bl (s))[j].toNat:Int)<48 by omega)
  by_cases c2:(bl (s))[j].toNat<=57
  rotate_left
  ·have e2:=eq_true (show (57:Int)<((bl (s))[j].toNat:Int) by omega)
   have hr:ZU s=none:=by unfold ZU;rw[hT];exact if_neg fun g=>by have:=g.2.1 _ (Uak hjl);omega
   rw[hr]
   simp only[gb,e1,e2,Int.toNat_natCast,Option.isSome_none,Zb,seval,Za,men]
   try rfl
  have e2:=eq_false (show ¬ (57:Int)<((bl (s))[j].toNat:Int) by omega)
  have hv:=UB (l:=bl (s)) (j:=j) (by omega) hA
  have hv2:=DL (j:=j) (by omega)
  have hw:IntKind.u8.wrap (((bl (s))[j].toNat:Int)-48)=(((bl (s))[j].toNat-48:Nat):Int):=by
   rw[Xc (by constructor <;> simp [IntKind.min,IntKind.max,IntKind.signed,IntKind.bits] <;> omega)];omega
  have hs2:10*((Yl ((bl (s)).take j):Nat):Int)+(((bl (s))[j].toNat-48:Nat):Int)=((Yl ((bl (s)).take (j+1)):Nat):Int):=by rw[ZdL hjl];omega
  simp only[gb,e1,e2,hw,hs2,Int.toNat_natCast,Zb,seval,Za,men]
  exact⟨by rw[Zg];omega,by rw[Zg];omega,by rw[Zg];omega,by rw[Zg];omega,Zu () hja rfl fun i hi hij=>by
   by_cases e:i=j
   ·subst e;exact⟨c1,c2⟩
   ·exact hA i hi (by omega)⟩
 ·have hj1:j=(s).size:=by omega
  subst hj1
  have hd:ZdM (s):=fun c hc=>by
   obtain⟨i,hi,rfl⟩:=Uao hc
   exact hA i hi (by rw[JB] at hi;exact hi)
  have ht:(bl (s)).take (s).size=bl (s):=Uau (by rw[JB];exact Ual _)
  have hv:=UB (l:=bl (s)) (j:=(s).size) (by rw[JB];exact Ual _) hA
  have hv2:=DL (j:=(s).size) (by omega)
  rw[ht] at hv
  rw[ht]
  have e5:=eq_false (show ¬ ((s).size:Int)<s.size by omega)
  have hn:Va s=((Yl (bl (s)):Nat):Int):=by unfold Va;rw[hT];exact if_neg (by omega)
  simp only[e5,Zb,seval,Za,men]
  refine(Zf (ZhA (((Yl (bl (s)):Nat):Int)) (by omega)) ?_)
  by_cases he:JH (Va s)=s
  ·have hr:ZU s=some (Va s):=by unfold ZU;rw[hT];exact if_pos ⟨hl,hd,he⟩
   rw[hn] at he hr
   have he':=eq_true he
   rw[hr]
   simp only[he',ne_eq,not_true_eq_false,Option.isSome_some,Zb,seval,Za,men]
   try rfl
  ·have hr:ZU s=none:=by unfold ZU;rw[hT];exact if_neg fun g=>he g.2.2
   rw[hn] at he
   have he':=eq_false he
   rw[hr]
   simp only[he',ne_eq,not_false_eq_true,Option.isSome_none,Zb,seval,Za,men]
   try rfl
theorem ZFI(s:ByteArray)(hs:s.size<=2000000)(h1:1<s.size)(h2:(bl s)[0]? = some 45)(lvl:Nat)(S:Zc):Sem Uch U8 lvl [iS s] S (.tu [iI ((ZU s).getD 0),iB (ZU s).isSome]) S:=by
 refine Zi Zgx (by simp [low,men,Za]) ?_
 have hT0:tR s=s.extract 1 s.size:=if_pos ⟨h1,h2⟩
 have hz:=ZoX h1
 have f1:=eq_true (show (1:Int)<s.size by omega)
 have f0:0<(bl s).length:=by rw[JB];omega
 have g0':s.data.toList[0]? = some 45:=h2
 have f2:((45:UInt8).toNat:Int)=45:=rfl
 have f3:1<=s.size:=by omega
 simp only[ZcU,f1,g0',f2,f3,Zb,seval,Za,men]
 have hT:tR s=s.extract 1 s.size:=hT0
 have hTs:(s.extract 1 s.size).size<=2000000:=by omega
 by_cases hl:1<=(s.extract 1 s.size).size/\(s.extract 1 s.size).size<=6
 rotate_left
 ·have hin:Jo ((s.extract 1 s.size).size:Int) 1 6=false:=by
   cases e:Jo ((s.extract 1 s.size).size:Int) 1 6
   ·rfl
   ·simp [Jo] at e;omega
  have hr:ZU s=none:=by unfold ZU;rw[hT];exact if_neg fun g=>hl g.1
  rw[hr]
  refine Zf (Y6 ((s.extract 1 s.size).size) 1 6) ?_
  rw[hin]
  simp only[Option.isSome_none,Zb,seval,Za,men]
  try rfl
 have hin:Jo ((s.extract 1 s.size).size:Int) 1 6=true:=by simp [Jo];omega
 refine Zf (Y6 ((s.extract 1 s.size).size) 1 6) ?_
 rw[hin]
 simp only[Zb,seval,Za,men]
 refine ZJ (α:=Unit) (s.extract 1 s.size).size (fun j _=>[(5,iI (Yl ((bl (s.extract 1 s.size)).take j))),(6,iI j)]) (fun _ _=>[]) (fun j _=>∀ i (hi:i<(bl (s.extract 1 s.size)).length),i<j->48<=(bl (s.extract 1 s.size))[i].toNat/\(bl (s.extract 1 s.size))[i].toNat<=57) () (by simp only[Zb,seval,Za,men]) (by (simp only[Zb,seval,Za,men]) <;> rfl) (fun i _ h=>absurd h (Ua2 i)) ?_
 intro j _ hj hA
 simp only[Zb,seval,Za,men]
 refine Zs (fun hlt=>?_) (fun hge=>?_)
 ·have hja:j<(s.extract 1 s.size).size:=by omega
  have hjl:j<(bl (s.extract 1 s.size)).length:=by rw[JB];exact hja
  have gb:(s.extract 1 s.size).data.toList[j]? = some (bl (s.extract 1 s.size))[j]:=Uah hjl
  by_cases c1:48<=(bl (s.extract 1 s.size))[j].toNat
  rotate_left
  ·have e1:=eq_true (show ((bl (s.extract 1 s.size))[j].toNat:Int)<48 by omega)
   have hr:ZU s=none:=by unfold ZU;rw[hT];exact if_neg fun g=>by have:=g.2.1 _ (Uak hjl);omega
   rw[hr]
   simp only[gb,e1,Int.toNat_natCast,Option.isSome_none,Zb,seval,Za,men]
   try rfl
  have e1:=eq_false (show ¬ ((bl (s.extract 1 s.size))[j].toNat:Int)<48 by omega)
  by_cases c2:(bl (s.extract 1 s.size))[j].toNat<=57
  rotate_left
  ·have e2:=eq_true (show (57:Int)<((bl (s.extract 1 s.size))[j].toNat:Int) by omega)
   have hr:ZU s=none:=by unfold ZU;rw[hT];exact if_neg fun g=>by have:=g.2.1 _ (Uak hjl);omega
   rw[hr]
   simp only[gb,e1,e2,Int.toNat_natCast,Option.isSome_none,Zb,seval,Za,men]
   try rfl
  have e2:=eq_false (show ¬ (57:Int)<((bl (s.extract 1 s.size))[j].toNat:Int) by omega)
  have hv:=UB (l:=bl (s.extract 1 s.size)) (j:=j) (by omega) hA
  have hv2:=DL (j:=j) (by omega)
  have hw:IntKind.u8.wrap (((bl (s.extract 1 s.size))[j].toNat:Int)-48)=(((bl (s.extract 1 s.size))[j].toNat-48:Nat):Int):=by
   rw[Xc (by constructor <;> simp [IntKind.min,IntKind.max,IntKind.signed,IntKind.bits] <;> omega)];omega
  have hs2:10*((Yl ((bl (s.extract 1 s.size)).take j):Nat):Int)+(((bl (s.extract 1 s.size))[j].toNat-48:Nat):Int)=((Yl ((bl (s.extract 1 s.size)).take (j+1)):Nat):Int):=by rw[ZdL hjl];omega
  simp only[gb,e1,e2,hw,hs2,Int.toNat_natCast,Zb,seval,Za,men]
  exact⟨by rw[Zg];omega,by rw[Zg];omega,by rw[Zg];omega,by rw[Zg];omega,Zu () hja rfl fun i hi hij=>by
   by_cases e:i=j
   ·subst e;exact⟨c1,c2⟩
   ·exact hA i hi (by omega)⟩
 ·have hj1:j=(s.extract 1 s.size).size:=by omega
  subst hj1
  have hd:ZdM (s.extract 1 s.size):=fun c hc=>by
   obtain⟨i,hi,rfl⟩:=Uao hc
   exact hA i hi (by rw[JB] at hi;exact hi)
  have ht:(bl (s.extract 1 s.size)).take (s.extract 1 s.size).size=bl (s.extract 1 s.size):=Uau (by rw[JB];exact Ual _)
  have hv:=UB (l:=bl (s.extract 1 s.size)) (j:=(s.extract 1 s.size).size) (by rw[JB];exact Ual _) hA
  have hv2:=DL (j:=(s.extract 1 s.size).size) (by omega)
  rw[ht] at hv
  rw[ht]
  have e5:=eq_true (show ((s.extract 1 s.size).size:Int)<s.size by omega)
  have hn:Va s = -(Yl (bl (s.extract 1 s.size)):Int):=by unfold Va;rw[hT];exact if_pos (by omega)
  simp only[e5,Zb,seval,Za,men]
  refine⟨by rw[Zg];omega,(Zf (ZhA (-(Yl (bl (s.extract 1 s.size)):Int)) (by omega)) ?_)⟩
  by_cases he:JH (Va s)=s
  ·have hr:ZU s=some (Va s):=by unfold ZU;rw[hT];exact if_pos ⟨hl,hd,he⟩
   rw[hn] at he hr
   have he':=eq_true he
   rw[hr]
   simp only[he',ne_eq,not_true_eq_false,Option.isSome_some,Zb,seval,Za,men]
   try rfl
  ·have hr:ZU s=none:=by unfold ZU;rw[hT];exact if_neg fun g=>he g.2.2
   rw[hn] at he
   have he':=eq_false he
   rw[hr]
   simp only[he',ne_eq,not_false_eq_true,Option.isSome_none,Zb,seval,Za,men]
   try rfl
theorem ZFJ(s:ByteArray)(hs:s.size<=2000000)(lvl:Nat)(S:Zc):Sem Uch U8 lvl [iS s] S (.tu [iI ((ZU s).getD 0),iB (ZU s).isSome]) S:=by
 by_cases h1:1<s.size
 ·by_cases h2:(bl s)[0]? = some 45
  ·exact ZFI s hs h1 h2 lvl S
  ·exact ZFH s hs h1 h2 lvl S
 ·exact ZFG s hs h1 lvl S
end Go.Fd

namespace Go.Fd
set_option maxRecDepth 20000
def QF(c:UInt8):Prop:=c.toNat=45\/(48<=c.toNat/\c.toNat<=57)\/(97<=c.toNat/\c.toNat<=122)
def sf(x:ByteArray):Prop:=∀ c∈bl x,QF c
theorem XG{x:ByteArray}{b:UInt8}(h:sf x)(hb:¬ QF b):b ∉ bl x:=fun hm=>hb (h b hm)
theorem Wm{x:ByteArray}(h:Jw x):sf x:=fun c hc=>.inr (.inr (h.1 c hc))
theorem ZdN{u:Nat}(h:u<100):(∃ a:Fin 10,u=a.val/\Lib.decDigits u=[UInt8.ofNat (48+a.val)])\/∃ a b:Fin 10,u=10*a.val+b.val/\Lib.decDigits u=[UInt8.ofNat (48+a.val),UInt8.ofNat (48+b.val)]:=by
 by_cases h1:u<10
 ·exact .inl ⟨⟨u,h1⟩,rfl,WZ h1⟩
 ·exact .inr ⟨⟨u / 10,by omega⟩,⟨u % 10,by omega⟩,by simp only;omega,dd2 (by omega) h⟩
theorem ZhB{n:Int}(h:smN n):(∃ u:Nat,u<100/\n=u/\bl (JH n)=Lib.decDigits u)\/∃ u:Nat,0<u/\u<100/\n = -(u:Int)/\bl (JH n)=45::Lib.decDigits u:=by
 obtain⟨h1,h2⟩:=h
 by_cases h0:0<=n
 ·obtain⟨u,rfl⟩:=Ua0 h0
  refine .inl ⟨u,by omega,rfl,?_⟩
  rw[Zbk h0,JG,Vi,Int.toNat_natCast]
 ·obtain⟨u,hu⟩:=Ua0 (show 0 <= -n by omega)
  refine .inr ⟨u,by omega,by omega,by omega,?_⟩
  rw[ZoE (by omega),YM,hu,JG,Vi,Int.toNat_natCast]
  rfl
theorem ZhC:∀ a:Fin 10,48<=(UInt8.ofNat (48+a.val)).toNat/\(UInt8.ofNat (48+a.val)).toNat<=57:=by decide
theorem ZdO{u:Nat}(h:u<100):∀ c∈Lib.decDigits u,48<=c.toNat/\c.toNat<=57:=by
 intro c hc
 rcases ZdN h with ⟨a,_,e⟩ | ⟨a,b,_,e⟩
 ·rw[e,UaN] at hc
  subst hc
  exact ZhC a
 ·rw[e] at hc
  simp only[UaE,Ubl,or_false] at hc
  rcases hc with rfl | rfl
  ·exact ZhC a
  ·exact ZhC b
theorem ZFK{n:Int}(h:smN n):sf (JH n):=by
 rcases ZhB h with ⟨u,hu,_,e⟩ | ⟨u,_,hu,_,e⟩
 ·intro c hc
  rw[e] at hc
  exact .inr (.inl (ZdO hu c hc))
 ·intro c hc
  rw[e] at hc
  rcases UaE.1 hc with rfl | hc
  ·exact .inl rfl
  ·exact .inr (.inl (ZdO hu c hc))
def RD(rd:ByteArray->Option Int):Prop:=∀ n,smN n->rd (JH n)=some n
theorem Vj:∀ a:Fin 10,Lib.atoiAll [UInt8.ofNat (48+a.val)] = .ok (a.val:Int):=by decide +kernel
theorem at2:∀ a b:Fin 10,Lib.atoiAll [UInt8.ofNat (48+a.val),UInt8.ofNat (48+b.val)] = .ok ((10*a.val+b.val:Nat):Int):=by decide +kernel
theorem at3:∀ a:Fin 10,Lib.atoiAll [45,UInt8.ofNat (48+a.val)] = .ok (-(a.val:Int)):=by decide +kernel
theorem at4:∀ a b:Fin 10,Lib.atoiAll [45,UInt8.ofNat (48+a.val),UInt8.ofNat (48+b.val)] = .ok (-((10*a.val+b.val:Nat):Int)):=by decide +kernel
theorem ZoY:RD JS:=fun n h=>by
 have key:Lib.atoiAll (bl (JH n)) = .ok n:=by
  rcases ZhB h with ⟨u,hu,hn,e⟩ | ⟨u,_,hu,hn,e⟩
  ·rw[e,hn]
   rcases ZdN hu with ⟨a,ha,e2⟩ | ⟨a,b,hab,e2⟩
   ·rw[e2,ha];exact Vj a
   ·rw[e2,hab];exact at2 a b
  ·rw[e,hn]
   rcases ZdN hu with ⟨a,ha,e2⟩ | ⟨a,b,hab,e2⟩
   ·rw[e2,ha];exact at3 a
   ·rw[e2,hab];exact at4 a b
 unfold JS
 rw[key]
 exact if_pos rfl
theorem vd1:∀ a:Fin 10,Yl [UInt8.ofNat (48+a.val)]=a.val:=by decide +kernel
theorem vd2:∀ a b:Fin 10,Yl [UInt8.ofNat (48+a.val),UInt8.ofNat (48+b.val)]=10*a.val+b.val:=by decide +kernel
theorem ZoZ{u:Nat}(h:u<100):1<=(Lib.decDigits u).length/\(Lib.decDigits u).length<=2/\Yl (Lib.decDigits u)=u:=by
 rcases ZdN h with ⟨a,ha,e2⟩ | ⟨a,b,hab,e2⟩
 ·rw[e2,vd1,ha];simp
 ·rw[e2,vd2,hab];simp
theorem Zo0:RD ZU:=fun n h=>by
 have hz:=JB (JH n)
 rcases ZhB h with ⟨u,hu,hn,e⟩ | ⟨u,_,hu,hn,e⟩
 ·obtain⟨d1,d2,d3⟩:=ZoZ hu
  have hdd:=ZdO hu
  rw[e] at hz
  have h0:(bl (JH n))[0]? ≠ some 45:=fun q=>by
   rw[e] at q
   have:=hdd _ (Uae q)
   revert this
   decide
  have ht:tR (JH n)=JH n:=if_neg fun g=>h0 g.2
  have hnum:Va (JH n)=n:=by
   unfold Va
   rw[ht,if_neg (Ub6 _),e,d3,hn]
  unfold ZU
  rw[hnum,ht]
  exact if_pos ⟨⟨by omega,by omega⟩,fun c hc=>by rw[e] at hc;exact hdd c hc,rfl⟩
 ·obtain⟨d1,d2,d3⟩:=ZoZ hu
  have hdd:=ZdO hu
  rw[e,List.length_cons] at hz
  have ht:tR (JH n)=(JH n).extract 1 (JH n).size:=if_pos ⟨by omega,by rw[e];rfl⟩
  have hsz:=ZoX (s:=JH n) (by omega)
  have hb:bl ((JH n).extract 1 (JH n).size)=Lib.decDigits u:=by
   rw[DK,Uau (by rw[JB];exact Ual _),e]
   rfl
  have hnum:Va (JH n)=n:=by
   unfold Va
   rw[ht,if_pos (by omega),hb,d3,hn]
  unfold ZU
  rw[hnum,ht]
  exact if_pos ⟨⟨by omega,by omega⟩,fun c hc=>by rw[hb] at hc;exact hdd c hc,rfl⟩
theorem Zo1{α:Type}{f:α->Bool}:∀{l:List α} {i:Nat} {j:Int} (hi:i<l.length),f l[i]=true->(∀ k (hk:k<i),f (l[k]'(by omega))=false)->J9 f l j=j+i
 | x::r,0,j,hi,h,_=>by
  rw[List.getElem_cons_zero] at h
  rw[Qy,if_pos h]
  omega
 | x::r,i+1,j,hi,h,hn=>by
  have e:=hn 0 (by omega)
  rw[List.getElem_cons_zero] at e
  rw[Qy,if_neg (by rw[e];exact Bool.false_ne_true),Zo1 (i:=i) (by simp at hi;omega) (by rw[List.getElem_cons_succ] at h;exact h) fun k hk=>by
   have:=hn (k+1) (by omega)
   rw[List.getElem_cons_succ] at this
   exact this]
  omega
theorem Zo2{sig:List TControl}(hs:Z2 sig){k:Int}(h0:0<=k)(h1:k<sig.length):Wl sig (Vx sig k)=k:=by
 obtain⟨m,rfl⟩:=Ua0 h0
 have hm:m<sig.length:=by omega
 rw[DJ hm]
 unfold Wl
 rw[Zo1 hm (by simp) fun q hq=>by
  have:=(hs.1 m hm).2 q hq
  simp [this]]
 omega
theorem ZhD{sig:List TControl}(hs:Z2 sig){k:Int}(h0:0<=k)(h1:k<sig.length):Jw (Vx sig k):=by
 obtain⟨m,rfl⟩:=Ua0 h0
 have hm:m<sig.length:=by omega
 rw[DJ hm]
 exact(hs.1 m hm).1.1
open Go.Proofs.Tryz renaming prog->Uch
def jn(sep w:ByteArray)(ns:List ByteArray):Nat->ByteArray
 | 0=>w
 | j+1=>(if 0<j then jn sep w ns j++sep else jn sep w ns j)++gS ns j
theorem ZdP{sep w:ByteArray}{ns:List ByteArray}{B:Nat}(h:∀ x∈ns,x.size<=B):∀{j:Nat},j<=ns.length->(jn sep w ns j).size<=w.size+j*(B+sep.size)
 | 0,_=>by simp [jn]
 | j+1,hj=>by
  have ih:=ZdP (sep:=sep) (w:=w) h (j:=j) (by omega)
  have hg:gS ns j=ns[j]:=J3 (by omega)
  have hb:=h _ (Uak (show j<ns.length by omega))
  rw[jn,hg,Nat.succ_mul]
  split
  ·rw[UaD,UaD];omega
  ·rw[UaD];omega
def Jg(sig:List TControl)(s:TTermStep):ByteArray :=
 if s.kind_=0 then ⟨#[48]⟩ else if s.kind_=1 then ⟨#[49]⟩ else if s.kind_=2 then ⟨#[64]⟩++JG s.site
 else if s.kind_=4 then ⟨#[124]⟩ else if s.kind_=5 then ⟨#[124,124]⟩
 else if s.kind_=6 then ⟨#[47]⟩++gS s.names 0 else if s.kind_=7 then ⟨#[43]⟩++gS s.names 0
 else jn ⟨#[44]⟩ (Vx sig s.control++⟨#[58]⟩) s.names s.names.length
theorem ZFL(sig:List TControl)(s:TTermStep)(hs:Z2 sig)(h:stepOK sig s)(hb:∀ x∈s.names,x.size<=100)(lvl:Nat)(S:Zc):Sem Uch ZfD lvl [.tr (.sl (sig.map Zr)),.ag ((Zv s).map .tr)] S (iS (Jg sig s)) S:=by
 obtain⟨k,c,p,ns⟩:=s
 have hkind:=h.kind
 simp only at hkind hb
 refine Zi ZAb trivial ?_
 by_cases h0:k=0
 ·subst h0; (simp only[X9,Zv,Zb,seval,Za,men]) <;> rfl
 by_cases h1:k=1
 ·subst h1; (simp only[X9,Zv,h0,Zb,seval,Za,men]) <;> rfl
 by_cases h2:k=2
 ·subst h2
  have hp:=h.site rfl
  simp only at hp
  simp only[X9,Zv,h0,h1,Zb,seval,Za,men]
  refine Zf (ZFq (n:=p) (by omega) (by omega)) ?_
  have:=Zbj (n:=p) (by omega) (by omega)
  simp only[Zb,seval,Za,men]
  exact⟨by show 1+(JG p).size<=_;omega,rfl⟩
 by_cases h4:k=4
 ·subst h4; (simp only[X9,Zv,h0,h1,h2,Zb,seval,Za,men]) <;> rfl
 by_cases h5:k=5
 ·subst h5; (simp only[X9,Zv,h0,h1,h2,h4,Zb,seval,Za,men]) <;> rfl
 by_cases h6:k=6
 ·subst h6
  obtain⟨n,rfl⟩:=Qj (h.one (.inl rfl))
  have g0:(rS [n])[0]? = some [ts n]:=rfl
  simp only[X9,Zv,h0,h1,h2,h4,h5,g0,Zb,seval,Za,men]
  have hbn:=hb n (by simp)
  exact⟨by show 1+n.size<=_;omega,rfl⟩
 by_cases h7:k=7
 ·subst h7
  obtain⟨n,rfl⟩:=Qj (h.one (.inr rfl))
  have g0:(rS [n])[0]? = some [ts n]:=rfl
  simp only[X9,Zv,h0,h1,h2,h4,h5,h6,g0,Zb,seval,Za,men]
  have hbn:=hb n (by simp)
  exact⟨by show 1+n.size<=_;omega,rfl⟩
 have h3:k=3:=by omega
 subst h3
 have hw:=h.ctl rfl
 simp only at hw
 obtain⟨m,hm⟩:∃ m:Nat,c=m:=⟨c.toNat,by omega⟩
 have hms:m<sig.length:=by omega
 have gs:=Z6 (c:=Zr) hms
 simp only[X9,Zv,Zr,hm,gs,h0,h1,h2,h4,h5,h6,h7,Uaa,Zb,seval,Za,men]
 have hnm:=Zhq hs (m:Int)
 rw[DJ hms] at hnm
 have hnl:ns.length<=3:=by have:=h.ports rfl;have:=Dz hs (c:=c);simp only at *;omega
 obtain⟨w,hw0⟩:∃ w,w=sig[m].name++(⟨#[58]⟩:ByteArray):=⟨_,rfl⟩
 have hws:w.size<=5:=by rw[hw0,UaD];show _+1<=5;omega
 have hwt:Jg sig ⟨3,c,p,ns⟩=jn ⟨#[44]⟩ w ns ns.length:=by
  rw[hw0,<-DJ hms,<-hm]
  rfl
 rw[hm] at hwt
 rw[hwt,<-hw0]
 refine⟨by show _+1<=_;omega,?_⟩
 refine ZJ (α:=Unit) ns.length (fun j _=>[(5,iS (jn ⟨#[44]⟩ w ns j)),(6,iI j)]) (fun _ _=>[]) (fun _ _=>True) () (by simp only[Zb,seval,Za,men]) (by (simp only[jn,Zb,seval,Za,men]) <;> rfl) trivial ?_
 intro j _ hj _
 simp only[Uaa,Zb,seval,Za,men]
 refine Zs (fun hlt=>?_) (fun hge=>?_)
 ·have hja:j<ns.length:=by omega
  have hsz:=ZdP (sep:=(⟨#[44]⟩:ByteArray)) (w:=w) (ns:=ns) (B:=100) hb (j:=j) hj
  have hs1:(⟨#[44]⟩:ByteArray).size=1:=rfl
  rw[hs1] at hsz
  have hm2:j*(100+1)<=3*101:=Uaz _ (by omega)
  have hbj:=hb _ (Uak hja)
  have hst:jn ⟨#[44]⟩ w ns (j+1)=(if 0<j then jn ⟨#[44]⟩ w ns j++⟨#[44]⟩ else jn ⟨#[44]⟩ w ns j)++ns[j]:=by rw[jn,show gS ns j=ns[j] from J3 hja]
  have ga:=Yg (e0:=Jd) (c:=fun n:ByteArray=>[ts n]) hja
  rw[J3 hja] at ga
  by_cases h0j:0<j
  ·have h0i:(0:Int)<(j:Int):=by omega
   rw[if_pos h0j] at hst
   simp only[ga,hja,h0i,Uaa,Zb,seval,Za,men]
   exact⟨by rw[hs1];omega,by rw[UaD,hs1];omega,by rw[Zg];omega,Zu () hja (by rw[hst];rfl) trivial⟩
  ·have h0i:¬ (0:Int)<(j:Int):=by omega
   rw[if_neg h0j] at hst
   simp only[ga,hja,h0i,Uaa,Zb,seval,Za,men]
   exact⟨by omega,by rw[Zg];omega,Zu () hja (by rw[hst];rfl) trivial⟩
 ·have:j=ns.length:=by omega
  subst this
  simp only[Zb,seval,Za,men]
  try rfl
def tx(sig:List TControl)(t:List TTermStep):Nat->ByteArray
 | 0=>⟨#[]⟩
 | j+1=>(if 0<j then tx sig t j++⟨#[32]⟩ else tx sig t j)++((t[j]?).map (Jg sig)).getD ⟨#[]⟩
theorem ZhE{sig:List TControl}{t:List TTermStep}{j:Nat}(h:j<t.length):tx sig t (j+1)=(if 0<j then tx sig t j++⟨#[32]⟩ else tx sig t j)++Jg sig t[j]:=by
 rw[tx]
 simp [h]
theorem Zo3{sig:List TControl}{s:TTermStep}(hs:Z2 sig)(h:stepOK sig s):(Jg sig s).size<=1000:=by
 have hk:=h.kind
 have hn:∀ x∈s.names,x.size<=4:=fun x hx=>(h.nms x hx).2.2
 have hg:(gS s.names 0).size<=4:=by
  by_cases g:0<s.names.length
  ·rw[show gS s.names 0=s.names[0] from J3 g];exact hn _ (Uak g)
  ·have:s.names=[]:=UaS.1 (by omega)
   rw[this];show (0:Nat)<=4;omega
 unfold Jg
 split
 ·show 1<=1000;omega
 split
 ·show 1<=1000;omega
 split
 ·rename_i h2
  have hp:=h.site h2
  have:=Zbj (n:=s.site) (by omega) (by omega)
  rw[UaD];show 1+_<=1000;omega
 split
 ·show 1<=1000;omega
 split
 ·show 2<=1000;omega
 split
 ·rw[UaD];show 1+_<=1000;omega
 split
 ·rw[UaD];show 1+_<=1000;omega
 ·have h3:s.kind_=3:=by omega
  have h1:=ZdP (sep:=(⟨#[44]⟩:ByteArray)) (w:=Vx sig s.control++⟨#[58]⟩) (B:=4) hn (j:=s.names.length) (Ual _)
  have h2:=Zhq hs s.control
  have h4:=h.ports h3
  have h5:=Dz hs (c:=s.control)
  have h6:(⟨#[44]⟩:ByteArray).size=1:=rfl
  have h7:(⟨#[58]⟩:ByteArray).size=1:=rfl
  rw[UaD,h6,h7] at h1
  have h8:s.names.length*(4+1)<=3*5:=Uaz _ (by omega)
  omega
theorem ZhF{sig:List TControl}{t:List TTermStep}(hs:Z2 sig)(h:∀ s∈t,stepOK sig s):∀{j:Nat},j<=t.length->(tx sig t j).size<=j*1001
 | 0,_=>Ual 0
 | j+1,hj=>by
  have ih:=ZhF hs h (j:=j) (by omega)
  have hw:=Zo3 hs (h _ (Uak (show j<t.length by omega)))
  have h1:(⟨#[32]⟩:ByteArray).size=1:=rfl
  rw[ZhE (by omega),UaD]
  split
  ·rw[UaD,h1];omega
  ·omega
theorem Zo4(sig:List TControl)(t:List TTermStep)(hs:Z2 sig)(h:∀ s∈t,stepOK sig s)(hl:t.length<=60)(lvl:Nat)(S:Zc):Sem Uch Zfq lvl [.tr (.sl (sig.map Zr)),.tr (.sl (t.map Zv))] S (iS (tx sig t t.length)) S:=by
 refine Zi ZzZ trivial ?_
 simp only[Zkw,Uaa,Zb,seval,Za,men]
 refine ZJ (α:=Unit) t.length (fun j _=>[(5,iS (tx sig t j)),(6,iI j)]) (fun _ _=>[]) (fun _ _=>True) () (by simp only[Zb,seval,Za,men]) (by (simp only[tx,Zb,seval,Za,men]) <;> rfl) trivial ?_
 intro j _ hj _
 simp only[Uaa,Zb,seval,Za,men]
 refine Zs (fun hlt=>?_) (fun hge=>?_)
 ·have hja:j<t.length:=by omega
  have ga:=Z6 (c:=Zv) hja
  have hok:=h _ (Uak hja)
  have q:=ZFL sig t[j] hs hok (fun x hx=>by have:=(hok.nms x hx).2.2;omega)
  have hsz:=ZhF hs h hj
  have hw:=Zo3 hs hok
  have hs1:(⟨#[32]⟩:ByteArray).size=1:=rfl
  have hst:=ZhE (sig:=sig) hja
  simp only[Zv,Uai,Uaj] at q
  by_cases h0j:0<j
  ·have h0i:(0:Int)<(j:Int):=by omega
   rw[if_pos h0j] at hst
   simp only[ga,hja,Zv,h0i,Uaa,Zb,seval,Za,men]
   refine⟨by rw[hs1];omega,Zf q ?_⟩
   simp only[Zb,seval,Za,men]
   exact⟨by rw[UaD,hs1];omega,by rw[Zg];omega,Zu () hja (by rw[hst];rfl) trivial⟩
  ·have h0i:¬ (0:Int)<(j:Int):=by omega
   rw[if_neg h0j] at hst
   simp only[ga,hja,Zv,h0i,Uaa,Zb,seval,Za,men]
   refine Zf q ?_
   simp only[Zb,seval,Za,men]
   exact⟨by omega,by rw[Zg];omega,Zu () hja (by rw[hst];rfl) trivial⟩
 ·have:j=t.length:=by omega
  subst this
  simp only[Zb,seval,Za,men]
  try rfl
end Go.Fd

namespace Go.Proofs
open Go.Shelf
def Tryz.lays156_ren:Go.Shelf.Ren:=⟨fun | 156=>47 | 165=>72 | 166=>73 | 169=>74 | 240=>100 | 241=>101 | 276=>153 | 277=>154 | n=>n,fun | 31=>38 | 9=>9 | 3=>3 | 4=>4 | 0=>0 | 20=>20 | 72=>112 | 76=>94 | 70=>110 | 37=>86 | 75=>93 | 127=>136 | 164=>176 | 5=>5 | 80=>114 | n=>n,fun | n=>n⟩
theorem Tryz.lays156:Go.Proofs.Lays.n156 Tryz.prog Tryz.lays156_ren:={
  mixed:=by kernel_rfl,
  f156:=Tryz.func47.trans (congrArg some (by kernel_rfl)),
  f165:=Tryz.func72.trans (congrArg some (by kernel_rfl)),
  f166:=Tryz.func73.trans (congrArg some (by kernel_rfl)),
  f169:=Tryz.func74.trans (congrArg some (by kernel_rfl)),
  f240:=Tryz.func100.trans (congrArg some (by kernel_rfl)),
  f241:=Tryz.func101.trans (congrArg some (by kernel_rfl)),
  f276:=Tryz.func153.trans (congrArg some (by kernel_rfl)),
  f277:=Tryz.func154.trans (congrArg some (by kernel_rfl)),
  t0:=Tryz.underlying0,
  a0:=Tryz.isAgg0,
  z0:=Tryz.sizeOf0,
  v0:=Tryz.zeroValue0,
  t3:=Tryz.underlying3,
  a3:=Tryz.isAgg3,
  z3:=Tryz.sizeOf3,
  v3:=Tryz.zeroValue3,
  t4:=Tryz.underlying4,
  a4:=Tryz.isAgg4,
  z4:=Tryz.sizeOf4,
  v4:=Tryz.zeroValue4,
  t9:=Tryz.underlying9,
  a9:=Tryz.isAgg9,
  z9:=Tryz.sizeOf9,
  v9:=Tryz.zeroValue9,
  t20:=Tryz.underlying20,
  a20:=Tryz.isAgg20,
  z20:=Tryz.sizeOf20,
  v20:=Tryz.zeroValue20,
  t31:=Tryz.underlying38,
  a31:=Tryz.isAgg38,
  z31:=Tryz.sizeOf38,
  v31:=Tryz.zeroValue38,
  t37:=Tryz.underlying86,
  a37:=Tryz.isAgg86,
  z37:=Tryz.sizeOf86,
  v37:=Tryz.zeroValue86,
  t70:=Tryz.underlying110,
  a70:=Tryz.isAgg110,
  z70:=Tryz.sizeOf110,
  v70:=Tryz.zeroValue110,
  t72:=Tryz.underlying112,
  a72:=Tryz.isAgg112,
  z72:=Tryz.sizeOf112,
  v72:=Tryz.zeroValue112,
  t75:=Tryz.underlying93,
  a75:=Tryz.isAgg93,
  z75:=Tryz.sizeOf93,
  v75:=Tryz.zeroValue93,
  t76:=Tryz.underlying94,
  a76:=Tryz.isAgg94,
  z76:=Tryz.sizeOf94,
  v76:=Tryz.zeroValue94,
  t127:=Tryz.underlying136,
  a127:=Tryz.isAgg136,
  z127:=Tryz.sizeOf136,
  v127:=Tryz.zeroValue136,
  t164:=Tryz.underlying176,
  a164:=Tryz.isAgg176,
  z164:=Tryz.sizeOf176,
  v164:=Tryz.zeroValue176 }
end Go.Proofs

namespace Go.Fd
open Go.Proofs.Tryz renaming prog->Uch
open Go.RowKit
set_option maxRecDepth 20000
theorem Zo5:Go.Proofs.Builder.Extra Uch Proofs.Tryz.lays156_ren where
 sizeBuilder:=by kernel_rfl
 liesBuilder:=by kernel_rfl
 t5:=Proofs.Tryz.underlying5
 a5:=Proofs.Tryz.isAgg5
 z5:=Proofs.Tryz.sizeOf5
 v5:=Proofs.Tryz.zeroValue5
 infoByte:=by kernel_rfl
 cellsByte:=by kernel_rfl
 sizeByte:=by kernel_rfl
 neB5:=by decide
def JI(xs:List ByteArray)(sep:ByteArray):ByteArray:=⟨(Lib.join (xs.map fun x=>x.data.toList) sep.data.toList).toArray⟩
theorem UC{x:ByteArray}{r:List ByteArray}{sep:ByteArray}:bl (JI (x::r) sep)=bl x++r.flatMap fun y=>bl sep++bl y:=by
 unfold JI
 rw[Vi,Uai,Lib.join_cons,Lib.joinTail,UbU,List.flatMap_def]
 rfl
theorem Zo6(xs:List ByteArray)(sep:ByteArray)(hN:xs.length<=4294967296)(hlen:(JI xs sep).size<=140737488355328)(lvl:Nat)(S:Zc):Sem Uch Zcj lvl [tS xs,iS sep] S (iS (JI xs sep)) S:=by
 have hlen':(Lib.join (xs.map fun x=>x.data.toList) sep.data.toList).length<=140737488355328:=by
  rw[<-JB,JI,Vi] at hlen
  exact hlen
 refine Zcb (Xs (by kernel_rfl)) rfl trivial fun _ G w vs hok hv=>?_
 simp only[Zo] at hv
 obtain⟨v,vr,rfl,h1,v2,vr2,rfl,h2,rfl⟩:=hv
 have h2':Rds w (Av G S w) v2 (.v (.string sep)):=h2
 cases h2'
 have h1':Rds w (Av G S w) v (.sl (rS xs)):=h1
 generalize hes:rS xs=es at h1'
 have hnil:xs=[]->∀ a c,Calls Uch Zcj #[.slice a 0 c,.string sep] w fun e w' => ∃ v,e = .returned v/\VR G S w' (iS (JI xs sep)) v/\Below w.heap.size w w':=by
  rintro rfl a c
  refine(Go.Proofs.Any.strings_Join_none Proofs.Tryz.lays156 Zo5 a c sep w).mono fun e w' ⟨he,hw⟩=>⟨_,he,?_,hw ▸ Below.refl _ _⟩
  exact Rds.v _ rfl
 cases h1' with
 | nil a c=>exact hnil (by cases xs with | nil=>rfl | cons x r=>cases hes) a c
 | sl b o c k _ f hA hk hl hc hr =>
  subst hes
  by_cases hx:xs=[]
  ·subst hx
   exact hnil rfl _ _
  obtain⟨x0,r0,hxs⟩:∃ x r,xs=x::r:=by
   cases xs with
   | nil=>exact absurd rfl hx
   | cons x r=>exact⟨x,r,rfl⟩
  have hk1:k=1:=(hk [ts x0] (by simp [hxs])).symm
  subst hk1
  rw[Uaa] at hl ⊢
  refine(Go.Proofs.Any.strings_Join Proofs.Tryz.lays156 Zo5 b o c xs sep w ?_ hA.1 (by omega) hl hlen').mono fun e w' ⟨he,hw⟩=>⟨_,he,Rds.v _ rfl,hw⟩
  intro j x hj
  have e1:(rS xs)[j]? = some [ts x]:=by simp [hj]
  have e2:=hc j _ 0 _ e1 rfl
  have e3:=hr j _ 0 _ e1 rfl
  rw[show o+j*1+0=o+j by omega] at e2
  rw[e2]
  generalize f j 0=y at e3
  cases e3
  rfl
theorem ZdQ{sep:ByteArray}:JI [] sep=⟨#[]⟩:=rfl
theorem ZFM{x sep:ByteArray}:JI [x] sep=x:=Vw (by rw[UC];simp)
theorem ZFN{x y sep:ByteArray}{r:List ByteArray}:JI (x::r++[y]) sep=JI (x::r) sep++sep++y:=Vw (by
 rw[List.cons_append,UC,YM,YM,UC,List.flatMap_append]
 simp)
theorem Zo7{l:List ByteArray}{sep:ByteArray}{j:Nat}(h0:0<j)(hj:j<l.length):JI (l.take (j+1)) sep=JI (l.take j) sep++sep++l[j]:=by
 rw[Uaf hj]
 cases l with
 | nil=>simp at hj
 | cons x r =>
  obtain⟨k,rfl⟩:∃ k,j=k+1:=⟨j-1,by omega⟩
  rw[List.take_succ_cons]
  exact ZFN
theorem Zo8{l:List ByteArray}{sep:ByteArray}(hj:0<l.length):JI (l.take 1) sep=l[0]:=by
 cases l with
 | nil=>simp at hj
 | cons x r=>exact ZFM
theorem Zo9{w:ByteArray}:w++(⟨#[]⟩:ByteArray)=w:=Vw (by rw[YM];simp [bl])
theorem ZFO{w:ByteArray}:(⟨#[]⟩:ByteArray)++w=w:=Vw (by rw[YM];simp [bl])
theorem ZhG{a b c:ByteArray}:a++b++c=a++(b++c):=Vw (by simp only[YM,UaA])
theorem ZdR{sep w:ByteArray}{ns:List ByteArray}:∀{j:Nat},j<=ns.length->jn sep w ns j=w++JI (ns.take j) sep
 | 0,_=>by rw[jn,List.take_zero,ZdQ,Zo9]
 | j+1,hj=>by
  have hg:gS ns j=ns[j]:=J3 (by omega)
  rw[jn,ZdR (by omega),hg]
  by_cases h0:0<j
  ·rw[if_pos h0,Zo7 h0 (by omega)]
   simp only[ZhG]
  ·have:j=0:=by omega
   subst this
   rw[if_neg h0,Zo8 (by omega),List.take_zero,ZdQ,Zo9]
theorem Zpa{sig:List TControl}{t:List TTermStep}:∀{j:Nat},j<=t.length->tx sig t j=JI ((t.map (Jg sig)).take j) ⟨#[32]⟩
 | 0,_=>by rw[tx,List.take_zero,ZdQ]
 | j+1,hj=>by
  have hl:j<(t.map (Jg sig)).length:=by rw[Uaa];omega
  have he:(t.map (Jg sig))[j]=Jg sig t[j]:=by simp
  rw[ZhE (by omega),Zpa (by omega)]
  by_cases h0:0<j
  ·rw[if_pos h0,Zo7 h0 hl,he]
  ·have:j=0:=by omega
   subst this
   rw[if_neg h0,Zo8 hl,List.take_zero,ZdQ,ZFO,he]
def Ym(sig:List TControl)(t:List TTermStep):List ByteArray:=t.map (Jg sig)
theorem ZhH{sig:List TControl}{t:List TTermStep}:tx sig t t.length=JI (Ym sig t) ⟨#[32]⟩:=by
 rw[Zpa (Ual _),Uau (by rw[Uaa];exact Ual _)]
 rfl
theorem wordT_0{sig:List TControl}{c p:Int}{ns:List ByteArray}:Jg sig ⟨0,c,p,ns⟩=JG 0:=by
 unfold Jg
 rw[if_pos rfl]
 show (⟨#[48]⟩:ByteArray)=⟨(Lib.decDigits 0).toArray⟩
 rw[WZ (by omega)]
 rfl
theorem wordT_1{sig:List TControl}{c p:Int}{ns:List ByteArray}:Jg sig ⟨1,c,p,ns⟩=JG 1:=by
 unfold Jg
 rw[if_neg (show ¬ (1:Int)=0 by decide),if_pos rfl]
 show (⟨#[49]⟩:ByteArray)=⟨(Lib.decDigits 1).toArray⟩
 rw[WZ (by omega)]
 rfl
set_option maxHeartbeats 1000000 in
theorem ZFP(sig:List TControl)(t:List TTermStep)(hs:Z2 sig)(h:∀ s∈t,stepOK sig s)(hl:t.length<=60)(lvl:Nat)(S:Zc):Sem Uch Zfu lvl [.tr (.sl (sig.map Zr)),.tr (.sl (t.map Zv))] S (iS (JI (Ym sig t) ⟨#[32]⟩)) S:=by
 have hwl:(Ym sig t).length=t.length:=Uaa ..
 refine Zi Zz3 trivial ?_
 simp only[Zkz,Uaa,Zb,seval,Za,men]
 refine ZJ (α:=Unit) t.length (fun j _=>[(5,.hd (lvl,256) [] 0 j none j),(11,iI j)]) (fun j _=>[(256,.ar 1 (rS ((Ym sig t).take j)) true j 0)]) (fun _ _=>True) () (by simp only[Zb,seval,Za,men]) (by (simp only[Zb,seval,Za,men]) <;> rfl) trivial ?_
 intro j _ hj _
 simp only[Uaa,Zb,seval,Za,men]
 refine Zs (fun hlt=>?_) (fun hge=>?_)
 ·have hja:j<t.length:=by omega
  have ga:=Z6 (c:=Zv) hja
  have hok:=h _ (Uak hja)
  have hlN:(rS ((Ym sig t).take j)).length=j:=by rw[Uaa,Uam];omega
  have hstep:rS ((Ym sig t).take j)++[[ts (Jg sig t[j])]]=rS ((Ym sig t).take (j+1)):=by
   rw[Uaf (by omega),Us]
   simp [Ym]
  have Ja:∀ w,w=Jg sig t[j]->rS ((Ym sig t).take j)++[[ts w]]=rS ((Ym sig t).take (j+1)):=fun w hw=>by rw[hw];exact hstep
  generalize t[j]=s at ga hok Ja
  obtain⟨k,c,p,ns⟩:=s
  have hkind:=hok.kind
  simp only at hkind
  have close:∀{α:Type} {mk:Nat->α->St} {A:Nat->α->Prop} {s':St} (y:α),s'=mk (j+1) y->A (j+1) y->j<=4294967295/\ZW .i64 ((j:Int)+1)/\Zb3 t.length mk A (t.length-j) s':=fun y h1 h2=>⟨by omega,by rw[Zg];omega,Zu y hja h1 h2⟩
  by_cases h0:k=0
  ·subst h0
   simp only[ga,hja,Zv,hlN,Int.sub_self,Uaa,Zb,seval,Za,men]
   refine⟨by rw[Zg];omega,Zf (Zhr (n:=0) (by omega) (by omega)) ?_⟩
   simp only[hlN,Ja _ wordT_0.symm,Zb,seval,Za,men]
   exact close () rfl trivial
  by_cases h1:k=1
  ·subst h1
   simp only[ga,hja,Zv,hlN,h0,Int.sub_zero,Uaa,Zb,seval,Za,men]
   refine⟨by rw[Zg];omega,Zf (Zhr (n:=1) (by omega) (by omega)) ?_⟩
   simp only[hlN,Ja _ wordT_1.symm,Zb,seval,Za,men]
   exact close () rfl trivial
  by_cases h2:k=2
  ·subst h2
   have hp:=hok.site rfl
   simp only at hp
   have hw:(⟨#[64]⟩:ByteArray)++JG p=Jg sig ⟨2,c,p,ns⟩:=rfl
   simp only[ga,hja,Zv,hlN,h0,h1,Uaa,Zb,seval,Za,men]
   refine Zf (Zhr (n:=p) (by omega) (by omega)) ?_
   have:=Zbj (n:=p) (by omega) (by omega)
   simp only[hlN,Ja _ hw,Zb,seval,Za,men]
   refine⟨by show 1+(JG p).size<=_;omega,close () rfl trivial⟩
  by_cases h3:k=3
  ·subst h3
   have hw0:=hok.ctl rfl
   simp only at hw0
   obtain⟨m,hm⟩:∃ m:Nat,c=m:=⟨c.toNat,by omega⟩
   have hms:m<sig.length:=by omega
   have gs:=Z6 (c:=Zr) hms
   have hnm:=Zhq hs (m:Int)
   rw[DJ hms] at hnm
   have hnl:ns.length<=3:=by have:=hok.ports rfl;have:=Dz hs (c:=c);simp only at *;omega
   have hnz:∀ x∈ns,x.size<=4:=fun x hx=>(hok.nms x hx).2.2
   have hsz:=ZdP (sep:=(⟨#[44]⟩:ByteArray)) (w:=sig[m].name++(⟨#[58]⟩:ByteArray)) (ns:=ns) (B:=4) hnz (j:=ns.length) (Ual _)
   rw[ZdR (Ual _),Uau (Ual _),UaD,UaD] at hsz
   have s1:(⟨#[44]⟩:ByteArray).size=1:=rfl
   have s2:(⟨#[58]⟩:ByteArray).size=1:=rfl
   rw[s1,s2] at hsz
   have h5:ns.length*(4+1)<=3*5:=Uaz _ hnl
   have hw:(sig[m].name++(⟨#[58]⟩:ByteArray))++JI ns ⟨#[44]⟩=Jg sig ⟨3,c,p,ns⟩:=by
    have e:Jg sig ⟨3,c,p,ns⟩=jn ⟨#[44]⟩ (Vx sig c++⟨#[58]⟩) ns ns.length:=rfl
    rw[e,ZdR (Ual _),Uau (Ual _),hm,DJ hms]
   simp only[ga,hja,Zv,Zr,hm,gs,hlN,h0,h1,h2,Uaa,Zb,seval,Za,men]
   refine⟨by rw[s2];omega,Zf (Zo6 ns ⟨#[44]⟩ (by omega) (by omega)) ?_⟩
   simp only[hlN,Ja _ hw,Zb,seval,Za,men]
   refine⟨by rw[UaD,s2];omega,close () rfl trivial⟩
  by_cases h4:k=4
  ·subst h4
   have hw:(⟨#[124]⟩:ByteArray)=Jg sig ⟨4,c,p,ns⟩:=rfl
   simp only[ga,hja,Zv,hlN,h0,h1,h2,h3,Ja _ hw,Uaa,Zb,seval,Za,men]
   exact close () rfl trivial
  by_cases h5:k=5
  ·subst h5
   have hw:(⟨#[124,124]⟩:ByteArray)=Jg sig ⟨5,c,p,ns⟩:=rfl
   simp only[ga,hja,Zv,hlN,h0,h1,h2,h3,h4,Ja _ hw,Uaa,Zb,seval,Za,men]
   exact close () rfl trivial
  by_cases h6:k=6
  ·subst h6
   obtain⟨n,rfl⟩:=Qj (hok.one (.inl rfl))
   have g0:(rS [n])[0]? = some [ts n]:=rfl
   have hbn:=(hok.nms n (by simp)).2.2
   have hw:(⟨#[47]⟩:ByteArray)++n=Jg sig ⟨6,c,p,[n]⟩:=rfl
   simp only[ga,hja,Zv,hlN,h0,h1,h2,h3,h4,h5,g0,Ja _ hw,Uaa,Zb,seval,Za,men]
   exact⟨by show 1+n.size<=_;omega,close () rfl trivial⟩
  have h7:k=7:=by omega
  subst h7
  obtain⟨n,rfl⟩:=Qj (hok.one (.inr rfl))
  have g0:(rS [n])[0]? = some [ts n]:=rfl
  have hbn:=(hok.nms n (by simp)).2.2
  have hw:(⟨#[43]⟩:ByteArray)++n=Jg sig ⟨7,c,p,[n]⟩:=rfl
  simp only[ga,hja,Zv,hlN,h0,h1,h2,h3,h4,h5,h6,g0,Ja _ hw,Uaa,Zb,seval,Za,men]
  exact⟨by show 1+n.size<=_;omega,close () rfl trivial⟩
 ·have:j=t.length:=by omega
  subst this
  have tk:(Ym sig t).take t.length=Ym sig t:=Uau (by omega)
  have hz:(JI (Ym sig t) ⟨#[32]⟩).size<=100000:=by
   rw[<-ZhH]
   have:=ZhF hs h (Ual t.length)
   omega
  rw[tk]
  have c1:cut (rS (Ym sig t)) 0 t.length=rS (Ym sig t):=Yh (by rw[Uaa];exact hwl)
  have l1:(rS (Ym sig t)).length=t.length:=by rw[Uaa];exact hwl
  simp only[c1,l1,Zb,seval,Za,men]
  refine⟨by omega,Zf (Zo6 (Ym sig t) ⟨#[32]⟩ (by omega) (by omega)) ?_⟩
  simp only[Zb,seval,Za,men]
  try rfl
end Go.Fd

namespace Go.Fd
set_option maxRecDepth 20000
theorem ZFQ{sig:List TControl}{t:List TTermStep}{y:YK}(h:JP sig t=some y){j:Nat}(hj:j<t.length):∃ z,JP sig (t.take j)=some z/\stepOK sig t[j]/\ZT t[j].kind_<=z.1.length:=by
 cases hp:JP sig (t.take j) with
 | none=>rw[Zdz hp] at h;cases h
 | some z =>
  refine⟨z,rfl,?_⟩
  refine Ubg fun g=>?_
  have hb:=Zbe (sig:=sig) (z:=z) (s:=t[j]) g
  have hs:=Zdy (sig:=sig) hj
  rw[hp] at hs
  have:JP sig (t.take (j+1))=none:=by rw[hs];exact hb
  rw[Zdz this] at h
  cases h
theorem ZdS{sig:List TControl}{t:List TTermStep}{b:TBigraph}(h:Yk sig t=some b):∀ s∈t,stepOK sig s:=fun s hs=>by
 obtain⟨_,_,z,hr⟩:=Zbi h
 obtain⟨j,hj,rfl⟩:=Uao hs
 obtain⟨_,_,h2,_⟩:=ZFQ hr hj
 exact h2
end Go.Fd

namespace Go.Proofs
open Go.Shelf
def Tryz.lays103_ren:Go.Shelf.Ren:=⟨fun | 103=>38 | 210=>55 | 206=>83 | n=>n,fun | 9=>9 | 4=>4 | 24=>74 | 3=>3 | n=>n,fun | n=>n⟩
theorem Tryz.lays103:Go.Proofs.Lays.n103 Tryz.prog Tryz.lays103_ren:={
  mixed:=by kernel_rfl,
  f103:=Tryz.func38.trans (congrArg some (by kernel_rfl)),
  f206:=Tryz.func83.trans (congrArg some (by kernel_rfl)),
  f210:=Tryz.func55.trans (congrArg some (by kernel_rfl)),
  t3:=Tryz.underlying3,
  a3:=Tryz.isAgg3,
  z3:=Tryz.sizeOf3,
  v3:=Tryz.zeroValue3,
  t4:=Tryz.underlying4,
  a4:=Tryz.isAgg4,
  z4:=Tryz.sizeOf4,
  v4:=Tryz.zeroValue4,
  t9:=Tryz.underlying9,
  a9:=Tryz.isAgg9,
  z9:=Tryz.sizeOf9,
  v9:=Tryz.zeroValue9,
  t24:=Tryz.underlying74,
  a24:=Tryz.isAgg74,
  z24:=Tryz.sizeOf74,
  v24:=Tryz.zeroValue74 }
end Go.Proofs

namespace Go.Fd
open Go.Proofs.Tryz renaming prog->Uch
open Go.RowKit
set_option maxRecDepth 20000
def Vk(s:ByteArray):ByteArray:=s.extract 1 s.size
def fb(s:ByteArray):Option UInt8:=(bl s)[0]?
theorem ZhI{s:ByteArray}:(Vk s).size<=s.size:=by
 unfold Vk
 simp only[Uca]
 omega
theorem Wn{c:UInt8}{x:ByteArray}:fb (ZD c++x)=some c:=by
 unfold fb
 rw[YM]
 rfl
theorem ZdT{c:UInt8}{x:ByteArray}:Vk (ZD c++x)=x:=Vw (by
 unfold Vk
 rw[DK,Uau (by rw[JB];exact Ual _),YM]
 rfl)
theorem Zpb{s:ByteArray}{c:UInt8}:Lib.hasPrefix (bl s) [c]=decide (fb s=some c):=by
 unfold Lib.hasPrefix fb
 cases h:bl s with
 | nil=>rfl
 | cons x r =>
  by_cases e:x=c
  ·subst e;simp [List.isPrefixOf]
  ·simp [List.isPrefixOf,e,Ne.symm e]
theorem ZFR{s:ByteArray}{c:UInt8}:(⟨(Lib.trimPrefix (bl s) [c]).toArray⟩:ByteArray)=if fb s=some c then Vk s else s:=by
 have hp:=Zpb (s:=s) (c:=c)
 unfold Lib.trimPrefix
 rw[hp]
 split
 ·rename_i h
  rw[if_pos (of_decide_eq_true h)]
  refine Vw ?_
  unfold Vk
  rw[Vi,DK,Uau (by rw[JB];exact Ual _)]
  rfl
 ·rename_i h
  rw[if_neg (fun g=>h (decide_eq_true g))]
  exact Vw (Vi _)
theorem ZhJ(s:ByteArray)(c:UInt8)(lvl:Nat)(S:Zc):Sem Uch Zci lvl [iS s,iS (ZD c)] S (.tu [iS (if fb s=some c then Vk s else s),iB (decide (fb s=some c))]) S:=by
 refine ZyE (xs:=[.string s,.string (ZD c)]) (ys:=[.string (if fb s=some c then Vk s else s),.bool (decide (fb s=some c))]) (Xs (by kernel_rfl)) (fun y hy=>by
  simp only[UaE,Ubl,or_false] at hy
  rcases hy with rfl | rfl <;> rfl) fun w=>(Go.Proofs.Any.strings_CutPrefix Proofs.Tryz.lays103 s (ZD c) w).mono fun e w' ⟨h,h'⟩=>⟨?_,h' ▸ Below.refl _ _⟩
 rw[h,<-ZFR,<-Zpb]
 rfl
theorem ZhK{s sep:ByteArray}:(JU s sep).1.size<=s.size/\(JU s sep).2.size<=s.size:=by
 rcases Lib.indexB_cases s sep with h | ⟨i,h,_⟩
 ·rw[ZoU h]
  exact⟨Ual _,Ubi _⟩
 ·rw[ZoT h]
  refine⟨?_,?_⟩ <;> (simp only[Uca];omega)
def Z5(rd:ByteArray->Option Int)(sig:List TControl)(w:ByteArray):TTermStep :=
 if w=ZD 48 then ⟨0,0,0,[]⟩ else if w=ZD 49 then ⟨1,0,0,[]⟩ else if w=ZD 124 then ⟨4,0,0,[]⟩ else if w=⟨#[124,124]⟩ then ⟨5,0,0,[]⟩
 else if fb w=some 64 then ⟨2,0,(rd (Vk w)).getD 0,[]⟩ else if fb w=some 47 then ⟨6,0,0,[Vk w]⟩ else if fb w=some 43 then ⟨7,0,0,[Vk w]⟩
 else ⟨3,Wl sig (JU w (ZD 58)).1,0,if (JU w (ZD 58)).2=⟨#[]⟩ then [] else JC (JU w (ZD 58)).2 44⟩
def UD(sig:List TControl)(w:ByteArray):Prop:=w≠⟨#[]⟩/\(w=ZD 48\/w=ZD 49\/w=ZD 124\/w=⟨#[124,124]⟩\/(fb w=some 64/\(ZU (Vk w)).isSome=true)\/fb w=some 47\/fb w=some 43\/(fb w≠some 64/\fb w≠some 47/\fb w≠some 43/\0<=Wl sig (JU w (ZD 58)).1))
set_option maxHeartbeats 1000000 in
theorem ZFS(sig:List TControl)(w:ByteArray)(hn:sig.length<=4294967296)(hs:w.size<=2000000)(lvl:Nat)(S:Zc):Sem Uch Zfs lvl [.tr (.sl (sig.map Zr)),iS w] S (JZ (Z5 JS sig w)) S:=by
 refine Zi Zz1 (by simp [JZ,low,men,Za]) ?_
 have z:=ZhI (s:=w)
 have zc:=ZhK (s:=w) (sep:=ZD 58)
 unfold Z5
 by_cases h0:w=ZD 48
 ·have e:=eq_true h0
  rw[if_pos h0]
  simp only[Dl,e,JZ,zfill,zobs,Yo,Yp,List.set_cons_zero,List.set_cons_succ,Uaj,Zb,seval,Za,men]
  try rfl
 have e0:=eq_false h0
 rw[if_neg h0]
 by_cases h1:w=ZD 49
 ·have e:=eq_true h1
  rw[if_pos h1]
  simp only[Dl,e0,e,JZ,zfill,zobs,Yo,Yp,List.set_cons_zero,List.set_cons_succ,Uaj,Zb,seval,Za,men]
  try rfl
 have e1:=eq_false h1
 rw[if_neg h1]
 by_cases h2:w=ZD 124
 ·have e:=eq_true h2
  rw[if_pos h2]
  simp only[Dl,e0,e1,e,JZ,zfill,zobs,Yo,Yp,List.set_cons_zero,List.set_cons_succ,Uaj,Zb,seval,Za,men]
  try rfl
 have e2:=eq_false h2
 rw[if_neg h2]
 by_cases h3:w=⟨#[124,124]⟩
 ·have e:=eq_true h3
  rw[if_pos h3]
  simp only[Dl,e0,e1,e2,e,JZ,zfill,zobs,Yo,Yp,List.set_cons_zero,List.set_cons_succ,Uaj,Zb,seval,Za,men]
  try rfl
 have e3:=eq_false h3
 rw[if_neg h3]
 simp only[Dl,e0,e1,e2,e3,Zb,seval,Za,men]
 refine Zf (ZhJ w 64) ?_
 by_cases g0:fb w=some 64
 ·rw[if_pos g0,if_pos g0,decide_eq_true g0]
  simp only[Zb,seval,Za,men]
  refine Zf (ZFz (Vk w) (by omega)) ?_
  simp only[JZ,zfill,zobs,Yo,Yp,List.set_cons_zero,List.set_cons_succ,Uaj,Zb,seval,Za,men]
  try rfl
 rw[if_neg g0,if_neg g0,decide_eq_false g0]
 simp only[Zb,seval,Za,men]
 refine Zf (ZhJ w 47) ?_
 by_cases g1:fb w=some 47
 ·rw[if_pos g1,if_pos g1,decide_eq_true g1]
  simp only[JZ,zfill,zobs,Yo,Yp,List.set_cons_zero,List.set_cons_succ,Uaj,Uai,Zb,seval,Za,men]
  try rfl
 rw[if_neg g1,if_neg g1,decide_eq_false g1]
 simp only[Zb,seval,Za,men]
 refine Zf (ZhJ w 43) ?_
 by_cases g2:fb w=some 43
 ·rw[if_pos g2,if_pos g2,decide_eq_true g2]
  simp only[JZ,zfill,zobs,Yo,Yp,List.set_cons_zero,List.set_cons_succ,Uaj,Uai,Zb,seval,Za,men]
  try rfl
 rw[if_neg g2,if_neg g2,decide_eq_false g2]
 simp only[Zb,seval,Za,men]
 refine Zf (ZFu w (ZD 58) (by omega)) ?_
 simp only[Zb,seval,Za,men]
 refine Zf (ZFD sig (JU w (ZD 58)).1 hn) ?_
 by_cases g3:(JU w (ZD 58)).2=⟨#[]⟩
 ·have e4:=eq_true g3
  rw[if_pos g3]
  simp only[e4,ne_eq,not_true_eq_false,JZ,zfill,zobs,Yo,Yp,List.set_cons_zero,List.set_cons_succ,Uaj,Uai,Zb,seval,Za,men]
  try rfl
 ·have e4:=eq_false g3
  rw[if_neg g3]
  simp only[e4,ne_eq,not_false_eq_true,JZ,zfill,zobs,Yo,Yp,List.set_cons_zero,List.set_cons_succ,Uaj,Uai,Zb,seval,Za,men]
  refine Zf (ZoR (JU w (ZD 58)).2 44 (by omega)) ?_
  simp only[JZ,zfill,zobs,Yo,Yp,List.set_cons_zero,List.set_cons_succ,Uaj,Uai,Zb,seval,Za,men]
  try rfl
open Classical in
noncomputable def Q5(sig:List TControl)(w:ByteArray):Bool:=dc (UD sig w)
noncomputable def zS(sig:List TControl)(w:ByteArray):TTermStep:=if w=⟨#[]⟩ then ⟨0,0,0,[]⟩ else Z5 ZU sig w
set_option maxHeartbeats 1000000 in
theorem ZFT(sig:List TControl)(w:ByteArray)(hn:sig.length<=4294967296)(hs:w.size<=2000000)(lvl:Nat)(S:Zc):Sem Uch Zfo lvl [.tr (.sl (sig.map Zr)),iS w] S (.tu [JZ (zS sig w),iB (Q5 sig w)]) S:=by
 refine Zi ZzX (by simp [JZ,low,men,Za]) ?_
 have z:=ZhI (s:=w)
 have zc:=ZhK (s:=w) (sep:=ZD 58)
 have st:∀ c r,bl w=c::r->fb w=some c:=fun c r h=>by unfold fb;rw[h];rfl
 unfold zS
 by_cases hw:w=⟨#[]⟩
 ·have e:=eq_true hw
  have hb:Q5 sig w=false:=Zt fun g=>g.1 hw
  rw[if_pos hw,hb]
  simp only[Xq,e,JZ,zfill,zobs,Yo,Yp,List.set_cons_zero,List.set_cons_succ,Uaj,Uai,Zb,seval,Za,men]
  try rfl
 have ew:=eq_false hw
 rw[if_neg hw]
 unfold Z5
 by_cases h0:w=ZD 48
 ·have e:=eq_true h0
  have hb:Q5 sig w=true:=ZY ⟨hw,.inl h0⟩
  rw[if_pos h0,hb]
  simp only[Xq,ew,e,JZ,zfill,zobs,Yo,Yp,List.set_cons_zero,List.set_cons_succ,Uaj,Uai,Zb,seval,Za,men]
  try rfl
 have e0:=eq_false h0
 rw[if_neg h0]
 by_cases h1:w=ZD 49
 ·have e:=eq_true h1
  have hb:Q5 sig w=true:=ZY ⟨hw,.inr (.inl h1)⟩
  rw[if_pos h1,hb]
  simp only[Xq,ew,e0,e,JZ,zfill,zobs,Yo,Yp,List.set_cons_zero,List.set_cons_succ,Uaj,Uai,Zb,seval,Za,men]
  try rfl
 have e1:=eq_false h1
 rw[if_neg h1]
 by_cases h2:w=ZD 124
 ·have e:=eq_true h2
  have hb:Q5 sig w=true:=ZY ⟨hw,.inr (.inr (.inl h2))⟩
  rw[if_pos h2,hb]
  simp only[Xq,ew,e0,e1,e,JZ,zfill,zobs,Yo,Yp,List.set_cons_zero,List.set_cons_succ,Uaj,Uai,Zb,seval,Za,men]
  try rfl
 have e2:=eq_false h2
 rw[if_neg h2]
 by_cases h3:w=⟨#[124,124]⟩
 ·have e:=eq_true h3
  have hb:Q5 sig w=true:=ZY ⟨hw,.inr (.inr (.inr (.inl h3)))⟩
  rw[if_pos h3,hb]
  simp only[Xq,ew,e0,e1,e2,e,JZ,zfill,zobs,Yo,Yp,List.set_cons_zero,List.set_cons_succ,Uaj,Uai,Zb,seval,Za,men]
  try rfl
 have e3:=eq_false h3
 rw[if_neg h3]
 have hpos:0<(bl w).length:=by
  cases e:bl w with
  | nil=>exact absurd (Vw (by rw[e];rfl)) hw
  | cons x r=>simp
 obtain⟨x0,gb,gf⟩:∃ x0:UInt8,w.data.toList[0]? = some x0/\fb w=some x0:=⟨(bl w)[0]'hpos,Uah hpos,Uah hpos⟩
 have hz1:1<=w.size:=by rw[<-JB];omega
 have hne:∀ c:UInt8,fb w≠some c->((x0.toNat:Int)=c.toNat)=False:=fun c h=>eq_false fun q=>h (by rw[gf,u8_inj.1 q])
 have hye:∀ c:UInt8,fb w=some c->((x0.toNat:Int)=c.toNat)=True:=fun c h=>eq_true (by rw[gf] at h;rw[UaC h])
 by_cases g0:fb w=some 64
 ·have k0:((x0.toNat:Int)=64)=True:=hye 64 g0
  have hb:Q5 sig w=(ZU (Vk w)).isSome:=by
   cases e:(ZU (Vk w)).isSome
   ·refine Zt fun g=>?_
    rcases g.2 with h | h | h | h | h | h | h | h
    ·exact h0 h
    ·exact h1 h
    ·exact h2 h
    ·exact h3 h
    ·rw[e] at h;cases h.2
    ·rw[g0] at h;revert h;decide
    ·rw[g0] at h;revert h;decide
    ·exact h.1 g0
   ·exact ZY ⟨hw,.inr (.inr (.inr (.inr (.inl ⟨g0,e⟩))))⟩
  rw[if_pos g0,hb]
  simp only[Xq,ew,e0,e1,e2,e3,gb,k0,hz1,Zb,seval,Za,men]
  refine Zf (ZFJ (Vk w) (by omega)) ?_
  simp only[JZ,zfill,zobs,Yo,Yp,List.set_cons_zero,List.set_cons_succ,Uaj,Uai,Zb,seval,Za,men]
  try rfl
 have k0:((x0.toNat:Int)=64)=False:=hne 64 g0
 rw[if_neg g0]
 by_cases g1:fb w=some 47
 ·have k1:((x0.toNat:Int)=47)=True:=hye 47 g1
  have hb:Q5 sig w=true:=ZY ⟨hw,.inr (.inr (.inr (.inr (.inr (.inl g1)))))⟩
  rw[if_pos g1,hb]
  simp only[Xq,ew,e0,e1,e2,e3,gb,k0,k1,hz1,JZ,zfill,zobs,Yo,Yp,List.set_cons_zero,List.set_cons_succ,Uaj,Uai,Zb,seval,Za,men]
  try rfl
 have k1:((x0.toNat:Int)=47)=False:=hne 47 g1
 rw[if_neg g1]
 by_cases g2:fb w=some 43
 ·have k2:((x0.toNat:Int)=43)=True:=hye 43 g2
  have hb:Q5 sig w=true:=ZY ⟨hw,.inr (.inr (.inr (.inr (.inr (.inr (.inl g2))))))⟩
  rw[if_pos g2,hb]
  simp only[Xq,ew,e0,e1,e2,e3,gb,k0,k1,k2,hz1,JZ,zfill,zobs,Yo,Yp,List.set_cons_zero,List.set_cons_succ,Uaj,Uai,Zb,seval,Za,men]
  try rfl
 have k2:((x0.toNat:Int)=43)=False:=hne 43 g2
 rw[if_neg g2]
 have hb:Q5 sig w=decide (0<=Wl sig (JU w (ZD 58)).1):=by
  by_cases hc:0<=Wl sig (JU w (ZD 58)).1
  ·rw[decide_eq_true hc]
   exact ZY ⟨hw,.inr (.inr (.inr (.inr (.inr (.inr (.inr ⟨g0,g1,g2,hc⟩))))))⟩
  ·rw[decide_eq_false hc]
   refine Zt fun g=>?_
   rcases g.2 with h | h | h | h | h | h | h | h
   ·exact h0 h
   ·exact h1 h
   ·exact h2 h
   ·exact h3 h
   ·exact g0 h.1
   ·exact g1 h
   ·exact g2 h
   ·exact hc h.2.2.2
 rw[hb]
 simp only[Xq,ew,e0,e1,e2,e3,gb,k0,k1,k2,Zb,seval,Za,men]
 refine Zf (ZFB w 58 (by omega)) ?_
 simp only[Zb,seval,Za,men]
 refine Zf (ZFF sig (JU w (ZD 58)).1 hn) ?_
 by_cases g3:(JU w (ZD 58)).2=⟨#[]⟩
 ·have e4:=eq_true g3
  rw[if_pos g3]
  simp only[e4,ne_eq,not_true_eq_false,JZ,zfill,zobs,Yo,Yp,List.set_cons_zero,List.set_cons_succ,Uaj,Uai,Zb,seval,Za,men]
  try rfl
 ·have e4:=eq_false g3
  rw[if_neg g3]
  simp only[e4,ne_eq,not_false_eq_true,JZ,zfill,zobs,Yo,Yp,List.set_cons_zero,List.set_cons_succ,Uaj,Uai,Zb,seval,Za,men]
  refine Zf (ZoS (JU w (ZD 58)).2 44 (by omega)) ?_
  simp only[JZ,zfill,zobs,Yo,Yp,List.set_cons_zero,List.set_cons_succ,Uaj,Uai,Zb,seval,Za,men]
  try rfl
theorem ZdU{w:ByteArray}{c:UInt8}(h:fb w=some c)(h1:c≠48)(h2:c≠49)(h3:c≠124):w≠ZD 48/\w≠ZD 49/\w≠ZD 124/\w≠⟨#[124,124]⟩:=by
 refine⟨?_,?_,?_,?_⟩ <;> intro e <;> rw[e] at h <;> injection h with h
 ·exact h1 h.symm
 ·exact h2 h.symm
 ·exact h3 h.symm
 ·exact h3 h.symm
theorem ZdV{w:ByteArray}{c:UInt8}(h:fb w=some c):w≠⟨#[]⟩:=fun e=>by rw[e] at h;cases h
theorem ZFU{ns:List ByteArray}(h:∀ n∈ns,Jw n):(if JI ns (ZD 44)=⟨#[]⟩ then [] else JC (JI ns (ZD 44)) 44)=ns:=by
 cases ns with
 | nil=>exact if_pos rfl
 | cons x r =>
  have hx:=(h x (by simp)).2.1
  have hne:JI (x::r) (ZD 44)≠⟨#[]⟩:=fun e=>by
   have:=congrArg bl e
   rw[UC] at this
   have h2:=congrArg List.length this
   rw[Uad,JB,show (bl (⟨#[]⟩:ByteArray)).length=0 from rfl] at h2
   omega
  rw[if_neg hne]
  exact ZoL (by rw[UC];rfl) (XG (Wm (h x (by simp))) (by unfold QF;decide)) fun p hp=>XG (Wm (h p (by simp [hp]))) (by unfold QF;decide)
theorem Zpc{n x:ByteArray}(h:Jw n):∃ c,fb (n++x)=some c/\97<=c.toNat:=by
 cases e:bl n with
 | nil =>
  have:=JB n
  have h2:=h.2.1
  rw[e] at this
  simp at this
  omega
 | cons c r =>
  refine⟨c,by unfold fb;rw[YM,e];rfl,(h.1 c (by show c∈bl n;rw[e];simp)).1⟩
theorem ZhL{sig:List TControl}{c p:Int}{ns:List ByteArray}:Jg sig ⟨3,c,p,ns⟩=(Vx sig c++ZD 58)++JI ns (ZD 44):=by
 have e:Jg sig ⟨3,c,p,ns⟩=jn (ZD 44) (Vx sig c++ZD 58) ns ns.length:=rfl
 rw[e,ZdR (Ual _),Uau (Ual _)]
theorem W0{c:UInt8}(h:97<=c.toNat){b:UInt8}(hb:b.toNat<97):c≠b:=fun e=>by rw[e] at h;omega
theorem ZFV{rd:ByteArray->Option Int}(hr:RD rd){sig:List TControl}(hs:Z2 sig){s:TTermStep}(h:stepOK sig s):Z5 rd sig (Jg sig s)=s:=by
 obtain⟨k,c,p,ns⟩:=s
 have hk:=h.kind
 have c0:=h.ctl0;have p0:=h.site0;have n0:=h.non;have n1:=h.one;have hp:=h.site;have hn:=h.nms;have hc:=h.ctl
 simp only at hk c0 p0 n0 n1 hp hn hc
 have nil:∀{l:List ByteArray},l.length=0->l=[]:=fun h=>UaS.1 h
 by_cases h0:k=0
 ·subst h0
  rw[show Jg sig ⟨0,c,p,ns⟩=ZD 48 from rfl,c0 (by decide),p0 (by decide),nil (n0 (by decide) (by decide) (by decide))]
  exact if_pos rfl
 by_cases h1:k=1
 ·subst h1
  rw[show Jg sig ⟨1,c,p,ns⟩=ZD 49 from rfl,c0 (by decide),p0 (by decide),nil (n0 (by decide) (by decide) (by decide))]
  unfold Z5
  rw[if_neg (by decide),if_pos rfl]
 by_cases h4:k=4
 ·subst h4
  rw[show Jg sig ⟨4,c,p,ns⟩=ZD 124 from rfl,c0 (by decide),p0 (by decide),nil (n0 (by decide) (by decide) (by decide))]
  unfold Z5
  rw[if_neg (by decide),if_neg (by decide),if_pos rfl]
 by_cases h5:k=5
 ·subst h5
  rw[show Jg sig ⟨5,c,p,ns⟩=⟨#[124,124]⟩ from rfl,c0 (by decide),p0 (by decide),nil (n0 (by decide) (by decide) (by decide))]
  unfold Z5
  rw[if_neg (by decide),if_neg (by decide),if_neg (by decide),if_pos rfl]
 by_cases h2:k=2
 ·subst h2
  have q:=hp rfl
  have e:Jg sig ⟨2,c,p,ns⟩=ZD 64++JH p:=by rw[Zbk q.1];rfl
  have f:fb (ZD 64++JH p)=some 64:=Wn
  obtain⟨a1,a2,a3,a4⟩:=ZdU f (by decide) (by decide) (by decide)
  rw[e,c0 (by decide),nil (n0 (by decide) (by decide) (by decide))]
  unfold Z5
  rw[if_neg a1,if_neg a2,if_neg a3,if_neg a4,if_pos f,ZdT,hr p ⟨by omega,by omega⟩]
  rfl
 by_cases h6:k=6
 ·subst h6
  obtain⟨n,rfl⟩:=Qj (n1 (.inl rfl))
  have e:Jg sig ⟨6,c,p,[n]⟩=ZD 47++n:=rfl
  have f:fb (ZD 47++n)=some 47:=Wn
  obtain⟨a1,a2,a3,a4⟩:=ZdU f (by decide) (by decide) (by decide)
  rw[e,c0 (by decide),p0 (by decide)]
  unfold Z5
  rw[if_neg a1,if_neg a2,if_neg a3,if_neg a4,if_neg (by rw[f];decide),if_pos f,ZdT]
 by_cases h7:k=7
 ·subst h7
  obtain⟨n,rfl⟩:=Qj (n1 (.inr rfl))
  have e:Jg sig ⟨7,c,p,[n]⟩=ZD 43++n:=rfl
  have f:fb (ZD 43++n)=some 43:=Wn
  obtain⟨a1,a2,a3,a4⟩:=ZdU f (by decide) (by decide) (by decide)
  rw[e,c0 (by decide),p0 (by decide)]
  unfold Z5
  rw[if_neg a1,if_neg a2,if_neg a3,if_neg a4,if_neg (by rw[f];decide),if_neg (by rw[f];decide),if_pos f,ZdT]
 have h3:k=3:=by omega
 subst h3
 have q:=hc rfl
 have hnm:=ZhD hs q.1 (show c<sig.length by omega)
 have hcu:JU ((Vx sig c++ZD 58)++JI ns (ZD 44)) (ZD 58)=(Vx sig c,JI ns (ZD 44)) :=
  ZoO (p:=[]) (q:=[]) (c:=58) (by rw[YM,YM,UaA]) rfl (XG (Wm hnm) (by unfold QF;decide)) (by simp)
 obtain⟨b,f,fge⟩:=Zpc (x:=ZD 58++JI ns (ZD 44)) hnm
 rw[<-ZhG] at f
 obtain⟨a1,a2,a3,a4⟩:=ZdU f (W0 fge (by decide)) (W0 fge (by decide)) (fun e=>by
  have:=(hnm.1 b (by
   have hb:(bl (Vx sig c))[0]? = some b:=by
    unfold fb at f
    rw[YM,YM,UaA,Uav (by rw[JB];exact hnm.2.1)] at f
    exact f
   exact Uae hb)).2
  rw[e] at this
  revert this
  decide)
 rw[ZhL,p0 (by decide)]
 unfold Z5
 rw[if_neg a1,if_neg a2,if_neg a3,if_neg a4,if_neg (fun e=>W0 fge (by decide) (UaC (f.symm.trans e))),if_neg (fun e=>W0 fge (by decide) (UaC (f.symm.trans e))),if_neg (fun e=>W0 fge (by decide) (UaC (f.symm.trans e))),hcu,Zo2 hs q.1 (by omega),ZFU hn]
theorem ZFW{sig:List TControl}(hs:Z2 sig){s:TTermStep}(h:stepOK sig s):UD sig (Jg sig s):=by
 obtain⟨k,c,p,ns⟩:=s
 have hk:=h.kind
 have n1:=h.one;have hp:=h.site;have hc:=h.ctl
 simp only at hk n1 hp hc
 by_cases h0:k=0
 ·subst h0;exact⟨by show ZD 48≠⟨#[]⟩;decide,.inl rfl⟩
 by_cases h1:k=1
 ·subst h1;exact⟨by show ZD 49≠⟨#[]⟩;decide,.inr (.inl rfl)⟩
 by_cases h4:k=4
 ·subst h4;exact⟨by show ZD 124≠⟨#[]⟩;decide,.inr (.inr (.inl rfl))⟩
 by_cases h5:k=5
 ·subst h5;exact⟨by show (⟨#[124,124]⟩:ByteArray)≠⟨#[]⟩;decide,.inr (.inr (.inr (.inl rfl)))⟩
 by_cases h2:k=2
 ·subst h2
  have q:=hp rfl
  have e:Jg sig ⟨2,c,p,ns⟩=ZD 64++JH p:=by rw[Zbk q.1];rfl
  rw[e]
  exact⟨ZdV Wn,.inr (.inr (.inr (.inr (.inl ⟨Wn,by rw[ZdT,Zo0 p ⟨by omega,by omega⟩];rfl⟩))))⟩
 by_cases h6:k=6
 ·subst h6
  obtain⟨n,rfl⟩:=Qj (n1 (.inl rfl))
  exact⟨ZdV (c:=47) Wn,.inr (.inr (.inr (.inr (.inr (.inl Wn)))))⟩
 by_cases h7:k=7
 ·subst h7
  obtain⟨n,rfl⟩:=Qj (n1 (.inr rfl))
  exact⟨ZdV (c:=43) Wn,.inr (.inr (.inr (.inr (.inr (.inr (.inl Wn))))))⟩
 have h3:k=3:=by omega
 subst h3
 have q:=hc rfl
 have hnm:=ZhD hs q.1 (show c<sig.length by omega)
 have hcu:JU ((Vx sig c++ZD 58)++JI ns (ZD 44)) (ZD 58)=(Vx sig c,JI ns (ZD 44)) :=
  ZoO (p:=[]) (q:=[]) (c:=58) (by rw[YM,YM,UaA]) rfl (XG (Wm hnm) (by unfold QF;decide)) (by simp)
 obtain⟨b,f,fge⟩:=Zpc (x:=ZD 58++JI ns (ZD 44)) hnm
 rw[<-ZhG] at f
 rw[ZhL]
 refine⟨ZdV f,.inr (.inr (.inr (.inr (.inr (.inr (.inr ⟨fun e=>W0 fge (by decide) (UaC (f.symm.trans e)),fun e=>W0 fge (by decide) (UaC (f.symm.trans e)),fun e=>W0 fge (by decide) (UaC (f.symm.trans e)),?_⟩))))))⟩
 rw[hcu,Zo2 hs q.1 (by omega)]
 exact q.1
theorem ZFX{ns:List ByteArray}(h:∀ n∈ns,Jw n):(32:UInt8) ∉ bl (JI ns (ZD 44)):=by
 cases ns with
 | nil=>decide
 | cons x r =>
  rw[UC]
  intro hm
  rcases Uap.1 hm with hm | hm
  ·exact XG (Wm (h x (by simp))) (by unfold QF;decide) hm
  ·obtain⟨y,hy,hm⟩:=List.mem_flatMap.1 hm
   rcases Uap.1 hm with hm | hm
   ·revert hm;decide
   ·exact XG (Wm (h y (by simp [hy]))) (by unfold QF;decide) hm
theorem Zpd{sig:List TControl}(hs:Z2 sig){s:TTermStep}(h:stepOK sig s):(32:UInt8) ∉ bl (Jg sig s):=by
 obtain⟨k,c,p,ns⟩:=s
 have hk:=h.kind
 have n1:=h.one;have hp:=h.site;have hc:=h.ctl;have hn:=h.nms
 simp only at hk n1 hp hc hn
 have one:∀{c:UInt8} {x:ByteArray},c≠32->(32:UInt8) ∉ bl x->(32:UInt8) ∉ bl (ZD c++x):=fun h1 h2 hm=>by
  rw[YM] at hm
  rcases Uap.1 hm with hm | hm
  ·exact h1 (UaN.1 hm).symm
  ·exact h2 hm
 by_cases h0:k=0
 ·subst h0;rw[show Jg sig ⟨0,c,p,ns⟩=ZD 48 from rfl];decide
 by_cases h1:k=1
 ·subst h1;rw[show Jg sig ⟨1,c,p,ns⟩=ZD 49 from rfl];decide
 by_cases h4:k=4
 ·subst h4;rw[show Jg sig ⟨4,c,p,ns⟩=ZD 124 from rfl];decide
 by_cases h5:k=5
 ·subst h5;rw[show Jg sig ⟨5,c,p,ns⟩=⟨#[124,124]⟩ from rfl];decide
 by_cases h2:k=2
 ·subst h2
  have q:=hp rfl
  rw[show Jg sig ⟨2,c,p,ns⟩=ZD 64++JH p by rw[Zbk q.1];rfl]
  exact one (by decide) (XG (ZFK ⟨by omega,by omega⟩) (by unfold QF;decide))
 by_cases h6:k=6
 ·subst h6
  obtain⟨n,rfl⟩:=Qj (n1 (.inl rfl))
  exact one (c:=47) (by decide) (XG (Wm (hn n (by simp))) (by unfold QF;decide))
 by_cases h7:k=7
 ·subst h7
  obtain⟨n,rfl⟩:=Qj (n1 (.inr rfl))
  exact one (c:=43) (by decide) (XG (Wm (hn n (by simp))) (by unfold QF;decide))
 have h3:k=3:=by omega
 subst h3
 have q:=hc rfl
 rw[ZhL,YM,YM]
 intro hm
 rcases Uap.1 hm with hm | hm
 ·rcases Uap.1 hm with hm | hm
  ·exact XG (Wm (ZhD hs q.1 (show c<sig.length by omega))) (by unfold QF;decide) hm
  ·revert hm;decide
 ·exact ZFX hn hm
def QG(sig:List TControl)(s:ByteArray)(t:List TTermStep):Prop:=(Yk sig t).isSome=true/\JI (Ym sig t) (ZD 32)=s
theorem ZhM{sig:List TControl}{t:List TTermStep}(h:(Yk sig t).isSome=true):Z2 sig/\t.length<=60/\t≠[]/\∀ s∈t,stepOK sig s:=by
 obtain⟨b,hb⟩:=Uan.1 h
 obtain⟨h1,h2,_⟩:=Zbi hb
 refine⟨h1,h2,fun e=>?_,ZdS hb⟩
 subst e
 rw[UA (fun x m hr=>by simp [JP] at hr)] at hb
 cases hb
theorem ZFY{sig:List TControl}{s:ByteArray}{t:List TTermStep}(h:QG sig s t):JC s 32=Ym sig t:=by
 obtain⟨hs,_,hne,hst⟩:=ZhM h.1
 rw[<-h.2]
 cases t with
 | nil=>exact absurd rfl hne
 | cons x r =>
  exact ZoL (by rw[show Ym sig (x::r)=Jg sig x::r.map (Jg sig) from rfl,UC];rfl) (Zpd hs (hst x (by simp))) fun p hp=>by
   obtain⟨y,hy,rfl⟩:=Uaq.1 hp
   exact Zpd hs (hst y (by simp [hy]))
theorem ZhN{rd:ByteArray->Option Int}(hr:RD rd){sig:List TControl}{s:ByteArray}{t:List TTermStep}(h:QG sig s t):(JC s 32).map (Z5 rd sig)=t/\(∀ w∈JC s 32,UD sig w)/\(JC s 32).length<=60:=by
 obtain⟨hs,hl,_,hst⟩:=ZhM h.1
 rw[ZFY h]
 refine⟨?_,fun w hw=>?_,by rw[Ym,Uaa];exact hl⟩
 ·unfold Ym
  rw[UbU]
  conv=>rhs;rw[<-Ucg t]
  exact UaF fun x hx=>ZFV hr hs (hst x hx)
 ·obtain⟨x,hx,rfl⟩:=Uaq.1 hw
  exact ZFW hs (hst x hx)
open Classical in
noncomputable def YP(sig:List TControl)(s:ByteArray):List TTermStep:=if h:∃ t,QG sig s t then h.choose else []
noncomputable def ZdW(sig:List TControl)(s:ByteArray):Bool:=dc (∃ t,QG sig s t)
theorem Wo{sig:List TControl}{s:ByteArray}(h:∀ t,¬ QG sig s t):YP sig s=[]/\ZdW sig s=false:=by
 have hn:¬ ∃ t,QG sig s t:=fun⟨t,ht⟩=>h t ht
 exact⟨dif_neg hn,Zt hn⟩
theorem ZhO{sig:List TControl}{s:ByteArray}{t:List TTermStep}(h:QG sig s t)(hu:∀ t',QG sig s t'->t=t'):YP sig s=t/\ZdW sig s=true:=by
 have hy:∃ t,QG sig s t:=⟨t,h⟩
 refine⟨?_,ZY hy⟩
 unfold YP
 rw[dif_pos hy]
 exact(hu _ hy.choose_spec).symm
theorem ZFZ{rd:ByteArray->Option Int}{sig:List TControl}{w:ByteArray}:(Z5 rd sig w).names=[]\/(Z5 rd sig w).names=[Vk w]\/(Z5 rd sig w).names=JC (JU w (ZD 58)).2 44:=by
 unfold Z5
 repeat' split
 all_goals first
  | exact .inl rfl
  | exact .inr (.inl rfl)
  | exact .inr (.inr rfl)
theorem ZdX{rd:ByteArray->Option Int}{sig:List TControl}{w:ByteArray}{n:Nat}(h:w.size+1<=n):Yx n (Z5 rd sig w):=by
 have z:=ZhI (s:=w)
 have zc:=(ZhK (s:=w) (sep:=ZD 58)).2
 have hl:=Zhw (s:=(JU w (ZD 58)).2) (b:=44)
 have hz:=fun p hp=>ZdJ (s:=(JU w (ZD 58)).2) (b:=44) (p:=p) hp
 unfold Yx
 rcases ZFZ (rd:=rd) (sig:=sig) (w:=w) with e | e | e <;> rw[e]
 ·exact⟨Ubi _,fun y hy=>by cases hy⟩
 ·exact⟨by show 1<=n;omega,fun y hy=>by rw[UaN] at hy;rw[hy];omega⟩
 ·exact⟨by omega,fun y hy=>by have:=hz y hy;omega⟩
set_option maxHeartbeats 1000000 in
theorem Zpe(sig:List TControl)(s:ByteArray)(hn:sig.length<=4294967296)(hbs:∀ y∈sig,Jc 4294967296 y)(hs:s.size<=1048576)(lvl:Nat)(S:Zc):Sem Uch Zce lvl [.tr (.sl (sig.map Zr)),iS s] S (.tu [.ow 4 ((YP sig s).map Zv) true,iB (ZdW sig s)]) S:=by
 refine Zi ZzU (by simp [low,men,Za]) ?_
 have hrt:∀ t,QG sig s t->(JC s 32).map (Z5 JS sig)=t/\(∀ w∈JC s 32,UD sig w)/\(JC s 32).length<=60:=fun t ht=>ZhN ZoY ht
 have hz:=fun p hp=>ZdJ (s:=s) (b:=32) (p:=p) hp
 have hl:=Zhw (s:=s) (b:=32)
 simp only[Zks,Uaa,Zb,seval,Za,men]
 refine Zf (ZoR s 32 (by omega)) ?_
 generalize JC s 32=ws at hrt hz hl
 have hcl:∀ j,j<=ws.length->((ws.take j).map (Z5 JS sig)).length=j:=fun j hj=>by rw[Uaa,Uam];omega
 simp only[Uaa,Zb,seval,Za,men]
 refine ZJ (α:=Unit) ws.length (fun j _=>[(6,.hd (lvl,352) [] 0 j none j),(15,iI j)]) (fun j _=>[(352,.ar 4 (((ws.take j).map (Z5 JS sig)).map Zv) true j 0)]) (fun j _=>j<=60) () (by simp only[Zb,seval,Za,men]) (by (simp only[Zb,seval,Za,men]) <;> rfl) (Ubi _) ?_
 intro j _ hj hA
 simp only[Uaa,Zb,seval,Za,men]
 refine Zs (fun hlt=>?_) (fun hge=>?_)
 ·have hja:j<ws.length:=by omega
  have ga:=Z6 (c:=fun n:ByteArray=>[ts n]) hja
  have hzj:=hz _ (Uak hja)
  by_cases h60:j=60
  ·have e:=eq_true (show (j:Int)=60 by omega)
   obtain⟨v1,v2⟩:=Wo (sig:=sig) (s:=s) fun t ht=>by have:=(hrt t ht).2.2;omega
   rw[v1,v2]
   simp only[ga,e,Uaj,Zb,seval,Za,men]
   try rfl
  ·have e:=eq_false (show ¬ (j:Int)=60 by omega)
   have hl1:=hcl j hj
   have hmx:max j (j+1)=j+1:=by omega
   have st1:((ws.take j).map (Z5 JS sig)).map Zv++[[Tr.v (Value.int .i64 (Z5 JS sig ws[j]).kind_),Tr.v (Value.int .i64 (Z5 JS sig ws[j]).control),Tr.v (Value.int .i64 (Z5 JS sig ws[j]).site),Tr.sl (rS (Z5 JS sig ws[j]).names)]]=((ws.take (j+1)).map (Z5 JS sig)).map Zv:=by
    rw[Uaf hja,Uay,Uay]
    rfl
   simp only[ga,e,Uaa,Zb,seval,Za,men]
   refine Zf (ZFS sig ws[j] hn (by omega)) ?_
   simp only[JZ,hl1,hmx,st1,Uaa,Zb,seval,Za,men]
   exact⟨by omega,by rw[Zg];omega,Zu () hja rfl (by show j+1<=60;omega)⟩
 ·have hj1:j=ws.length:=by omega
  subst hj1
  rw[show ws.take ws.length=ws from Uaw]
  have hc0:cut ((ws.map (Z5 JS sig)).map Zv) 0 ws.length=(ws.map (Z5 JS sig)).map Zv:=Yh (by rw[Uaa,Uaa])
  have q:=ZFk sig (ws.map (Z5 JS sig)) hn hbs (by rw[Uaa];omega) (fun y hy=>by
   obtain⟨w,hw,rfl⟩:=Uaq.1 hy
   exact ZdX (by have:=hz w hw;omega))
  obtain⟨V,hV⟩:∃ V,V=WY sig (ws.map (Z5 JS sig)):=⟨_,rfl⟩
  rw[<-hV] at q
  simp only[hc0,Uaa,Zb,seval,Za,men]
  refine Zf q ?_
  cases hv:Yk sig (ws.map (Z5 JS sig)) with
  | none =>
   obtain⟨v1,v2⟩:=Wo (sig:=sig) (s:=s) fun t ht=>by
    have h1:=(hrt t ht).1
    rw[h1] at hv
    have:=ht.1
    rw[hv] at this
    cases this
   rw[v1,v2]
   simp only[Zw,Option.isSome_none,Uaj,Uaa,Zb,seval,Za,men]
   try rfl
  | some b =>
   obtain⟨hsg,hl60,_,_⟩:=Zbi hv
   simp only[Zw,hc0,Option.isSome_some,Uaa,Zb,seval,Za,men]
   refine Zf (ZFP sig (ws.map (Z5 JS sig)) hsg (ZdS hv) hl60) ?_
   by_cases hT:JI (Ym sig (ws.map (Z5 JS sig))) (ZD 32)=s
   ·have eT:=eq_true hT
    obtain⟨v1,v2⟩:=ZhO (sig:=sig) (s:=s) (t:=ws.map (Z5 JS sig)) ⟨by rw[hv];rfl,hT⟩ fun t ht=>(hrt t ht).1
    rw[v1,v2]
    simp only[eT,ne_eq,not_true_eq_false,Uaa,Zb,seval,Za,men]
    try rfl
   ·have eT:=eq_false hT
    obtain⟨v1,v2⟩:=Wo (sig:=sig) (s:=s) fun t ht=>hT (by rw[(hrt t ht).1];exact ht.2)
    rw[v1,v2]
    simp only[eT,ne_eq,not_false_eq_true,Uaj,Uaa,Zb,seval,Za,men]
    try rfl
set_option maxHeartbeats 1000000 in
theorem ZF0(sig:List TControl)(s:ByteArray)(hn:sig.length<=4294967296)(hbs:∀ y∈sig,Jc 4294967296 y)(hs:s.size<=1048576)(lvl:Nat)(S:Zc):Sem Uch Zfj lvl [.tr (.sl (sig.map Zr)),iS s] S (.tu [.ow 4 ((YP sig s).map Zv) true,iB (ZdW sig s)]) S:=by
 refine Zi ZzT (by simp [low,men,Za]) ?_
 have hrt:∀ t,QG sig s t->(JC s 32).map (Z5 ZU sig)=t/\(∀ w∈JC s 32,UD sig w)/\(JC s 32).length<=60:=fun t ht=>ZhN Zo0 ht
 have hz:=fun p hp=>ZdJ (s:=s) (b:=32) (p:=p) hp
 have hl:=Zhw (s:=s) (b:=32)
 have hbs2:∀ y∈sig,Jc 9223372036854775807 y:=fun y hy=>UaI (hbs y hy) (by omega)
 simp only[Zkr,Uaa,Zb,seval,Za,men]
 refine Zf (ZgI sig (by omega) hbs2) ?_
 by_cases hsg:Z2 sig
 rotate_left
 ·obtain⟨v1,v2⟩:=Wo (sig:=sig) (s:=s) fun t ht=>hsg (ZhM ht.1).1
  rw[v1,v2,Zt hsg]
  simp only[Uaj,Zb,seval,Za,men]
  try rfl
 rw[ZY hsg]
 simp only[Zb,seval,Za,men]
 refine Zf (ZoS s 32 (by omega)) ?_
 generalize JC s 32=ws at hrt hz hl
 have hcl:∀ j,j<=ws.length->((ws.take j).map (Z5 ZU sig)).length=j:=fun j hj=>by rw[Uaa,Uam];omega
 simp only[Uaa,Zb,seval,Za,men]
 refine ZJ (α:=Unit) (min ws.length 61) (fun j _=>[(6,.hd (lvl,416) [] 0 j none j),(8,iI j)]) (fun j _=>[(416,.ar 4 (((ws.take j).map (Z5 ZU sig)).map Zv) true j 0)]) (fun j _=>∀ i (hi:i<ws.length),i<j->UD sig ws[i]) () (by simp only[Zb,seval,Za,men]) (by (simp only[Zb,seval,Za,men]) <;> rfl) (fun i _ h=>absurd h (Ua2 i)) ?_
 intro j _ hj hA
 by_cases hlt:j<ws.length/\j<=60
 ·have hja:=hlt.1
  have e1:=eq_true (show (j:Int)<(ws.length:Int) by omega)
  have e2:=eq_true (show (j:Int)<=60 by omega)
  have ga:=Z6 (c:=fun n:ByteArray=>[ts n]) hja
  have hzj:=hz _ (Uak hja)
  simp only[e1,e2,ga,hja,Uaa,Zb,seval,Za,men]
  refine Zf (ZFT sig ws[j] hn (by omega)) ?_
  cases hb:Q5 sig ws[j]
  ·obtain⟨v1,v2⟩:=Wo (sig:=sig) (s:=s) fun t ht=>by
    have:=(hrt t ht).2.1 _ (Uak hja)
    exact dc_not.1 hb this
   rw[v1,v2]
   simp only[JZ,Uaj,Uaa,Zb,seval,Za,men]
   try rfl
  ·have hb2:UD sig ws[j]:=dc_iff.1 hb
   have hzs:zS sig ws[j]=Z5 ZU sig ws[j]:=if_neg hb2.1
   have hl1:=hcl j (by omega)
   have hmx:max j (j+1)=j+1:=by omega
   have st1:((ws.take j).map (Z5 ZU sig)).map Zv++[[Tr.v (Value.int .i64 (Z5 ZU sig ws[j]).kind_),Tr.v (Value.int .i64 (Z5 ZU sig ws[j]).control),Tr.v (Value.int .i64 (Z5 ZU sig ws[j]).site),Tr.sl (rS (Z5 ZU sig ws[j]).names)]]=((ws.take (j+1)).map (Z5 ZU sig)).map Zv:=by
    rw[Uaf hja,Uay,Uay]
    rfl
   rw[hzs]
   simp only[JZ,hl1,hmx,st1,zfill,zobs,Yo,Yp,List.set_cons_zero,List.set_cons_succ,Uaj,Uai,Uaa,Zb,seval,Za,men]
   exact⟨by omega,by rw[Zg];omega,Zu () (by omega) rfl fun i hi hij=>by
    by_cases e:i=j
    ·subst e;exact hb2
    ·exact hA i hi (by omega)⟩
 ·have hl1:=hcl j (by omega)
  have hc0:cut (((ws.take j).map (Z5 ZU sig)).map Zv) 0 j=((ws.take j).map (Z5 ZU sig)).map Zv:=Yh (by rw[Uaa,hl1])
  have hall:∀ t,QG sig s t->(ws.take j).map (Z5 ZU sig)=t:=fun t ht=>by
   obtain⟨h1,_,h3⟩:=hrt t ht
   rw[Uau (by omega)]
   exact h1
  have q:=ZFl sig ((ws.take j).map (Z5 ZU sig)) hn hbs (by omega) (fun y hy=>by
   obtain⟨w,hw,rfl⟩:=Uaq.1 hy
   exact ZdX (by have:=hz w (UaX hw);omega))
  generalize hT0:(ws.take j).map (Z5 ZU sig)=T at hl1 hc0 hall q
  obtain⟨V,hV⟩:∃ V,V=WY sig T:=⟨_,rfl⟩
  rw[<-hV] at q
  have cases2:(¬ j<ws.length)\/(j<ws.length/\¬ j<=60):=by omega
  rcases cases2 with c1 | ⟨c1,c2⟩
  ·have e1:=eq_false (show ¬ (j:Int)<(ws.length:Int) by omega)
   simp only[e1,hc0,Uaa,Zb,seval,Za,men]
   refine⟨by omega,Zf q ?_⟩
   cases hv:Yk sig T with
   | none =>
    obtain⟨v1,v2⟩:=Wo (sig:=sig) (s:=s) fun t ht=>by
     have h1:=hall t ht
     rw[h1] at hv
     have:=ht.1
     rw[hv] at this
     cases this
    rw[v1,v2]
    simp only[Zw,Option.isSome_none,Uaj,Uaa,Zb,seval,Za,men]
    try rfl
   | some b =>
    obtain⟨_,hl60,_,_⟩:=Zbi hv
    simp only[Zw,hc0,Option.isSome_some,Uaa,Zb,seval,Za,men]
    refine⟨by omega,Zf (Zo4 sig T hsg (ZdS hv) hl60) ?_⟩
    rw[ZhH]
    by_cases hT:JI (Ym sig T) (ZD 32)=s
    ·have eT:=eq_true hT
     obtain⟨v1,v2⟩:=ZhO (sig:=sig) (s:=s) (t:=T) ⟨by rw[hv];rfl,hT⟩ hall
     rw[v1,v2]
     simp only[eT,ne_eq,not_true_eq_false,Uaa,Zb,seval,Za,men]
     try first | rfl | exact hl1.symm
    ·have eT:=eq_false hT
     obtain⟨v1,v2⟩:=Wo (sig:=sig) (s:=s) fun t ht=>hT (by rw[hall t ht];exact ht.2)
     rw[v1,v2]
     simp only[eT,ne_eq,not_false_eq_true,Uaj,Uaa,Zb,seval,Za,men]
     try rfl
  ·have e1:=eq_true (show (j:Int)<(ws.length:Int) by omega)
   have e2:=eq_false (show ¬ (j:Int)<=60 by omega)
   simp only[e1,e2,hc0,Uaa,Zb,seval,Za,men]
   refine⟨by omega,Zf q ?_⟩
   cases hv:Yk sig T with
   | none =>
    obtain⟨v1,v2⟩:=Wo (sig:=sig) (s:=s) fun t ht=>by
     have h1:=hall t ht
     rw[h1] at hv
     have:=ht.1
     rw[hv] at this
     cases this
    rw[v1,v2]
    simp only[Zw,Option.isSome_none,Uaj,Uaa,Zb,seval,Za,men]
    try rfl
   | some b =>
    obtain⟨_,hl60,_,_⟩:=Zbi hv
    simp only[Zw,hc0,Option.isSome_some,Uaa,Zb,seval,Za,men]
    refine⟨by omega,Zf (Zo4 sig T hsg (ZdS hv) hl60) ?_⟩
    rw[ZhH]
    by_cases hT:JI (Ym sig T) (ZD 32)=s
    ·have eT:=eq_true hT
     obtain⟨v1,v2⟩:=ZhO (sig:=sig) (s:=s) (t:=T) ⟨by rw[hv];rfl,hT⟩ hall
     rw[v1,v2]
     simp only[eT,ne_eq,not_true_eq_false,Uaa,Zb,seval,Za,men]
     try first | rfl | exact hl1.symm
    ·have eT:=eq_false hT
     obtain⟨v1,v2⟩:=Wo (sig:=sig) (s:=s) fun t ht=>hT (by rw[hall t ht];exact ht.2)
     rw[v1,v2]
     simp only[eT,ne_eq,not_false_eq_true,Uaj,Uaa,Zb,seval,Za,men]
     try rfl
end Go.Fd

namespace Go.Fd
open Go.Proofs.Tryz renaming prog->Uch
theorem Zbm{P:Program}{x:String×DataW Unit}{rest:List (String×DataW Unit)}{w:World}(h:laidMet P (x::rest) w):laidMet P rest w:=by
 obtain⟨n,d⟩:=x
 obtain⟨ps,⟨g,t,cs,fuel,p,q,_,_,_,_,hr,rfl⟩,hn,hc⟩:=h
 exact⟨q,hr,(List.nodup_append.1 hn).2.1,fun b off hb=>hc b off (List.mem_append_right _ hb)⟩
theorem Zpf : "*" ++ ("errors.errorString")=("*errors.errorString"):=by decide
theorem Zpg(u:TypeId) (h:Uch.typeName? 3 u=some ("*errors.errorString")):u=230 :=
 typeName_ptr_named (nm:=("errors.errorString")) (by rw[Zpf];kernel_rfl) (by kernel_rfl) (by decide) u (by rw[Zpf];exact h)
theorem ZF1{a b c:String×DataW Unit}{R S:List UInt8}{rest:List (String×DataW Unit)}{w:World}
  (h:laidMet Uch (a::b::("internal/strconv.uint64pow10",Lib.tabData .u64 Lib.pow10Tab)::c::("strconv.ErrRange",.iface ("*errors.errorString") (.ptr (.agg [.lit (.string R)])))::("strconv.ErrSyntax",.iface ("*errors.errorString") (.ptr (.agg [.lit (.string S)])))::rest) w)
  (hs:w.ShapedOpen Uch):Tabs.good w:=by
 have h2:=Zbm (Zbm h)
 have h4:=Zbm (Zbm h2)
 have h5:=Zbm h4
 have t1:=Lib.tabIs_of_head (g:=3) (t:=246) (e:=174) (n:=20) (by kernel_rfl) (by kernel_rfl) Proofs.Tryz.underlying246 Proofs.Tryz.underlying174 (by kernel_rfl) (by kernel_rfl) h2
 have t2:=Go.Proofs.cell_of_shapedOpen_int (g:=0) (k:=.i64) (t:=3) (zero:=#[.int .i64 0]) hs (of_decide_eq_true (by kernel_rfl)) (by kernel_rfl) rfl (by kernel_rfl) (by kernel_rfl) Proofs.Tryz.underlying3
 obtain⟨a1,_,e1,_⟩:=laid_sentinel h4 (g:=2) (ti:=93) (tp:=230) (te:=232) (by kernel_rfl) (by kernel_rfl) Proofs.Tryz.underlying93 Zpg Proofs.Tryz.underlying230 Proofs.Tryz.underlying232 rfl rfl Proofs.Tryz.underlying9 (by kernel_rfl) (by kernel_rfl)
 obtain⟨a2,_,e2,_⟩:=laid_sentinel h5 (g:=1) (ti:=93) (tp:=230) (te:=232) (by kernel_rfl) (by kernel_rfl) Proofs.Tryz.underlying93 Zpg Proofs.Tryz.underlying230 Proofs.Tryz.underlying232 rfl rfl Proofs.Tryz.underlying9 (by kernel_rfl) (by kernel_rfl)
 exact⟨t1,t2,⟨_,_,e2⟩,⟨_,_,e1⟩⟩
section
variable {H:Type} {enc:TypeId×Value->H}
theorem ZF2{a:Assume}{C:Checked}{os:Os}{f:FuncId}{fn:Func}{s:ChangeSpec}{conds:List PathCond}{Vr fresh handsOn again:Bool}{X:World->Array Value->Prop}
  (hX:∀(w w':World) (args:Array Value),w.heap=w'.heap->X w args->X w' args)
  (own:ownKnob C.prog.godebug=none) (started:os.Started) (noInit:C.prog.inits.idxOf? f=none) (hfn:C.prog.funcs[f]? = some fn)
  (witness:∃(w:World) (tape:Tape) (i:Input),w.os=os/\(w.forCall tape i).Shaped C.prog/\i.vars=[]/\Input.okWide C.prog (w.forCall tape i) .any w.heap.size f i /\
   ((s.pre enc C.prog fn conds Vr (w.forCall tape i).memory i.args/\X (w.forCall tape i).memory i.args)/\sizedMet enc C.prog fn (OpenSpec.ofChange s) Vr (w.forCall tape i).memory i.args)/\a.holds C.prog (lone (Frame.enter C.prog f i.args .normal) [] (w.forCall tape i)))
  (contract:∀(W:World) (base:Nat) (args:Array Value) (ds gs:List (DataW H)) (before:List MemPlace),
   (∀(j:Nat) t v,fn.params[j]? = some t->args[j]? = some v->Value.okWide C.prog W .any base t v) ->
   DataW.Whole enc C.prog fn.params.toList s.vars Vr W args.toList ds gs before->X W args->W.ShapedOpen C.prog ->
   Calls C.prog f args W fun e W' => ∃ v,e = .returned v/\s.post enc C.prog fn Vr fresh handsOn again W args v W') :
  ReturnsInHanded a C os f .any (fun w args=>(s.pre enc C.prog fn conds Vr w args/\X w args)/\sizedMet enc C.prog fn (OpenSpec.ofChange s) Vr w args) (s.post enc C.prog fn Vr fresh handsOn again):=by
 refine returnsInHanded_of_calls own started noInit witness ?_
 intro w tape i _ hsh _ hok hpre _
 obtain⟨_,_,_,fn',hfn',_,_,_,_,hval⟩:=hok
 have e:fn'=fn:=UaC (hfn'.symm.trans hfn)
 subst e
 obtain⟨⟨⟨ds,gs,before,hw,_⟩,hx⟩,_⟩:=hpre
 have hw':=DataW.Whole.of_heap (w':=w.forCall tape i) (by rfl) hw
 refine(contract (w.forCall tape i) w.heap.size i.args ds gs before hval hw' (hX _ _ _ (by rfl) hx) hsh).mono fun e W' ⟨v,he,hp⟩=>?_
 subst he
 exact ChangeSpec.post_blind hp
end
def Zph:F2 :=
 { nt:=104,res:=[.t 4 [0]],body:=(.sq (rg [om 4 (.k (.bool false))]) (.sq (.sq (rg [qM 16 1,oo 17 (.lg (.t 16)),oo 18 (.bi .gtr 0 (.t 17) (i6 1048576))]) (.cd (.t 18) (.sq (rg [om 4 (.k (.bool true))]) (.rt)) (.sk))) (.sq (rg [om 5 (i6 1048576)]) (.sq (rg [qM 19 0,qM 20 5,oo 21 (.ca .pure false (.f Zfi) [.t 19,.t 20]),qM 5 21]) (.sq (.sq (rg [qM 22 5,oo 23 (.bi .lss 0 (.t 22) (i6 0))]) (.cd (.t 23) (.sq (rg [om 4 (.k (.bool true))]) (.rt)) (.sk))) (.sq (rg [qM 25 0,oo 26 (.ca .pure false (.f U7) [.t 25]),qM 27 1,oo 28 (.ca .pure false (.f Zfj) [.t 26,.t 27]),qM 24 28,qE 29 0 24,qE 30 1 24,qM 6 29,qM 7 30]) (.sq (rg [qM 31 0,oo 32 (.ca .pure true (.f U7) [.t 31]),qM 8 32]) (.sq (rg [qM 34 8,qM 35 1,oo 36 (.ca .pure true (.f Zce) [.t 34,.t 35]),qM 33 36,qE 37 0 33,qE 38 1 33,qM 9 37,qM 10 38]) (.sq (.sq (rg [qM 39 9,qM 40 6,oo 41 (.ca .pure false (.f Zaw) [.t 39,.t 40]),oo 42 (.nt (.t 41)),qM 43 42,og 44 43 false (.mv (.t 10) none),og 45 43 false (.mv (.t 7) none),og 46 43 false (.bi .neq 2 (.t 44) (.t 45)),oo 47 (.pk (.t 43) (.k (.bool true)) (.t 46))]) (.cd (.t 47) (.sq (rg [om 4 (.k (.bool false))]) (.rt)) (.sk))) (.sq (.sq (rg [qM 48 8,qM 49 0,oo 50 (.ca .pure false (.f U7) [.t 49]),oo 51 (.ca .pure false (.f Zfk) [.t 48,.t 50]),oo 52 (.nt (.t 51))]) (.cd (.t 52) (.sq (rg [om 4 (.k (.bool false))]) (.rt)) (.sk))) (.sq (rg [om 11 (i6 1)]) (.sq (rg [qM 53 8,qM 54 11,oo 55 (.ca .any true (.f Zfl) [.t 53,.t 54]),qM 11 55]) (.sq (.sq (rg [qM 56 11,oo 57 (.bi .lss 0 (.t 56) (i6 0)),qM 58 57,og 59 58 false (.mv (.t 9) none),og 60 58 false (.mv (.t 6) none),og 61 58 false (.ca .pure false (.f Zaw) [.t 59,.t 60]),og 62 58 false (.nt (.t 61)),oo 63 (.pk (.t 58) (.k (.bool true)) (.t 62)),qM 64 63,og 65 64 false (.mv (.t 10) none),og 66 64 false (.mv (.t 7) none),og 67 64 false (.bi .neq 2 (.t 65) (.t 66)),oo 68 (.pk (.t 64) (.k (.bool true)) (.t 67))]) (.cd (.t 68) (.sq (rg [om 4 (.k (.bool false))]) (.rt)) (.sk))) (.sq (rg [om 12 (i6 1)]) (.sq (rg [qM 69 9,qM 70 12,oo 71 (.ca .any true (.f Zfm) [.t 69,.t 70]),qM 12 71]) (.sq (rg [om 13 (i6 1)]) (.sq (rg [qM 72 9,qM 73 13,oo 74 (.ca .pure false (.f Zcf) [.t 72,.t 73]),qM 13 74]) (.sq (.sq (rg [qM 75 13,oo 76 (.bi .lss 0 (.t 75) (i6 0))]) (.cd (.t 76) (.sq (rg [om 4 (.k (.bool false))]) (.rt)) (.sk))) (.sq (.sq (rg [qM 77 13,qM 78 12,qB 79 .neq 77 78]) (.cd (.t 79) (.sq (rg [om 4 (.k (.bool false))]) (.rt)) (.sk))) (.sq (rg [qM 81 0,oo 82 (.ca .pure false (.f U7) [.t 81]),qM 83 1,oo 84 (.ca .pure false (.f Zce) [.t 82,.t 83]),qM 80 84,qE 85 0 80,qE 86 1 80,qM 14 85,qM 15 86]) (.sq (.sq (rg [qM 87 14,qM 88 6,oo 89 (.ca .pure false (.f Zaw) [.t 87,.t 88]),oo 90 (.nt (.t 89)),qM 91 90,og 92 91 false (.mv (.t 15) none),og 93 91 false (.mv (.t 7) none),og 94 91 false (.bi .neq 2 (.t 92) (.t 93)),oo 95 (.pk (.t 91) (.k (.bool true)) (.t 94))]) (.cd (.t 95) (.sq (rg [om 4 (.k (.bool false))]) (.rt)) (.sk))) (.sq (rg [om 13 (i6 1)]) (.sq (rg [qM 96 9,qM 97 13,oo 98 (.ca .pure false (.f Zcf) [.t 96,.t 97]),qM 13 98]) (.sq (.sq (rg [qM 99 13,oo 100 (.bi .lss 0 (.t 99) (i6 0))]) (.cd (.t 100) (.sq (rg [om 4 (.k (.bool false))]) (.rt)) (.sk))) (.sq (.sq (rg [qM 101 13,qM 102 12,qB 103 .neq 101 102]) (.cd (.t 103) (.sq (rg [om 4 (.k (.bool false))]) (.rt)) (.sk))) (.sq (rg [om 4 (.k (.bool true))]) (.rt))))))))))))))))))))))))))) }
theorem ZF3:Zj Uch Zkk Zph=true:=by kernel_rfl
def Zpi:F2 :=
 { nt:=35,res:=[.t 4 [0]],body:=(.sq (rg [om 4 (i6 0)]) (.sq (.sq (rg [om 5 (i6 0)]) (.bl 0 (.lp [0,1,5] [] (.sq (.sq (rg [qM 6 5,qM 7 0,qN 8 7,qB 9 .lss 6 8]) (.cd (.t 9) (.sk) (.ex 0))) (.sq (.bl 1 (.sq (rg [qM 12 0,qM 13 5,qM 14 1,oo 15 (.ca .pure false (.f Zay) [.t 14]),qI 16 3 12 13,qF 17 0 16,
 Zh (.st 1 (.t 17) (.t 15))]) (.sq (rg [qM 18 1,oo 19 (.bi .add 0 (.t 18) (i6 1)),qM 1 19]) (.sq (rg [qM 20 0,qM 21 5,qM 22 1,qI 23 3 20 21,qF 24 1 23,
 Zh (.st 1 (.t 24) (.t 22))]) (.sq (rg [qM 25 1,oo 26 (.bi .add 0 (.t 25) (i6 1)),qM 1 26]) (.sq (rg [qM 27 0,qM 28 5,qM 29 1,qI 30 3 27 28,qF 31 2 30,
 Zh (.st 1 (.t 31) (.t 29))])
 (rg [qM 32 1,oo 33 (.bi .add 0 (.t 32) (i6 1)),qM 1 33])))))))
 (rg [qM 10 5,oo 11 (.bi .add 0 (.t 10) (i6 1)),qM 5 11])))))) (.sq (rg [qM 34 1,qM 4 34]) (.rt)))) }
theorem ZF4:Zj Uch Zfl Zpi=true:=by kernel_rfl
def Zpj:F2 :=
 { nt:=41,res:=[.t 4 [0]],body:=(.sq (rg [om 4 (i6 0)]) (.sq (.sq (rg [om 5 (i6 0)]) (.bl 0 (.lp [0,1,5] [] (.sq (.sq (rg [qM 6 5,qM 7 0,qN 8 7,qB 9 .lss 6 8]) (.cd (.t 9) (.sk) (.ex 0))) (.sq (.bl 1 (.sq (rg [qM 12 0,qM 13 5,qM 14 1,qI 15 4 12 13,qF 16 0 15,
 Zh (.st 1 (.t 16) (.t 14))]) (.sq (rg [qM 17 1,oo 18 (.bi .add 0 (.t 17) (i6 1)),qM 1 18]) (.sq (rg [qM 19 0,qM 20 5,qM 21 1,qI 22 4 19 20,qF 23 1 22,
 Zh (.st 1 (.t 23) (.t 21))]) (.sq (rg [qM 24 1,oo 25 (.bi .add 0 (.t 24) (i6 1)),qM 1 25]) (.sq (rg [qM 26 0,qM 27 5,qM 28 1,qI 29 4 26 27,qF 30 2 29,
 Zh (.st 1 (.t 30) (.t 28))]) (.sq (rg [qM 31 1,oo 32 (.bi .add 0 (.t 31) (i6 1)),qM 1 32])
 (rg [qM 33 0,qM 34 5,qI 35 4 33 34,qF 36 3 35,qL 37 36,qM 38 1,oo 39 (.ca .any true (.f Zfx) [.t 37,.t 38]),qM 1 39]))))))))
 (rg [qM 10 5,oo 11 (.bi .add 0 (.t 10) (i6 1)),qM 5 11])))))) (.sq (rg [qM 40 1,qM 4 40]) (.rt)))) }
theorem ZF5:Zj Uch Zfm Zpj=true:=by kernel_rfl
def Zpk:F2 :=
 { nt:=49,res:=[.t 4 [0]],body:=(.sq (rg [om 4 (i6 0)]) (.sq (.sq (rg [om 5 (i6 0)]) (.bl 0 (.lp [0,1,5] [] (.sq (.sq (rg [qM 6 5,qM 7 0,qN 8 7,qB 9 .lss 6 8]) (.cd (.t 9) (.sk) (.ex 0))) (.sq (.bl 1 (.sq (.sq (rg [qM 12 0,qM 13 5,qI 14 4 12 13,qF 15 0 14,qL 16 15,qM 17 1,qB 18 .neq 16 17]) (.cd (.t 18) (.sq (rg [om 4 (i6 (-1))]) (.rt)) (.sk))) (.sq (rg [qM 19 1,oo 20 (.bi .add 0 (.t 19) (i6 1)),qM 1 20]) (.sq (.sq (rg [qM 21 0,qM 22 5,qI 23 4 21 22,qF 24 1 23,qL 25 24,qM 26 1,qB 27 .neq 25 26]) (.cd (.t 27) (.sq (rg [om 4 (i6 (-1))]) (.rt)) (.sk))) (.sq (rg [qM 28 1,oo 29 (.bi .add 0 (.t 28) (i6 1)),qM 1 29]) (.sq (.sq (rg [qM 30 0,qM 31 5,qI 32 4 30 31,qF 33 2 32,qL 34 33,qM 35 1,qB 36 .neq 34 35]) (.cd (.t 36) (.sq (rg [om 4 (i6 (-1))]) (.rt)) (.sk))) (.sq (rg [qM 37 1,oo 38 (.bi .add 0 (.t 37) (i6 1)),qM 1 38]) (.sq (rg [qM 39 0,qM 40 5,qI 41 4 39 40,qF 42 3 41,qL 43 42,qM 44 1,oo 45 (.ca .pure false (.f Zfy) [.t 43,.t 44]),qM 1 45]) (.sq (rg [qM 46 1,oo 47 (.bi .lss 0 (.t 46) (i6 0))]) (.cd (.t 47) (.sq (rg [om 4 (i6 (-1))]) (.rt)) (.sk)))))))))))
 (rg [qM 10 5,oo 11 (.bi .add 0 (.t 10) (i6 1)),qM 5 11])))))) (.sq (rg [qM 48 1,qM 4 48]) (.rt)))) }
theorem ZF6:Zj Uch Zcf Zpk=true:=by kernel_rfl
def Zpl:F2 :=
 { nt:=20,res:=[.t 2 [0]],body:=(.sq (rg [om 2 (.k (.string ⟨#[]⟩))]) (.sq (.sq (rg [qM 4 0,oo 5 (.bi .leq 0 (.t 4) (i6 0))]) (.cd (.t 5) (.sq (rg [om 2 (.k (.string ⟨#[109,48]⟩))]) (.rt)) (.sk))) (.sq (rg [om 3 (.k (.string ⟨#[]⟩))]) (.sq (.bl 0 (.lp [0,3] [] (.sq (.sq (rg [qM 6 0,oo 7 (.bi .gtr 0 (.t 6) (i6 0))]) (.cd (.t 7) (.sk) (.ex 0))) (.bl 1 (.sq (rg [qM 8 0,oo 9 (.bi .rem 0 (.t 8) (i6 10)),oo 10 (.bi .add 0 (i6 48) (.t 9)),oo 11 (.cv (.int .u8) (.t 10)),oo 12 (.bs 1 1 [.int .u8 0] [(0,.t 11)]),oo 13 (.sb (.t 12)),qM 14 3,qB 15 .add 13 14,qM 3 15])
 (rg [qM 16 0,oo 17 (.bi .quo 0 (.t 16) (i6 10)),qM 0 17])))))) (.sq (rg [qM 18 3,oo 19 (.bi .add 0 (.k (.string ⟨#[109]⟩)) (.t 18)),qM 2 19]) (.rt)))))) }
theorem ZF7:Zj Uch Zay Zpl=true:=by kernel_rfl
def Zpm:F2 :=
 { nt:=20,res:=[.t 4 [0]],body:=(.sq (rg [om 4 (i6 0)]) (.sq (.sq (rg [om 5 (i6 0)]) (.bl 0 (.lp [0,1,5] [] (.sq (.sq (rg [qM 6 5,qM 7 0,qN 8 7,qB 9 .lss 6 8]) (.cd (.t 9) (.sk) (.ex 0))) (.sq (.bl 1 (.sq (rg [qM 12 0,qM 13 5,qM 14 1,oo 15 (.ca .pure false (.f Zay) [.t 14]),qI 16 1 12 13,
 Zh (.st 1 (.t 16) (.t 15))])
 (rg [qM 17 1,oo 18 (.bi .add 0 (.t 17) (i6 1)),qM 1 18])))
 (rg [qM 10 5,oo 11 (.bi .add 0 (.t 10) (i6 1)),qM 5 11])))))) (.sq (rg [qM 19 1,qM 4 19]) (.rt)))) }
theorem ZF8:Zj Uch Zfx Zpm=true:=by kernel_rfl
def Zpn:F2 :=
 { nt:=22,res:=[.t 4 [0]],body:=(.sq (rg [om 4 (i6 0)]) (.sq (.sq (rg [om 5 (i6 0)]) (.bl 0 (.lp [0,1,5] [] (.sq (.sq (rg [qM 6 5,qM 7 0,qN 8 7,qB 9 .lss 6 8]) (.cd (.t 9) (.sk) (.ex 0))) (.sq (.bl 1 (.sq (.sq (.rg (some 0) [qM 12 0,qM 13 5,qI 14 1 12 13,qL 15 14,qM 16 1,oo 17 (.ca .pure false (.f Zay) [.t 16]),qB 18 .neq 15 17]) (.cd (.t 18) (.sq (rg [om 4 (i6 (-1))]) (.rt)) (.sk)))
 (rg [qM 19 1,oo 20 (.bi .add 0 (.t 19) (i6 1)),qM 1 20])))
 (rg [qM 10 5,oo 11 (.bi .add 0 (.t 10) (i6 1)),qM 5 11])))))) (.sq (rg [qM 21 1,qM 4 21]) (.rt)))) }
theorem ZF9:Zj Uch Zfy Zpn=true:=by kernel_rfl
set_option maxRecDepth 20000
abbrev ZdY(_:Int)(k:Int):Int:=k
def mt(q:Nat)(o:ByteArray):ByteArray:=if q=0 then o else mt (q / 10) (⟨#[UInt8.ofNat (48+q % 10)]⟩++o)
 termination_by q
 decreasing_by omega
theorem ZGa{q:Nat}{o:ByteArray}(h:0<q):mt q o=mt (q / 10) (⟨#[UInt8.ofNat (48+q % 10)]⟩++o):=by
 rw[mt,if_neg (by omega)]
theorem ZGb{o:ByteArray}:mt 0 o=o:=by rw[mt,if_pos rfl]
def ZdZ(k:Int):ByteArray:=if k<=0 then ⟨#[109,48]⟩ else ⟨#[109]⟩++mt k.toNat ⟨#[]⟩
theorem ZhP(k:Int)(h:k<=4611686018427387904)(lvl:Nat)(S:Zc):Sem Uch Zay lvl [iI k] S (iS (ZdZ k)) S:=by
 refine Zi ZF7 trivial ?_
 simp only[Zpl,Zb,seval,Za,men]
 unfold ZdZ
 refine Zs (fun h0=>?_) (fun h0=>?_)
 ·rw[if_pos h0]
 ·rw[if_neg h0]
  obtain⟨K,hK⟩:∃ K:Nat,k=K:=⟨k.toNat,by omega⟩
  subst hK
  rw[Int.toNat_natCast]
  refine Yn (α:=Nat×ByteArray) K (fun j y=>⟨lvl,[(0,iI y.1),(3,iS y.2)],[],S⟩) (fun j y=>y.1+j<=K/\mt y.1 y.2=mt K ⟨#[]⟩/\y.1*10 ^ y.2.size<=K/\y.2.size<=19) (K,⟨#[]⟩) ⟨by simp only[Zb,seval,Za,men],by simp only[Zb,seval,Za,men]⟩ ⟨Ual _,rfl,Ucc (Nat.mul_one K),(by decide:(0:Nat)<=19)⟩ ?_
  intro j y hj hA
  obtain⟨q,o⟩:=y
  obtain⟨h1,h2,h3,h4⟩:=hA
  simp only at h1 h2 h3 h4
  simp only[Zb,seval,Za,men]
  refine Zs (fun hq=>?_) (fun hq=>?_)
  ·have hq0:0<q:=by omega
   have hby:Vb [[Tr.v (Value.int IntKind.u8 (48+(q:Int) % 10))]]=some [UInt8.ofNat (48+q % 10)]:=by
    have e:(48+(q:Int) % 10).toNat=48+q % 10:=by omega
    simp only[cut,List.replicate_one,List.set_cons_zero,Ubw,List.take_succ_cons,List.take_zero,Vb,Option.map_some,e]
   have h5:o.size<19:=by
    apply Ubg
    intro hc
    have e:o.size=19:=by omega
    rw[e] at h3
    have:1*10 ^ 19<=q*10 ^ 19:=Uaz _ hq0
    omega
   have h6:q / 10*10 ^ (o.size+1)<=K:=by
    refine UaI ?_ h3
    rw[Nat.pow_succ,Ubs (10 ^ o.size) 10,<-Nat.mul_assoc]
    exact Uaz _ (by omega)
   rw[hby]
   simp only[Zb,seval,Za,men]
   have hs:(ByteArray.mk #[UInt8.ofNat (48+q % 10)]++o).size=o.size+1:=by
    rw[UaD,UbC];rfl
   have e8:ZW .u8 (48+(q:Int) % 10):=by
    constructor
    ·show (0:Int)<=_;omega
    ·show _<=(255:Int);omega
   refine⟨by rw[Zg];omega,e8,?_,by rw[Zg];omega,Zu (q / 10,ByteArray.mk #[UInt8.ofNat (48+q % 10)]++o) (by omega) ?_ ⟨by simp only;omega,?_,?_,?_⟩⟩
   ·show 1+o.size<=4294967296
    omega
   ·rfl
   ·rw[<-h2,ZGa hq0]
   ·simp only[hs];exact h6
   ·simp only[hs];omega
  ·have:q=0:=by omega
   subst this
   rw[<-h2,ZGb]
   refine⟨?_,rfl⟩
   show 1+o.size<=4294967296
   omega
abbrev QH(_:ByteArray)(k:Int):ByteArray:=ZdZ k
abbrev JV(_:ByteArray):Nat:=1
theorem ZGc:MarkS Uch Zfx (fun n:ByteArray=>[ts n]) QH JV (fun x=>x.size<=4294967296):=by
 intro a k lvl S id p es r0 kk hw ver st cap hid hv hst h0 hk hl hB
 have hne:id.1≠lvl:=by omega
 have hgp:∀ r,getp (JA es p r) p=some r:=fun r=>Zao hv
 refine Zi ZF8 trivial ?_
 simp only[Zpm,Zb,seval,Za,men]
 refine Yn (α:=Unit) a.length (fun j _=>⟨lvl,[(0,.hd id p 0 a.length cap st),(1,iI (kJ JV a k j)),(5,iI j)],[],Zl S id (.ar kk (JA es p ((lJ QH JV a k j).map (fun n:ByteArray=>[ts n]))) true hw ver)⟩) (fun _ _=>True) () ⟨by simp only[Jv hne,Zb,seval,Za,men],by (simp only[Zap,Ze9,Zb,seval,Za,men]) <;> rfl⟩ trivial ?_
 intro j _ hj _
 simp only[Uaa,Zb,seval,Za,men]
 refine Zs (fun hlt=>?_) (fun hge=>?_)
 ·have hja:j<a.length:=by omega
  obtain⟨R,hjR,hR,hR'⟩:=Zfb QH JV (fun n:ByteArray=>[ts n]) (k:=k) hja
  have hge2:=Zar JV (a:=a) (k:=k) (j:=j+1)
  rw[Xm JV hja] at hge2
  have hge3:=Zas JV (a:=a) (k:=k) (j:=j)
  rw[hR]
  try simp only[JV] at hge2
  try simp only[JE hne,Qt hne,Qw,YF,hst,hgp,Ui hjR,U4 hv hjR,Uax,hja,Jv hne,Uaa,tv,Zb,seval,Za,men]
  refine Zf (ZhP (kJ JV a k j) (by omega)) ?_
  simp only[JE hne,Qt hne,Qw,YF,hst,hgp,Ui hjR,U4 hv hjR,Uax,hja,Jv hne,Uaa,tv,Zb,seval,Za,men]
  refine⟨by rw[Zg];omega,⟨by rw[Zg];omega,Zu () hja ?_ trivial⟩⟩
  rw[Xm JV hja,hR']
  simp only[JV,QH,tv,Int.natCast_add,Int.natCast_one,Ub8]
  try rfl
 ·have:j=a.length:=by omega
  subst this
  rw[Zaq,Zfa]
  exact⟨rfl,rfl⟩
def Zd0(x:TControl)(k:Int):TControl:={ name:=ZdZ (k),ports:=k+1,kind_:=k+1+1 }
def VO(x:TControl):Nat:=1+1+1
theorem ZGd:MarkS Uch Zfl Zr Zd0 VO (Jc 4294967296):=by
 intro a k lvl S id p es r0 kk hw ver st cap hid hv hst h0 hk hl hB
 have hne:id.1≠lvl:=by omega
 have hgp:∀ r,getp (JA es p r) p=some r:=fun r=>Zao hv
 refine Zi ZF4 trivial ?_
 simp only[Zpi,Zb,seval,Za,men]
 refine Yn (α:=Unit) a.length (fun j _=>⟨lvl,[(0,.hd id p 0 a.length cap st),(1,iI (kJ VO a k j)),(5,iI j)],[],Zl S id (.ar kk (JA es p ((lJ Zd0 VO a k j).map Zr)) true hw ver)⟩) (fun _ _=>True) () ⟨by simp only[Jv hne,Zb,seval,Za,men],by (simp only[Zap,Ze9,Zb,seval,Za,men]) <;> rfl⟩ trivial ?_
 intro j _ hj _
 simp only[Uaa,Zb,seval,Za,men]
 refine Zs (fun hlt=>?_) (fun hge=>?_)
 ·have hja:j<a.length:=by omega
  obtain⟨R,hjR,hR,hR'⟩:=Zfb Zd0 VO Zr (k:=k) hja
  have hge2:=Zar VO (a:=a) (k:=k) (j:=j+1)
  rw[Xm VO hja] at hge2
  have hge3:=Zas VO (a:=a) (k:=k) (j:=j)
  rw[hR]
  try simp only[VO] at hge2
  have hb:=hB _ (Uak hja)
  have b0:(a[j]).name.size<=4294967296:=hb
  try simp only[JE hne,Qt hne,Qw,YF,hst,hgp,Ui hjR,U4 hv hjR,Uax,hja,Jv hne,Uaa,Zr,Zb,seval,Za,men]
  refine Zf (ZhP (kJ VO a k j) (by omega)) ?_
  simp only[JE hne,Qt hne,Qw,YF,hst,hgp,Ui hjR,U4 hv hjR,Uax,hja,Jv hne,Uaa,Zr,Zb,seval,Za,men]
  refine⟨by rw[Zg];omega,⟨by rw[Zg];omega,⟨by rw[Zg];omega,⟨by rw[Zg];omega,Zu () hja ?_ trivial⟩⟩⟩⟩
  rw[Xm VO hja,hR']
  simp only[VO,Zd0,Zr,Int.natCast_add,Int.natCast_one,Ub8]
  try rfl
 ·have:j=a.length:=by omega
  subst this
  rw[Zaq,Zfa]
  exact⟨rfl,rfl⟩
def Wp(x:TTermStep)(k:Int):TTermStep:={ kind_:=k,control:=k+1,site:=k+1+1,names:=mL QH JV x.names (k+1+1+1) }
def JW(x:TTermStep):Nat:=1+1+1+nL JV x.names
theorem ZGe:MarkS Uch Zfm Zv Wp JW (Yx 4294967296):=by
 intro a k lvl S id p es r0 kk hw ver st cap hid hv hst h0 hk hl hB
 have hne:id.1≠lvl:=by omega
 have hgp:∀ r,getp (JA es p r) p=some r:=fun r=>Zao hv
 refine Zi ZF5 trivial ?_
 simp only[Zpj,Zb,seval,Za,men]
 refine Yn (α:=Unit) a.length (fun j _=>⟨lvl,[(0,.hd id p 0 a.length cap st),(1,iI (kJ JW a k j)),(5,iI j)],[],Zl S id (.ar kk (JA es p ((lJ Wp JW a k j).map Zv)) true hw ver)⟩) (fun _ _=>True) () ⟨by simp only[Jv hne,Zb,seval,Za,men],by (simp only[Zap,Ze9,Zb,seval,Za,men]) <;> rfl⟩ trivial ?_
 intro j _ hj _
 simp only[Uaa,Zb,seval,Za,men]
 refine Zs (fun hlt=>?_) (fun hge=>?_)
 ·have hja:j<a.length:=by omega
  obtain⟨R,hjR,hR,hR'⟩:=Zfb Wp JW Zv (k:=k) hja
  have hge2:=Zar JW (a:=a) (k:=k) (j:=j+1)
  rw[Xm JW hja] at hge2
  have hge3:=Zas JW (a:=a) (k:=k) (j:=j)
  rw[hR]
  try simp only[JW] at hge2
  have hb:=hB _ (Uak hja)
  obtain⟨b0,b1⟩:=hb
  try simp only[JE hne,Qt hne,Qw,YF,hst,hgp,Ui hjR,U4 hv hjR,Uax,hja,Jv hne,Uaa,Zv,Zb,seval,Za,men]
  refine⟨by rw[Zg];omega,⟨by rw[Zg];omega,⟨by rw[Zg];omega,?_⟩⟩⟩
  simp only[Vl]
  refine ZyJ ZGc hid hv (by omega) (by omega) b0 b1 hjR rfl (by simp only[Uaa]) ?_
  simp only[List.set_cons_succ,List.set_cons_zero,JE hne,Qt hne,Qw,YF,hst,hgp,Ui hjR,U4 hv hjR,Uax,hja,Jv hne,Uaa,Zv,Zb,seval,Za,men]
  refine⟨by rw[Zg];omega,Zu () hja ?_ trivial⟩
  rw[Xm JW hja,hR']
  simp only[JW,Wp,Zv,Int.natCast_add,Int.natCast_one,Ub8]
  try rfl
 ·have:j=a.length:=by omega
  subst this
  rw[Zaq,Zfa]
  exact⟨rfl,rfl⟩
def Zpo:F2 :=
 { nt:=23,res:=[.t 2 [4]],body:=(.sq (rg [om 2 (.k (.slice none 0 0))]) (.sq (rg [qM 5 0,qN 6 5,oo 7 (.ms 3 [.string ⟨#[]⟩,.int .i64 0,.int .i64 0] (.t 6)),qM 3 7]) (.sq (.sq (rg [om 4 (i6 0)]) (.bl 0 (.lp [0,3,4] [224] (.sq (.sq (rg [qM 8 4,qM 9 0,qN 10 9,qB 11 .lss 8 10]) (.cd (.t 11) (.sk) (.ex 0))) (.sq (.bl 1 (rg [qM 14 3,qM 15 4,qM 16 0,qM 17 4,qI 18 3 16 17,qS 19 3 18,oo 20 (.ca .pure true (.f Zfr) [.t 19]),qI 21 3 14 15,
 Zh (.st 3 (.t 21) (.t 20))]))
 (rg [qM 12 4,oo 13 (.bi .add 0 (.t 12) (i6 1)),qM 4 13])))))) (.sq (rg [qM 22 3,qM 2 22]) (.rt))))) }
theorem ZGf:Zj Uch U7 Zpo=true:=by kernel_rfl
def Zpp:F2 :=
 { nt:=13,res:=[.t 4 [0]],body:=(.sq (rg [oo 2 (.bt (.t 0)),om 4 (i6 0)]) (.sq (rg [qM 5 1,qF 6 0 2,qL 7 6,oo 8 (.lg (.t 7)),qB 9 .sub 5 8,qM 1 9]) (.sq (.sq (rg [qM 10 1,oo 11 (.bi .lss 0 (.t 10) (i6 0))]) (.cd (.t 11) (.sq (rg [om 4 (i6 (-1))]) (.rt)) (.sk))) (.sq (rg [qM 12 1,qM 4 12]) (.rt))))) }
theorem ZGg:Zj Uch Zfn Zpp=true:=by kernel_rfl
def Zpq:F2 :=
 { nt:=14,res:=[.c 2 (some 3) [0,0,0]],body:=(.sq (rg [oo 1 (.bt (.t 0)),oo 2 (.al [.string ⟨#[]⟩,.int .i64 0,.int .i64 0] [])]) (.sq (rg [oo 3 (.al [.string ⟨#[]⟩,.int .i64 0,.int .i64 0] [])]) (.sq (rg [qF 4 0 1,qL 5 4,qF 6 0 3,
 Zh (.st 1 (.t 6) (.t 5))]) (.sq (rg [qF 7 1 1,qL 8 7,qF 9 1 3,
 Zh (.st 1 (.t 9) (.t 8))]) (.sq (rg [qF 10 2 1,qL 11 10,qF 12 2 3,
 Zh (.st 1 (.t 12) (.t 11))]) (.sq (rg [qS 13 3 3,
 Zh (.st 3 (.t 2) (.t 13))]) (.rt))))))) }
theorem ZGh:Zj Uch Zfr Zpq=true:=by kernel_rfl
def Zpr:F2 :=
 { nt:=26,res:=[.t 4 [0]],body:=(.sq (rg [oo 2 (.bt (.t 0)),oo 3 (.bt (.t 1)),om 4 (.k (.bool false))]) (.sq (.sq (rg [qF 5 0 2,qL 6 5,qF 7 0 3,qL 8 7,qB 9 .neq 6 8]) (.cd (.t 9) (.sq (rg [om 4 (.k (.bool false))]) (.rt)) (.sk))) (.sq (.sq (rg [qF 10 1 2,qL 11 10,qF 12 1 3,qL 13 12,qB 14 .neq 11 13]) (.cd (.t 14) (.sq (rg [om 4 (.k (.bool false))]) (.rt)) (.sk))) (.sq (.sq (rg [qF 15 2 2,qL 16 15,qF 17 2 3,qL 18 17,qB 19 .neq 16 18]) (.cd (.t 19) (.sq (rg [om 4 (.k (.bool false))]) (.rt)) (.sk))) (.sq (.sq (rg [qF 20 3 2,qL 21 20,qF 22 3 3,qL 23 22,oo 24 (.ca .pure false (.f ZfI) [.t 21,.t 23]),oo 25 (.nt (.t 24))]) (.cd (.t 25) (.sq (rg [om 4 (.k (.bool false))]) (.rt)) (.sk))) (.sq (rg [om 4 (.k (.bool true))]) (.rt))))))) }
theorem ZGi:Zj Uch Zfv Zpr=true:=by kernel_rfl
def Zps:F2 :=
 { nt:=20,res:=[.t 4 [0]],body:=(.sq (rg [oo 2 (.bt (.t 0)),oo 3 (.bt (.t 1)),om 4 (.k (.bool false))]) (.sq (.sq (rg [qF 5 0 2,qL 6 5,qF 7 0 3,qL 8 7,qB 9 .neq 6 8]) (.cd (.t 9) (.sq (rg [om 4 (.k (.bool false))]) (.rt)) (.sk))) (.sq (.sq (rg [qF 10 1 2,qL 11 10,qF 12 1 3,qL 13 12,qB 14 .neq 11 13]) (.cd (.t 14) (.sq (rg [om 4 (.k (.bool false))]) (.rt)) (.sk))) (.sq (.sq (rg [qF 15 2 2,qL 16 15,qF 17 2 3,qL 18 17,qB 19 .neq 16 18]) (.cd (.t 19) (.sq (rg [om 4 (.k (.bool false))]) (.rt)) (.sk))) (.sq (rg [om 4 (.k (.bool true))]) (.rt)))))) }
theorem ZGj:Zj Uch Zfw Zps=true:=by kernel_rfl
theorem ZGk(a:List ByteArray)(k:Int)(hl:a.length<=4294967296)(hB:∀ x∈a,(fun x=>x.size<=4294967296) x)(h0:0<=k)(hk:k+nL JV a<=4611686018427387904)(lvl:Nat)(S:Zc):Sem Uch Zfy lvl [.tr (.sl (rS (mL QH JV a k))),iI k] S (iI (k+nL JV a)) S:=by
 refine Zi ZF9 trivial ?_
 simp only[Zpn,Zb,seval,Za,men]
 refine Yn (α:=Unit) a.length (fun j _=>⟨lvl,[(0,.tr (.sl (rS (mL QH JV a k)))),(1,iI (kJ JV a k j)),(5,iI j)],[],S⟩) (fun _ _=>True) () ⟨by simp only[Zb,seval,Za,men],by (simp only[Zap,Zb,seval,Za,men]) <;> rfl⟩ trivial ?_
 intro j _ hj _
 simp only[Uaa,Yd,Zb,seval,Za,men]
 refine Zs (fun hlt=>?_) (fun hge=>?_)
 ·have hja:j<a.length:=by omega
  have ga:=Zn3 (c:=(fun n:ByteArray=>[ts n])) (m:=QH) (n:=JV) (k:=k) hja
  have hge2:=Zar JV (a:=a) (k:=k) (j:=j+1)
  rw[Xm JV hja] at hge2
  have hge3:=Zas JV (a:=a) (k:=k) (j:=j)
  try simp only[JV] at hge2
  have hb:=hB _ (Uak hja)
  simp only[ga,QH,ZdY,Uax,hja,ne_eq,not_true_eq_false,Zb,seval,Za,men]
  refine Zf (ZhP (kJ JV a k j) (by omega)) ?_
  simp only[ga,QH,ZdY,Uax,hja,ne_eq,not_true_eq_false,Zb,seval,Za,men]
  refine⟨by rw[Zg];omega,⟨by rw[Zg];omega,Zu () hja ?_ trivial⟩⟩
  rw[Xm JV hja]
  simp only[JV,Int.natCast_add,Int.natCast_one,Ub8]
  try rfl
 ·have:j=a.length:=by omega
  subst this
  rw[Zaq]
theorem Zpt(a:List TTermStep)(k:Int)(hl:a.length<=4294967296)(hB:∀ x∈a,(Yx 4294967296) x)(h0:0<=k)(hk:k+nL JW a<=4611686018427387904)(lvl:Nat)(S:Zc):Sem Uch Zcf lvl [.tr (.sl (((mL Wp JW a k)).map Zv)),iI k] S (iI (k+nL JW a)) S:=by
 refine Zi ZF6 trivial ?_
 simp only[Zpk,Zb,seval,Za,men]
 refine Yn (α:=Unit) a.length (fun j _=>⟨lvl,[(0,.tr (.sl (((mL Wp JW a k)).map Zv))),(1,iI (kJ JW a k j)),(5,iI j)],[],S⟩) (fun _ _=>True) () ⟨by simp only[Zb,seval,Za,men],by (simp only[Zap,Zb,seval,Za,men]) <;> rfl⟩ trivial ?_
 intro j _ hj _
 simp only[Uaa,Yd,Zb,seval,Za,men]
 refine Zs (fun hlt=>?_) (fun hge=>?_)
 ·have hja:j<a.length:=by omega
  have ga:=Zn3 (c:=Zv) (m:=Wp) (n:=JW) (k:=k) hja
  have hge2:=Zar JW (a:=a) (k:=k) (j:=j+1)
  rw[Xm JW hja] at hge2
  have hge3:=Zas JW (a:=a) (k:=k) (j:=j)
  try simp only[JW] at hge2
  have hb:=hB _ (Uak hja)
  obtain⟨b0,b1⟩:=hb
  simp only[ga,Zv,Wp,ZdY,QH,Uax,hja,ne_eq,not_true_eq_false,Zb,seval,Za,men]
  refine⟨by rw[Zg];omega,⟨by rw[Zg];omega,⟨by rw[Zg];omega,?_⟩⟩⟩
  refine Zf (ZGk (a[j]).names (kJ JW a k j+1+1+1) b0 b1 (by omega) (by omega)) ?_
  have hz3:¬ (kJ JW a k j+1+1+1+(nL JV (a[j]).names:Nat)<0):=by omega
  simp only[ga,Zv,Wp,ZdY,QH,Uax,hja,ne_eq,not_true_eq_false,hz3,Zb,seval,Za,men]
  refine⟨by rw[Zg];omega,Zu () hja ?_ trivial⟩
  rw[Xm JW hja]
  simp only[JW,Int.natCast_add,Int.natCast_one,Ub8]
  try rfl
 ·have:j=a.length:=by omega
  subst this
  rw[Zaq]
theorem Zpu:∀(l:List ByteArray),nL JV l=l.length
 | []=>rfl
 | x::r=>by simp only[nL,List.length_cons,Zpu r,JV];omega
theorem Zpv{α:Type}{n:α->Nat}{B:Nat}:∀(l:List α),(∀ x∈l,n x<=B)->nL n l<=l.length*B
 | [],_=>Ubi _
 | x::r,h=>by
  have h1:=h x (by simp)
  have h2:=Zpv r (fun y hy=>h y (by simp [hy]))
  simp only[nL,List.length_cons,UaQ]
  omega
theorem ZGl(x:TControl):Zq 256 (fun l=>Qx x l) (VO x):=Zki (Zzs (by omega) (by omega) (Zzt x.name.size) Zzr) (by simp only[VO];omega)
theorem Zpw{α:Type}{f:α->Int->Int}:∀(a:List α) (l:Int),(∀ x∈a,∀ l:Int,0<=l->l<=1048576->f x l<=l)->0<=l->l<=1048576->VY f a l<=l
 | [],l,_,_,_=>Ubu l
 | x::r,l,hf,h0,h1=>by
  simp only[VY]
  have:=hf x (by simp) l h0 h1
  split
  ·omega
  ·have h2:=Zpw r (f x l) (fun y hy=>hf y (by simp [hy])) (by omega) (by omega)
   omega
theorem ZGm{α:Type}{f:α->Int->Int}(a:List α){l:Int}(hf:∀ x∈a,∀ l:Int,0<=l->l<=1048576->f x l<=l)(h0:0<=l)(h1:l<=1048576):Xo f a l<=l:=by
 unfold Xo
 split
 ·omega
 ·have:=Zpw a (l-a.length) hf (by omega) (by omega)
  omega
theorem ZGn{l m:Int}{g:Int->Int}(h0:0<=l)(h:m<=l)(hg:0<=m->g m<=m):QX m g<=l:=by
 unfold QX
 split
 ·omega
 ·have:=hg (by omega)
  omega
theorem Zpx(x:TControl)(hb:Jc 9223372036854775807 x)(l:Int)(h0:0<=l)(h1:l<=1048576):Qx x l<=l/\∀ lvl S,Sem Uch Zfn lvl [.ag ((Zr x).map .tr),iI l] S (iI (Qx x l)) S:=by
 have b0:x.name.size<=9223372036854775807:=hb
 refine⟨?_,fun lvl S=>?_⟩
 ·unfold Qx
  refine ZGn h0 (m:=l-x.name.size) (by omega) (fun p0=>?_)
  have r0:_<=(1048576:Int):=Int.le_trans (show l-x.name.size<=l by omega) h1
  exact Ubu _
 ·refine Zi ZGg trivial ?_
  simp only[Zpp,Zr,Uai,Uaj,Zb,seval,Za,men]
  unfold Qx
  refine⟨by rw[Zg];omega,?_⟩
  obtain⟨l1,hl1⟩:∃ m:Int,m=l-x.name.size:=⟨_,rfl⟩
  have u1:l1<=l:=by omega
  rw[<-hl1]
  split
  ·rename_i hn;rw[QX,if_pos hn]
  rename_i hn0
  rw[QX,if_neg hn0]
theorem ZGo:Zj Uch Zfi (Zff 3 (some 3) Zfn)=true:=by kernel_rfl
theorem ZGp(a:List TControl)(hl:a.length<=9223372036854775807)(hb:∀ y∈a,Jc 9223372036854775807 y)(l:Int)(h0:0<=l)(h1:l<=1048576):Xo Qx a l<=l/\∀ lvl S,Sem Uch Zfi lvl [.tr (.sl (a.map Zr)),iI l] S (iI (Xo Qx a l)) S :=
 ⟨ZGm a (fun x hx l h0 h1=>(Zpx x (hb x hx) l h0 h1).1) h0 h1,fun lvl S=>Zzk ZGo Zr Qx Zfh a l hl h0 h1 (fun x hx l h0 h1=>Zpx x (hb x hx) l h0 h1) lvl S⟩
theorem ZGq(x y:TControl)(hb:Jc 9223372036854775807 x)(lvl:Nat)(S:Zc):Sem Uch Zfw lvl [.ag ((Zr x).map .tr),.ag ((Zr y).map .tr)] S (iB (decide (x=y))) S:=by
 have b0:x.name.size<=9223372036854775807:=hb
 refine Zi ZGj trivial ?_
 simp only[Zps,Zr,Uai,Uaj,Zb,seval,Za,men]
 refine Zs (fun hne=>?_) (fun heq0=>?_)
 ·have:¬ x=y:=fun e=>(by rw[e] at hne;simp at hne)
  simp [this]
 refine Zs (fun hne=>?_) (fun heq1=>?_)
 ·have:¬ x=y:=fun e=>(by rw[e] at hne;simp at hne)
  simp [this]
 refine Zs (fun hne=>?_) (fun heq2=>?_)
 ·have:¬ x=y:=fun e=>(by rw[e] at hne;simp at hne)
  simp [this]
 have:x=y:=by
  cases x;cases y;simp_all
 simp [this]
theorem ZGr:Zj Uch Zfk (Zcc 3 (some 3) Zfw)=true:=by kernel_rfl
theorem ZGs(a b:(List TControl))(ha:a.length<=9223372036854775807)(ha2:∀ y∈a,Jc 9223372036854775807 y)(lvl:Nat)(S:Zc):Sem Uch Zfk lvl [.tr (.sl (a.map Zr)),.tr (.sl (b.map Zr))] S (iB (decide (a=b))) S :=
 Zkg ZGr Zr (fun _=>rfl) a b ha (fun x hx y _ lvl S=>ZGq x y (ha2 x hx) lvl S) lvl S
theorem ZGt:Zj Uch ZfI Zfg=true:=by kernel_rfl
theorem ZGu(a b:(List ByteArray))(ha:a.length<=9223372036854775807)(lvl:Nat)(S:Zc):Sem Uch ZfI lvl [.tr (.sl (rS a)),.tr (.sl (rS b))] S (iB (decide (a=b))) S:=Zzl ZGt a b ha lvl S
theorem ZGv(x y:TTermStep)(hb:Yx 9223372036854775807 x)(lvl:Nat)(S:Zc):Sem Uch Zfv lvl [.ag ((Zv x).map .tr),.ag ((Zv y).map .tr)] S (iB (decide (x=y))) S:=by
 obtain⟨b0,b1⟩:=hb
 refine Zi ZGi trivial ?_
 simp only[Zpr,Zv,Uai,Uaj,Zb,seval,Za,men]
 refine Zs (fun hne=>?_) (fun heq0=>?_)
 ·have:¬ x=y:=fun e=>(by rw[e] at hne;simp at hne)
  simp [this]
 refine Zs (fun hne=>?_) (fun heq1=>?_)
 ·have:¬ x=y:=fun e=>(by rw[e] at hne;simp at hne)
  simp [this]
 refine Zs (fun hne=>?_) (fun heq2=>?_)
 ·have:¬ x=y:=fun e=>(by rw[e] at hne;simp at hne)
  simp [this]
 refine Zf (ZGu x.names y.names b0) ?_
 simp only[UaR,Zb,seval,Za,men]
 refine Zs (fun hne=>?_) (fun heq3=>?_)
 ·have:¬ x=y:=fun e=>(by rw[e] at hne;simp at hne)
  simp [this]
 have:x=y:=by
  cases x;cases y;simp_all
 simp [this]
theorem ZGw:Zj Uch Zaw (Zcc 4 (some 4) Zfv)=true:=by kernel_rfl
theorem ZhQ(a b:(List TTermStep))(ha:a.length<=9223372036854775807)(ha2:∀ y∈a,Yx 9223372036854775807 y)(lvl:Nat)(S:Zc):Sem Uch Zaw lvl [.tr (.sl (a.map Zv)),.tr (.sl (b.map Zv))] S (iB (decide (a=b))) S :=
 Zkg ZGw Zv (fun _=>rfl) a b ha (fun x hx y _ lvl S=>ZGv x y (ha2 x hx) lvl S) lvl S
theorem ZGx(x:TControl)(hb:Jc 4294967296 x)(lvl:Nat)(S:Zc):Sem Uch Zfr lvl [.ag ((Zr x).map .tr)] S (Zcd x) S:=by
 have b0:x.name.size<=4294967296:=hb
 refine Zi ZGh (by simp [Zcd,low,men,Za]) ?_
 simp only[Zpq,Zr,zfill,zobs,Uai,Uaj,Yo,Yp,List.set_cons_zero,List.set_cons_succ,Zb,seval,Za,men]
 rfl
theorem Zd1(a:(List TControl))(ha:a.length<=4294967296)(hb:∀ y∈a,Jc 4294967296 y)(lvl:Nat)(S:Zc):Sem Uch U7 lvl [.tr (.sl (a.map Zr))] S (.ow 3 (a.map Zr) true) S:=by
 refine Zi ZGf trivial ?_
 simp only[Zpo,Uaa,bigN,Ua6,Zb,seval,Za,men]
 refine⟨by omega,?_⟩
 refine Yn (α:=Unit) a.length (fun j _=>⟨lvl,[(0,.tr (.sl (a.map Zr))),(3,.hd (lvl,224) [] 0 a.length none a.length),(4,iI j)],[(224,.ar 3 (VZ Zr [ts ⟨#[]⟩,tv 0,tv 0] a j) true a.length (j*0))],S⟩) (fun _ _=>True) () ⟨by simp only[Zb,seval,Za,men],by (simp only[Zzm,Zb,seval,Za,men]) <;> rfl⟩ trivial ?_
 intro j _ hj _
 simp only[Uaa,Zb,seval,Za,men]
 refine Zs (fun hlt=>?_) (fun hge=>?_)
 ·have hja:j<a.length:=by omega
  have ga:(a.map Zr)[j]? = some (Zr a[j]):=by simp [hja]
  have gz:(VZ Zr [ts ⟨#[]⟩,tv 0,tv 0] a j)[j]? = some [ts ⟨#[]⟩,tv 0,tv 0]:=Zzp hja
  have hfl:(VZ Zr [ts ⟨#[]⟩,tv 0,tv 0] a j).length=a.length:=Zzo hj
  have hsem:=fun lvl S=>ZGx a[j] (hb a[j] (Uak hja)) lvl S
  simp only[ga,gz,Ua6,Ual,hja,Zr,Zcd,Nat.reduceLeDiff,Zb,↓reduceIte,Nat.reduceEqDiff,Nat.reduceMul,reduceCtorEq,Nat.reduceAdd,Nat.reduceSub,Nat.reduceLT,Int.reduceToNat,Int.reduceLE,Int.reduceLT,Za,men]
  refine Zf hsem ?_
  simp only[Zcd,gz,Ua6,Ual,hja,hfl,ZI,Ube,Ubo,UaT,List.set_cons_zero,List.set_cons_succ,UbS,ne_eq,not_false_eq_true,Zb,seval,Za,men]
  refine⟨by rw[Zg];omega,Zu () hja ?_ trivial⟩
  have hse:=Zzq (c:=Zr) (z:=[ts ⟨#[]⟩,tv 0,tv 0]) (e:=[ts a[j].name,tv a[j].ports,tv a[j].kind_]) hja rfl
  rw[hse,show (j+1)*0=j*0 from by omega]
  rfl
 ·have:j=a.length:=by omega
  subst this
  rw[Zzn]
  simp
theorem ZGy(sig:List TControl)(s:ByteArray)(_hn:sig.length<=4294967296)(_hbs:∀ y∈sig,Jc 4294967296 y)(_hs:s.size<=1048576):(YP sig s).length<=4294967296/\(∀ y∈YP sig s,Yx 4294967296 y)/\1+(nL JW (YP sig s):Int)<=4611686018427387904:=by
 unfold YP
 split
 ·rename_i h
  obtain⟨e,_,hl⟩:=ZhN ZoY h.choose_spec
  rw[<-e]
  have hz:=fun p hp=>ZdJ (s:=s) (b:=32) (p:=p) hp
  refine⟨by rw[Uaa];omega,fun y hy=>?_,?_⟩
  ·obtain⟨w,hw,rfl⟩:=Uaq.1 hy
   exact ZdX (by have:=hz w hw;omega)
  ·have hB:∀ y∈(JC s 32).map (Z5 JS sig),JW y<=2000000:=fun y hy=>by
    obtain⟨w,hw,rfl⟩:=Uaq.1 hy
    have h1:=ZdX (rd:=JS) (sig:=sig) (w:=w) (n:=1048577) (by have:=hz w hw;omega)
    unfold Yx at h1
    have h2:=h1.1
    unfold JW
    rw[Zpu]
    omega
   have h3:=Zpv _ hB
   rw[Uaa] at h3
   have h60:(JC s 32).length*2000000<=60*2000000:=Uaz _ hl
   omega
 ·exact⟨by simp,by simp,by simp [nL]⟩
theorem ZGz(x0:(List TControl))(x1:ByteArray)(hb0_0:x0.length<=9223372036854775807)(hb0_1:∀ y∈x0,Jc 9223372036854775807 y)(hb1_0:x1.size<=9223372036854775807)(lvl:Nat)(S:Zc):Sem Uch Zkk lvl [.tr (.sl (x0.map Zr)),iS x1] S (iB true) S:=by
 refine Zi ZF3 trivial ?_
 simp only[Zph,Uaa,J1,Y7,Yd,ne_eq,not_true_eq_false,bne_self_eq_false,Zb,seval,Za,men]
 refine Zs (fun _=>trivial) (fun hl1=>?_)
 have hs1_0:x1.size<=1048576:=by omega
 have ul:(1048576:Int)<=1048576:=Ubu _
 obtain⟨_,ha0⟩:=ZGp x0 hb0_0 hb0_1 (1048576) (by omega) (by omega)
 refine Zf ha0 ?_
 simp only[Uaa,J1,Y7,Yd,ne_eq,not_true_eq_false,bne_self_eq_false,Zb,seval,Za,men]
 refine Zs (fun _=>trivial) (fun hz0=>?_)
 have zp0:=(ZCb (f:=Qx) (fun y=>(ZCd y)) x0) (1048576) (by omega) (by omega)
 have zq0:=(Zzu (f:=Qx) (n:=VO) (fun y=>Zki (ZGl y) (by omega)) x0) (1048576) (by omega) (by omega)
 simp only at zp0 zq0
 have hp0:=zp0.2 (by omega)
 have hq0:=zq0.2 (by omega)
 obtain⟨hs0_0,hs0_1⟩:=hp0
 refine Zf (Zd1 x0 hs0_0 hs0_1) ?_
 simp only[Uaa,J1,Y7,Yd,ne_eq,not_true_eq_false,bne_self_eq_false,Zb,seval,Za,men]
 refine Zf (ZF0 x0 x1 hs0_0 hs0_1 hs1_0) ?_
 simp only[Uaa,J1,Y7,Yd,ne_eq,not_true_eq_false,bne_self_eq_false,Zb,seval,Za,men]
 refine Zf (Zd1 x0 hs0_0 hs0_1) ?_
 simp only[Uaa,J1,Y7,Yd,ne_eq,not_true_eq_false,bne_self_eq_false,Zb,seval,Za,men]
 refine Zf (Zpe x0 x1 hs0_0 hs0_1 hs1_0) ?_
 simp only[Uaa,J1,Y7,Yd,ne_eq,not_true_eq_false,bne_self_eq_false,Zb,seval,Za,men]
 obtain⟨hr0_0,hr0_1,hrn⟩:=ZGy x0 x1 hs0_0 hs0_1 hs1_0
 refine Zf (ZhQ (YP x0 x1) (YP x0 x1) (by omega) (fun y hy=>ZgL (hr0_1 y hy))) ?_
 simp only[Uaa,J1,Y7,Yd,ne_eq,not_true_eq_false,bne_self_eq_false,Zb,seval,Za,men]
 refine Zf (Zd1 x0 hs0_0 hs0_1) ?_
 simp only[Uaa,J1,Y7,Yd,ne_eq,not_true_eq_false,bne_self_eq_false,Zb,seval,Za,men]
 refine Zf (ZGs x0 x0 hb0_0 hb0_1) ?_
 simp only[Uaa,J1,Y7,Yd,ne_eq,not_true_eq_false,bne_self_eq_false,Zb,seval,Za,men]
 simp only[Vl]
 refine Zj7 ZGd (a:=x0) rfl (by omega) (by omega) hs0_0 hs0_1 ?_
 simp only[Uaa,J1,Y7,Yd,ne_eq,not_true_eq_false,bne_self_eq_false,Zb,seval,Za,men]
 have hk0:¬ (1+(nL VO x0:Nat)<(0:Int)):=by omega
 simp only[hk0,Uaa,J1,Y7,Yd,ne_eq,not_true_eq_false,bne_self_eq_false,Zb,seval,Za,men]
 refine Zf (ZhQ (YP x0 x1) (YP x0 x1) (by omega) (fun y hy=>ZgL (hr0_1 y hy))) ?_
 simp only[Uaa,J1,Y7,Yd,ne_eq,not_true_eq_false,bne_self_eq_false,Zb,seval,Za,men]
 simp only[Vl]
 refine Zj7 ZGe (a:=(YP x0 x1)) rfl (by omega) (by omega) hr0_0 hr0_1 ?_
 simp only[Uaa,J1,Y7,Yd,ne_eq,not_true_eq_false,bne_self_eq_false,Zb,seval,Za,men]
 refine Zf (Zpt (YP x0 x1) (1) hr0_0 hr0_1 (by omega) (by omega)) ?_
 have hh0:¬ (1+(nL JW (YP x0 x1):Nat)<(0:Int)):=by omega
 simp only[hh0,Uaa,J1,Y7,Yd,ne_eq,not_true_eq_false,bne_self_eq_false,Zb,seval,Za,men]
 refine Zf (Zd1 x0 hs0_0 hs0_1) ?_
 simp only[Uaa,J1,Y7,Yd,ne_eq,not_true_eq_false,bne_self_eq_false,Zb,seval,Za,men]
 refine Zf (Zpe x0 x1 hs0_0 hs0_1 hs1_0) ?_
 simp only[Uaa,J1,Y7,Yd,ne_eq,not_true_eq_false,bne_self_eq_false,Zb,seval,Za,men]
 refine Zf (ZhQ (YP x0 x1) (YP x0 x1) (by omega) (fun y hy=>ZgL (hr0_1 y hy))) ?_
 simp only[Uaa,J1,Y7,Yd,ne_eq,not_true_eq_false,bne_self_eq_false,Zb,seval,Za,men]
 refine Zf (Zpt (YP x0 x1) (1) hr0_0 hr0_1 (by omega) (by omega)) ?_
 have hh0:¬ (1+(nL JW (YP x0 x1):Nat)<(0:Int)):=by omega
 simp only[hh0,Uaa,J1,Y7,Yd,ne_eq,not_true_eq_false,bne_self_eq_false,Zb,seval,Za,men]
theorem ZGA:VD Uch 9 (fun n:ByteArray=>[ts n]) (fun n=>n.size<=9223372036854775807):=Zyr Proofs.Tryz.underlying9
theorem Zpy:VD Uch 3 (fun n:Int=>[tv n]) (ZW .i64):=Zyq Proofs.Tryz.underlying3
theorem ZGB:VD Uch 36 Zr (fun x=>Jc 9223372036854775807 x/\Zkj x):=Zyy (Zyw Proofs.Tryz.underlying36 (show Zan Uch 0 [(0,9),(1,3),(2,3)] _ _ from (Ze5 (k:=1) (by kernel_rfl) (fun _=>rfl) ZGA (Ze5 (k:=1) (by kernel_rfl) (fun _=>rfl) Zpy (Ze5 (k:=1) (by kernel_rfl) (fun _=>rfl) Zpy Zyv))))) (fun p=>TControl.mk p.1 p.2.1 p.2.2.1) (fun _=>rfl) (fun x h=>⟨h.1,⟨h.2.1,h.2.2.1⟩⟩)
theorem ZGC:VD Uch 22 (fun l:List TControl=>[Tr.sl (l.map Zr)]) (fun l=>l.length<=9223372036854775807/\∀ x∈l,(fun x=>Jc 9223372036854775807 x/\Zkj x) x):=Zyu (k:=2) Proofs.Tryz.underlying22 (by kernel_rfl) (fun _=>rfl) ZGB
end Go.Fd
