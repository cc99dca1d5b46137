/-
  FOUNDATION 45: more rules: loads, parts of slices, calls, results, forgetting. Own work.
-/
import Derived.Test.YtcpcocfmpcmbpaaGreatDoorT03
import Derived.ChangeArms
import Derived.OpenShut
import Derived.Carry
import Derived.Sort.Row
import Derived.Sort.Grow
import Derived.Shelf.GgSortFunc.InsertionK
import Derived.Shelf.SlSortCmp.WholeK
import Derived.Test.YtcpcocfmpcmbpaaGreatDoorProg
import Derived.ChangeMaps5
import Derived.ChangeShapes
set_option linter.all false
namespace Go.Fd
section
variable {C:ZJ} {lvl:Nat} {env:List (Nat×IV)} {loc:List (Nat×Ob)} {out:Zb} {d:Option Nat} {K:St->Prop} {st:St} {Q:Ex->St->Prop} {F:IV->Prop}
theorem J3{k:Nat}:ZF lvl loc out (lvl,k)=lkO k loc:=by unfold ZF;rw[if_pos rfl]
theorem J0{id:Zd}(h:id.1≠lvl):ZF lvl loc out id=out id:=by unfold ZF;rw[if_neg h]
theorem UE{k:Nat}{ob:Ob}:Zp ⟨lvl,env,loc,out⟩ (lvl,k) ob=⟨lvl,env,ptO k ob loc,out⟩:=by unfold Zp;rw[if_pos rfl]
theorem Xr{id:Zd}{ob:Ob}(h:id.1≠lvl):Zp ⟨lvl,env,loc,out⟩ id ob=⟨lvl,env,loc,Zo out id ob⟩:=by unfold Zp;rw[if_neg h]
theorem ZuW{id:Zd}:Zw id ⟨lvl,env,loc,out⟩=⟨lvl,scrE id env,scrL id (rmO id.2 loc),out⟩:=(rfl)
theorem ZuX:(⟨lvl,env,loc,out⟩:St).sto=ZF lvl loc out:=(rfl)
theorem YU{id:Zd}{ob:Ob}{S:Zb}:Zo S id ob id=some ob:=by unfold Zo;rw[if_pos rfl]
def ltr(F:IV->Prop)(t:Tr):Prop:=F (.tr t)
theorem ZuY{t:Tr}:ltr F t=F (.tr t):=(rfl)
def lab(o:Option Ob)(off:Nat)(F:IV->Prop):Prop :=
 match o with
 | some (.bx cells)=>Jg cells[off]? F
 | _=>False
theorem ZuZ{cells:List IV}{off:Nat}:lab (some (.bx cells)) off F=Jg cells[off]? F:=(rfl)
def lae(id:Zd)(p:Zn)(i f:Nat)(F:IV->Prop)(es:Row)(u:Bool)(ver:Nat):Prop:=Jg es[i]? fun e=>Jg e[f]? fun t=>F (cvt id p i f u ver t)
def Zj5(id:Zd)(p:Zn)(i f:Nat)(F:IV->Prop)(u:Bool)(ver:Nat)(e:List Tr):Prop:=Jg e[f]? fun t=>F (cvt id p i f u ver t)
def Zj6(id:Zd)(p:Zn)(i f:Nat)(F:IV->Prop)(u:Bool)(ver:Nat)(t:Tr):Prop:=F (cvt id p i f u ver t)
theorem Zu0{id:Zd}{p:Zn}{i f:Nat}{es:Row}{u:Bool}{ver:Nat}:lae id p i f F es u ver=Jg es[i]? (Zj5 id p i f F u ver):=(rfl)
theorem Zu1{id:Zd}{p:Zn}{i f:Nat}{e:List Tr}{u:Bool}{ver:Nat}:Zj5 id p i f F u ver e=Jg e[f]? (Zj6 id p i f F u ver):=(rfl)
theorem Zu2{id:Zd}{p:Zn}{i f:Nat}{t:Tr}{u:Bool}{ver:Nat}:Zj6 id p i f F u ver t=F (cvt id p i f u ver t):=(rfl)
def Zcs(id:Zd)(p:Zn)(i f m:Nat)(F:IV->Prop)(es:Row)(u:Bool)(ver:Nat):Prop:=Jg es[i]? fun e=>f+m<=e.length/\F (.ag (cvts id p i u ver f ((e.drop f).take m)))
def Zj7(id:Zd)(p:Zn)(i f m:Nat)(F:IV->Prop)(u:Bool)(ver:Nat)(e:List Tr):Prop:=f+m<=e.length/\F (.ag (cvts id p i u ver f ((e.drop f).take m)))
theorem Zu3{id:Zd}{p:Zn}{i f m:Nat}{es:Row}{u:Bool}{ver:Nat}:Zcs id p i f m F es u ver=Jg es[i]? (Zj7 id p i f m F u ver):=(rfl)
theorem Zu4{id:Zd}{p:Zn}{i f m:Nat}{e:List Tr}{u:Bool}{ver:Nat}:Zj7 id p i f m F u ver e=(f+m<=e.length/\F (.ag (cvts id p i u ver f ((e.drop f).take m)))):=(rfl)
def Q4(L:Zb)(m:Option Nat)(x:IV)(F:IV->Prop):Prop :=
 match m,x with
 | none,.ta cells=>Jg cells[0]? (ltr F)
 | none,.ab id off=>lab (L id) off F
 | none,.ae id p i f st=>V0 (L id) p st (lae id p i f F)
 | some m,.ta cells=>m<=cells.length/\F (.ag ((cells.take m).map .tr))
 | some m,.ab id off =>
  match L id with
  | some (.bx cells)=>off+m<=cells.length/\F (.ag ((cells.drop off).take m))
  | _=>False
 | some m,.ae id p i f st=>V0 (L id) p st (Zcs id p i f m F)
 | _,_=>False
theorem Zu5{m:Option Nat}{p:X}:ZD C d (.ld m p) ⟨lvl,env,loc,out⟩ K=Q4 (ZF lvl loc out) m (xv env p) (Ye lvl env loc out d K):=by
 refine Yu (o:=.ld m p) (T:=fun F=>Q4 (ZF lvl loc out) m (xv env p) F) (by cases m<;>rfl) (fun Kd=>?_);cases m with
 | none =>
  simp only[ev];generalize xv env p=v;cases v<;>try rfl
  ·dsimp only[Q4,lab];rename_i id off;generalize ZF lvl loc out id=o;cases o with
   | none=>rfl
   | some ob =>
    cases ob with
    | bx=>exact YT
    | ar=>rfl
    | mp=>rfl
  ·dsimp only[Q4];rw[<-W3];congr 1;funext es u ver;simp only[lae,<-YT]
  ·exact YT
 | some m =>
  simp only[ev];generalize xv env p=v;cases v<;>try rfl
  dsimp only[Q4];rw[<-W3];congr 1;funext es u ver;simp only[Zcs,<-YT]
theorem Zu6{L:Zb}{cells:List Tr}:Q4 L none (.ta cells) F=Jg cells[0]? (ltr F):=(rfl)
theorem Zu7{L:Zb}{id:Zd}{off:Nat}:Q4 L none (.ab id off) F=lab (L id) off F:=(rfl)
theorem Zu8{L:Zb}{id:Zd}{p:Zn}{i f s:Nat}:Q4 L none (.ae id p i f s) F=V0 (L id) p s (lae id p i f F):=(rfl)
theorem Zu9{L:Zb}{m:Nat}{cells:List Tr}:Q4 L (some m) (.ta cells) F=(m<=cells.length/\F (.ag ((cells.take m).map .tr))):=(rfl)
def Zj8(o:Option Ob)(off m:Nat)(F:IV->Prop):Prop :=
 match o with
 | some (.bx cells)=>off+m<=cells.length/\F (.ag ((cells.drop off).take m))
 | _=>False
theorem Zva{cells:List IV}{off m:Nat}:Zj8 (some (.bx cells)) off m F=(off+m<=cells.length/\F (.ag ((cells.drop off).take m))):=(rfl)
theorem Zvb{L:Zb}{m:Nat}{id:Zd}{off:Nat}:Q4 L (some m) (.ab id off) F=Zj8 (L id) off m F:=(rfl)
theorem Zvc{L:Zb}{m:Nat}{id:Zd}{p:Zn}{i f s:Nat}:Q4 L (some m) (.ae id p i f s) F=V0 (L id) p s (Zcs id p i f m F):=(rfl)
def bn(x:Option IV)(n:Nat)(F:Nat->Prop):Prop :=
 match x with
 | none=>F n
 | some (.tr (.v (.int _ m)))=>0<=m/\F m.toNat
 | _=>False
theorem Zvd{n:Nat}{F:Nat->Prop}:bn none n F=F n:=(rfl)
theorem Zve{n:Nat}{k:IntKind}{m:Int}{F:Nat->Prop}:bn (some (.tr (.v (.int k m)))) n F=(0<=m/\F m.toNat):=(rfl)
theorem Zj9{ρ:X->IV}{x:Option X}{n:Nat}{F:Nat->Prop}:ZT ρ x n F=bn (x.map ρ) n F:=by
 cases x with
 | none=>rfl
 | some x =>
  simp only[ZT,bn,Option.map_some];generalize ρ x=v;cases v<;>try rfl
  rename_i t;cases t<;>try rfl
  rename_i y;cases y<;>rfl
def UF(k:Nat)(es:Row)(los:Bool)(hi mx:Option IV)(q:Bool)(F:IV->Prop)(a:Nat):Prop:=(los=true->ZC k es)/\bn hi es.length fun b=>a<=b/\b<=es.length/\bn mx b fun m=>m=b/\F (if q then .cs (cut es a (b-a)) else .tr (.sl (cut es a (b-a))))
def Zka(es:Row)(mx:Option IV)(q:Bool)(F:IV->Prop)(a b:Nat):Prop:=a<=b/\b<=es.length/\bn mx b fun m=>m=b/\F (if q then .cs (cut es a (b-a)) else .tr (.sl (cut es a (b-a))))
def Zkb(es:Row)(q:Bool)(F:IV->Prop)(a b m:Nat):Prop:=m=b/\F (if q then .cs (cut es a (b-a)) else .tr (.sl (cut es a (b-a))))
theorem Zvf{k:Nat}{es:Row}{los q:Bool}{hi mx:Option IV}{a:Nat}:UF k es los hi mx q F a=((los=true->ZC k es)/\bn hi es.length (Zka es mx q F a)):=(rfl)
theorem Zvg{es:Row}{q:Bool}{mx:Option IV}{a b:Nat}:Zka es mx q F a b=(a<=b/\b<=es.length/\bn mx b (Zkb es q F a b)):=(rfl)
theorem Zvh{es:Row}{q:Bool}{a b m:Nat}:Zkb es q F a b m=(m=b/\F (if q=true then .cs (cut es a (b-a)) else .tr (.sl (cut es a (b-a))))):=(rfl)
def sxh(L:Zb)(k:Nat)(id:Zd)(p:Zn)(off len:Nat)(cap:Option Nat)(s:Nat)(hi mx:Option IV)(F:IV->Prop)(a:Nat):Prop :=
 bn hi len fun b=>a<=b/\b<=len/\bn mx b fun m=>b<=m/\m<=len/\JV L id p k/\F (.hd id p (off+a) (b-a) (if mx.isSome then some (m-a) else cap.map (· - a)) s)
def Zkc(L:Zb)(k:Nat)(id:Zd)(p:Zn)(off len:Nat)(cap:Option Nat)(s:Nat)(mx:Option IV)(F:IV->Prop)(a b:Nat):Prop :=
 a<=b/\b<=len/\bn mx b fun m=>b<=m/\m<=len/\JV L id p k/\F (.hd id p (off+a) (b-a) (if mx.isSome then some (m-a) else cap.map (· - a)) s)
def Zkd(L:Zb)(k:Nat)(id:Zd)(p:Zn)(off len:Nat)(cap:Option Nat)(s:Nat)(mx:Option IV)(F:IV->Prop)(a b m:Nat):Prop :=
 b<=m/\m<=len/\JV L id p k/\F (.hd id p (off+a) (b-a) (if mx.isSome then some (m-a) else cap.map (· - a)) s)
theorem Zvi{L:Zb}{k:Nat}{id:Zd}{p:Zn}{off len:Nat}{cap:Option Nat}{s:Nat}{hi mx:Option IV}{a:Nat}:sxh L k id p off len cap s hi mx F a=bn hi len (Zkc L k id p off len cap s mx F a):=(rfl)
theorem Zvj{L:Zb}{k:Nat}{id:Zd}{p:Zn}{off len:Nat}{cap:Option Nat}{s:Nat}{mx:Option IV}{a b:Nat}:Zkc L k id p off len cap s mx F a b=(a<=b/\b<=len/\bn mx b (Zkd L k id p off len cap s mx F a b)):=(rfl)
theorem Zvk{L:Zb}{k:Nat}{id:Zd}{p:Zn}{off len:Nat}{cap:Option Nat}{s:Nat}{mx:Option IV}{a b m:Nat}:Zkd L k id p off len cap s mx F a b m=(b<=m/\m<=len/\JV L id p k/\F (.hd id p (off+a) (b-a) (if mx.isSome then some (m-a) else cap.map (· - a)) s)):=(rfl)
def W4(L:Zb)(k:Nat)(x:IV)(lo hi mx:Option IV)(F:IV->Prop):Prop :=
 match x with
 | .tr (.sl es)=>bn lo 0 (UF k es lo.isSome hi mx mx.isSome F)
 | .cs es=>bn lo 0 (UF k es lo.isSome hi mx (mx.isSome || hi.isNone) F)
 | .hd id p off len cap s=>bn lo 0 (sxh L k id p off len cap s hi mx F)
 | _=>False
theorem Zke{x:Option IV}{n:Nat}{p:Prop}{F:Nat->Prop}:(p/\bn x n F)=bn x n fun a=>p/\F a:=by
 apply propext;cases x with
 | none=>rfl
 | some v =>
  cases v<;>try exact⟨fun h=>h.2,fun h=>h.elim⟩
  rename_i t;cases t<;>try exact⟨fun h=>h.2,fun h=>h.elim⟩
  rename_i y;cases y<;>first | exact⟨fun h=>h.2,fun h=>h.elim⟩ | exact⟨fun⟨h1,h2,h3⟩=>⟨h2,h1,h3⟩,fun⟨h1,h2,h3⟩=>⟨h2,h1,h3⟩⟩
theorem Zvl{k:Nat}{x:X}{lo hi mx:Option X}:ZD C d (.sx k x lo hi mx) ⟨lvl,env,loc,out⟩ K=W4 (ZF lvl loc out) k (xv env x) (lo.map (xv env)) (hi.map (xv env)) (mx.map (xv env)) (Ye lvl env loc out d K):=by
 refine Yu (o:=.sx k x lo hi mx) (T:=fun F=>W4 (ZF lvl loc out) k (xv env x) (lo.map (xv env)) (hi.map (xv env)) (mx.map (xv env)) F) rfl (fun Kd=>?_);simp only[ev,Zj9];generalize xv env x=v;cases v<;>try rfl
 ·rename_i t;cases t<;>try rfl
  dsimp only[W4,UF];rw[Zke];simp only[Option.isSome_map];rfl
 ·dsimp only[W4,UF];rw[Zke];simp only[Option.isSome_map,Option.isNone_map];rfl
 ·dsimp only[W4];congr 1;funext a;unfold sxh;congr 1;funext b;simp only[Option.isSome_map]
theorem Zvm{L:Zb}{k:Nat}{es:Row}{lo hi mx:Option IV}:W4 L k (.tr (.sl es)) lo hi mx F=bn lo 0 (UF k es lo.isSome hi mx mx.isSome F):=(rfl)
theorem Zvn{L:Zb}{k:Nat}{es:Row}{lo hi mx:Option IV}:W4 L k (.cs es) lo hi mx F=bn lo 0 (UF k es lo.isSome hi mx (mx.isSome || hi.isNone) F):=(rfl)
theorem Zvo{L:Zb}{k:Nat}{id:Zd}{p:Zn}{off len:Nat}{cap:Option Nat}{s:Nat}{lo hi mx:Option IV}:W4 L k (.hd id p off len cap s) lo hi mx F=bn lo 0 (sxh L k id p off len cap s hi mx F):=(rfl)
def sst(s:ByteArray)(hi:Option IV)(F:IV->Prop)(a:Nat):Prop:=bn hi s.size fun b=>a<=b/\b<=s.size/\F (iS (s.extract a b))
def Zkf(s:ByteArray)(F:IV->Prop)(a b:Nat):Prop:=a<=b/\b<=s.size/\F (iS (s.extract a b))
theorem Zvp{s:ByteArray}{hi:Option IV}{a:Nat}:sst s hi F a=bn hi s.size (Zkf s F a):=(rfl)
theorem Zvq{s:ByteArray}{a b:Nat}:Zkf s F a b=(a<=b/\b<=s.size/\F (iS (s.extract a b))):=(rfl)
def ss2(x:IV)(lo hi:Option IV)(F:IV->Prop):Prop :=
 match x with
 | .tr (.v (.string s))=>bn lo 0 (sst s hi F)
 | _=>False
theorem Zvr{x:X}{lo hi:Option X}:ZD C d (.ss x lo hi) ⟨lvl,env,loc,out⟩ K=ss2 (xv env x) (lo.map (xv env)) (hi.map (xv env)) (Ye lvl env loc out d K):=by refine Yu (o:=.ss x lo hi) (T:=fun F=>ss2 (xv env x) (lo.map (xv env)) (hi.map (xv env)) F) rfl (fun Kd=>?_);simp only[ev,Zj9];rfl
theorem Zvs{s:ByteArray}{lo hi:Option IV}:ss2 (.tr (.v (.string s))) lo hi F=bn lo 0 (sst s hi F):=(rfl)
def sa2(n:Nat)(x:IV)(F:IV->Prop):Prop :=
 match x with
 | .ta cells=>n<=cells.length/\F (.cs ((cells.take n).map fun c=>[c]))
 | _=>False
theorem Zvt{n:Nat}{x:X}:ZD C d (.sa n x) ⟨lvl,env,loc,out⟩ K=sa2 n (xv env x) (Ye lvl env loc out d K):=Yu rfl fun _=>rfl
theorem Zvu{n:Nat}{cells:List Tr}:sa2 n (.ta cells) F=(n<=cells.length/\F (.cs ((cells.take n).map fun c=>[c]))):=(rfl)
def UG(F:IV->Prop)(l:List UInt8):Prop:=F (iS ⟨l.toArray⟩)
theorem Zvv{l:List UInt8}:UG F l=F (iS ⟨l.toArray⟩):=(rfl)
def sbh(off len:Nat)(F:IV->Prop)(es:Row)(_u:Bool)(_v:Nat):Prop:=off+len<=es.length/\Jg (Vb (cut es off len)) (UG F)
theorem Zvw{off len:Nat}{es:Row}{u:Bool}{v:Nat}:sbh off len F es u v=(off+len<=es.length/\Jg (Vb (cut es off len)) (UG F)):=(rfl)
def Du(L:Zb)(x:IV)(F:IV->Prop):Prop :=
 match x with
 | .tr (.sl es)=>Jg (Vb es) (UG F)
 | .cs es=>Jg (Vb es) (UG F)
 | .hd id p off len _ st=>V0 (L id) p st (sbh off len F)
 | _=>False
theorem Zvx{x:X}:ZD C d (.sb x) ⟨lvl,env,loc,out⟩ K=Du (ZF lvl loc out) (xv env x) (Ye lvl env loc out d K):=by
 refine Yu (o:=.sb x) (T:=fun F=>Du (ZF lvl loc out) (xv env x) F) rfl (fun Kd=>?_);simp only[ev];generalize xv env x=v;cases v<;>try rfl
 ·rename_i t;cases t<;>try rfl
  exact YT
 ·exact YT
 ·dsimp only[Du];rw[<-W3];congr 1;funext es u ver;simp only[sbh,<-YT];rfl
theorem Zvy{L:Zb}{es:Row}:Du L (.tr (.sl es)) F=Jg (Vb es) (UG F):=(rfl)
theorem Zvz{L:Zb}{es:Row}:Du L (.cs es) F=Jg (Vb es) (UG F):=(rfl)
theorem ZvA{L:Zb}{id:Zd}{p:Zn}{off len s:Nat}{cap:Option Nat}:Du L (.hd id p off len cap s) F=V0 (L id) p s (sbh off len F):=(rfl)
theorem JQ{o:O}(h:JA o=true):ZD C d o st K=ew C d st K o:=by unfold ZD;rw[if_pos h]
def V1(x:IV)(F:List IV->Prop)(l:List IV):Prop:=F (x::l)
theorem Zkg{x:IV}{F:List IV->Prop}{l:List IV}:V1 x F l=F (x::l):=(rfl)
def Zkh(L:Zb)(r:List IV)(F:List IV->Prop)(l:List IV):Prop:=Z5 L r (V1 (.ag l) F)
theorem ZvB{L:Zb}{r:List IV}{F:List IV->Prop}{l:List IV}:Zkh L r F l=Z5 L r (V1 (.ag l) F):=(rfl)
def Zki(L:Zb)(f:FuncId)(r:List IV)(F:List IV->Prop)(l:List IV):Prop:=Z5 L r (V1 (.fn f l) F)
theorem ZvC{L:Zb}{f:FuncId}{r:List IV}{F:List IV->Prop}{l:List IV}:Zki L f r F l=Z5 L r (V1 (.fn f l) F):=(rfl)
def Zkj(L:Zb)(off len:Nat)(r:List IV)(F:List IV->Prop)(es:Row)(_u:Bool)(_v:Nat):Prop:=off+len<=es.length/\Z5 L r (V1 (.tr (.sl (cut es off len))) F)
theorem ZvD{L:Zb}{off len:Nat}{r:List IV}{F:List IV->Prop}{es:Row}{u:Bool}{v:Nat}:Zkj L off len r F es u v=(off+len<=es.length/\Z5 L r (V1 (.tr (.sl (cut es off len))) F)):=(rfl)
section sn
variable {L:Zb} {r:List IV} {F:List IV->Prop}
theorem Zfs:Z5 L [] F=F []:=by simp only[Z5]
theorem Zkk{t:Tr}:Z5 L (.tr t::r) F=Z5 L r (V1 (.tr t) F):=by simp only[Z5,Jc];rfl
theorem ZvE{es:Row}:Z5 L (.cs es::r) F=Z5 L r (V1 (.tr (.sl es)) F):=by simp only[Z5,Jc];rfl
theorem ZvF{l:List IV}:Z5 L (.ag l::r) F=Z5 L l (Zkh L r F):=by simp only[Z5,Jc];rfl
theorem ZvG{f:FuncId}{l:List IV}:Z5 L (.fn f l::r) F=Z5 L l (Zki L f r F):=by simp only[Z5,Jc];rfl
theorem Zkl{l:List Tr}:Z5 L (.ta l::r) F=Z5 L r (V1 (.ta l) F):=by simp only[Z5,Jc];rfl
theorem ZvH:Z5 L (.er::r) F=Z5 L r (V1 .er F):=by simp only[Z5,Jc];rfl
theorem ZvI:Z5 L (.un::r) F=Z5 L r (V1 .un F):=by simp only[Z5,Jc];rfl
theorem ZvJ{id:Zd}{p:Zn}{off len s:Nat}{cap:Option Nat}:Z5 L (.hd id p off len cap s::r) F=V0 (L id) p s (Zkj L off len r F):=by simp only[Z5,Jc];rw[<-W3];rfl
end sn
def kca(C:ZJ)(fid:FuncId)(nm:Prop)(imp:Bool)(lvl:Nat)(env:List (Nat×IV))(loc:List (Nat×Ob))(out:Zb)(d:Option Nat)(K:St->Prop)(args:List IV):Prop :=
 ∃ r,(∀ l S,C fid l args S r S)/\(nm\/noSh r)/\freshK (keyOf d) loc (impv imp lvl (keyOf d) 0 r).2.length/\K ⟨lvl,ptd d (impv imp lvl (keyOf d) 0 r).1 env,addO (keyOf d) (impv imp lvl (keyOf d) 0 r).2 loc,out⟩
theorem Zf{fid:FuncId}{nm:Prop}{imp:Bool}{args:List IV}{r:IV}(h:∀ l S,C fid l args S r S)
  (hk:(nm\/noSh r)/\freshK (keyOf d) loc (impv imp lvl (keyOf d) 0 r).2.length/\K ⟨lvl,ptd d (impv imp lvl (keyOf d) 0 r).1 env,addO (keyOf d) (impv imp lvl (keyOf d) 0 r).2 loc,out⟩):kca C fid nm imp lvl env loc out d K args:=⟨r,h,hk⟩
def ca2(C:ZJ)(f:IV)(xs:List IV)(imp:Bool)(lvl:Nat)(env:List (Nat×IV))(loc:List (Nat×Ob))(out:Zb)(d:Option Nat)(K:St->Prop):Prop :=
 match f with
 | .fn fid caps=>Z5 (ZF lvl loc out) (xs++caps) (kca C fid (Zc (fun _=>False) (xs++caps)) imp lvl env loc out d K)
 | _=>False
theorem ZvK{imp:Bool}{f:X}{xs:List X}:ZD C d (.ca .pure imp f xs) ⟨lvl,env,loc,out⟩ K=ca2 C (xv env f) (xs.map (xv env)) imp lvl env loc out d K:=by rw[Yd rfl];simp only[ev];generalize xv env f=v;cases v<;>rfl
theorem ZvL{fid:FuncId}{caps xs:List IV}{imp:Bool}:ca2 C (.fn fid caps) xs imp lvl env loc out d K=Z5 (ZF lvl loc out) (xs++caps) (kca C fid (Zc (fun _=>False) (xs++caps)) imp lvl env loc out d K):=(rfl)
def kce(C:ZJ)(fid:FuncId)(imp:Bool)(lvl:Nat)(env:List (Nat×IV))(loc:List (Nat×Ob))(out:Zb)(d:Option Nat)(K:St->Prop)(args:List IV):Prop :=
 ∃ r,(∀ l S,Zc (XY (ZF lvl loc out) S l) args->C fid l args S r S)/\freshK (keyOf d) loc (impv imp lvl (keyOf d) 0 r).2.length/\K ⟨lvl,ptd d (impv imp lvl (keyOf d) 0 r).1 env,addO (keyOf d) (impv imp lvl (keyOf d) 0 r).2 loc,out⟩
theorem Zct{fid:FuncId}{imp:Bool}{args:List IV}{r:IV}(h:∀ l S,Zc (XY (ZF lvl loc out) S l) args->C fid l args S r S)
  (hk:freshK (keyOf d) loc (impv imp lvl (keyOf d) 0 r).2.length/\K ⟨lvl,ptd d (impv imp lvl (keyOf d) 0 r).1 env,addO (keyOf d) (impv imp lvl (keyOf d) 0 r).2 loc,out⟩):kce C fid imp lvl env loc out d K args:=⟨r,h,hk⟩
def Zkm(C:ZJ)(f:IV)(xs:List IV)(imp:Bool)(lvl:Nat)(env:List (Nat×IV))(loc:List (Nat×Ob))(out:Zb)(d:Option Nat)(K:St->Prop):Prop :=
 match f with
 | .fn fid caps=>kce C fid imp lvl env loc out d K (xs++caps)
 | _=>False
theorem ZvM{imp:Bool}{f:X}{xs:List X}:ZD C d (.ca .see imp f xs) ⟨lvl,env,loc,out⟩ K=Zkm C (xv env f) (xs.map (xv env)) imp lvl env loc out d K:=by rw[Yd rfl];simp only[ev];generalize xv env f=v;cases v<;>rfl
theorem ZvN{fid:FuncId}{caps xs:List IV}{imp:Bool}:Zkm C (.fn fid caps) xs imp lvl env loc out d K=kce C fid imp lvl env loc out d K (xs++caps):=(rfl)
def kcs(C:ZJ)(fid:FuncId)(imp:Bool)(lvl:Nat)(env:List (Nat×IV))(loc:List (Nat×Ob))(out:Zb)(d:Option Nat)(K:St->Prop)(args:List IV):Prop :=
 ∃ r,C fid (lvl+1) args (ZF lvl loc out) r (ZF lvl loc out)/\freshK (keyOf d) loc (impv imp lvl (keyOf d) 0 r).2.length/\K ⟨lvl,ptd d (impv imp lvl (keyOf d) 0 r).1 env,addO (keyOf d) (impv imp lvl (keyOf d) 0 r).2 loc,out⟩
theorem Zkn{fid:FuncId}{imp:Bool}{args:List IV}{r:IV}(h:C fid (lvl+1) args (ZF lvl loc out) r (ZF lvl loc out))
  (hk:freshK (keyOf d) loc (impv imp lvl (keyOf d) 0 r).2.length/\K ⟨lvl,ptd d (impv imp lvl (keyOf d) 0 r).1 env,addO (keyOf d) (impv imp lvl (keyOf d) 0 r).2 loc,out⟩):kcs C fid imp lvl env loc out d K args:=⟨r,h,hk⟩
def Zko(C:ZJ)(f:IV)(xs:List IV)(imp:Bool)(lvl:Nat)(env:List (Nat×IV))(loc:List (Nat×Ob))(out:Zb)(d:Option Nat)(K:St->Prop):Prop :=
 match f with
 | .fn fid caps=>kcs C fid imp lvl env loc out d K (xs.map Va++caps)
 | _=>False
theorem ZvO{imp:Bool}{f:X}{xs:List X}:ZD C d (.ca .same imp f xs) ⟨lvl,env,loc,out⟩ K=Zko C (xv env f) (xs.map (xv env)) imp lvl env loc out d K:=by rw[JQ rfl];simp only[ew];generalize xv env f=v;cases v<;>rfl
theorem ZvP{fid:FuncId}{caps xs:List IV}{imp:Bool}:Zko C (.fn fid caps) xs imp lvl env loc out d K=kcs C fid imp lvl env loc out d K (xs.map Va++caps):=(rfl)
def Zkp(C:ZJ)(f:IV)(xs:List IV)(imp:Bool)(lvl:Nat)(env:List (Nat×IV))(loc:List (Nat×Ob))(out:Zb)(d:Option Nat)(K:St->Prop):Prop :=
 match f with
 | .fn fid caps=>kcs C fid imp lvl env loc out d K (xs++caps)
 | _=>False
theorem ZvQ{imp:Bool}{f:X}{xs:List X}:ZD C d (.ca .keep imp f xs) ⟨lvl,env,loc,out⟩ K=Zkp C (xv env f) (xs.map (xv env)) imp lvl env loc out d K:=by rw[JQ rfl];simp only[ew];generalize xv env f=v;cases v<;>rfl
theorem ZvR{fid:FuncId}{caps xs:List IV}{imp:Bool}:Zkp C (.fn fid caps) xs imp lvl env loc out d K=kcs C fid imp lvl env loc out d K (xs++caps):=(rfl)
def UH(C:ZJ)(fid:FuncId)(imp:Bool)(lvl:Nat)(env:List (Nat×IV))(loc:List (Nat×Ob))(out:Zb)(d:Option Nat)(K:St->Prop)(args:List IV):Prop :=
 ∃ r loc' out',(∀ i,i.1=lvl->out' i=out i)/\C fid (lvl+1) args (ZF lvl loc out) r (ZF lvl loc' out')/\freshK (keyOf d) loc' (impv imp lvl (keyOf d) 0 r).2.length/\K ⟨lvl,ptd d (impv imp lvl (keyOf d) 0 r).1 env,addO (keyOf d) (impv imp lvl (keyOf d) 0 r).2 loc',out'⟩
theorem Wm{fid:FuncId}{imp:Bool}{args:List IV}{r:IV}(loc':List (Nat×Ob))(out':Zb)(ho:∀ i,i.1=lvl->out' i=out i)(h:C fid (lvl+1) args (ZF lvl loc out) r (ZF lvl loc' out'))
  (hk:freshK (keyOf d) loc' (impv imp lvl (keyOf d) 0 r).2.length/\K ⟨lvl,ptd d (impv imp lvl (keyOf d) 0 r).1 env,addO (keyOf d) (impv imp lvl (keyOf d) 0 r).2 loc',out'⟩):UH C fid imp lvl env loc out d K args:=⟨r,loc',out',ho,h,hk⟩
def Zkq(C:ZJ)(f:IV)(xs:List IV)(imp:Bool)(lvl:Nat)(env:List (Nat×IV))(loc:List (Nat×Ob))(out:Zb)(d:Option Nat)(K:St->Prop):Prop :=
 match f with
 | .fn fid caps=>UH C fid imp lvl env loc out d K (xs.map Va++caps)
 | _=>False
theorem ZvS{imp:Bool}{f:X}{xs:List X}:ZD C d (.ca .any imp f xs) ⟨lvl,env,loc,out⟩ K=Zkq C (xv env f) (xs.map (xv env)) imp lvl env loc out d K:=by rw[JQ rfl];simp only[ew];generalize xv env f=v;cases v<;>rfl
theorem ZvT{fid:FuncId}{caps xs:List IV}{imp:Bool}:Zkq C (.fn fid caps) xs imp lvl env loc out d K=UH C fid imp lvl env loc out d K (xs.map Va++caps):=(rfl)
def kfe(K:IV->Zb->Prop)(l:List IV)(st:St):Prop:=match l with | [x]=>K x st.out | xs=>K (.tu xs) st.out
theorem ZvU{rs:List RS}{K:IV->Zb->Prop}:Jt rs st K=X4 rs st (kfe K):=(rfl)
theorem ZvV{K:IV->Zb->Prop}:kfe K [] ⟨lvl,env,loc,out⟩=K (.tu []) out:=(rfl)
theorem ZvW{K:IV->Zb->Prop}{x:IV}:kfe K [x] ⟨lvl,env,loc,out⟩=K x out:=(rfl)
theorem ZvX{K:IV->Zb->Prop}{x y:IV}{r:List IV}:kfe K (x::y::r) ⟨lvl,env,loc,out⟩=K (.tu (x::y::r)) out:=(rfl)
def kex(rs:List RS)(F:List IV->St->Prop)(x:IV)(st:St):Prop:=X4 rs st fun xs st'' => F (x::xs) st''
def kcx(x:IV)(F:List IV->St->Prop)(l:List IV)(st:St):Prop:=F (x::l) st
theorem ZvY{x:IV}{F:List IV->St->Prop}{l:List IV}:kcx x F l st=F (x::l) st:=(rfl)
theorem ZvZ{F:List IV->St->Prop}:X4 [] st F=F [] st:=(rfl)
theorem Zv0{r:RS}{rs:List RS}{F:List IV->St->Prop}:X4 (r::rs) st F=X3 r st (kex rs F):=(rfl)
theorem Zv1{rs:List RS}{F:List IV->St->Prop}{x:IV}:kex rs F x st=X4 rs st (kcx x F):=(rfl)
theorem Zv2{n:Nat}{ks:List Nat}{F:IV->St->Prop}:X3 (.t n ks) ⟨lvl,env,loc,out⟩ F=Y4 ks (lk n env) ⟨lvl,env,loc,out⟩ F:=(rfl)
def exb(o:Option Ob)(off:Nat)(m:Option Nat)(ks:List Nat)(st:St)(F:IV->St->Prop):Prop :=
 match o,m with
 | some (.bx cells),some m=>off+m<=cells.length/\Y4 ks (.ag ((cells.drop off).take m)) st F
 | some (.bx cells),none=>Jg cells[off]? fun x=>isCell x=true/\Y4 ks x st F
 | _,_=>False
def Zkr(ks:List Nat)(st:St)(F:IV->St->Prop)(x:IV):Prop:=isCell x=true/\Y4 ks x st F
theorem Zv3{ks:List Nat}{F:IV->St->Prop}{x:IV}:Zkr ks st F x=(isCell x=true/\Y4 ks x st F):=(rfl)
theorem Zv4{cells:List IV}{off m:Nat}{ks:List Nat}{F:IV->St->Prop}:exb (some (.bx cells)) off (some m) ks st F=(off+m<=cells.length/\Y4 ks (.ag ((cells.drop off).take m)) st F):=(rfl)
theorem Zv5{cells:List IV}{off:Nat}{ks:List Nat}{F:IV->St->Prop}:exb (some (.bx cells)) off none ks st F=Jg cells[off]? (Zkr ks st F):=(rfl)
def exk(x:IV)(st:St)(F:IV->St->Prop):Prop :=
 match x with
 | .cs es=>F (.cs es) st
 | _=>False
theorem Zv6{n:Nat}{F:IV->St->Prop}:X3 (.k n) ⟨lvl,env,loc,out⟩ F=exk (lk n env) ⟨lvl,env,loc,out⟩ F:=(rfl)
theorem Zv7{es:Row}{F:IV->St->Prop}:exk (.cs es) st F=F (.cs es) st:=(rfl)
def exc(v:IV)(m:Option Nat)(ks:List Nat)(st:St)(F:IV->St->Prop):Prop :=
 match v with
 | .ab id off=>exb (st.sto id) off m ks st F
 | _=>False
theorem Zv8{n:Nat}{m:Option Nat}{ks:List Nat}{F:IV->St->Prop}:X3 (.c n m ks) ⟨lvl,env,loc,out⟩ F=exc (lk n env) m ks ⟨lvl,env,loc,out⟩ F:=by
 simp only[X3];generalize lk n env=v;cases v<;>try rfl
 rename_i id off;dsimp only[exc];generalize (⟨lvl,env,loc,out⟩:St).sto id=o;cases o with
 | none=>rfl
 | some ob =>
  cases ob with
  | ar=>cases m<;>rfl
  | mp=>cases m<;>rfl
  | bx cells =>
   cases m with
   | some m=>rfl
   | none=>exact YT
theorem Zv9{id:Zd}{off:Nat}{m:Option Nat}{ks:List Nat}{F:IV->St->Prop}:exc (.ab id off) m ks ⟨lvl,env,loc,out⟩ F=exb (ZF lvl loc out id) off m ks ⟨lvl,env,loc,out⟩ F:=(rfl)
def Zks(F:IV->St->Prop)(l:List IV)(st:St):Prop:=F (.ag l) st
theorem Zwa{F:IV->St->Prop}{l:List IV}:Zks F l st=F (.ag l) st:=(rfl)
theorem Zwb{ks:List Nat}{l:List IV}{F:IV->St->Prop}:Y4 ks (.ag l) st F=Xh ks l st (Zks F):=(rfl)
theorem Zwc{ks:List Nat}{t:Tr}{F:IV->St->Prop}:Y4 ks (.tr t) st F=F (.tr t) st:=(rfl)
theorem Zwd{ks:List Nat}{es:Row}{F:IV->St->Prop}:Y4 ks (.cs es) st F=Yr (ks.headD 0) (.cs es) st F:=(rfl)
theorem Zwe{ks:List Nat}{id:Zd}{p:Zn}{off len s:Nat}{cap:Option Nat}{F:IV->St->Prop}:Y4 ks (.hd id p off len cap s) st F=Yr (ks.headD 0) (.hd id p off len cap s) st F:=(rfl)
theorem Zwf{ks:List Nat}{F:IV->St->Prop}:Y4 ks .er st F=F .er st:=(rfl)
theorem Zwg{ks:List Nat}{f:FuncId}{c:List IV}{F:IV->St->Prop}:Y4 ks (.fn f c) st F=(Jk st.lvl c/\F (.fn f c) st):=(rfl)
theorem Zwh{ks:List Nat}{F:IV->St->Prop}:Y4 ks .un st F=F .un st:=(rfl)
def kxc(ks:List Nat)(r:List IV)(F:List IV->St->Prop)(y:IV)(st:St):Prop:=Xh ks r st (kcx y F)
theorem Zwi{ks:List Nat}{r:List IV}{F:List IV->St->Prop}{y:IV}:kxc ks r F y st=Xh ks r st (kcx y F):=(rfl)
theorem Zwj{ks:List Nat}{F:List IV->St->Prop}:Xh ks [] st F=F [] st:=by cases ks<;>rfl
theorem Zwk{ks:List Nat}{x:IV}{r:List IV}{F:List IV->St->Prop}:Xh ks (x::r) st F=Yr (ks.headD 0) x st (kxc ks.tail r F):=(rfl)
theorem Zwl{k:Nat}{t:Tr}{F:IV->St->Prop}:Yr k (.tr t) st F=F (.tr t) st:=(rfl)
theorem Zwm{k:Nat}{F:IV->St->Prop}:Yr (k+1) (.cs []) st F=F (.ow k [] true) st:=(rfl)
theorem Zwn{es:Row}{F:IV->St->Prop}:Yr 0 (.cs es) st F=F (.tr (.sl es)) st:=(rfl)
theorem Zwo{F:IV->St->Prop}:Yr 1 (.cs []) st F=F (.ow 0 [] true) st:=(rfl)
theorem Zwp{F:IV->St->Prop}:Yr 2 (.cs []) st F=F (.ow 1 [] true) st:=(rfl)
theorem Zwq{F:IV->St->Prop}:Yr 3 (.cs []) st F=F (.ow 2 [] true) st:=(rfl)
theorem Zwr{F:IV->St->Prop}:Yr 4 (.cs []) st F=F (.ow 3 [] true) st:=(rfl)
theorem Zws{F:IV->St->Prop}:Yr 5 (.cs []) st F=F (.ow 4 [] true) st:=(rfl)
theorem Zwt{F:IV->St->Prop}:Yr 6 (.cs []) st F=F (.ow 5 [] true) st:=(rfl)
theorem Zwu{F:IV->St->Prop}:Yr 7 (.cs []) st F=F (.ow 6 [] true) st:=(rfl)
theorem Zwv{k:Nat}{F:IV->St->Prop}:Yr k .er st F=F .er st:=(rfl)
theorem Zww{k:Nat}{F:IV->St->Prop}:Yr k .un st F=F .un st:=(rfl)
def exh(o:Option Ob)(k:Nat)(p:Zn)(off len:Nat)(cap:Option Nat)(s:Nat)(st1:St)(F:IV->St->Prop):Prop :=
 match o with
 | some (.ar k' es u hw _)=>p=[]/\s=hw/\(match k with
  | 0=>off+len<=es.length/\F (.tr (.sl (cut es off len))) st1
  | k1+1=>k1=k'/\off=0/\len=es.length/\cap=none/\F (.ow k' es u) st1)
 | _=>False
theorem Zwx{k key:Nat}{p:Zn}{off len s:Nat}{cap:Option Nat}{F:IV->St->Prop}:Yr k (.hd (lvl,key) p off len cap s) ⟨lvl,env,loc,out⟩ F=exh (lkO key loc) k p off len cap s (Zw (lvl,key) ⟨lvl,env,loc,out⟩) F:=by
 unfold Yr;dsimp only;rw[if_pos rfl];have:(⟨lvl,env,loc,out⟩:St).sto (lvl,key)=lkO key loc:=J3;rw[this];generalize lkO key loc=o;cases o with
 | none=>rfl
 | some ob=>cases ob<;>cases k<;>rfl
theorem Zwy{k':Nat}{es:Row}{u:Bool}{hw ver:Nat}{p:Zn}{off len s:Nat}{cap:Option Nat}{st1:St}{F:IV->St->Prop}:exh (some (.ar k' es u hw ver)) 0 p off len cap s st1 F=(p=[]/\s=hw/\off+len<=es.length/\F (.tr (.sl (cut es off len))) st1):=(rfl)
theorem Zwz{k k':Nat}{es:Row}{u:Bool}{hw ver:Nat}{p:Zn}{off len s:Nat}{cap:Option Nat}{st1:St}{F:IV->St->Prop}:exh (some (.ar k' es u hw ver)) (k+1) p off len cap s st1 F=(p=[]/\s=hw/\k=k'/\off=0/\len=es.length/\cap=none/\F (.ow k' es u) st1):=(rfl)
theorem ZaM{k:Nat}{id:Zd}{p:Zn}{off len s:Nat}{cap:Option Nat}{F:IV->St->Prop}(h:id.1≠lvl):Yr k (.hd id p off len cap s) ⟨lvl,env,loc,out⟩ F=F (.hd id p off len cap s) ⟨lvl,env,loc,out⟩:=by unfold Yr;dsimp only;rw[if_neg h]
def memB(t:Nat):List Nat->Bool
 | []=>false
 | a::r=>if t=a then true else memB t r
theorem UI{t:Nat}:∀{l:List Nat},memB t l=true↔t∈l
 | []=>by simp [memB]
 | a::r=>by
  simp only[memB,UaF];by_cases h:t=a
  ·simp [h]
  ·rw[if_neg h,UI];simp [h]
def keepB(ks:List Nat):List (Nat×IV)->List (Nat×IV)
 | []=>[]
 | (t,x)::r=>if memB t ks=true then (t,x)::keepB ks r else keepB ks r
def keepOB(ks:List Nat):List (Nat×Ob)->List (Nat×Ob)
 | []=>[]
 | (t,x)::r=>if memB t ks=true then (t,x)::keepOB ks r else keepOB ks r
theorem Zft{ks:List Nat}:∀{e:List (Nat×IV)},Xg ks e=keepB ks e
 | []=>rfl
 | (t,x)::r=>by simp only[Xg,keepB,Zft (e:=r),UI]
theorem Zfu{ks:List Nat}:∀{e:List (Nat×Ob)},X2 ks e=keepOB ks e
 | []=>rfl
 | (t,x)::r=>by simp only[X2,keepOB,Zfu (e:=r),UI]
theorem ZwA{ks js:List Nat}:fgt ks js ⟨lvl,env,loc,out⟩=⟨lvl,keepB ks env,keepOB js loc,out⟩:=by simp only[fgt,Zft,Zfu]
theorem ZwB{ks js:List Nat}:clean ks js ⟨lvl,env,loc,out⟩=(Ur lvl js (keepB ks env)/\Qy lvl js (keepOB js loc)):=by simp only[clean,Zft,Zfu]
theorem ZwC{js:List Nat}{k:Nat}{p:Zn}{off len s:Nat}{cap:Option Nat}:Yh lvl js (.hd (lvl,k) p off len cap s)=(memB k js=true):=by apply propext;simp only[Yh,men,forall_const,UI]
theorem ZwD{js:List Nat}{k off:Nat}:Yh lvl js (.ab (lvl,k) off)=(memB k js=true):=by apply propext;simp only[Yh,men,forall_const,UI]
theorem ZwE{js:List Nat}{k:Nat}:Yh lvl js (.sv (lvl,k))=(memB k js=true):=by apply propext;simp only[Yh,men,forall_const,UI]
theorem ZwF{js:List Nat}{k:Nat}{p:Zn}{i f s:Nat}:Yh lvl js (.ae (lvl,k) p i f s)=(memB k js=true):=by apply propext;simp only[Yh,men,forall_const,UI]
theorem J8{js:List Nat}{id:Zd}{p:Zn}{off len s:Nat}{cap:Option Nat}(h:id.1≠lvl):Yh lvl js (.hd id p off len cap s)=True:=by apply propext;simp only[Yh,men,iff_true];exact fun hh=>absurd hh h
theorem ZwG{js:List Nat}{t:Tr}:Yh lvl js (.tr t)=True:=(rfl)
theorem ZwH{js:List Nat}{es:Row}:Yh lvl js (.cs es)=True:=(rfl)
theorem ZwI{js:List Nat}{l:List IV}:Yh lvl js (.ag l)=VW lvl js l:=by simp only[Yh,VW,men]
theorem ZwJ{js:List Nat}{l:List IV}:Yh lvl js (.tu l)=VW lvl js l:=by simp only[Yh,VW,men]
theorem ZwK{js:List Nat}{f:FuncId}{l:List IV}:Yh lvl js (.fn f l)=VW lvl js l:=by simp only[Yh,VW,men]
theorem ZwL{js:List Nat}:Yh lvl js .un=True:=(rfl)
theorem ZwM{js:List Nat}:Yh lvl js .er=True:=(rfl)
theorem ZwN{js:List Nat}{l:List Tr}:Yh lvl js (.ta l)=True:=(rfl)
theorem ZwO{js:List Nat}:VW lvl js []=True:=(rfl)
theorem ZwP{js:List Nat}{x:IV}{r:List IV}:VW lvl js (x::r)=(Yh lvl js x/\VW lvl js r):=(rfl)
theorem ZwQ{js:List Nat}:Ur lvl js []=True:=(rfl)
theorem ZwR{js:List Nat}{t:Nat}{x:IV}{r:List (Nat×IV)}:Ur lvl js ((t,x)::r)=(Yh lvl js x/\Ur lvl js r):=(rfl)
theorem ZwS{js:List Nat}:Qy lvl js []=True:=(rfl)
theorem ZwT{js:List Nat}{t:Nat}{x:List IV}{r:List (Nat×Ob)}:Qy lvl js ((t,.bx x)::r)=(VW lvl js x/\Qy lvl js r):=(rfl)
theorem ZwU{js:List Nat}{t k:Nat}{es:Row}{u:Bool}{hw ver:Nat}{r:List (Nat×Ob)}:Qy lvl js ((t,.ar k es u hw ver)::r)=Qy lvl js r:=(rfl)
theorem ZwV{js:List Nat}{t:Nat}{l:List (Int×Int)}{r:List (Nat×Ob)}:Qy lvl js ((t,.mp l)::r)=Qy lvl js r:=(rfl)
def UJ(ks js:List Nat)(J:St->Prop)(Q:Ex->St->Prop):Ex->St->Prop:=fun e s' => match e with | .nrm=>clean ks js s'/\J (fgt ks js s') | e=>Q e s'
theorem ZwW{ks js:List Nat}{J:St->Prop}:UJ ks js J Q .nrm st=(clean ks js st/\J (fgt ks js st)):=(rfl)
theorem ZwX{ks js:List Nat}{J:St->Prop}{i:Nat}:UJ ks js J Q (.ext i) st=Q (.ext i) st:=(rfl)
theorem ZwY{ks js:List Nat}{J:St->Prop}:UJ ks js J Q .ret st=Q .ret st:=(rfl)
theorem ZwZ{ks js:List Nat}{c:C2}(I:Nat->St->Prop)(n0:Nat)(h0:clean ks js st/\I n0 (fgt ks js st))(hs:∀ n s,I n s->wp C c s (UJ ks js (fun s' => ∃ m,m<n/\I m s') Q)):wp C (.lp ks js c) st Q:=by
 refine⟨I,⟨h0.1,n0,h0.2⟩,fun n s hI=>?_⟩;have h:=hs n s hI;have e:(UJ ks js (fun s' => ∃ m,m<n/\I m s') Q)=fun e s' => match e with | .nrm=>clean ks js s'/\∃ m,m<n/\I m (fgt ks js s') | e=>Q e s':=by funext e s';cases e<;>rfl
 rw[e] at h;exact h
def Zfv{α:Type}(N:Nat)(mk:Nat->α->St)(A:Nat->α->Prop)(n:Nat)(s':St):Prop:=∃ m,m<n/\∃ k x,k+m=N/\s'=mk k x/\A k x
theorem Zz{α:Type}{N:Nat}{mk:Nat->α->St}{A:Nat->α->Prop}{k:Nat}{s':St}(y:α)(hk:k<N)(h:s'=mk (k+1) y)(ha:A (k+1) y):Zfv N mk A (N-k) s':=⟨N-(k+1),by omega,k+1,y,by omega,h,ha⟩
theorem J9{α:Type}{ks js:List Nat}{c:C2}(N:Nat)(mk:Nat->α->St)(A:Nat->α->Prop)(x0:α)(h0:clean ks js st/\fgt ks js st=mk 0 x0)(hA:A 0 x0)
  (hs:∀ k x,k<=N->A k x->wp C c (mk k x) (UJ ks js (Zfv N mk A (N-k)) Q)):wp C (.lp ks js c) st Q:=by
 refine ZwZ (fun n s=>∃ k x,k+n=N/\s=mk k x/\A k x) N ⟨h0.1,0,x0,by omega,h0.2,hA⟩ (fun n s ⟨k,x,hk,he,ha⟩=>?_);subst he;have h:=hs k x (by omega) ha;have hn:N-k=n:=by omega
 rw[hn] at h;exact h
end
end Go.Fd
namespace Go.Fd
section
variable {C:ZJ} {lvl:Nat} {env:List (Nat×IV)} {loc:List (Nat×Ob)} {out:Zb} {d:Option Nat} {K:St->Prop} {st:St}
def st2(v:Option (List IV))(m:Nat)(p:IV)(d:Option Nat)(st:St)(K:St->Prop):Prop :=
 match v with
 | some l=>d=none/\l.length=m /\
  match p with
  | .ab id off =>
   match st.sto id with
   | some (.bx cells)=>off+l.length<=cells.length/\Jk (id.1+1) l/\K (Zp st id (.bx (Yb cells off l)))
   | _=>False
  | .ae id p i f s=>YO id p i s f l st K
  | _=>False
 | none=>False
theorem Zw0{m:Nat}{p x:X}:ZD C d (.st m p x) ⟨lvl,env,loc,out⟩ K=st2 (cellsOf (xv env x)) m (xv env p) d ⟨lvl,env,loc,out⟩ K:=by
 rw[JQ rfl];simp only[ew];generalize cellsOf (xv env x)=v;cases v with
 | none=>simp [st2]
 | some l=>rfl
def stb(o:Option Ob)(id:Zd)(off:Nat)(l:List IV)(st:St)(K:St->Prop):Prop :=
 match o with
 | some (.bx cells)=>off+l.length<=cells.length/\Jk (id.1+1) l/\K (Zp st id (.bx (Yb cells off l)))
 | _=>False
theorem Zw1{m:Nat}{l:List IV}{id:Zd}{off:Nat}:st2 (some l) m (.ab id off) d ⟨lvl,env,loc,out⟩ K=(d=none/\l.length=m/\stb (ZF lvl loc out id) id off l ⟨lvl,env,loc,out⟩ K):=(rfl)
theorem Zw2{m:Nat}{l:List IV}{id:Zd}{p:Zn}{i f s:Nat}:st2 (some l) m (.ae id p i f s) d st K=(d=none/\l.length=m/\YO id p i s f l st K):=(rfl)
theorem Zw3{cells l:List IV}{id:Zd}{off:Nat}:stb (some (.bx cells)) id off l st K=(off+l.length<=cells.length/\Jk (id.1+1) l/\K (Zp st id (.bx (Yb cells off l)))):=(rfl)
theorem Zcu{cs:List IV}{off:Nat}:Yb cs off []=cs:=(rfl)
theorem Zcv{cs:List IV}{off:Nat}{x:IV}{r:List IV}:Yb cs off (x::r)=Yb (cs.set off x) (off+1) r:=(rfl)
theorem Zw4{l:Nat}:Jk l []=True:=(rfl)
theorem Zw5{l:Nat}{x:IV}{r:List IV}:Jk l (x::r)=(low l x/\Jk l r):=(rfl)
theorem Zw6{l:Nat}{t:Tr}:low l (.tr t)=True:=(rfl)
theorem Zw7{l:Nat}{es:Row}:low l (.cs es)=True:=(rfl)
theorem Zw8{l k:Nat}{p:Zn}{off len s:Nat}{cap:Option Nat}:low (l+1) (.hd (l,k) p off len cap s)=True:=by apply propext;simp [low,men]
theorem Zw9{l k off:Nat}:low (l+1) (.ab (l,k) off)=True:=by apply propext;simp [low,men]
theorem Zxa{l:Nat}{c:List IV}:low l (.ag c)=Jk l c:=by simp only[low,Jk,men]
theorem Zxb{l:Nat}{c:List IV}:low l (.tu c)=Jk l c:=by simp only[low,Jk,men]
theorem Zxc{l k:Nat}{es:Row}{u:Bool}:low l (.ow k es u)=True:=(rfl)
theorem Zxd{l:Nat}:low l .un=True:=(rfl)
theorem Zxe{l:Nat}:low l .er=True:=(rfl)
theorem Zxf{l:Nat}{c:List Tr}:low l (.ta c)=True:=(rfl)
def kst(id:Zd)(p:Zn)(i s f:Nat)(r:List IV)(K:St->Prop)(st':St):Prop:=YO id p i s f r st' K
theorem Zxg{id:Zd}{p:Zn}{i s f:Nat}{r:List IV}:kst id p i s f r K st=YO id p i s f r st K:=(rfl)
theorem Zxh{id:Zd}{p:Zn}{i s f:Nat}:YO id p i s f [] st K=K st:=(rfl)
def sc1(o:Option Ob)(id:Zd)(p:Zn)(i f s:Nat)(x:IV)(st:St)(K:St->Prop):Prop :=
 match o with
 | some (.ar k es u hw ver)=>J2 p s hw ver u/\Jg (getp es p) fun es' => Jg es'[i]? fun e=>Jg e[f]? fun t0 =>
  match x with
  | .tr (.v y)=>isSc t0=true/\K (Zp st id (.ar k (ZK es p i f (.v y)) u hw ver))
  | .cs []=>p=[]/\K (Zp st id (.ar k (ZK es [] i f (.sl [])) u hw (ver+1)))
  | .cs zs=>p=[]/\K (Zp st id (.ar k (ZK es [] i f (.sl zs)) false hw (ver+1)))
  | .tr (.sl zs)=>p=[]/\K (Zp st id (.ar k (ZK es [] i f (.sl zs)) false hw (ver+1)))
  | .hd id2 [] 0 len none s2=>p=[]/\id2≠id/\id2.1=st.lvl /\
   match st.sto id2 with
   | some (.ar _ zs u2 hw2 _)=>s2=hw2/\len=zs.length/\K (Zp (Zw id2 st) id (.ar k (ZK es [] i f (.sl zs)) (u&&u2) hw (ver+1)))
   | _=>False
  | .hd id2 [(a,b)] 0 len none s2=>p=[]/\id2=id/\a=i/\b=f/\u=true/\s2=ver/\U5 t0=some len/\K (Zp st id (.ar k es u hw ver))
  | _=>False
 | _=>False
theorem Zxi{id:Zd}{p:Zn}{i s f:Nat}{x:IV}{r:List IV}:YO id p i s f (x::r) ⟨lvl,env,loc,out⟩ K=sc1 (ZF lvl loc out id) id p i f s x ⟨lvl,env,loc,out⟩ (kst id p i s (f+1) r K):=by
 simp only[YO,X0,sc1];rw[show (⟨lvl,env,loc,out⟩:St).sto id=ZF lvl loc out id from rfl];generalize ZF lvl loc out id=o;cases o with
 | none=>rfl
 | some ob =>
  cases ob with
  | bx=>rfl
  | mp=>rfl
  | ar k es u hw ver =>
   dsimp only;rw[<-YT];apply propext;constructor
   ·rintro⟨es',h1,h2,e,h3,t0,h4,h5⟩
    refine⟨h2,es',h1,?_⟩;rw[h3];simp only[Jg];rw[h4];exact h5
   ·rintro⟨h2,es',h1,h3⟩
    rw[<-YT] at h3;obtain⟨e,h3,h4⟩:=h3;rw[<-YT] at h4;obtain⟨t0,h4,h5⟩:=h4;exact⟨es',h1,h2,e,h3,t0,h4,h5⟩
def W5(k:Nat)(es:Row)(u:Bool)(hw ver:Nat)(id:Zd)(p:Zn)(i f:Nat)(x:IV)(st:St)(K:St->Prop)(t0:Tr):Prop :=
  match x with
  | .tr (.v y)=>isSc t0=true/\K (Zp st id (.ar k (ZK es p i f (.v y)) u hw ver))
  | .cs []=>p=[]/\K (Zp st id (.ar k (ZK es [] i f (.sl [])) u hw (ver+1)))
  | .cs zs=>p=[]/\K (Zp st id (.ar k (ZK es [] i f (.sl zs)) false hw (ver+1)))
  | .tr (.sl zs)=>p=[]/\K (Zp st id (.ar k (ZK es [] i f (.sl zs)) false hw (ver+1)))
  | .hd id2 [] 0 len none s2=>p=[]/\id2≠id/\id2.1=st.lvl /\
   match st.sto id2 with
   | some (.ar _ zs u2 hw2 _)=>s2=hw2/\len=zs.length/\K (Zp (Zw id2 st) id (.ar k (ZK es [] i f (.sl zs)) (u&&u2) hw (ver+1)))
   | _=>False
  | .hd id2 [(a,b)] 0 len none s2=>p=[]/\id2=id/\a=i/\b=f/\u=true/\s2=ver/\U5 t0=some len/\K (Zp st id (.ar k es u hw ver))
  | _=>False
def sc3(k:Nat)(es:Row)(u:Bool)(hw ver:Nat)(id:Zd)(p:Zn)(i f:Nat)(x:IV)(st:St)(K:St->Prop)(e:List Tr):Prop:=Jg e[f]? (W5 k es u hw ver id p i f x st K)
def sc4(k:Nat)(es:Row)(u:Bool)(hw ver:Nat)(id:Zd)(p:Zn)(i f:Nat)(x:IV)(st:St)(K:St->Prop)(es':Row):Prop:=Jg es'[i]? (sc3 k es u hw ver id p i f x st K)
section sc
variable {k:Nat} {es:Row} {u:Bool} {hw ver:Nat} {id:Zd} {p:Zn} {i f s:Nat} {x:IV}
theorem Zxj:sc1 (some (.ar k es u hw ver)) id p i f s x st K=(J2 p s hw ver u/\Jg (getp es p) (sc4 k es u hw ver id p i f x st K)):=(rfl)
theorem Zxk{e:List Tr}:sc3 k es u hw ver id p i f x st K e=Jg e[f]? (W5 k es u hw ver id p i f x st K):=(rfl)
theorem Zxl{es':Row}:sc4 k es u hw ver id p i f x st K es'=Jg es'[i]? (sc3 k es u hw ver id p i f x st K):=(rfl)
theorem Zxm{y:Value}{t0:Tr}:W5 k es u hw ver id p i f (.tr (.v y)) st K t0=(isSc t0=true/\K (Zp st id (.ar k (ZK es p i f (.v y)) u hw ver))):=(rfl)
theorem Zxn{t0:Tr}:W5 k es u hw ver id p i f (.cs []) st K t0=(p=[]/\K (Zp st id (.ar k (ZK es [] i f (.sl [])) u hw (ver+1)))):=(rfl)
theorem Zxo{zs:Row}{t0:Tr}:W5 k es u hw ver id p i f (.tr (.sl zs)) st K t0=(p=[]/\K (Zp st id (.ar k (ZK es [] i f (.sl zs)) false hw (ver+1)))):=(rfl)
def sc5(o:Option Ob)(k:Nat)(es:Row)(u:Bool)(hw ver:Nat)(id:Zd)(i f len s2:Nat)(st2 st:St)(K:St->Prop):Prop :=
 match o with
 | some (.ar _ zs u2 hw2 _)=>s2=hw2/\len=zs.length/\K (Zp st2 id (.ar k (ZK es [] i f (.sl zs)) (u&&u2) hw (ver+1)))
 | _=>False
theorem Zxp{key len s2:Nat}{t0:Tr}:W5 k es u hw ver id p i f (.hd (lvl,key) [] 0 len none s2) ⟨lvl,env,loc,out⟩ K t0=(p=[]/\(lvl,key)≠id/\sc5 (lkO key loc) k es u hw ver id i f len s2 (Zw (lvl,key) ⟨lvl,env,loc,out⟩) ⟨lvl,env,loc,out⟩ K):=by
 simp only[W5];rw[show (⟨lvl,env,loc,out⟩:St).sto (lvl,key)=lkO key loc from J3];generalize lkO key loc=o;apply propext;constructor
 ·rintro⟨h1,h2,_,h3⟩
  refine⟨h1,h2,?_⟩;cases o with
  | none=>exact h3
  | some ob=>cases ob<;>exact h3
 ·rintro⟨h1,h2,h3⟩
  refine⟨h1,h2,trivial,?_⟩;cases o with
  | none=>exact h3
  | some ob=>cases ob<;>exact h3
theorem Zxq{id2:Zd}{a b len s2:Nat}{t0:Tr}:W5 k es u hw ver id p i f (.hd id2 [(a,b)] 0 len none s2) st K t0=(p=[]/\id2=id/\a=i/\b=f/\u=true/\s2=ver/\U5 t0=some len/\K (Zp st id (.ar k es u hw ver))):=(rfl)
theorem Zxr{es:Row}:U5 (.sl es)=some es.length:=(rfl)
theorem Zxs{k2:Nat}{zs:Row}{u2:Bool}{hw2 ver2 len s2:Nat}{st2:St}:sc5 (some (.ar k2 zs u2 hw2 ver2)) k es u hw ver id i f len s2 st2 st K=(s2=hw2/\len=zs.length/\K (Zp st2 id (.ar k (ZK es [] i f (.sl zs)) (u&&u2) hw (ver+1)))):=(rfl)
end sc
theorem Zxt{k n:Nat}{z:List Value}{ps:List (Nat×X)}:ZD C d (.bw k n z ps) ⟨lvl,env,loc,out⟩ K=ew C d ⟨lvl,env,loc,out⟩ K (.bw k n z ps):=JQ rfl
def kbw(k lvl:Nat)(d:Option Nat)(K:St->Prop)(ts:List Tr)(u:Bool)(st':St):Prop :=
 K { Zp st' (lvl,keyOf d) (.ar k [ts] u 1 0) with env:=ptd d (.hd (lvl,keyOf d) [] 0 1 none 1) st'.env }
theorem Zxu{k:Nat}{ts:List Tr}{u:Bool}:kbw k lvl d K ts u ⟨lvl,env,loc,out⟩=K ⟨lvl,ptd d (.hd (lvl,keyOf d) [] 0 1 none 1) env,ptO (keyOf d) (.ar k [ts] u 1 0) loc,out⟩:=by simp only[kbw,UE]
def bw2(v:Option (List IV))(k n:Nat)(d:Option Nat)(loc:List (Nat×Ob))(lvl:Nat)(st:St)(K:St->Prop):Prop :=
 match v with
 | some l=>n=1/\l.length=k/\freshK (keyOf d) loc 1/\Y3 l st (kbw k lvl d K)
 | none=>False
theorem Zxv{k n:Nat}{z:List Value}{x:X}:ew C d ⟨lvl,env,loc,out⟩ K (.bw k n z [(0,x)])=bw2 (cellsOf (xv env x)) k n d loc lvl ⟨lvl,env,loc,out⟩ K:=by
 simp only[ew];generalize cellsOf (xv env x)=v;cases v with
 | none=>simp [bw2]
 | some l=>rfl
theorem Zxw{k n:Nat}{l:List IV}:bw2 (some l) k n d loc lvl st K=(n=1/\l.length=k/\freshK (keyOf d) loc 1/\Y3 l st (kbw k lvl d K)):=(rfl)
def kmv(r:List IV)(F:List Tr->Bool->St->Prop)(t:Tr)(a:Bool)(st':St):Prop:=Y3 r st' fun ts b st'' => F (t::ts) (a&&b) st''
def kmc(t:Tr)(a:Bool)(F:List Tr->Bool->St->Prop)(ts:List Tr)(b:Bool)(st'':St):Prop:=F (t::ts) (a&&b) st''
section mv
variable {r:List IV} {F:List Tr->Bool->St->Prop} {F1:Tr->Bool->St->Prop}
theorem Zxx{t:Tr}{a:Bool}:kmv r F t a st=Y3 r st (kmc t a F):=(rfl)
theorem Zxy{t:Tr}{a:Bool}{ts:List Tr}{b:Bool}:kmc t a F ts b st=F (t::ts) (a&&b) st:=(rfl)
theorem Zxz:Y3 [] st F=F [] true st:=(rfl)
theorem ZxA{x:IV}:Y3 (x::r) st F=Xe st x (kmv r F):=(rfl)
theorem ZxB{y:Value}:Xe st (.tr (.v y)) F1=F1 (.v y) true st:=(rfl)
theorem ZxC{es:Row}:Xe st (.tr (.sl es)) F1=F1 (.sl es) false st:=(rfl)
theorem ZxD:Xe st (.cs []) F1=F1 (.sl []) true st:=(rfl)
def mv5(o:Option Ob)(len s2:Nat)(st1:St)(F1:Tr->Bool->St->Prop):Prop :=
 match o with
 | some (.ar _ zs u2 hw2 _)=>s2=hw2/\len=zs.length/\F1 (.sl zs) u2 st1
 | _=>False
theorem ZxE{key len s2:Nat}:Xe ⟨lvl,env,loc,out⟩ (.hd (lvl,key) [] 0 len none s2) F1=mv5 (lkO key loc) len s2 (Zw (lvl,key) ⟨lvl,env,loc,out⟩) F1:=by
 simp only[Xe];rw[show (⟨lvl,env,loc,out⟩:St).sto (lvl,key)=lkO key loc from J3];generalize lkO key loc=o;apply propext;constructor
 ·rintro⟨_,h3⟩
  cases o with
  | none=>exact h3
  | some ob=>cases ob<;>exact h3
 ·intro h3;refine⟨trivial,?_⟩;cases o with
  | none=>exact h3
  | some ob=>cases ob<;>exact h3
theorem ZxF{k2:Nat}{zs:Row}{u2:Bool}{hw2 ver2 len s2:Nat}:mv5 (some (.ar k2 zs u2 hw2 ver2)) len s2 st F1=(s2=hw2/\len=zs.length/\F1 (.sl zs) u2 st):=(rfl)
end mv
def ZaN:IV->Prop
 | .hd _ [] 0 _ none _=>True
 | _=>False
theorem ZxG{id:Zd}{len s:Nat}:ZaN (.hd id [] 0 len none s)=True:=(rfl)
def W6:List IV->Prop
 | []=>True
 | .tr (.v _)::r=>W6 r
 | _=>False
theorem ZxH:W6 []=True:=(rfl)
theorem ZxI{y:Value}{r:List IV}:W6 (.tr (.v y)::r)=W6 r:=(rfl)
def smp(p:IV)(l:Option (List IV)):Prop :=
 match p with
 | .ab .. => True
 | .ae .. => l≠some []/\W6 (l.getD [])
 | _=>False
theorem ZxJ{id:Zd}{off:Nat}{l:Option (List IV)}:smp (.ab id off) l=True:=(rfl)
theorem ZxK{id:Zd}{p:Zn}{i f s:Nat}{x:IV}{r:List IV}:smp (.ae id p i f s) (some (x::r))=W6 (x::r):=by simp [smp]
theorem Zkt{id:Zd}{p:Zn}{i s k:Nat}{u:Bool}{hw ver:Nat}:∀(l:List IV) (f:Nat) (es:Row) (st0:St) (K:St->Prop),W6 l->st0.sto id=some (.ar k es u hw ver)->YO id p i s f l st0 K->QQ p i f l es (fun es' => K (Zp st0 id (.ar k es' u hw ver)))\/l=[]
 | [],f,es,st0,K,_,_,h=>.inr rfl
 | x::r,f,es,st0,K,ha,hs,h=>by
  refine .inl ?_;simp only[YO,X0] at h;rw[hs] at h;obtain⟨es',hg,hst,e,hi,t0,hf,h⟩:=h;cases x with
  | tr t =>
   cases t with
   | v y =>
    obtain⟨hsc,h⟩:=h;simp only[QQ];refine⟨es',hg,e,hi,t0,hf,hsc,?_⟩;have hs1:(Zp st0 id (.ar k (ZK es p i f (.v y)) u hw ver)).sto id=some (.ar k (ZK es p i f (.v y)) u hw ver):=by rw[Yt];unfold Zo;rw[if_pos rfl]
    rcases Zkt r (f+1) _ _ K ha hs1 h with g | g
    ·simp only[Zb5] at g;exact g
    ·subst g;exact h
   | sl=>cases ha
  | _=>cases ha
theorem ZxL{m:Nat}{p x:X}:ZD C d (.s0 m p x) ⟨lvl,env,loc,out⟩ K=(smp (xv env p) (cellsOf (xv env x))/\ZD C d (.st m p x) ⟨lvl,env,loc,out⟩ K):=by
 rw[JQ rfl,JQ rfl];simp only[ew,JG];generalize cellsOf (xv env x)=v;generalize xv env p=q;apply propext;constructor
 ·rintro⟨h0,h⟩
  split at h<;>try contradiction
  rename_i l;obtain⟨h1,h⟩:=h;split at h<;>try contradiction
  ·exact⟨trivial,h0,h1,h⟩
  ·rename_i id p i f s;split at h<;>try contradiction
   rename_i k es u hw ver hs;obtain⟨g1,g2,g3⟩:=h;refine⟨⟨by simpa using g1,?_⟩,h0,h1,ZeT g2 l f es _ K hs g3 (fun e=>absurd e g1)⟩;have:∀(l:List IV) (f:Nat) (es:Row) (K:Row->Prop),QQ p i f l es K->W6 l:=by
    intro l
    induction l with
    | nil=>intros;trivial
    | cons x r ih =>
     intro f es K h;simp only[QQ] at h;obtain⟨_,_,_,_,_,_,_,h⟩:=h;split at h<;>try contradiction
     exact ih _ _ _ h
   exact this _ _ _ _ g3
 ·rintro⟨h3,h0,h⟩
  refine⟨h0,?_⟩;split at h<;>try contradiction
  rename_i l;obtain⟨h1,h⟩:=h;refine⟨h1,?_⟩;split at h<;>try contradiction
  ·exact h
  ·rename_i id p i f s;obtain⟨g1,g2⟩:=h3;cases l with
   | nil=>exact absurd rfl g1
   | cons y r =>
    have h':=h;simp only[YO,X0] at h';split at h'<;>try contradiction
    rename_i k es u hw ver hs;refine⟨by simp,h'.choose_spec.2.1,?_⟩;rcases Zkt _ _ _ _ K g2 hs h with g | g
    ·exact g
    ·cases g
theorem ZxM{k:Nat}{x y:X}:ZD C d (.a0 k x y) ⟨lvl,env,loc,out⟩ K=(ZaN (xv env x)/\ZD C d (.ap k 0 x y) ⟨lvl,env,loc,out⟩ K):=by
 rw[JQ rfl,JQ rfl];apply propext;constructor
 ·intro he;refine⟨?_,ZiY he⟩;simp only[ew,JG] at he;split at he<;>try contradiction
  rename_i hx;rw[hx];trivial
 ·rintro⟨h1,h⟩
  generalize hq:xv env x=q at h1;unfold ZaN at h1;split at h1<;>try contradiction
  rename_i id len s
  have go:∀ items:Row,ScR items->Js d k x loc items true ⟨lvl,env,loc,out⟩ K->match ZF lvl loc out id with
   | some (.ar k' es u hw ver)=>k'=k/\s=hw/\len=es.length/\ScR items/\ZC k items/\len+items.length<=bigN /\
     K { Zp ⟨lvl,env,loc,out⟩ id (.ar k (es++items) u (max hw (len+items.length)) ver) with env:=ptd d (.hd id [] 0 (len+items.length) none (max hw (len+items.length))) env }
   | _=>False:=fun items hsc h=>by
   unfold Js at h;obtain⟨g1,h⟩:=h;simp only[hq] at h;rw[show (⟨lvl,env,loc,out⟩:St).sto id=ZF lvl loc out id from rfl] at h;generalize ZF lvl loc out id=o at h ⊢;cases o with
   | none=>exact h
   | some ob =>
    cases ob with
    | bx=>exact h
    | mp=>exact h
    | ar k' es u hw ver =>
     simp only[UbN] at h;exact⟨h.1,h.2.1,h.2.2.1,hsc,g1,h.2.2.2.1,h.2.2.2.2⟩
  simp only[ew,JG,Vj] at h ⊢;rw[hq];rw[show (⟨lvl,env,loc,out⟩:St).sto=ZF lvl loc out from rfl] at *;split at h<;>try contradiction
  ·rename_i zs hy;simp only[if_true] at h;have:=go zs h.1 h.2;rw[hy];exact this
  ·rename_i zs hy;simp only[if_true] at h;have:=go zs h.1 h.2;rw[hy];exact this
  ·rename_i id2 p2 off2 len2 c2 s2 hy;simp only[if_true] at h;rw[hy];dsimp only;unfold JU at h ⊢;generalize ZF lvl loc out id2=o3 at h ⊢;cases o3 with
   | none=>exact h.elim
   | some ob3 =>
    cases ob3 with
    | bx=>exact h.elim
    | mp=>exact h.elim
    | ar k3 es3 u3 hw3 ver3 =>
     obtain⟨es',q1,q2,q3,q4,q5⟩:=h;have:=go _ q4 q5;split at this<;>try contradiction
     rename_i hs
     show (match ZF lvl loc out id with
      | some (.ar k' es u hw ver)=>k'=k/\s=hw/\len=es.length/\∃ es',getp es3 p2=some es'/\J2 p2 s2 hw3 ver3 u3/\off2+len2<=es'.length/\ScR (cut es' off2 len2)/\ZC k (cut es' off2 len2)/\len+(cut es' off2 len2).length<=bigN /\
        K { Zp ⟨lvl,env,loc,out⟩ id (.ar k (es++cut es' off2 len2) u (max hw (len+(cut es' off2 len2).length)) ver) with env:=ptd d (.hd id [] 0 (len+(cut es' off2 len2).length) none (max hw (len+(cut es' off2 len2).length))) env }
      | _=>False)
     rw[hs];exact⟨this.1,this.2.1,this.2.2.1,es',q1,q2,q3,this.2.2.2⟩
  ·exact absurd h.1 (by decide)
def Zcw:IV->Prop
 | .tr (.sl _)=>True
 | .cs _=>True
 | _=>False
theorem ZxN{es:Row}:Zcw (.tr (.sl es))=True:=(rfl)
theorem ZxO{es:Row}:Zcw (.cs es)=True:=(rfl)
theorem ZxP{k:Nat}{x y:X}:ZD C d (.a1 k x y) ⟨lvl,env,loc,out⟩ K=(ZaN (xv env x)/\Zcw (xv env y)/\ZD C d (.ap k 1 x y) ⟨lvl,env,loc,out⟩ K):=by
 rw[JQ rfl,JQ rfl];apply propext;constructor
 ·intro he;refine⟨?_,?_,ZiZ he⟩
  ·simp only[ew,JG] at he;split at he<;>try contradiction
   rename_i hx;rw[hx];trivial
  ·simp only[ew,JG] at he;split at he<;>try contradiction
   split at he<;>try contradiction
   have h4:=he.2.2.2;unfold U6 at h4;split at h4<;>try contradiction
   ·rename_i hy;rw[hy];trivial
   ·rename_i hy;rw[hy];trivial
 ·rintro⟨h1,h2,h⟩
  generalize hq:xv env x=q at h1;unfold ZaN at h1;split at h1<;>try contradiction
  rename_i id len s
  have go:∀ items:Row,Js d k x loc items false ⟨lvl,env,loc,out⟩ K->match ZF lvl loc out id with
   | some (.ar k' es u hw ver)=>k'=k/\s=hw/\len=es.length/\ZC k items/\len+items.length<=bigN /\
     K { Zp ⟨lvl,env,loc,out⟩ id (.ar k (es++items) false (max hw (len+items.length)) ver) with env:=ptd d (.hd id [] 0 (len+items.length) none (max hw (len+items.length))) env }
   | _=>False:=fun items h=>by
   unfold Js at h;obtain⟨g1,h⟩:=h;simp only[hq] at h;rw[show (⟨lvl,env,loc,out⟩:St).sto id=ZF lvl loc out id from rfl] at h;generalize ZF lvl loc out id=o at h ⊢;cases o with
   | none=>exact h
   | some ob =>
    cases ob with
    | bx=>exact h
    | mp=>exact h
    | ar k' es u hw ver =>
     simp only[UbR] at h;exact⟨h.1,h.2.1,h.2.2.1,g1,h.2.2.2.1,h.2.2.2.2⟩
  simp only[ew,JG,U6] at h ⊢;rw[hq];rw[show (⟨lvl,env,loc,out⟩:St).sto=ZF lvl loc out from rfl] at *;generalize hy:xv env y=yv at h h2 ⊢;unfold Zcw at h2;split at h2<;>try contradiction
  ·simp only[Nat.reduceEqDiff,if_false,true_and] at h;exact go _ h
  ·simp only[Nat.reduceEqDiff,if_false,true_and] at h;exact go _ h
def az1(x n:IV)(d:Option Nat)(k:Nat)(z:List Value)(st:St)(K:St->Prop):Prop :=
 match x with
 | .cs [] =>
  match n with
  | .tr (.v (.int .i64 m))=>0<m/\m<=bigN/\freshK (keyOf d) st.loc 1 /\
    K { Zp st (st.lvl,keyOf d) (.ar k (List.replicate m.toNat (z.map trv)) true m.toNat 0) with env:=ptd d (.hd (st.lvl,keyOf d) [] 0 m.toNat none m.toNat) st.env }
  | _=>False
 | _=>False
theorem ZxQ{k:Nat}{z:List Value}{x n:X}:ZD C d (.az k z x n) ⟨lvl,env,loc,out⟩ K=az1 (xv env x) (xv env n) d k z ⟨lvl,env,loc,out⟩ K:=by rw[JQ rfl];rfl
theorem ZxR{k:Nat}{z:List Value}{m:Int}:az1 (.cs []) (.tr (.v (.int .i64 m))) d k z ⟨lvl,env,loc,out⟩ K=(0<m/\m<=bigN/\freshK (keyOf d) loc 1/\K ⟨lvl,ptd d (.hd (lvl,keyOf d) [] 0 m.toNat none m.toNat) env,ptO (keyOf d) (.ar k (List.replicate m.toNat (z.map trv)) true m.toNat 0) loc,out⟩):=by simp only[az1,UE]
def tbx:IV->Prop
 | .ta _=>True
 | _=>False
theorem ZxS{cells:List Tr}:tbx (.ta cells)=True:=(rfl)
theorem ZxT{m:Option Nat}{p:X}:ZD C d (.lt m p) ⟨lvl,env,loc,out⟩ K=(tbx (xv env p)/\ZD C d (.ld m p) ⟨lvl,env,loc,out⟩ K):=by
 cases m<;>(
  rw[Yd rfl,Yd rfl];simp only[ev];generalize hx:xv env p=q;cases q<;>simp [tbx])
def av4(o:Option Ob)(id:Zd)(es:Row)(hw ver len off2 len2 s2 k:Nat)(d:Option Nat)(st:St)(K:St->Prop):Prop :=
 match o with
 | some (.ar _ es2 false hw2 _)=>s2=hw2/\off2+len2<=es2.length/\ZC k (cut es2 off2 len2)/\len+(cut es2 off2 len2).length<=bigN /\
   K { Zp st id (.ar k (es++cut es2 off2 len2) false (max hw (len+(cut es2 off2 len2).length)) ver) with env:=ptd d (.hd id [] 0 (len+(cut es2 off2 len2).length) none (max hw (len+(cut es2 off2 len2).length))) st.env }
 | _=>False
def av3(y:IV)(id:Zd)(es:Row)(hw ver len k:Nat)(d:Option Nat)(st:St)(K:St->Prop):Prop :=
 match y with
 | .hd id2 [] off2 len2 _ s2=>av4 (st.sto id2) id es hw ver len off2 len2 s2 k d st K
 | _=>False
def av2(o:Option Ob)(y:IV)(id:Zd)(len s k:Nat)(d:Option Nat)(st:St)(K:St->Prop):Prop :=
 match o with
 | some (.ar k' es _ hw ver)=>k'=k/\s=hw/\len=es.length/\av3 y id es hw ver len k d st K
 | _=>False
def av1(x y:IV)(k:Nat)(d:Option Nat)(st:St)(K:St->Prop):Prop :=
 match x with
 | .hd id [] 0 len none s=>av2 (st.sto id) y id len s k d st K
 | _=>False
theorem ZxU{k:Nat}{x y:X}:ZD C d (.a2 k x y) ⟨lvl,env,loc,out⟩ K=av1 (xv env x) (xv env y) k d ⟨lvl,env,loc,out⟩ K:=by rw[JQ rfl];rfl
theorem ZxV{id:Zd}{len s k:Nat}{y:IV}:av1 (.hd id [] 0 len none s) y k d ⟨lvl,env,loc,out⟩ K=av2 (ZF lvl loc out id) y id len s k d ⟨lvl,env,loc,out⟩ K:=(rfl)
theorem ZxW{k' hw ver len s k:Nat}{es:Row}{u:Bool}{y:IV}{id:Zd}:av2 (some (.ar k' es u hw ver)) y id len s k d st K=(k'=k/\s=hw/\len=es.length/\av3 y id es hw ver len k d st K):=(rfl)
theorem ZxX{id id2:Zd}{es:Row}{hw ver len k off2 len2 s2:Nat}{c2:Option Nat}:av3 (.hd id2 [] off2 len2 c2 s2) id es hw ver len k d ⟨lvl,env,loc,out⟩ K=av4 (ZF lvl loc out id2) id es hw ver len off2 len2 s2 k d ⟨lvl,env,loc,out⟩ K:=(rfl)
theorem ZxY{key:Nat}{es es2:Row}{k2 hw ver len off2 len2 s2 k hw2 ver2:Nat}:av4 (some (.ar k2 es2 false hw2 ver2)) (lvl,key) es hw ver len off2 len2 s2 k d ⟨lvl,env,loc,out⟩ K=(s2=hw2/\off2+len2<=es2.length/\ZC k (cut es2 off2 len2)/\len+(cut es2 off2 len2).length<=bigN /\
   K ⟨lvl,ptd d (.hd (lvl,key) [] 0 (len+(cut es2 off2 len2).length) none (max hw (len+(cut es2 off2 len2).length))) env,ptO key (.ar k (es++cut es2 off2 len2) false (max hw (len+(cut es2 off2 len2).length)) ver) loc,out⟩):=by
 simp only[av4,UE]
def abx:IV->Prop
 | .ab .. => True
 | _=>False
theorem ZxZ{id:Zd}{off:Nat}:abx (.ab id off)=True:=(rfl)
theorem Zx0{m:Option Nat}{p:X}:ZD C d (.lb m p none) ⟨lvl,env,loc,out⟩ K=(abx (xv env p)/\ZD C d (.ld m p) ⟨lvl,env,loc,out⟩ K):=by
 cases m<;>(
  rw[Yd rfl,Yd rfl];simp only[ev,VV];generalize hx:xv env p=q;cases q<;>simp [abx])
theorem Zx1{l i j:Nat}{a b:Nat}:VU (.ab (l,i) a) (.ab (l,j) b)=((i=j)=False):=by simp [VU]
theorem Zx2{m:Option Nat}{p:X}{q:Nat}:ZD C d (.lb m p (some q)) ⟨lvl,env,loc,out⟩ K=(VU (xv env p) (xv env (.t q))/\ZD C d (.ld m p) ⟨lvl,env,loc,out⟩ K):=by
 cases m<;>(
  rw[Yd rfl,Yd rfl];simp only[ev,VV];generalize hx:xv env p=q;generalize hy:xv env (.t _)=y;cases q<;>cases y<;>simp [VU])
def QF:IV->Prop
 | .tr (.sl _)=>True
 | .cs _=>True
 | _=>False
theorem Zx3{es:Row}:QF (.tr (.sl es))=True:=(rfl)
theorem Zx4{es:Row}:QF (.cs es)=True:=(rfl)
theorem Zx5{k:Nat}{x:X}{lo hi mx:Option X}:ZD C d (.sy k x lo hi mx) ⟨lvl,env,loc,out⟩ K=(QF (xv env x)/\ZD C d (.sx k x lo hi mx) ⟨lvl,env,loc,out⟩ K):=by
 rw[Yd rfl,Yd rfl];simp only[ev];generalize hx:xv env x=q;cases q with
 | tr t =>
  cases t with
  | v=>simp [QF]
  | sl es=>simp only[QF,true_and]
 | cs es=>simp only[QF,true_and]
 | _=>simp only[QF,false_and]
def Xs(L:Zb)(k:Nat):IV->Prop
 | .tr (.sl _)=>True
 | .cs _=>True
 | .hd id [] _ _ _ _=>JV L id [] k
 | _=>False
theorem Zx6{L:Zb}{k:Nat}{es:Row}:Xs L k (.tr (.sl es))=True:=(rfl)
theorem Zx7{L:Zb}{k:Nat}{es:Row}:Xs L k (.cs es)=True:=(rfl)
theorem Zx8{L:Zb}{k:Nat}{id:Zd}{off len s:Nat}{cap:Option Nat}:Xs L k (.hd id [] off len cap s)=JV L id [] k:=(rfl)
def Zku(m:Nat):Option Ob->Prop
 | some (.ar k _ _ _ _)=>k=m
 | _=>False
theorem Zx9{m k hw ver:Nat}{es:Row}{u:Bool}:Zku m (some (.ar k es u hw ver))=(k=m):=(rfl)
theorem Zya{key m:Nat}:JV (ZF lvl loc out) (lvl,key) [] m=Zku m (lkO key loc):=by
 unfold JV;rw[J3];cases lkO key loc with
 | none=>rfl
 | some ob=>cases ob<;>rfl
theorem Zyb{k:Nat}{x:X}{lo hi mx:Option X}:ZD C d (.sw k x lo hi mx) ⟨lvl,env,loc,out⟩ K=(Xs (ZF lvl loc out) k (xv env x)/\ZD C d (.sx k x lo hi mx) ⟨lvl,env,loc,out⟩ K):=by
 rw[Yd rfl,Yd rfl];simp only[ev];generalize xv env x=q;cases q with
 | tr t =>
  cases t with
  | v=>simp [Xs]
  | sl es=>simp only[Xs,true_and]
 | cs es=>simp only[Xs,true_and]
 | hd id p off len cap s =>
  cases p with
  | nil =>
   simp only[Xs];exact propext ⟨fun⟨hw,h⟩=>⟨hw,Wf (fun a h=>Wf (fun b h=>⟨h.1,h.2.1,Wf (fun m g=>⟨g.1,g.2.1,hw,g.2.2⟩) h.2.2⟩) h) h⟩,fun⟨hw,h⟩=>⟨hw,Wf (fun a h=>Wf (fun b h=>⟨h.1,h.2.1,Wf (fun m g=>⟨g.1,g.2.1,g.2.2.2⟩) h.2.2⟩) h) h⟩⟩
  | cons c r=>simp [Xs]
 | _=>simp [Xs]
theorem Zyc{k:Nat}{x i:X}:ZD C d (.it k x i) ⟨lvl,env,loc,out⟩ K=(QF (xv env x)/\ZD C d (.ia k x i) ⟨lvl,env,loc,out⟩ K):=by
 rw[Yd rfl,Yd rfl];simp only[ev];generalize xv env x=q;generalize xv env i=qi;cases q with
 | tr t =>
  cases t with
  | v=>simp only[QF,false_and];split<;>simp
  | sl es=>simp only[QF,true_and]
 | cs es=>simp only[QF,true_and]
 | _=>simp only[QF,false_and];split<;>simp
def apx(v:IV)(d:Option Nat)(k:Nat)(loc0:List (Nat×Ob))(items:Row)(ui:Bool)(st1:St)(K:St->Prop):Prop :=
 ZC k items /\
 match v with
 | .cs zs=>(zs=[]\/items≠[])/\zs.length+items.length<=bigN/\ZC k zs/\freshK (keyOf d) loc0 1/\(zs=[]\/ui=false\/ScR zs) /\
  K { Zp st1 (st1.lvl,keyOf d) (.ar k (zs++items) ui (zs.length+items.length) 0) with env:=ptd d (.hd (st1.lvl,keyOf d) [] 0 (zs.length+items.length) none (zs.length+items.length)) st1.env }
 | .hd id [] 0 len none s =>
  match st1.sto id with
  | some (.ar k' es u hw ver)=>k'=k/\s=hw/\len=es.length/\len+items.length<=bigN /\
   K { Zp st1 id (.ar k (es++items) (u&&ui) (max hw (len+items.length)) ver) with env:=ptd d (.hd id [] 0 (len+items.length) none (max hw (len+items.length))) st1.env }
  | _=>False
 | _=>False
theorem Zyd{k:Nat}{x:X}{loc0:List (Nat×Ob)}{items:Row}{ui:Bool}:Js d k x loc0 items ui ⟨lvl,env,loc,out⟩ K=apx (xv env x) d k loc0 items ui ⟨lvl,env,loc,out⟩ K:=(rfl)
theorem Zye{k:Nat}{loc0:List (Nat×Ob)}{items zs:Row}{ui:Bool}:apx (.cs zs) d k loc0 items ui ⟨lvl,env,loc,out⟩ K=(ZC k items/\(zs=[]\/items≠[])/\zs.length+items.length<=bigN/\ZC k zs/\freshK (keyOf d) loc0 1/\(zs=[]\/ui=false\/ScR zs) /\
  K ⟨lvl,ptd d (.hd (lvl,keyOf d) [] 0 (zs.length+items.length) none (zs.length+items.length)) env,ptO (keyOf d) (.ar k (zs++items) ui (zs.length+items.length) 0) loc,out⟩):=by
 simp only[apx,UE]
def aph(o:Option Ob)(d:Option Nat)(k:Nat)(id:Zd)(len s:Nat)(items:Row)(ui:Bool)(st1:St)(K:St->Prop):Prop :=
 match o with
 | some (.ar k' es u hw ver)=>k'=k/\s=hw/\len=es.length/\len+items.length<=bigN /\
   K { Zp st1 id (.ar k (es++items) (u&&ui) (max hw (len+items.length)) ver) with env:=ptd d (.hd id [] 0 (len+items.length) none (max hw (len+items.length))) st1.env }
 | _=>False
theorem Zyf{k key len s:Nat}{loc0:List (Nat×Ob)}{items:Row}{ui:Bool}:apx (.hd (lvl,key) [] 0 len none s) d k loc0 items ui ⟨lvl,env,loc,out⟩ K=(ZC k items/\aph (lkO key loc) d k (lvl,key) len s items ui ⟨lvl,env,loc,out⟩ K):=by simp only[apx];rw[show (⟨lvl,env,loc,out⟩:St).sto (lvl,key)=lkO key loc from J3];rfl
theorem Zyg{k k' key len s:Nat}{items es:Row}{u ui:Bool}{hw ver:Nat}:aph (some (.ar k' es u hw ver)) d k (lvl,key) len s items ui ⟨lvl,env,loc,out⟩ K=(k'=k/\s=hw/\len=es.length/\len+items.length<=bigN /\
   K ⟨lvl,ptd d (.hd (lvl,key) [] 0 (len+items.length) none (max hw (len+items.length))) env,ptO key (.ar k (es++items) (u&&ui) (max hw (len+items.length)) ver) loc,out⟩):=by
 simp only[aph,UE]
def QG(C:ZJ)(d:Option Nat)(k md:Nat)(x:X)(y:IV)(st:St)(K:St->Prop):Prop :=
 match y with
 | .tr (.sl es)=>if md=0 then ScR es/\Js d k x st.loc es true st K else md=1/\Js d k x st.loc es false st K
 | .cs es=>if md=0 then ScR es/\Js d k x st.loc es true st K else md=1/\Js d k x st.loc es false st K
 | .hd id2 p2 off2 len2 c2 s2 =>
   if md=2 then
    p2=[]/\off2=0/\c2=none/\id2.1=st.lvl /\
    match st.sto id2 with
    | some (.ar _ zs u2 hw2 _)=>s2=hw2/\len2=zs.length/\Js d k x st.loc zs u2 (Zw id2 st) K
    | _=>False
   else if md=0 then
    JU st.sto id2 p2 s2 fun es _ _=>off2+len2<=es.length/\ScR (cut es off2 len2)/\Js d k x st.loc (cut es off2 len2) true st K
   else md=1/\p2=[] /\
    match st.sto id2 with
    | some (.ar k2 es _ hw2 ver2)=>s2=hw2/\off2+len2<=es.length/\Js d k x st.loc (cut es off2 len2) false (Zp st id2 (.ar k2 es false hw2 ver2)) K
    | _=>False
 | .sv id2=>md=2/\id2.1=st.lvl /\
   match st.sto id2 with
   | some (.bx l)=>l.length=k/\Y3 l st fun ts u st' => Js d k x st.loc [ts] u (Zw id2 st') K
   | _=>False
 | _=>False
theorem Zyh{k md:Nat}{x y:X}:ZD C d (.ap k md x y) ⟨lvl,env,loc,out⟩ K=QG C d k md x (xv env y) ⟨lvl,env,loc,out⟩ K:=by rw[JQ rfl];rfl
theorem Zyi{k:Nat}{x y:X}:ZD C d (.a4 k x y) ⟨lvl,env,loc,out⟩ K=(Xf lvl (keyOf d) (ZF lvl loc out) (xv env x) (xv env y)/\ZD C d (.ap k 2 x y) ⟨lvl,env,loc,out⟩ K):=by
 rw[JQ rfl,JQ rfl];apply propext;constructor
 ·intro h;simp only[ew] at h;exact⟨h.1,Zi0 h.2⟩
 ·rintro⟨h1,h2⟩
  have h0:=h1;unfold Xf at h1;split at h1<;>try contradiction
  split at h1<;>try contradiction
  rename_i hy;simp only[ew,hy] at h2;simp only[ew];refine⟨h0,?_⟩;unfold X1;simp only[hy];exact h2.2
theorem Zyj{i j kd off len s:Nat}{p:Zn}{cap:Option Nat}{L:Zb}:Xf lvl kd L (.hd (lvl,i) p off len cap s) (.sv (lvl,j))=(i<kd/\j<kd/\((i=j)=False)/\U7 lvl kd (lvl,i) (L (lvl,j))):=by simp [Xf]
theorem Zyk{i r kd off len s:Nat}{p:Zn}{cap:Option Nat}:U7 lvl kd (lvl,i) (some (.bx [.hd (lvl,r) p off len cap s]))=(r<kd/\((i=r)=False)):=by simp [U7]
section ap
variable {k:Nat} {x:X}
theorem Zyl{es:Row}:QG C d k 0 x (.tr (.sl es)) ⟨lvl,env,loc,out⟩ K=(ScR es/\Js d k x loc es true ⟨lvl,env,loc,out⟩ K):=(rfl)
theorem Zym{es:Row}:QG C d k 1 x (.tr (.sl es)) ⟨lvl,env,loc,out⟩ K=Js d k x loc es false ⟨lvl,env,loc,out⟩ K:=by simp [QG]
theorem Zyn{es:Row}:QG C d k 0 x (.cs es) ⟨lvl,env,loc,out⟩ K=(ScR es/\Js d k x loc es true ⟨lvl,env,loc,out⟩ K):=(rfl)
theorem Zyo{es:Row}:QG C d k 1 x (.cs es) ⟨lvl,env,loc,out⟩ K=Js d k x loc es false ⟨lvl,env,loc,out⟩ K:=by simp [QG]
def kap(d:Option Nat)(k:Nat)(x:X)(off2 len2:Nat)(st:St)(K:St->Prop)(es:Row)(_u:Bool)(_v:Nat):Prop:=off2+len2<=es.length/\ScR (cut es off2 len2)/\Js d k x st.loc (cut es off2 len2) true st K
theorem Zyp{off2 len2:Nat}{es:Row}{u:Bool}{v:Nat}:kap d k x off2 len2 ⟨lvl,env,loc,out⟩ K es u v=(off2+len2<=es.length/\ScR (cut es off2 len2)/\Js d k x loc (cut es off2 len2) true ⟨lvl,env,loc,out⟩ K):=(rfl)
theorem Zyq{id2:Zd}{p2:Zn}{off2 len2 s2:Nat}{c2:Option Nat}:QG C d k 0 x (.hd id2 p2 off2 len2 c2 s2) ⟨lvl,env,loc,out⟩ K=V0 (ZF lvl loc out id2) p2 s2 (kap d k x off2 len2 ⟨lvl,env,loc,out⟩ K):=by rw[<-W3];rfl
def ap5(o:Option Ob)(d:Option Nat)(k:Nat)(x:X)(len2 s2:Nat)(loc0:List (Nat×Ob))(st1:St)(K:St->Prop):Prop :=
 match o with
 | some (.ar _ zs u2 hw2 _)=>s2=hw2/\len2=zs.length/\Js d k x loc0 zs u2 st1 K
 | _=>False
theorem Zyr{key:Nat}{p2:Zn}{off2 len2 s2:Nat}{c2:Option Nat}:QG C d k 2 x (.hd (lvl,key) p2 off2 len2 c2 s2) ⟨lvl,env,loc,out⟩ K=(p2=[]/\off2=0/\c2=none/\ap5 (lkO key loc) d k x len2 s2 loc (Zw (lvl,key) ⟨lvl,env,loc,out⟩) K):=by
 simp only[QG,if_true];rw[show (⟨lvl,env,loc,out⟩:St).sto (lvl,key)=lkO key loc from J3];generalize lkO key loc=o;apply propext;constructor
 ·rintro⟨h1,h2,h3,_,h5⟩
  refine⟨h1,h2,h3,?_⟩;cases o with
  | none=>exact h5
  | some ob=>cases ob<;>exact h5
 ·rintro⟨h1,h2,h3,h5⟩
  refine⟨h1,h2,h3,trivial,?_⟩;cases o with
  | none=>exact h5
  | some ob=>cases ob<;>exact h5
theorem Zys{k2:Nat}{zs:Row}{u2:Bool}{hw2 ver2 len2 s2:Nat}{loc0:List (Nat×Ob)}{st1:St}:ap5 (some (.ar k2 zs u2 hw2 ver2)) d k x len2 s2 loc0 st1 K=(s2=hw2/\len2=zs.length/\Js d k x loc0 zs u2 st1 K):=(rfl)
def Zfw(d:Option Nat)(k:Nat)(x:X)(loc0:List (Nat×Ob))(id2:Zd)(K:St->Prop)(ts:List Tr)(u:Bool)(st':St):Prop:=Js d k x loc0 [ts] u (Zw id2 st') K
theorem Zyt{loc0:List (Nat×Ob)}{id2:Zd}{ts:List Tr}{u:Bool}:Zfw d k x loc0 id2 K ts u st=Js d k x loc0 [ts] u (Zw id2 st) K:=(rfl)
def aps(o:Option Ob)(d:Option Nat)(k:Nat)(x:X)(loc0:List (Nat×Ob))(id2:Zd)(st1:St)(K:St->Prop):Prop :=
 match o with
 | some (.bx l)=>l.length=k/\Y3 l st1 (Zfw d k x loc0 id2 K)
 | _=>False
theorem Zyu{l:List IV}{loc0:List (Nat×Ob)}{id2:Zd}{st1:St}:aps (some (.bx l)) d k x loc0 id2 st1 K=(l.length=k/\Y3 l st1 (Zfw d k x loc0 id2 K)):=(rfl)
theorem Zyv{key:Nat}:QG C d k 2 x (.sv (lvl,key)) ⟨lvl,env,loc,out⟩ K=aps (lkO key loc) d k x loc (lvl,key) ⟨lvl,env,loc,out⟩ K:=by
 simp only[QG];rw[show (⟨lvl,env,loc,out⟩:St).sto (lvl,key)=lkO key loc from J3];generalize lkO key loc=o;apply propext;constructor
 ·rintro⟨_,_,h⟩
  cases o with
  | none=>exact h
  | some ob=>cases ob<;>exact h
 ·intro h;refine⟨trivial,trivial,?_⟩;cases o with
  | none=>exact h
  | some ob=>cases ob<;>exact h
end ap
theorem Zfx{L:Zb}{F:List IV->Prop}:∀{l:List Tr},Z5 L (l.map .tr) F=F (l.map .tr)
 | []=>Zfs
 | t::r=>by rw[Uah,Zkk,Zfx,Zkg]
theorem Zfy{Pd:Zd->Prop}:∀{l:List Tr},Zc Pd (l.map .tr)=True
 | []=>rfl
 | t::r=>by simp only[Uah,Zc,men,Zfy,and_self]
def nlf(v:IV)(neg:Bool)(lvl:Nat)(env:List (Nat×IV))(loc:List (Nat×Ob))(out:Zb)(d:Option Nat)(K:St->Prop):Prop :=
 match v with
 | .tr (.sl es)=>K ⟨lvl,ptd d (iB neg) env,loc,out⟩/\(es=[]->K ⟨lvl,ptd d (iB !neg) env,loc,out⟩)
 | .cs es=>K ⟨lvl,ptd d (iB neg) env,loc,out⟩/\(es=[]->K ⟨lvl,ptd d (iB !neg) env,loc,out⟩)
 | _=>False
theorem Zyw{C:ZJ}{d:Option Nat}{neg:Bool}{x:X}{lvl:Nat}{env:List (Nat×IV)}{loc:List (Nat×Ob)}{out:Zb}{K:St->Prop}:ZD C d (.nl neg x) ⟨lvl,env,loc,out⟩ K=nlf (xv env x) neg lvl env loc out d K:=by rw[JQ rfl];rfl
theorem Zyx{neg:Bool}{es:Row}{d:Option Nat}{lvl:Nat}{env:List (Nat×IV)}{loc:List (Nat×Ob)}{out:Zb}{K:St->Prop}:nlf (.tr (.sl es)) neg lvl env loc out d K=(K ⟨lvl,ptd d (iB neg) env,loc,out⟩/\(es=[]->K ⟨lvl,ptd d (iB !neg) env,loc,out⟩)):=(rfl)
theorem Zyy{neg:Bool}{es:Row}{d:Option Nat}{lvl:Nat}{env:List (Nat×IV)}{loc:List (Nat×Ob)}{out:Zb}{K:St->Prop}:nlf (.cs es) neg lvl env loc out d K=(K ⟨lvl,ptd d (iB neg) env,loc,out⟩/\(es=[]->K ⟨lvl,ptd d (iB !neg) env,loc,out⟩)):=(rfl)
section row
variable {C:ZJ} {d:Option Nat} {x y hi:X} {lvl:Nat} {env:List (Nat×IV)} {loc:List (Nat×Ob)} {out:Zb} {K:St->Prop} {st:St}
def Yv(d:Option Nat)(x:IV)(st:St)(K:St->Prop):Prop:=K { st with env:=ptd d x st.env }
theorem Zyz{v:IV}:Yv d v ⟨lvl,env,loc,out⟩ K=K ⟨lvl,ptd d v env,loc,out⟩:=(rfl)
theorem Dv{v:IV}{id:Zd}{ob:Ob}:Yv d v (Zp st id ob) K=K { Zp st id ob with env:=ptd d v st.env }:=by unfold Yv;rw[WS]
def cpf(v:IV)(lvl:Nat)(env:List (Nat×IV))(loc:List (Nat×Ob))(out:Zb)(d:Option Nat)(K:St->Prop):Prop :=
 match v with
 | .cs es=>K ⟨lvl,ptd d (iI es.length) env,loc,out⟩
 | _=>False
theorem ZyA:ZD C d (.cp x) ⟨lvl,env,loc,out⟩ K=cpf (xv env x) lvl env loc out d K:=by rw[JQ rfl];rfl
theorem ZyB{es:Row}:cpf (.cs es) lvl env loc out d K=K ⟨lvl,ptd d (iI es.length) env,loc,out⟩:=(rfl)
def shg(o:Option Ob)(id:Zd)(m:Int)(len s k:Nat)(d:Option Nat)(st:St)(K:St->Prop):Prop :=
 match o with
 | some (.ar k2 es u hw ver)=>k2=k/\s=hw/\0<=m/\m.toNat<=len/\len<=es.length/\Yv d (.hd id [] 0 m.toNat none hw) (Zp st id (.ar k2 (es.take m.toNat) u hw (ver+1))) K
 | _=>False
def shf(v hv:IV)(k:Nat)(d:Option Nat)(st:St)(K:St->Prop):Prop :=
 match v with
 | .cs es =>
  match hv with
  | .tr (.v (.int _ m))=>m=es.length/\ZC k es/\Yv d (.cs es) st K
  | _=>False
 | .hd id p off len cap s =>
  match hv with
  | .tr (.v (.int _ m))=>p=[]/\off=0/\cap=none/\shg (st.sto id) id m len s k d st K
  | _=>False
 | _=>False
theorem ZyC{k:Nat}:ZD C d (.sh k x hi) ⟨lvl,env,loc,out⟩ K=shf (xv env x) (xv env hi) k d ⟨lvl,env,loc,out⟩ K:=by
 rw[JQ rfl];simp only[ew];generalize xv env x=v;cases v<;>try rfl
 rename_i id p off len cap s;generalize xv env hi=hv;cases hv<;>try rfl
 rename_i t;cases t<;>try rfl
 rename_i q;cases q<;>try rfl
 simp only[shf,shg];generalize (⟨lvl,env,loc,out⟩:St).sto id=o;cases o with
 | none=>simp
 | some ob =>
  cases ob with
  | bx=>simp
  | mp=>simp
  | ar k2 es u hw ver=>simp only[Dv]
theorem ZyD{id:Zd}{len s k:Nat}{kk:IntKind}{m:Int}:shf (.hd id [] 0 len none s) (.tr (.v (.int kk m))) k d ⟨lvl,env,loc,out⟩ K=shg (ZF lvl loc out id) id m len s k d ⟨lvl,env,loc,out⟩ K:=by simp only[shf,true_and];rfl
theorem ZyE{es:Row}{k:Nat}{kk:IntKind}{m:Int}:shf (.cs es) (.tr (.v (.int kk m))) k d ⟨lvl,env,loc,out⟩ K=(m=es.length/\ZC k es/\Yv d (.cs es) ⟨lvl,env,loc,out⟩ K):=(rfl)
theorem ZyF{id:Zd}{len s k k2 hw ver:Nat}{es:Row}{u:Bool}{m:Int}:shg (some (.ar k2 es u hw ver)) id m len s k d st K=(k2=k/\s=hw/\0<=m/\m.toNat<=len/\len<=es.length/\Yv d (.hd id [] 0 m.toNat none hw) (Zp st id (.ar k2 (es.take m.toNat) u hw (ver+1))) K):=(rfl)
def fzg(o:Option Ob)(len s:Nat)(d:Option Nat)(st1:St)(K:St->Prop):Prop :=
 match o with
 | some (.ar _ zs _ hw _)=>s=hw/\len=zs.length/\Yv d (.tr (.sl zs)) st1 K
 | _=>False
def fzf(v:IV)(d:Option Nat)(st:St)(K:St->Prop):Prop :=
 match v with
 | .hd id [] 0 len none s=>id.1=st.lvl/\fzg (st.sto id) len s d (Zw id st) K
 | _=>False
theorem ZyG:ZD C d (.fz x) ⟨lvl,env,loc,out⟩ K=fzf (xv env x) d ⟨lvl,env,loc,out⟩ K:=by
 rw[JQ rfl];simp only[ew];generalize xv env x=v;unfold fzf;split
 ·rename_i id len s;simp only[fzg];generalize (⟨lvl,env,loc,out⟩:St).sto id=o;cases o with
  | none=>rfl
  | some ob=>cases ob<;>rfl
 ·rename_i hv;split
  ·exact(hv _ _ _ rfl).elim
  ·rfl
def kfb(lvl:Nat)(env:List (Nat×IV))(loc:List (Nat×Ob))(out:Zb)(d:Option Nat)(K:St->Prop):Row->Bool->Prop:=fun es _=>freshK (keyOf d) loc 0/\K ⟨lvl,ptd d (.tr (.sl es)) env,addO (keyOf d) [] loc,out⟩
theorem ZyH{k n:Nat}{z:List Value}{ps:List (Nat×X)}:ZD C d (.bc k n z ps) ⟨lvl,env,loc,out⟩ K=Y0 (xv env) k ps (List.replicate n (z.map trv)) true (kfb lvl env loc out d K):=by rw[Yd rfl];rfl
theorem ZyI{es:Row}{u:Bool}:kfb lvl env loc out d K es u=(freshK (keyOf d) loc 0/\K ⟨lvl,ptd d (.tr (.sl es)) env,addO (keyOf d) [] loc,out⟩):=(rfl)
theorem ZyJ{key len s:Nat}:fzf (.hd (lvl,key) [] 0 len none s) d ⟨lvl,env,loc,out⟩ K=fzg (lkO key loc) len s d (Zw (lvl,key) ⟨lvl,env,loc,out⟩) K:=by simp only[fzf,true_and];rw[show (⟨lvl,env,loc,out⟩:St).sto (lvl,key)=lkO key loc from J3]
theorem ZyK{len s k hw ver:Nat}{zs:Row}{u:Bool}:fzg (some (.ar k zs u hw ver)) len s d st K=(s=hw/\len=zs.length/\Yv d (.tr (.sl zs)) st K):=(rfl)
def drp(o:Option Ob)(id:Zd)(st:St):St :=
 match o with
 | none=>st
 | some _=>Zw id st
theorem ZyL{id:Zd}:drp none id st=st:=(rfl)
theorem ZyM{ob:Ob}{id:Zd}:drp (some ob) id st=Zw id st:=(rfl)
def rkg(o:Option Ob)(len s:Nat)(id0:Zd)(d:Option Nat)(st1:St)(K:St->Prop):Prop :=
 match o with
 | some (.ar k zs u hw ver)=>s=hw/\len=zs.length/\Yv d (.hd id0 [] 0 len none s) (Zp st1 id0 (.ar k zs u hw ver)) K
 | _=>False
def rkf(v:IV)(d:Option Nat)(st:St)(K:St->Prop):Prop :=
 match v with
 | .hd id [] 0 len none s=>id.1=st.lvl/\(st.lvl,keyOf d)≠id/\rkg (st.sto id) len s (st.lvl,keyOf d) d (Zw id (Vv (st.lvl,keyOf d) st)) K
 | _=>False
theorem ZyN:ZD C d (.rk x) ⟨lvl,env,loc,out⟩ K=rkf (xv env x) d ⟨lvl,env,loc,out⟩ K:=by
 rw[JQ rfl];simp only[ew];generalize xv env x=v;unfold rkf;split
 ·rename_i id len s;simp only[rkg];generalize (⟨lvl,env,loc,out⟩:St).sto id=o;cases o with
  | none=>rfl
  | some ob =>
   cases ob with
   | bx=>rfl
   | mp=>rfl
   | ar k2 es u hw ver=>simp only[Dv]
 ·rename_i hv;split
  ·exact(hv _ _ _ rfl).elim
  ·rfl
theorem ZyO{key len s:Nat}{t:Nat}:rkf (.hd (lvl,key) [] 0 len none s) (some t) ⟨lvl,env,loc,out⟩ K=(t*32≠key/\rkg (lkO key loc) len s (lvl,t*32) (some t) (Zw (lvl,key) (drp (lkO (t*32) loc) (lvl,t*32) ⟨lvl,env,loc,out⟩)) K):=by simp only[rkf,true_and,Vv,keyOf];rw[show (⟨lvl,env,loc,out⟩:St).sto (lvl,key)=lkO key loc from J3,show (⟨lvl,env,loc,out⟩:St).sto (lvl,t*32)=lkO (t*32) loc from J3];congr 1;simp
theorem ZyP:ZD C d .mk ⟨lvl,env,loc,out⟩ K=(freshK (keyOf d) loc 1/\Yv d (.sv (lvl,keyOf d)) (Zp ⟨lvl,env,loc,out⟩ (lvl,keyOf d) (.mp [])) K):=by rw[JQ rfl,Dv];rfl
def mpg(o:Option Ob)(F:List (Int×Int)->Prop):Prop :=
 match o with
 | some (.mp l)=>F l
 | _=>False
theorem ZyQ{l:List (Int×Int)}{F:List (Int×Int)->Prop}:mpg (some (.mp l)) F=F l:=(rfl)
def mpv(v:IV)(F:Int->Prop):Prop :=
 match v with
 | .tr (.v (.int .i64 a))=>F a
 | _=>False
theorem ZyR{a:Int}{F:Int->Prop}:mpv (iI a) F=F a:=(rfl)
def muk(kv xv:IV)(id:Zd)(st:St)(K:St->Prop)(l:List (Int×Int)):Prop:=mpv kv fun a=>mpv xv fun b=>K (Zp st id (.mp (Y2 a b l)))
theorem ZyS{a b:Int}{id:Zd}{l:List (Int×Int)}:muk (iI a) (iI b) id st K l=K (Zp st id (.mp (Y2 a b l))):=(rfl)
def muh(m kv xv:IV)(st:St)(K:St->Prop):Prop :=
 match m with
 | .sv id=>mpg (st.sto id) (muk kv xv id st K)
 | _=>False
theorem ZyT{id:Zd}{kv xv:IV}:muh (.sv id) kv xv ⟨lvl,env,loc,out⟩ K=mpg (ZF lvl loc out id) (muk kv xv id ⟨lvl,env,loc,out⟩ K):=(rfl)
theorem ZyU{m k:X}:ZD C d (.mu m k x) ⟨lvl,env,loc,out⟩ K=(d=none/\muh (xv env m) (xv env k) (xv env x) ⟨lvl,env,loc,out⟩ K):=by rw[JQ rfl];simp only[ew,muf,muh];congr 1
def mlk(kv:IV)(d:Option Nat)(st:St)(K:St->Prop)(l:List (Int×Int)):Prop:=mpv kv fun a=>Yv d (.tu [iI ((Vw a l).getD 0),iB (Vw a l).isSome]) st K
theorem ZyV{a:Int}{l:List (Int×Int)}:mlk (iI a) d st K l=Yv d (.tu [iI ((Vw a l).getD 0),iB (Vw a l).isSome]) st K:=(rfl)
def mlh(m kv:IV)(d:Option Nat)(st:St)(K:St->Prop):Prop :=
 match m with
 | .sv id=>mpg (st.sto id) (mlk kv d st K)
 | _=>False
theorem ZyW{id:Zd}{kv:IV}:mlh (.sv id) kv d ⟨lvl,env,loc,out⟩ K=mpg (ZF lvl loc out id) (mlk kv d ⟨lvl,env,loc,out⟩ K):=(rfl)
theorem ZyX{m k:X}:ZD C d (.ml m k) ⟨lvl,env,loc,out⟩ K=mlh (xv env m) (xv env k) d ⟨lvl,env,loc,out⟩ K:=by rw[JQ rfl];simp only[ew,mlf,mlh];generalize xv env m=vm;cases vm<;>rfl
def skg(o:Option Ob)(n len s:Nat)(id0:Zd)(st1:St)(K:St->Prop):Prop :=
 match o with
 | some (.ar k zs u hw ver)=>s=hw/\len=zs.length/\Yv (some n) (.hd id0 [] 0 len none s) (Zp st1 id0 (.ar k zs u hw ver)) K
 | _=>False
theorem ZyY{n len s k hw ver:Nat}{zs:Row}{u:Bool}{id0:Zd}:skg (some (.ar k zs u hw ver)) n len s id0 st K=(s=hw/\len=zs.length/\Yv (some n) (.hd id0 [] 0 len none s) (Zp st id0 (.ar k zs u hw ver)) K):=(rfl)
def skf(v:IV)(n key:Nat)(st:St)(K:St->Prop):Prop :=
 match v with
 | .hd id [] 0 len none s=>id.1=st.lvl/\if id.2=key then K st else skg (st.sto id) n len s (st.lvl,key) (Zw id (Vv (st.lvl,key) st)) K
 | _=>False
theorem ZyZ{n key key2 len s:Nat}:skf (.hd (lvl,key2) [] 0 len none s) n key ⟨lvl,env,loc,out⟩ K=if key2=key then K ⟨lvl,env,loc,out⟩ else skg (lkO key2 loc) n len s (lvl,key) (Zw (lvl,key2) (drp (lkO key loc) (lvl,key) ⟨lvl,env,loc,out⟩)) K:=by simp only[skf,true_and,Vv];rw[show (⟨lvl,env,loc,out⟩:St).sto (lvl,key)=lkO key loc from J3,show (⟨lvl,env,loc,out⟩:St).sto (lvl,key2)=lkO key2 loc from J3];rfl
def Zfz(o:Option Ob)(l:List IV)(id:Zd)(off:Nat)(st:St)(K:St->Prop):Prop :=
 match o with
 | some (.bx cells)=>off+l.length<=cells.length/\Jk (id.1+1) l/\K (Zp st id (.bx (Yb cells off l)))
 | _=>False
theorem Zy0{cells l:List IV}{id:Zd}{off:Nat}:Zfz (some (.bx cells)) l id off st K=(off+l.length<=cells.length/\Jk (id.1+1) l/\K (Zp st id (.bx (Yb cells off l)))):=(rfl)
def Zkv(c:Option (List IV))(p:IV)(st:St)(K:St->Prop):Prop :=
 match c with
 | some l=>l.length=1 /\
  match p with
  | .ab id off=>Zfz (st.sto id) l id off st K
  | _=>False
 | none=>False
theorem Zy1{l:List IV}{id:Zd}{off:Nat}:Zkv (some l) (.ab id off) ⟨lvl,env,loc,out⟩ K=(l.length=1/\Zfz (ZF lvl loc out id) l id off ⟨lvl,env,loc,out⟩ K):=(rfl)
def Zkw(p:X)(n:Nat)(K:St->Prop)(st:St):Prop:=ZbI p (.t n) K st
theorem Zy2{p:X}{n:Nat}:Zkw p n K ⟨lvl,env,loc,out⟩=Zkv (cellsOf (lk n env)) (xv env p) ⟨lvl,env,loc,out⟩ K:=(rfl)
theorem Zy3{key n:Nat}{p:X}:ZD C d (.sk key p n) ⟨lvl,env,loc,out⟩ K=(d=none/\skf (lk n env) n key ⟨lvl,env,loc,out⟩ (Zkw p n K)):=by
 rw[JQ rfl];simp only[ew,rkk];congr 1;generalize lk n env=v;unfold skf;split
 ·rename_i id len s;dsimp only;congr 1;split
  ·rfl
  ·simp only[skg];generalize (⟨lvl,env,loc,out⟩:St).sto id=o;cases o with
   | none=>rfl
   | some ob =>
    cases ob with
    | bx=>rfl
    | mp=>rfl
    | ar k2 es u hw ver=>simp only[Dv];rfl
 ·rename_i hv;split
  ·exact(hv _ _ _ rfl).elim
  ·rfl
theorem Zy4{key:Nat}{p x:X}:ZD C d (.gv key p x) ⟨lvl,env,loc,out⟩ K=(d=none/\gvf (xv env p) (xv env x) key ⟨lvl,env,loc,out⟩ K):=by rw[JQ rfl];simp only[ew]
theorem Zy5{id:Zd}{off key key2 len s:Nat}:gvf (.ab id off) (.hd (lvl,key2) [] 0 len none s) key ⟨lvl,env,loc,out⟩ K=(id.1<lvl/\ZF lvl loc out (id.1,key)=none/\gvo (ZF lvl loc out id) (lkO key2 loc) id off key len s (lvl,key2) ⟨lvl,env,loc,out⟩ K):=by simp only[gvf,true_and];rw[show (⟨lvl,env,loc,out⟩:St).sto (lvl,key2)=lkO key2 loc from J3];rfl
theorem Zy6{cells:List IV}{k:Nat}{zs:Row}{u:Bool}{hw ver:Nat}{id id2:Zd}{off key len s:Nat}:gvo (some (.bx cells)) (some (.ar k zs u hw ver)) id off key len s id2 st K=(off+1<=cells.length/\s=hw/\len=zs.length/\K (Zp (Zp (Zw id2 st) (id.1,key) (.ar k zs u hw ver)) id (.bx (Yb cells off [.hd (id.1,key) [] 0 len none s])))):=(rfl)
theorem Zy7{len s k hw ver:Nat}{zs:Row}{u:Bool}{id0:Zd}:rkg (some (.ar k zs u hw ver)) len s id0 d st K=(s=hw/\len=zs.length/\Yv d (.hd id0 [] 0 len none s) (Zp st id0 (.ar k zs u hw ver)) K):=(rfl)
theorem Zy8{K:List IV->St->Prop}:XZ [] st K=K [] st:=(rfl)
theorem Zy9{x:X}{r:List X}{K:List IV->St->Prop}:XZ (x::r) st K=U4 (xv st.env x) st fun t st1=>XZ r st1 fun ts st2=>K (.ta t::ts) st2:=(rfl)
def Zcx(o:Option (List Tr×Bool))(F:List Tr->Prop)(H:Prop):Prop :=
 match o with
 | some (ts,_)=>F ts
 | none=>H
def ZfA(o:Option Ob)(F:List Tr->Prop)(H:List IV->Prop):Prop :=
 match o with
 | some (.bx cells)=>Zcx (totrs cells) F (H cells)
 | _=>False
theorem Zza{ts:List Tr}{K:List Tr->St->Prop}:U4 (.ta ts) st K=K ts st:=(rfl)
theorem Zzb{key:Nat}{K:List Tr->St->Prop}:U4 (.ab (lvl,key) 0) ⟨lvl,env,loc,out⟩ K=ZfA (lkO key loc) (fun ts=>K ts (Zw (lvl,key) ⟨lvl,env,loc,out⟩)) (fun cells=>Y1 cells ⟨lvl,env,loc,out⟩ fun ts st1=>K ts (Zw (lvl,key) st1)):=by
 simp only[U4,true_and];rw[show (⟨lvl,env,loc,out⟩:St).sto (lvl,key)=lkO key loc from J3];generalize lkO key loc=o;cases o with
 | none=>rfl
 | some ob =>
  cases ob with
  | ar=>rfl
  | mp=>rfl
  | bx cells =>
   simp only[ZfA];generalize totrs cells=q;cases q<;>rfl
theorem Zzc{cells:List IV}{F:List Tr->Prop}{H:List IV->Prop}:ZfA (some (.bx cells)) F H=Zcx (totrs cells) F (H cells):=(rfl)
theorem Zzd{ts:List Tr}{q:Bool}{F:List Tr->Prop}{H:Prop}:Zcx (some (ts,q)) F H=F ts:=(rfl)
theorem Zze{F:List Tr->Prop}{H:Prop}:Zcx none F H=H:=(rfl)
theorem Zzf{id:Zd}{p:Zn}{off len s:Nat}{cap:Option Nat}{r:List IV}:totrs (.hd id p off len cap s::r)=none:=(rfl)
theorem Zzg{f:Nat}{cs:List X}:ZD C d (.mz f cs) ⟨lvl,env,loc,out⟩ K=XZ cs ⟨lvl,env,loc,out⟩ fun l st1=>Yv d (.fn f l) st1 K:=by rw[JQ rfl];rfl
theorem Zzh{K:List Tr->St->Prop}:Y1 [] st K=K [] st:=(rfl)
theorem Zzi{x:IV}{r:List IV}{K:List Tr->St->Prop}:Y1 (x::r) st K=WL x st fun t st1=>Y1 r st1 fun ts st2=>K (t::ts) st2:=(rfl)
def Zkx(o:Option Ob)(len s:Nat)(F:Row->Prop):Prop :=
 match o with
 | some (.ar _ zs _ hw _)=>s=hw/\len=zs.length/\F zs
 | _=>False
theorem Zzj{t:Tr}{K:Tr->St->Prop}:WL (.tr t) st K=K t st:=(rfl)
theorem Zzk{es:Row}{K:Tr->St->Prop}:WL (.cs es) st K=K (.sl es) st:=(rfl)
theorem Zzl{key len s:Nat}{K:Tr->St->Prop}:WL (.hd (lvl,key) [] 0 len none s) ⟨lvl,env,loc,out⟩ K=Zkx (lkO key loc) len s fun zs=>K (.sl zs) (Zw (lvl,key) ⟨lvl,env,loc,out⟩):=by
 simp only[WL,true_and];rw[show (⟨lvl,env,loc,out⟩:St).sto (lvl,key)=lkO key loc from J3];generalize lkO key loc=o;cases o with
 | none=>rfl
 | some ob=>cases ob<;>rfl
theorem Zzm{k len s hw ver:Nat}{zs:Row}{u:Bool}{F:Row->Prop}:Zkx (some (.ar k zs u hw ver)) len s F=(s=hw/\len=zs.length/\F zs):=(rfl)
def lzg(o:Option Ob)(off m:Nat)(d:Option Nat)(st:St)(K:St->Prop):Prop :=
 match o with
 | some (.bx cells)=>off+m<=cells.length/\Y1 ((cells.drop off).take m) st fun ts st1=>Yv d (.ag (ts.map .tr)) st1 K
 | _=>False
def lzf(v:IV)(m:Nat)(d:Option Nat)(st:St)(K:St->Prop):Prop :=
 match v with
 | .ab id off=>lzg (st.sto id) off m d st K
 | _=>False
theorem Zzn{m:Nat}:ZD C d (.lz m x) ⟨lvl,env,loc,out⟩ K=lzf (xv env x) m d ⟨lvl,env,loc,out⟩ K:=by rw[JQ rfl];simp only[ew];generalize xv env x=v;cases v<;>rfl
theorem Zzo{key off m:Nat}:lzf (.ab (lvl,key) off) m d ⟨lvl,env,loc,out⟩ K=lzg (lkO key loc) off m d ⟨lvl,env,loc,out⟩ K:=by simp only[lzf];rw[show (⟨lvl,env,loc,out⟩:St).sto (lvl,key)=lkO key loc from J3]
theorem Zzp{cells:List IV}{off m:Nat}:lzg (some (.bx cells)) off m d st K=(off+m<=cells.length/\Y1 ((cells.drop off).take m) st fun ts st1=>Yv d (.ag (ts.map .tr)) st1 K):=(rfl)
def clg(o:Option Ob)(id:Zd)(off len s k:Nat)(d:Option Nat)(st:St)(K:St->Prop):Prop :=
 match o with
 | some (.ar k2 es u hw ver)=>k2=k/\s=hw/\off+len=es.length/\Yv d (.tu []) (Zp st id (.ar k2 (es.take off) u hw (ver+1))) K
 | _=>False
def clf(v:IV)(k:Nat)(d:Option Nat)(st:St)(K:St->Prop):Prop :=
 match v with
 | .hd id p off len _ s=>p=[]/\clg (st.sto id) id off len s k d st K
 | _=>False
theorem Zzq{k:Nat}{z:List Value}:ZD C d (.cl k z x) ⟨lvl,env,loc,out⟩ K=clf (xv env x) k d ⟨lvl,env,loc,out⟩ K:=by
 rw[JQ rfl];simp only[ew];generalize xv env x=v;cases v<;>try rfl
 rename_i id p off len cap s;simp only[clf,clg];generalize (⟨lvl,env,loc,out⟩:St).sto id=o;cases o with
 | none=>simp
 | some ob =>
  cases ob with
  | bx=>simp
  | mp=>simp
  | ar k2 es u hw ver=>simp only[Dv]
theorem Zzr{id:Zd}{off len s k:Nat}{cap:Option Nat}:clf (.hd id [] off len cap s) k d ⟨lvl,env,loc,out⟩ K=clg (ZF lvl loc out id) id off len s k d ⟨lvl,env,loc,out⟩ K:=by simp only[clf,true_and];rfl
theorem Zzs{id:Zd}{off len s k k2 hw ver:Nat}{es:Row}{u:Bool}:clg (some (.ar k2 es u hw ver)) id off len s k d st K=(k2=k/\s=hw/\off+len=es.length/\Yv d (.tu []) (Zp st id (.ar k2 (es.take off) u hw (ver+1))) K):=(rfl)
def srk(off len:Nat)(F:Row->Prop)(es:Row)(_u:Bool)(_v:Nat):Prop:=off+len<=es.length/\F (cut es off len)
theorem Zzt{off len:Nat}{F:Row->Prop}{es:Row}{u:Bool}{v:Nat}:srk off len F es u v=(off+len<=es.length/\F (cut es off len)):=(rfl)
theorem Zzu{zs:Row}{F:Row->Prop}:QP st (.tr (.sl zs)) F=F zs:=(rfl)
theorem Zzv{zs:Row}{F:Row->Prop}:QP st (.cs zs) F=F zs:=(rfl)
theorem Zzw{id:Zd}{p:Zn}{off len s:Nat}{cap:Option Nat}{F:Row->Prop}:QP ⟨lvl,env,loc,out⟩ (.hd id p off len cap s) F=V0 (ZF lvl loc out id) p s (srk off len F):=by rw[<-W3];rfl
def a3k(zs:Row)(k:Nat)(d:Option Nat)(st:St)(K:St->Prop)(items:Row):Prop :=
 items≠[]/\ScR items/\ZC k zs/\ZC k items/\zs.length+items.length<=bigN/\K ⟨st.lvl,ptd d (.tr (.sl (zs++items))) st.env,st.loc,st.out⟩
theorem Zzx{zs items:Row}{k:Nat}:a3k zs k d ⟨lvl,env,loc,out⟩ K items=(items≠[]/\ScR items/\ZC k zs/\ZC k items/\zs.length+items.length<=bigN/\K ⟨lvl,ptd d (.tr (.sl (zs++items))) env,loc,out⟩):=(rfl)
def a3f(vx vy:IV)(k:Nat)(d:Option Nat)(st:St)(K:St->Prop):Prop :=
 match vx with
 | .cs zs=>QP st vy (a3k zs k d st K)
 | _=>False
theorem Zzy{zs:Row}{vy:IV}{k:Nat}:a3f (.cs zs) vy k d st K=QP st vy (a3k zs k d st K):=(rfl)
theorem Zzz{k:Nat}{x y:X}:ZD C d (.a3 k x y) ⟨lvl,env,loc,out⟩ K=a3f (xv env x) (xv env y) k d ⟨lvl,env,loc,out⟩ K:=by
 rw[Yd rfl];simp only[ev];generalize xv env x=vx;cases vx<;>try rfl
 rename_i zs;have e:∀ items:Row,(items≠[]/\ScR items/\ZC k zs/\ZC k items/\zs.length+items.length<=bigN/\ZH (fun mk obs=>freshK (keyOf d) loc (obs lvl (keyOf d)).length/\K ⟨lvl,ptd d (mk lvl (keyOf d)) env,addO (keyOf d) (obs lvl (keyOf d)) loc,out⟩) (.tr (.sl (zs++items))))=a3k zs k d ⟨lvl,env,loc,out⟩ K items:=fun items=>by simp [a3k,ZH,freshK,addO]
 simp only[e];rfl
theorem ZzA{k:Nat}{x y:X}:ZD C d (.c0 k x y) ⟨lvl,env,loc,out⟩ K=ZD C d (.cy k x y) ⟨lvl,env,loc,out⟩ K:=by rw[JQ rfl,JQ rfl];exact propext ⟨Zja,ZrJ⟩
def cyk(es:Row)(u:Bool)(hw ver:Nat)(id:Zd)(off len k:Nat)(d:Option Nat)(st:St)(K:St->Prop)(zs:Row):Prop :=
 ScR zs/\ZC k zs/\Yv d (iI (min zs.length len:Nat)) (Zp st id (.ar k (es.take off++zs.take len++es.drop (off+min zs.length len)) u hw (ver+1))) K
theorem ZzB{es:Row}{u:Bool}{hw ver:Nat}{id:Zd}{off len k:Nat}{zs:Row}:cyk es u hw ver id off len k d st K zs=(ScR zs/\ZC k zs/\Yv d (iI (min zs.length len:Nat)) (Zp st id (.ar k (es.take off++zs.take len++es.drop (off+min zs.length len)) u hw (ver+1))) K):=(rfl)
def cyg(o:Option Ob)(id:Zd)(off len s k:Nat)(v:IV)(d:Option Nat)(st:St)(K:St->Prop):Prop :=
 match o with
 | some (.ar k2 es u hw ver)=>k2=k/\s=hw/\off+len<=es.length/\ScR es/\QP st v (cyk es u hw ver id off len k d st K)
 | _=>False
def cyf(x v:IV)(k:Nat)(d:Option Nat)(st:St)(K:St->Prop):Prop :=
 match x with
 | .hd id p off len _ s=>p=[]/\cyg (st.sto id) id off len s k v d st K
 | _=>False
theorem ZzC{k:Nat}:ZD C d (.cy k x y) ⟨lvl,env,loc,out⟩ K=cyf (xv env x) (xv env y) k d ⟨lvl,env,loc,out⟩ K:=by
 rw[JQ rfl];simp only[ew];generalize xv env x=v;cases v<;>try rfl
 rename_i id p off len cap s;simp only[cyf,cyg];generalize (⟨lvl,env,loc,out⟩:St).sto id=o;cases o with
 | none=>simp
 | some ob =>
  cases ob with
  | bx=>simp
  | mp=>simp
  | ar k2 es u hw ver =>
   dsimp only;by_cases hk:k2=k
   ·subst hk;have:(fun zs=>ScR zs/\ZC k2 zs/\K { Zp ⟨lvl,env,loc,out⟩ id (.ar k2 (es.take off++zs.take len++es.drop (off+min zs.length len)) u hw (ver+1)) with env:=ptd d (iI (min zs.length len:Nat)) env })=cyk es u hw ver id off len k2 d ⟨lvl,env,loc,out⟩ K:=by funext zs;simp only[cyk,Dv]
    rw[this]
   ·simp [hk]
theorem ZzD{id:Zd}{off len s k:Nat}{cap:Option Nat}{v:IV}:cyf (.hd id [] off len cap s) v k d ⟨lvl,env,loc,out⟩ K=cyg (ZF lvl loc out id) id off len s k v d ⟨lvl,env,loc,out⟩ K:=by simp only[cyf,true_and];rfl
theorem ZzE{id:Zd}{off len s k k2 hw ver:Nat}{es:Row}{u:Bool}{v:IV}:cyg (some (.ar k2 es u hw ver)) id off len s k v d st K=(k2=k/\s=hw/\off+len<=es.length/\ScR es/\QP st v (cyk es u hw ver id off len k d st K)):=(rfl)
end row
theorem ZzF{α:Type}{F:α->Prop}:Jg none F=False:=(rfl)
end
abbrev tv(n:Int):Tr:=.v (.int .i64 n)
abbrev tb(b:Bool):Tr:=.v (.bool b)
abbrev ts(s:ByteArray):Tr:=.v (.string s)
abbrev rI(l:List Int):Row:=l.map fun n=>[tv n]
abbrev tI(l:List Int):IV:=.tr (.sl (rI l))
abbrev rS(l:List ByteArray):Row:=l.map fun n=>[ts n]
abbrev tS(l:List ByteArray):IV:=.tr (.sl (rS l))
theorem Ze(n:Int):ZZ .i64 n=(-9223372036854775808<=n/\n<=9223372036854775807):=by simp [ZZ,IntKind.min,IntKind.max,IntKind.signed,IntKind.bits]
theorem VD{α:Type}{k:Nat}(f:α->List Tr)(h:∀ x,(f x).length=k)(l:List α):ZC k (l.map f):=by intro e he;obtain⟨x,_,rfl⟩:=Uau.1 he;exact h x
end Go.Fd
namespace Go.Fd
def In(w:World)(b:Nat):Prop:=b<w.heap.size
def ZfB(w:World)(cs:List Value)(ts:List Tr):Prop:=∀(j:Nat) (v:Value) (t:Tr),cs[j]? = some v->ts[j]? = some t->Rds w (In w) v t
def Y7(P:Program)(t:TypeId){α:Type}(c:α->List Tr)(Q:α->Prop):Prop :=
 ∀(H:Type) (enc:TypeId×Value->H) (w:World) (sp:Nat->Bool) (hd:Bool) (fuel:Nat) (cs:List Value) (x:DataW H×List MemPlace),
  DataW.trod enc P w 0 sp hd fuel t cs=some x->∃ y,Q y/\ZfB w cs (c y)
theorem Zcy{w:World}{v:Value}{t:Tr}(h:Rds w (In w) v t):ZfB w [v] [t]:=fun j v' t' h1 h2=>by
 match j with
 | 0=>simp at h1 h2;subst h1;subst h2;exact h
 | j+1=>simp at h1
theorem ZzG{P:Program}{t:TypeId}(ht:P.underlying t=some (.int .i64)):Y7 P t (fun n:Int=>[tv n]) (ZZ .i64):=by intro H enc w sp hd fuel cs x h;obtain⟨n,rfl,_,hw⟩:=DataW.trod_int ht h;exact⟨n,by simpa [Lit.wf,ZZ] using hw,Zcy (.v _ rfl)⟩
theorem ZzH{P:Program}{t:TypeId}(ht:P.underlying t=some .string):Y7 P t (fun n:ByteArray=>[ts n]) (fun n=>n.size<=9223372036854775807):=by intro H enc w sp hd fuel cs x h;obtain⟨n,rfl,_,hw⟩:=DataW.trod_string ht h;exact⟨n,hw,Zcy (.v _ rfl)⟩
theorem ZzI{w:World}{a:Addr}{v:Value}(h:w.cell? a=some v):a.block<w.heap.size:=by
 unfold World.cell? at h;cases hh:w.heap[a.block]? with
 | none=>rw[hh] at h;cases h
 | some o=>exact(UaE.1 hh).1
theorem ZzJ{α:Type}(n:Nat)(R:Nat->α->Prop)(h:∀ i,i<n->∃ y,R i y):∃ l:List α,l.length=n/\∀ i y,l[i]? = some y->R i y:=by
 induction n with
 | zero=>exact⟨[],rfl,fun i y h=>by simp at h⟩
 | succ n ih =>
  obtain⟨l,hl,hr⟩:=ih (fun i hi=>h i (by omega));obtain⟨y,hy⟩:=h n (by omega);refine⟨l++[y],by simp [hl],fun i z hz=>?_⟩;by_cases hi:i<n
  ·rw[Uav (by omega)] at hz;exact hr i z hz
  ·have hlt:=(Uad.1 hz).1;simp only[Uac,List.length_singleton] at hlt;have:i=n:=(by omega);subst this;rw[Uas (by omega),hl,Ubi] at hz;simp at hz;exact hz ▸ hy
theorem ZfC{P:Program}{t e:TypeId}{k:Nat}{α:Type}{c:α->List Tr}{Q:α->Prop}(ht:P.underlying t=some (.slice e))(hk:P.cellsOf e=k+1)(hc:∀ x,(c x).length=k+1)
  (he:Y7 P e c Q):Y7 P t (fun l:List α=>[.sl (l.map c)]) (fun l=>l.length<=9223372036854775807/\∀ x∈l,Q x):=by
 intro H enc w sp hd fuel cs x h;rcases DataW.trod_slice ht h with ⟨rfl,_⟩ | ⟨a,len,cap,elems,rest,n,_,rfl,_,_,hl,hm,hlen,hel,_,_⟩
 ·exact⟨[],⟨by simp,by simp⟩,Zcy (.nil none 0)⟩
 ·have each:∀ i,i<len->∃ y,Q y/\∀ j t,(c y)[j]? = some t->∃ v,w.cell? (a.add (i*(k+1)+j))=some v/\Rds w (In w) v t:=fun i hi=>by
   have h1:=hel i hi;rw[hk] at h1;obtain⟨z,hz⟩:∃ z,elems[i]? = some z:=⟨elems[i]'(by omega),Uak _⟩;rw[hz,Option.bind_eq_some_iff] at h1;obtain⟨row,hrow,hx⟩:=h1;obtain⟨y,hy,hr⟩:=he H enc w sp hd n row z hx;obtain⟨_,hrl,hg⟩:=World.cells?_some hrow;refine⟨y,hy,fun j t hj=>?_⟩;have hjk:j<k+1:=(by rw[<-hc y];exact(Uad.1 hj).1);have hv:row[j]? = some (row[j]'(by omega)):=Uak _;have:=hg j hjk;rw[hv] at this;have e2:(a.add (i*(k+1))).add j=a.add (i*(k+1)+j):=by
    unfold Addr.add;by_cases h0:i*(k+1)=0
    ·simp [h0]
    ·by_cases h1:j=0
     ·simp [h1,h0]
     ·have h2:¬ (i*(k+1)+j=0):=(by omega);simp only[if_neg h0,if_neg h1,if_neg h2,Addr.mk.injEq,and_true,true_and];omega
   rw[e2] at this;exact⟨_,this,hr j _ t hv hj⟩
  obtain⟨l,hll,hlr⟩:=ZzJ len _ each;refine⟨l,⟨?_,fun y hy=>?_⟩,Zcy ?_⟩
  ·rw[hll];exact UaG hl hm
  ·obtain⟨i,hi⟩:=Ubu hy;exact(hlr i y hi).1
  ·by_cases h0:len=0
   ·have:l=[]:=Uay (by omega);subst this;subst h0;exact .nil _ _
   ·obtain⟨y0,hy0⟩:∃ y0,l[0]? = some y0:=⟨l[0]'(by omega),Uak _⟩;obtain⟨t0,ht0⟩:∃ t0,(c y0)[0]? = some t0:=⟨(c y0)[0]'(by rw[hc];omega),Uak _⟩;obtain⟨v0,hv0,_⟩:=(hlr 0 y0 hy0).2 0 t0 ht0;obtain⟨b,o,s⟩:=a;have hs:s=none:=by simpa [Addr.add] using World.cell?_spot hv0
    subst hs;have hb:b<w.heap.size:=by simpa [Addr.add] using ZzI hv0
    have hel2:∀ i e j t,(l.map c)[i]? = some e->e[j]? = some t->∃ v,w.cell? ⟨b,o+i*(k+1)+j,none⟩=some v/\Rds w (In w) v t:=fun i e j t h1 h2=>by
     rw[Uao,UaJ] at h1;obtain⟨y,hy,rfl⟩:=h1;obtain⟨v,hv,hr⟩:=(hlr i y hy).2 j t h2;refine⟨v,?_,hr⟩;rw[<-hv];congr 1;unfold Addr.add;by_cases h0:i*(k+1)+j=0
     ·have:o+i*(k+1)+j=o:=(by omega);rw[if_pos h0,this]
     ·rw[if_neg h0];have:o+i*(k+1)+j=o+(i*(k+1)+j):=by omega
      simp only[this]
    have hlm:(l.map c).length=len:=by simpa using hll
    have:=Rds.sl (w:=w) (A:=In w) b o cap (k+1) (l.map c) (fun i j=>(w.cell? ⟨b,o+i*(k+1)+j,none⟩).getD .nilFunc) hb
     (fun e he=>by simp only[Uau] at he;obtain⟨y,_,rfl⟩:=he;exact hc y) (by omega)
     (fun i e j t h1 h2=>by obtain⟨v,hv,_⟩:=hel2 i e j t h1 h2;rw[hv];rfl)
     (fun i e j t h1 h2=>by obtain⟨v,hv,hr⟩:=hel2 i e j t h1 h2;rw[hv];exact hr)
    rw[hlm] at this;exact this
def Dw(P:Program)(o:Nat)(l:List (Nat×TypeId)){α:Type}(c:α->List Tr)(Q:α->Prop):Prop :=
 ∀(H:Type) (enc:TypeId×Value->H) (w:World) (sp:Nat->Bool) (hd:Bool) (fuel:Nat) (cs:List Value),
  (∀ p∈l,∃ x,DataW.trod enc P w 0 sp hd fuel p.2 ((cs.drop p.1).take (P.cellsOf p.2))=some x)->∃ y,Q y/\ZfB w (cs.drop o) (c y)
theorem Zky{P:Program}{o:Nat}:Dw P o [] (fun _:Unit=>[]) (fun _=>True):=fun H enc w sp hd fuel cs _=>⟨(),trivial,fun j v t _ h=>by simp at h⟩
theorem UK{P:Program}{o k:Nat}{t:TypeId}{l:List (Nat×TypeId)}{α β:Type}{c:α->List Tr}{Q:α->Prop}{c2:β->List Tr}{Q2:β->Prop}
  (hk:P.cellsOf t=k) (hc:∀ x,(c x).length=k) (h1:Y7 P t c Q) (h2:Dw P (o+k) l c2 Q2) :
  Dw P o ((o,t)::l) (fun p:α×β=>c p.1++c2 p.2) (fun p=>Q p.1/\Q2 p.2):=fun H enc w sp hd fuel cs h=>by
 obtain⟨x,hx⟩:=h (o,t) (by simp);obtain⟨y,hy,hr⟩:=h1 _ _ _ _ _ _ _ _ hx;obtain⟨y2,hy2,hr2⟩:=h2 H enc w sp hd fuel cs (fun p hp=>h p (by simp [hp]));refine⟨(y,y2),⟨hy,hy2⟩,fun j v t' hv ht=>?_⟩;by_cases hj:j<k
 ·rw[Uav (by rw[hc];exact hj)] at ht;refine hr j v t' ?_ ht;rw[hk,List.getElem?_take_of_lt hj];exact hv
 ·rw[Uas (by rw[hc];omega),hc] at ht;refine hr2 (j-k) v t' ?_ ht;rw[UaM] at hv ⊢;rw[<-hv];congr 1;omega
theorem Zkz{P:Program}{t:TypeId}{fs:Array Field}{α:Type}{c:α->List Tr}{Q:α->Prop}(ht:P.underlying t=some (.struct fs))(h:Dw P 0 (fs.toList.map fun f=>(f.offset,f.type)) c Q):Y7 P t c Q:=by
 intro H enc w sp hd fuel cs x hx;obtain⟨xs,n,_,_,_,hl,hf⟩:=DataW.trod_struct ht hx;have:=h H enc w sp hd n cs (fun p hp=>by
  simp only[Uau] at hp;obtain⟨f,hf1,rfl⟩:=hp;obtain⟨i,hi⟩:=Ubu hf1;have hi':fs[i]? = some f:=by simpa using hi
  have hlt:i<xs.length:=by rw[hl];exact(UaE.1 hi').1
  exact⟨_,(hf i f hi').trans (Uak hlt)⟩)
 simpa using this
theorem ZzK{P:Program}{t:TypeId}{α β:Type}{c:α->List Tr}{Q:α->Prop}{c2:β->List Tr}{Q2:β->Prop}(g:α->β)(hg:∀ x,c2 (g x)=c x)(hq:∀ x,Q x->Q2 (g x))(h:Y7 P t c Q):Y7 P t c2 Q2:=by intro H enc w sp hd fuel cs x hx;obtain⟨y,hy,hr⟩:=h H enc w sp hd fuel cs x hx;exact⟨g y,hq y hy,by rw[hg];exact hr⟩
theorem ZkA{P:Program}{t:TypeId}{α β:Type}{c:α->List Tr}{Q:α->Prop}{c2:β->List Tr}{Q2:β->Prop}(h:Y7 P t c Q)(g:α->β)(hg:∀ x,c2 (g x)=c x)(hq:∀ x,Q x->Q2 (g x)):Y7 P t c2 Q2:=ZzK g hg hq h
end Go.Fd
namespace Go.Fd
variable [Tabs]
open Go.RowKit
def G0:Gh:=fun _ _=>none
def S0:Zb:=fun _=>none
theorem Av0{w:World}{b:Nat}(h:In w b):Av G0 S0 w b:=⟨h,fun id ob hs=>by cases hs⟩
theorem ZzL{P:Program}{f:FuncId}{args:List IV}{b:Bool}{w:World}{vs:List Value}(h:Sem P f 0 args S0 (iB b) S0)(hv:Zu G0 S0 w args vs)(hg:Tabs.good w) :
  Calls P f vs.toArray w fun e w' => e = .returned (.bool b)/\Below w.heap.size w w':=by
 obtain⟨_,_,h⟩:=h;refine(h (fun id ob hs=>by cases hs) G0 w vs ⟨fun id ob hs=>(nomatch hs),fun id ob id2 ob2 b2 hs=>(nomatch hs),fun id cells hs=>(nomatch hs)⟩ hv ⟨w,hg,Ual _,fun b hb=>⟨⟨hb,fun id ob hs=>by cases hs⟩,rfl⟩⟩).mono ?_
 rintro e w' ⟨v,G',rfl,_,hr,_,hf⟩
 have hr':Rds w' (Av G' (ZW S0 0 0 (impv true 0 0 0 (iB b)).2) w') v (.v (.bool b)):=hr;cases hr' with
 | v x hx =>
  exact⟨rfl,hf.os,hf.tape,hf.output,hf.size,fun k hk=>hf.old k hk (fun id ob hs=>by cases hs)⟩
theorem ZzM{P:Program}{w:World}{r:Reach}{base:Nat}{t e:TypeId}{v:Value}(ht:P.underlying t=some (.slice e))(h:Value.okWide P w r base t v):v.cells.toList=[v]:=by unfold Value.okWide at h;rw[ht] at h;simp only[Cell.okWide,ht,Cell.ok] at h;cases v<;>first | rfl | exact absurd h (by simp)
section
variable {H:Type} {enc:TypeId×Value->H} {P:Program} {w:World} {t:TypeId} {v:Value} {d:DataW H} {p:List MemPlace} {α:Type} {c:α->List Tr} {Q:α->Prop} {sp:Nat->Bool} {hd:Bool} {base:Nat}
theorem ZkB{e:TypeId}{g:α->Tr}(hr:Y7 P t (fun x=>[g x]) Q)(ht:P.underlying t=some (.slice e))(hok:Value.okWide P w .any base t v)(h:DataW.Trod enc P w 0 sp hd t v d p) :
  ∃ y,Q y/\VR G0 S0 w (.tr (g y)) v:=by
 obtain⟨n,hn⟩:=h;rw[ZzM ht hok] at hn;obtain⟨y,hy,hrow⟩:=hr H enc w sp hd n _ _ hn;refine⟨y,hy,?_⟩;simp only[VR];exact Rds.mono (fun b=>Av0) (fun b _=>rfl) (hrow 0 v _ rfl rfl)
end
theorem ZzN{H:Type}{enc:TypeId×Value->H}{P:Program}{f:Func}{s:ChangeSpec}{WX:Bool}{W W':World}{args:Array Value}{v:Value}{ds gs:List (DataW H)}{before pa pv:List MemPlace}
  (hW:DataW.Whole enc P f.params.toList s.vars WX W args.toList ds gs before) (hb:Below W.heap.size W W')
  (hres:DataW.TrodAll enc P W' W.heap.size (fun _=>false) false f.resultTypes.toList (v.resultList f.resultTypes.size) (s.fn H (ds++gs)).results [])
  (hargs:DataW.TrodAll enc P W' 0 (fun b=>decide (b<W.heap.size)) true f.params.toList args.toList (s.fn H (ds++gs)).args pa)
  (hvars:DataW.TrodVars enc P W' (fun b=>decide (b<W.heap.size)) s.vars (s.fn H (ds++gs)).vars pv) :
  s.post enc P f WX true false false W args v W' :=
 ⟨ds,gs,before,[],pa,pv,hW,hres,hargs,hvars,hb.frame _,fun h=>by cases h⟩
end Go.Fd
namespace Go.Fd
variable [Tabs]
open Go.RowKit
theorem ZzO{w w':World}(h:Below w.heap.size w w'):Ext w w':=⟨h.size,h.block,h.os,h.tape,h.output⟩
theorem ZkC{G:Gh}{S:Zb}{w:World}:∀{xs vs:List Value},Zu G S w (xs.map fun v=>.tr (.v v)) vs->vs=xs
 | [],vs,h=>by simpa [Zu] using h
 | x::r,vs,h=>by simp only[Uah,Zu] at h;obtain⟨v,vr,rfl,h1,h2⟩:=h;rw[ZkC h2];have h1':Rds w (Av G S w) v (.v x):=h1;cases h1';rfl
theorem ZzP{P:Program}{f:FuncId}{lvl:Nat}{S:Zb}{args:List IV}{r:IV}(hc:Uz P f)(hi:impv true lvl 0 0 r=(r,[]))(hlow:low lvl r)
  (h:(∀ id ob,S id=some ob->id.1<lvl)->∀ G w vs,SOk G S w->Zu G S w args vs->Fix G S w->Calls P f vs.toArray w fun e w' => ∃ v,e = .returned v/\VR G S w' r v/\Below w.heap.size w w'):Sem P f lvl args S r S:=by
 refine⟨hlow,hc,fun hS G w vs hok hv hfx=>?_⟩;refine(h hS G w vs hok hv hfx).mono ?_
 rintro e w' ⟨v,rfl,hr,hb⟩
 rw[hi];have e:Ext w w':=ZzO hb;exact⟨v,G,rfl,hok.ext e,hr,hS,Frm.of_ext e⟩
theorem ZzQ{P:Program}{f:FuncId}{lvl:Nat}{S:Zb}{args:List IV}{r:IV}(hc:Uz P f)(hi:impv true lvl 0 0 r=(r,[]))(hlow:low lvl r)
  (h:(∀ id ob,S id=some ob->id.1<lvl)->∀ G w vs,SOk G S w->Zu G S w args vs->Calls P f vs.toArray w fun e w' => ∃ v,e = .returned v/\VR G S w' r v/\Below w.heap.size w w'):Sem P f lvl args S r S :=
 ZzP hc hi hlow fun hS G w vs hok hv _=>h hS G w vs hok hv
theorem ZzR{P:Program}{f:FuncId}{lvl:Nat}{S:Zb}{xs:List Value}{y:Value}(hc:Uz P f)(hy:Jw y=true)
  (h:∀ w,Calls P f xs.toArray w fun e w' => e = .returned y/\Below w.heap.size w w'):Sem P f lvl (xs.map fun v=>.tr (.v v)) S (.tr (.v y)) S:=by
 refine ZzQ hc rfl trivial fun _ G w vs _ hv=>?_;rw[ZkC hv];exact(h w).mono fun e w' ⟨h1,h2⟩=>⟨y,h1,.v y hy,h2⟩
end Go.Fd
namespace Go.Fd
variable [Tabs]
def JH:Row->Zn->Row->Row
 | _,[],r=>r
 | es,(a,b)::p,r =>
  match es[a]? with
  | some e =>
   match e[b]? with
   | some (.sl es')=>es.set a (e.set b (.sl (JH es' p r)))
   | _=>es
  | none=>es
theorem ZfD{es es':Row}{a b:Nat}{p:Zn}{e:List Tr}(h1:es[a]? = some e)(h2:e[b]? = some (.sl es')):getp es ((a,b)::p)=getp es' p:=by simp only[getp,h1,h2]
theorem Xt{es es':Row}{a b:Nat}{p:Zn}{e:List Tr}{r:Row}(h1:es[a]? = some e)(h2:e[b]? = some (.sl es')):JH es ((a,b)::p) r=es.set a (e.set b (.sl (JH es' p r))):=by simp only[JH,h1,h2]
theorem ZzS{es es':Row}{a b i f:Nat}{p:Zn}{e:List Tr}{t:Tr}(h1:es[a]? = some e)(h2:e[b]? = some (.sl es')):ZK es ((a,b)::p) i f t=es.set a (e.set b (.sl (ZK es' p i f t))):=by simp only[ZK,h1,h2]
theorem Dx{es r0:Row}{a b:Nat}{p:Zn}(h:getp es ((a,b)::p)=some r0):∃ e es',es[a]? = some e/\e[b]? = some (.sl es')/\getp es' p=some r0:=by
 simp only[getp] at h;cases h1:es[a]? with
 | none=>rw[h1] at h;cases h
 | some e =>
  rw[h1] at h;cases h2:e[b]? with
  | none=>simp only[h2] at h;cases h
  | some t =>
   simp only[h2] at h;cases t with
   | v x=>cases h
   | sl es' => exact⟨e,es',rfl,h2,h⟩
theorem Dy{α:Type}{l:List α}{a:Nat}{x y:α}(h:l[a]? = some x):(l.set a y)[a]? = some y:=by rw[Ua7];exact(Uad.1 h).1
theorem ZaO{r:Row}:∀{p:Zn} {es r0:Row},getp es p=some r0->getp (JH es p r) p=some r
 | [],_,_,_=>rfl
 | (a,b)::p,es,r0,h=>by obtain⟨e,es',h1,h2,h3⟩:=Dx h;rw[Xt h1 h2,ZfD (Dy h1) (Dy h2)];exact ZaO h3
theorem ZkD{r s:Row}:∀{p:Zn} {es r0:Row},getp es p=some r0->JH (JH es p r) p s=JH es p s
 | [],_,_,_=>rfl
 | (a,b)::p,es,r0,h=>by obtain⟨e,es',h1,h2,h3⟩:=Dx h;rw[Xt h1 h2,Xt h1 h2,Xt (Dy h1) (Dy h2),ZkD h3,Ubk,Ubk]
theorem ZkE{r:Row}{i f:Nat}{t:Tr}{e0:List Tr}(hi:r[i]? = some e0):∀{p:Zn} {es r0:Row},getp es p=some r0->ZK (JH es p r) p i f t=JH es p (r.set i (e0.set f t))
 | [],es,_,_=>by simp only[JH,ZK,hi]
 | (a,b)::p,es,r0,h=>by obtain⟨e,es',h1,h2,h3⟩:=Dx h;rw[Xt h1 h2,Xt h1 h2,ZzS (Dy h1) (Dy h2),ZkE hi h3,Ubk,Ubk]
theorem ZkF{q:Zn}:∀{p:Zn} {es r0:Row},getp es p=some r0->getp es (p++q)=getp r0 q
 | [],es,r0,h=>by simp only[getp,Uat] at h;subst h;rfl
 | (a,b)::p,es,r0,h=>by obtain⟨e,es',h1,h2,h3⟩:=Dx h;rw[List.cons_append,ZfD h1 h2];exact ZkF h3
theorem ZkG{q:Zn}{z:Row}:∀{p:Zn} {es r0:Row},getp es p=some r0->JH es (p++q) z=JH es p (JH r0 q z)
 | [],es,r0,h=>by simp only[getp,Uat] at h;subst h;rfl
 | (a,b)::p,es,r0,h=>by obtain⟨e,es',h1,h2,h3⟩:=Dx h;rw[List.cons_append,Xt h1 h2,Xt h1 h2,ZkG h3]
theorem ZfE{α:Type}{l:List α}{a:Nat}{x:α}(h:l[a]? = some x):l.set a x=l:=by obtain⟨h1,h2⟩:=Uad.1 h;rw[<-h2,UbG]
theorem ZkH:∀{p:Zn} {es r:Row},getp es p=some r->JH es p r=es
 | [],es,r,h=>by simp only[getp,Uat] at h;subst h;rfl
 | (a,b)::p,es,r,h=>by obtain⟨e,es',h1,h2,h3⟩:=Dx h;rw[Xt h1 h2,ZkH h3,ZfE h2,ZfE h1]
theorem Xu{S:Zb}{id:Zd}{a b:Ob}:Zo (Zo S id a) id b=Zo S id b:=by funext i;unfold Zo;split<;>rfl
theorem Wn{S:Zb}{id:Zd}{a:Ob}(h:S id=some a):Zo S id a=S:=by
 funext i;unfold Zo;split
 ·rename_i e;rw[e,h]
 ·rfl
theorem Dz{lvl:Nat}{loc:List (Nat×Ob)}{S:Zb}{id:Zd}{o:Ob}(h:id.1≠lvl):ZF lvl loc (Zo S id o)=Zo (ZF lvl loc S) id o:=by
 funext i;by_cases e:i=id
 ·subst e;rw[J0 h];unfold Zo;rw[if_pos rfl,if_pos rfl]
 ·unfold Zo ZF;simp only[if_neg e]
section mark
variable {α:Type} (m:α->Int->α) (n:α->Nat)
def mL:List α->Int->List α
 | [],_=>[]
 | x::r,k=>m x k::mL r (k+n x)
def nL:List α->Nat
 | []=>0
 | x::r=>n x+nL r
theorem Wo:∀(a:List α) (k:Int),(mL m n a k).length=a.length
 | [],_=>rfl
 | x::r,k=>by simp only[mL,List.length_cons,Wo r]
theorem ZfF:∀(a b:List α),nL n (a++b)=nL n a+nL n b
 | [],b=>by simp [nL]
 | x::r,b=>by simp only[List.cons_append,nL,ZfF r b];omega
theorem ZkI:∀(a b:List α) (k:Int),mL m n (a++b) k=mL m n a k++mL m n b (k+nL n a)
 | [],b,k=>by simp [mL,nL]
 | x::r,b,k=>by simp only[List.cons_append,mL,nL,ZkI r b];rw[show k+(n x:Int)+(nL n r:Int)=k+((n x+nL n r:Nat):Int) from by omega]
def kJ(a:List α)(k:Int)(j:Nat):Int:=k+nL n (a.take j)
def lJ(a:List α)(k:Int)(j:Nat):List α:=mL m n (a.take j) k++a.drop j
theorem ZaP{a:List α}{k:Int}:kJ n a k 0=k:=by simp [kJ,nL]
theorem ZfG{a:List α}{k:Int}:lJ m n a k 0=a:=by simp [lJ,mL]
theorem ZaQ{a:List α}{k:Int}:kJ n a k a.length=k+nL n a:=by simp [kJ]
theorem ZfH{a:List α}{k:Int}:lJ m n a k a.length=mL m n a k:=by simp [lJ]
theorem Xv{a:List α}{k:Int}{j:Nat}(h:j<a.length):kJ n a k (j+1)=kJ n a k j+n a[j]:=by unfold kJ;rw[Uag h,ZfF];simp only[nL];omega
theorem ZaR{a:List α}{k:Int}{j:Nat}:kJ n a k j<=k+nL n a:=by
 have:nL n a=nL n (a.take j)+nL n (a.drop j):=by rw[<-ZfF,Ua5]
 unfold kJ;omega
theorem ZaS{a:List α}{k:Int}{j:Nat}:k<=kJ n a k j:=by unfold kJ;omega
theorem ZzT{a:List α}{k:Int}{j:Nat}:(lJ m n a k j).length=a.length:=by unfold lJ;rw[Uac,Wo,Uai,UaL];omega
theorem ZzU{a:List α}{k:Int}{j:Nat}(h:j<a.length):(lJ m n a k j)[j]? = some a[j]:=by
 unfold lJ;have h1:(mL m n (a.take j) k).length=j:=by rw[Wo,Uai];omega
 rw[Uas (by omega),h1,Ubi,UaM,Nat.add_zero,Uak h]
theorem ZzV{a:List α}{k:Int}{j:Nat}(h:j<a.length):(lJ m n a k j).set j (m a[j] (kJ n a k j))=lJ m n a k (j+1):=by
 unfold lJ;have h1:(mL m n (a.take j) k).length=j:=by rw[Wo,Uai];omega
 rw[Ubh _ _ (by omega),h1,Ubi,UaA h,List.set_cons_zero,Uag h,ZkI];simp only[mL,kJ,UaR,List.cons_append,List.nil_append]
theorem ZfI(c:α->List Tr){a:List α}{k:Int}{j:Nat}(h:j<a.length):∃ R:Row,j<R.length/\(lJ m n a k j).map c=R.set j (c a[j])/\(lJ m n a k (j+1)).map c=R.set j (c (m a[j] (kJ n a k j))):=by
 refine⟨(lJ m n a k j).map c,by rw[Uaa,ZzT];exact h,?_,?_⟩
 ·refine(ZfE ?_).symm;rw[Uao,ZzU m n h];rfl
 ·rw[<-ZzV m n h,UbE]
end mark
theorem ZaT{R:Row}{j:Nat}(h:j<R.length)(e:List Tr):(R.set j e)[j]? = some e:=Ua7 h
theorem Zcz{es r0:Row}{p:Zn}{R:Row}{j:Nat}(hv:getp es p=some r0)(h:j<R.length)(e:List Tr)(f:Nat)(t:Tr):ZK (JH es p (R.set j e)) p j f t=JH es p (R.set j (e.set f t)):=by rw[ZkE (ZaT h e) hv,Ubk]
def MarkS(P:Program)(fid:FuncId){α:Type}(c:α->List Tr)(m:α->Int->α)(n:α->Nat)(B:α->Prop):Prop :=
 ∀(a:List α) (k:Int) (lvl:Nat) (S:Zb) (id:Zd) (p:Zn) (es r0:Row) (kk hw ver st:Nat) (cap:Option Nat),id.1<lvl->getp es p=some r0->J2 p st hw ver true->0<=k->k+nL n a<=4611686018427387904 ->
  a.length<=4294967296->(∀ x∈a,B x)->Sem P fid lvl [.hd id p 0 a.length cap st,iI k] (Zo S id (.ar kk (JH es p (a.map c)) true hw ver)) (iI (k+nL n a)) (Zo S id (.ar kk (JH es p ((mL m n a k).map c)) true hw ver))
theorem MarkS.nested{P:Program}{fid:FuncId}{α:Type}{c:α->List Tr}{m:α->Int->α}{n:α->Nat}{B:α->Prop}(hm:MarkS P fid c m n B){a:List α}{k:Int}{lvl:Nat}{S:Zb}{id:Zd}{p:Zn}{es r0:Row}{kk hw ver j f:Nat}{R:Row}{e:List Tr}
  (hid:id.1<lvl) (hv:getp es p=some r0) (h0:0<=k) (h1:k+nL n a<=4611686018427387904) (hl:a.length<=4294967296) (hB:∀ x∈a,B x) (hj:j<R.length) (he:e[f]? = some (.sl (a.map c))) :
  Sem P fid lvl [.hd id (p++[(j,f)]) 0 a.length none ver,iI k] (Zo S id (.ar kk (JH es p (R.set j e)) true hw ver)) (iI (k+nL n a)) (Zo S id (.ar kk (JH es p (R.set j (e.set f (.sl ((mL m n a k).map c))))) true hw ver)):=by
 have hR:(R.set j e)[j]? = some e:=by rw[Ua7 hj]
 have g1:getp (JH es p (R.set j e)) p=some (R.set j e):=ZaO hv;have g2:getp (JH es p (R.set j e)) (p++[(j,f)])=some (a.map c):=by rw[ZkF g1,ZfD hR he];rfl
 have:=hm a k lvl S id (p++[(j,f)]) (JH es p (R.set j e)) _ kk hw ver ver none hid g2 (by cases p<;>exact⟨rfl,rfl⟩) h0 h1 hl hB;rw[ZkH g2,ZkG g1,ZkD hv,Xt hR he] at this;simp only[JH,Ubk] at this;exact this
theorem ZzW{P:Program}{fid:FuncId}{α:Type}{c:α->List Tr}{m:α->Int->α}{n:α->Nat}{B:α->Prop}(hm:MarkS P fid c m n B){a:List α}{k:Int}{lvl len:Nat}{S:Zb}{id:Zd}{p:Zn}{es r0:Row}{kk hw ver j f:Nat}{R:Row}{e:List Tr}{env:List (Nat×IV)}{loc:List (Nat×Ob)}{d:Option Nat}{K:St->Prop}
  (hid:id.1<lvl) (hv:getp es p=some r0) (h0:0<=k) (h1:k+nL n a<=4611686018427387904) (hl:a.length<=4294967296) (hB:∀ x∈a,B x) (hj:j<R.length) (he:e[f]? = some (.sl (a.map c))) (hlen:len=a.length)
  (hk:K ⟨lvl,ptd d (iI (k+nL n a)) env,loc,Zo S id (.ar kk (JH es p (R.set j (e.set f (.sl ((mL m n a k).map c))))) true hw ver)⟩) :
  UH (Sem P) fid true lvl env loc (Zo S id (.ar kk (JH es p (R.set j e)) true hw ver)) d K [.hd id (p++[(j,f)]) 0 len none ver,iI k]:=by
 subst hlen;have hne:id.1≠lvl:=by omega
 refine Wm (r:=iI (k+nL n a)) loc (Zo S id (.ar kk (JH es p (R.set j (e.set f (.sl ((mL m n a k).map c))))) true hw ver)) ?_ ?_ ⟨?_,hk⟩
 ·intro i hi;have:i≠id:=fun e=>hne (by rw[<-e];exact hi);unfold Zo;rw[if_neg this,if_neg this]
 ·rw[Dz hne,Dz hne];exact hm.nested (Ub2 hid) hv h0 h1 hl hB hj he
 ·trivial
theorem ZkJ{lvl key:Nat}{loc:List (Nat×Ob)}{out:Zb}{o:Ob}:ZF lvl (ptO key o loc) out=Zo (ZF lvl loc out) (lvl,key) o:=by
 funext i;unfold ZF Zo;by_cases h:i.1=lvl
 ·rw[if_pos h,Zao];by_cases h2:i.2=key
  ·have:i=(lvl,key):=(by obtain⟨a,b⟩:=i;simp only at h h2;rw[h,h2]);rw[if_pos h2,if_pos this]
  ·have:¬ i=(lvl,key):=fun e=>h2 (by rw[e]);rw[if_neg h2,if_neg this];exact(if_pos h).symm
 ·have:¬ i=(lvl,key):=fun e=>h (by rw[e]);rw[if_neg h,if_neg this];exact(if_neg h).symm
theorem ZfJ{P:Program}{fid:FuncId}{α:Type}{c:α->List Tr}{m:α->Int->α}{n:α->Nat}{B:α->Prop}(hm:MarkS P fid c m n B){a:List α}{k:Int}{lvl key:Nat}{out:Zb}{kk hw ver:Nat}{cap:Option Nat}{env:List (Nat×IV)}{loc:List (Nat×Ob)}{d:Option Nat}{K:St->Prop}
  (hS:lkO key loc=some (.ar kk (a.map c) true hw ver)) (h0:0<=k) (h1:k+nL n a<=4611686018427387904) (hl:a.length<=4294967296) (hB:∀ x∈a,B x)
  (hk:K ⟨lvl,ptd d (iI (k+nL n a)) env,ptO key (.ar kk ((mL m n a k).map c) true hw ver) loc,out⟩) :
  UH (Sem P) fid true lvl env loc out d K [.hd (lvl,key) [] 0 a.length cap hw,iI k]:=by
 refine Wm (r:=iI (k+nL n a)) (ptO key (.ar kk ((mL m n a k).map c) true hw ver) loc) out (fun _ _=>rfl) ?_ ⟨?_,hk⟩
 ·rw[ZkJ];have e:ZF lvl loc out=Zo (ZF lvl loc out) (lvl,key) (.ar kk (JH (a.map c) [] (a.map c)) true hw ver):=(Wn (by unfold ZF;rw[if_pos rfl];exact hS)).symm;have:=hm a k (lvl+1) (ZF lvl loc out) (lvl,key) [] (a.map c) (a.map c) kk hw ver hw cap (Ua2 _) rfl rfl h0 h1 hl hB;rw[<-e] at this;exact this
 ·trivial
end Go.Fd
namespace Go.Fd
variable [Tabs]
open Go.Sort
section
variable {P:Program} {α:Type} [Inhabited α] {enc:α->Value}
abbrev Xw(enc:α->Value)(l:List α):Row:=l.map fun x=>[.v (enc x)]
theorem ZaU{l:List α}{p:Zn}{es2:Row}(hp:p≠[]):getp (Xw enc l) p≠some es2:=fun h=>by
 cases p with
 | nil=>exact hp rfl
 | cons cd q =>
  obtain⟨c,d⟩:=cd;obtain⟨e,x,h1,h2,_⟩:=Vn h;obtain⟨n,_,rfl⟩:=Uau.1 (Uaf h1);have:=Uaf h2;simp at this
theorem ZfK{l:List α}:ZC 1 (Xw enc l):=VD (fun x=>[.v (enc x)]) (fun _=>rfl) l
theorem ZzX{d:Array α}{off:Nat}{c:Array Value}:(putCells enc off d c).size=c.size:=by simp [putCells]
theorem ZzY{d:List α}{c:Array Value}{i:Nat}(h:i<d.length)(hc:i<c.size):(putCells enc 0 d.toArray c)[i]? = some (enc d[i]):=by simp [putCells,hc,h]
theorem ZzZ{f:FuncId}{lvl:Nat}{S:Zb}{id:Zd}{xs ys:List α}{u:Bool}{hw ver:Nat}(hc:Uz P f)(hid:id.1<lvl)(hS:S id=some (.ar 1 (Xw enc xs) u hw ver))
  (hsc:∀ x:α,Jw (enc x)=true) (hl:ys.length=xs.length)
  (h0:xs=[]->∀(a:Option Addr) (cap:Nat) (w:World),Calls P f #[.slice a 0 cap] w fun e w' => e = .returned (.tuple #[])/\∃ n,w'=Sort.ahead w n)
  (h1:xs≠[]->∀(b cap:Nat) (w:World),Holds enc w b 0 xs.toArray->b<w.heap.size->Calls P f #[.slice (some ⟨b,0,none⟩) xs.length cap] w fun e w' => e = .returned (.tuple #[])/\∃ n os,w'=grow (putRow enc (Sort.ahead w n) b 0 ys.toArray) os) :
  Sem P f lvl [.hd id [] 0 xs.length none hw] S (.tu []) (Zo S id (.ar 1 (Xw enc ys) u hw ver)):=by
 refine⟨trivial,hc,fun hlow G w vs hok hv _=>?_⟩;simp only[Zu] at hv;obtain⟨v,vr,rfl,hv,rfl⟩:=hv;simp only[VR] at hv;obtain⟨⟨a0,c0,hv0,hlc0⟩,k2,es2,u2,hw2,ver2,hs2,_,hrel⟩:=hv;rw[hS] at hs2;cases hs2;obtain⟨es3,k',a,c,hg3,hk,hun,rfl,hlc,hcap,hcap2,hor⟩:=hrel rfl;cases hg3;have hk1:=hk rfl;subst hk1;by_cases hx:xs=[]
 ·subst hx;have hy:ys=[]:=Ua1.1 (by simpa using hl);subst hy;rw[Wn hS];refine(h0 rfl a c w).mono ?_
  rintro e w' ⟨rfl,n,rfl⟩
  have e:Ext w (Sort.ahead w n):=⟨Ual _,fun _ _=>rfl,rfl,rfl,rfl⟩;exact⟨_,G,rfl,hok.ext e,by simp [impv,impvs,VR,Zu],hlow,Frm.of_ext e⟩
 ·have hpos:0<xs.length:=List.length_pos_iff.2 hx;rcases hor with hz | ⟨hz,_⟩ | ⟨b,cc,hG,rfl,hoc⟩
  ·omega
  ·exact absurd rfl hz
  ·obtain⟨o1,o2,o3,o4,o5⟩:=hok.obs _ _ hS;have hr:=o4 [] _ (.inl rfl) rfl;unfold Z7 at hr;rw[hG] at hr;obtain⟨k3,cells,ty,g1,g2,g3,g4,g5,g6⟩:=hr;have hk3:=g1 rfl;subst hk3;have hbs:b<w.heap.size:=by
    rcases Nat.lt_or_ge b w.heap.size with h | h
    ·exact h
    ·rw[UbQ h] at g3;cases g3
   have hH:Holds enc w b 0 xs.toArray:=fun j hj=>by have hj:j<xs.length:=(by simpa using hj);obtain⟨x,hx1,hx2⟩:=g6 j [.v (enc xs[j])] 0 (.v (enc xs[j])) (by simp [hj]) rfl;simp only[Jl] at hx2;obtain⟨rfl,_⟩:=hx2;refine⟨?_,by simp [World.frozen?,g3]⟩;have:(xs.toArray)[j]! = xs[j]:=(by simp [hj]);rw[this,cell_of_row w b (0+j) cells ty (0,0) g3];simpa using hx1
   refine(h1 hx b c w hH hbs).mono ?_
   rintro e w' ⟨rfl,n,os,rfl⟩
   have hsz:w.heap.size<=(grow (putRow enc (Sort.ahead w n) b 0 ys.toArray) os).heap.size:=(by simp [grow,putRow,mapBlock,Sort.ahead]);have hheap:∀ b2,b2<w.heap.size->b2≠b->(grow (putRow enc (Sort.ahead w n) b 0 ys.toArray) os).heap[b2]? = w.heap[b2]?:=fun b2 h2 hne=>by simp only[grow,putRow,mapBlock,Sort.ahead];rw[UaK (by simpa using h2),UbI,if_neg (fun e=>hne e.symm)]
   have hrow:(grow (putRow enc (Sort.ahead w n) b 0 ys.toArray) os).heap[b]? = some (.cells (putCells enc 0 ys.toArray cells) ty (0,0)):=(by simp only[grow,putRow,mapBlock,Sort.ahead];rw[UaK (by simpa using hbs),UbI,if_pos rfl,g3];rfl);have hown:∀ ob b2,ob=(.ar 1 (Xw enc ys) u hw ver:Ob)->ZM G id ob b2->b2=b:=fun ob b2 ho h=>by
    subst ho;obtain⟨p,c2,hp,hq,hg⟩:=h;by_cases hp0:p=[]
    ·subst hp0;rw[hG] at hg;cases hg;rfl
    ·obtain⟨e2,he2⟩:=Uan.1 hq;exact absurd he2 (ZaU hp0)
   have hbown:ZM G id (.ar 1 (Xw enc xs) u hw ver) b:=⟨[],cc,.inl rfl,rfl,hG⟩;have t:Trn G G S (Zo S id (.ar 1 (Xw enc ys) u hw ver)) w (grow (putRow enc (Sort.ahead w n) b 0 ys.toArray) os) (· = id) (fun _=>False):=by
    refine⟨fun _ _=>rfl,fun i ob hi _ hs=>⟨ob,by unfold Zo;rw[if_neg hi];exact hs,Wk.refl ob⟩,fun i ob hi hs=>⟨fun h=>h,ob,by unfold Zo at hs;rw[if_neg hi] at hs;exact hs,Wk.refl ob⟩,hsz,fun b2 h2 hn=>hheap b2 h2 fun e=>hn id _ rfl hS (e ▸ hbown),fun i ob b2 hi hs ho=>?_,fun i ob hi _ hs=>?_⟩
    ·subst hi;unfold Zo at hs;rw[if_pos rfl] at hs;cases hs;have:=hown _ b2 rfl ho;subst this;exact .inl ⟨i,_,.inl rfl,hS,hbown⟩
    ·subst hi;rw[hS] at hs;cases hs;refine⟨.ar 1 (Xw enc ys) u hw ver,by unfold Zo;rw[if_pos rfl],rfl,Ual _,Ual _,fun p st _ hst=>⟨hst,fun es' he=>?_⟩⟩;by_cases hp0:p=[]
     ·subst hp0;exact⟨rfl,_,rfl,fun k' hkk _=>by rw[hkk rfl];exact ZfK⟩
     ·exact absurd he (ZaU hp0)
   refine⟨_,G,rfl,t.ok hok (fun i ob hi hs=>?_) (fun i ob j ob' b hi hj _ _ _ _=>hi.trans hj.symm) (fun i cells hi hs=>?_),by simp [impv,impvs,VR,Zu],fun i ob hs=>?_,t.frm (fun _ h=>h.elim) rfl rfl rfl⟩
   ·subst hi;simp only[Zo,if_true] at hs;cases hs;refine⟨by rw[Uaa] at *;omega,ZfK,o3,fun p es2 hp he=>?_,fun p p' b1 c1 c2 hp hp' g1 g2 g3 g4=>?_⟩
    ·by_cases hp0:p=[]
     ·subst hp0;cases he;unfold Z7;rw[hG];refine⟨1,_,ty,fun _=>rfl,ZfK,hrow,by rw[ZzX];exact g4,by rw[Uaa] at *;omega,fun i e f t hi hf=>?_⟩;rw[Uao] at hi;obtain⟨y,hy,rfl⟩:=UaJ.1 hi;obtain⟨hil,hyy⟩:=Uad.1 hy;have hf0:f=0/\t = .v (enc y):=by
       cases f with
       | zero=>simp at hf;exact⟨rfl,hf.symm⟩
       | succ f=>simp at hf
      obtain⟨rfl,rfl⟩:=hf0;refine⟨enc y,?_,rfl,hsc y⟩;rw[Uaa] at g5;rw[show i*1+0=i from by omega,ZzY hil (by omega),hyy]
     ·exact absurd he (ZaU hp0)
    ·by_cases hp0:p=[]
     ·by_cases hp1:p'=[]
      ·rw[hp0,hp1]
      ·obtain⟨e2,he2⟩:=Uan.1 g2;exact absurd he2 (ZaU hp1)
     ·obtain⟨e2,he2⟩:=Uan.1 g1;exact absurd he2 (ZaU hp0)
   ·subst hi;simp only[Zo,if_true] at hs;cases hs
   ·simp only[Zo] at hs;split at hs
    ·rename_i h;rw[h];exact hid
    ·exact hlow i ob hs
end
end Go.Fd
namespace Go.Fd
variable [Tabs]
open Go.Sort Go.Proofs Go.RowKit
section
variable {P:Program} {α:Type} [Inhabited α] {enc:α->List Value} {k:Nat}
abbrev W7(enc:α->List Value)(l:List α):Row:=l.map fun x=>(enc x).map .v
theorem ZaV{l:List α}{p:Zn}{es2:Row}(hp:p≠[]):getp (W7 enc l) p≠some es2:=fun h=>by
 cases p with
 | nil=>exact hp rfl
 | cons cd q =>
  obtain⟨c,d⟩:=cd;obtain⟨e,x,h1,h2,_⟩:=Vn h;obtain⟨n,_,rfl⟩:=Uau.1 (Uaf h1);obtain⟨v,_,hv⟩:=Uau.1 (Uaf h2);cases hv
theorem ZfL(hk:∀ x,(enc x).length=k){l:List α}:ZC k (W7 enc l):=VD (fun x=>(enc x).map .v) (fun x=>by rw[Uaa,hk]) l
theorem ZkK{l:List α}:(flatK enc k l.toArray).size=l.length*k:=by simp [flatK]
theorem ZkL(hk:∀ x,(enc x).length=k){l:List α}{i f:Nat}(hi:i<l.length)(hf:f<k):(flatK enc k l.toArray)[i*k+f]! = (enc l[i])[f]'(by rw[hk];exact hf):=by
 have h1:(i*k+f) / k=i:=by rw[Ubx,Nat.mul_add_div (by omega),Nat.div_eq_of_lt hf,Nat.add_zero]
 have h2:(i*k+f) % k=f:=by rw[Ubx,Nat.mul_add_mod,UbM hf]
 have h3:i*k+f<l.length*k:=by have:(i+1)*k<=l.length*k:=Uaz k hi;rw[UaP,UbW] at this;omega
 have hfl:f<(enc l[i]).length:=by rw[hk];exact hf
 simp [flatK,h3,h1,h2,hi,hfl]
theorem Zz0{F c:Array Value}{i:Nat}(h:i<F.size)(hc:i<c.size):(putCells id 0 F c)[i]? = some F[i]!:=by simp [putCells,hc,h]
theorem Zz1{F c:Array Value}:(putCells id 0 F c).size=c.size:=by simp [putCells]
theorem Zz2{f g:FuncId}{lvl:Nat}{S:Zb}{id:Zd}{xs ys:List α}{u:Bool}{hw ver:Nat}(hk:∀ x,(enc x).length=k)(hk0:0<k)(hc:Uz P f)(hid:id.1<lvl)(hS:S id=some (.ar k (W7 enc xs) u hw ver))
  (hsc:∀ x:α,∀ v∈enc x,Jw v=true) (hl:ys.length=xs.length) (hpos:0<xs.length)
  (h1:∀(b cap:Nat) (w:World),HoldsK enc k w b 0 xs.toArray->b<w.heap.size->Calls P f #[.slice (some ⟨b,0,none⟩) xs.length cap,.func (.func g) #[] #[]] w fun e w' => e = .returned (.tuple #[])/\∃ n os,w'=sortWorldK enc k w b 0 n ys.toArray os) :
  Sem P f lvl [.hd id [] 0 xs.length none hw,.fn g []] S (.tu []) (Zo S id (.ar k (W7 enc ys) u hw ver)):=by
 refine⟨trivial,hc,fun hlow G w vs hok hv _=>?_⟩;simp only[Zu] at hv;obtain⟨v,vr,rfl,hv,v2,vr2,rfl,hv2,rfl⟩:=hv;simp only[VR] at hv hv2;obtain⟨vs2,rfl,hvs2⟩:=hv2;have hv20:vs2=[]:=hvs2;subst hv20;obtain⟨⟨a0,c0,hv0,hlc0⟩,k2,es2,u2,hw2,ver2,hs2,_,hrel⟩:=hv;rw[hS] at hs2;cases hs2;obtain⟨es3,k',a,c,hg3,hkk,hun,rfl,hlc,hcap,hcap2,hor⟩:=hrel rfl;cases hg3;have hk1:=hkk rfl;subst hk1;rcases hor with hz | ⟨hz,_⟩ | ⟨b,cc,hG,rfl,hoc⟩
 ·omega
 ·exact absurd rfl hz
 ·obtain⟨o1,o2,o3,o4,o5⟩:=hok.obs _ _ hS;have hr:=o4 [] _ (.inl rfl) rfl;unfold Z7 at hr;rw[hG] at hr;obtain⟨k3,cells,ty,g1,g2,g3,g4,g5,g6⟩:=hr;have hk3:=g1 rfl;subst hk3;have hbs:b<w.heap.size:=by
   rcases Nat.lt_or_ge b w.heap.size with h | h
   ·exact h
   ·rw[UbQ h] at g3;cases g3
  have hH:HoldsK enc k3 w b 0 xs.toArray:=fun j hj=>by
   rw[ZkK] at hj;obtain⟨i,f,rfl,hf⟩:∃ i f,j=i*k3+f/\f<k3:=⟨j / k3,j % k3,by rw[Ubx];exact(Nat.div_add_mod j k3).symm,Nat.mod_lt _ hk0⟩;have hi:i<xs.length:=by
    rcases Nat.lt_or_ge i xs.length with h | h
    ·exact h
    ·have:=Uaz k3 h;omega
   have hfl:f<(enc xs[i]).length:=(by rw[hk];exact hf);obtain⟨x,hx1,hx2⟩:=g6 i ((enc xs[i]).map .v) f (.v (enc xs[i])[f]) (by simp [hi]) (by simp [hfl]);simp only[Jl] at hx2;obtain⟨rfl,_⟩:=hx2;refine⟨?_,by simp [World.frozen?,g3]⟩;rw[ZkL hk hi hf,cell_of_row w b (0+(i*k3+f)) cells ty (0,0) g3];simpa using hx1
  rw[Nat.zero_mul];refine(h1 b c w hH hbs).mono ?_
  rintro e w' ⟨rfl,n,os,rfl⟩
  have hsz:w.heap.size<=(sortWorldK enc k3 w b 0 n ys.toArray os).heap.size:=by simp [sortWorldK,putRowK,grow,putRow,mapBlock,Sort.ahead]
  have hheap:∀ b2,b2<w.heap.size->b2≠b->(sortWorldK enc k3 w b 0 n ys.toArray os).heap[b2]? = w.heap[b2]?:=fun b2 h2 hne=>by simp only[sortWorldK,putRowK,grow,putRow,mapBlock,Sort.ahead];rw[UaK (by simpa using h2),UbI,if_neg (fun e=>hne e.symm)]
  have hrow:(sortWorldK enc k3 w b 0 n ys.toArray os).heap[b]? = some (.cells (putCells _root_.id 0 (flatK enc k3 ys.toArray) cells) ty (0,0)):=by simp only[sortWorldK,putRowK,grow,putRow,mapBlock,Sort.ahead];rw[UaK (by simpa using hbs),UbI,if_pos rfl,g3];rfl
  have hown:∀ ob b2,ob=(.ar k3 (W7 enc ys) u hw ver:Ob)->ZM G id ob b2->b2=b:=fun ob b2 ho h=>by
   subst ho;obtain⟨p,c2,hp,hq,hg⟩:=h;by_cases hp0:p=[]
   ·subst hp0;rw[hG] at hg;cases hg;rfl
   ·obtain⟨e2,he2⟩:=Uan.1 hq;exact absurd he2 (ZaV hp0)
  have hbown:ZM G id (.ar k3 (W7 enc xs) u hw ver) b:=⟨[],cc,.inl rfl,rfl,hG⟩;have t:Trn G G S (Zo S id (.ar k3 (W7 enc ys) u hw ver)) w (sortWorldK enc k3 w b 0 n ys.toArray os) (· = id) (fun _=>False):=by
   refine⟨fun _ _=>rfl,fun i ob hi _ hs=>⟨ob,by unfold Zo;rw[if_neg hi];exact hs,Wk.refl ob⟩,fun i ob hi hs=>⟨fun h=>h,ob,by unfold Zo at hs;rw[if_neg hi] at hs;exact hs,Wk.refl ob⟩,hsz,fun b2 h2 hn=>hheap b2 h2 fun e=>hn id _ rfl hS (e ▸ hbown),fun i ob b2 hi hs ho=>?_,fun i ob hi _ hs=>?_⟩
   ·subst hi;unfold Zo at hs;rw[if_pos rfl] at hs;cases hs;have:=hown _ b2 rfl ho;subst this;exact .inl ⟨i,_,.inl rfl,hS,hbown⟩
   ·subst hi;rw[hS] at hs;cases hs;refine⟨.ar k3 (W7 enc ys) u hw ver,by unfold Zo;rw[if_pos rfl],rfl,Ual _,Ual _,fun p st _ hst=>⟨hst,fun es' he=>?_⟩⟩;by_cases hp0:p=[]
    ·subst hp0;exact⟨rfl,_,rfl,fun k' hkk _=>by rw[hkk rfl];exact ZfL hk⟩
    ·exact absurd he (ZaV hp0)
  refine⟨_,G,rfl,t.ok hok (fun i ob hi hs=>?_) (fun i ob j ob' b hi hj _ _ _ _=>hi.trans hj.symm) (fun i cells hi hs=>?_),by simp [impv,impvs,VR,Zu],fun i ob hs=>?_,t.frm (fun _ h=>h.elim) rfl rfl rfl⟩
  ·subst hi;simp only[Zo,if_true] at hs;cases hs;refine⟨by rw[Uaa] at *;omega,ZfL hk,o3,fun p es2 hp he=>?_,fun p p' b1 c1 c2 hp hp' g1 g2 g3 g4=>?_⟩
   ·by_cases hp0:p=[]
    ·subst hp0;cases he;unfold Z7;rw[hG];refine⟨k3,_,ty,fun _=>rfl,ZfL hk,hrow,by rw[Zz1];exact g4,by rw[Uaa] at *;omega,fun i e f t hi hf=>?_⟩;rw[Uao] at hi;obtain⟨y,hy,rfl⟩:=UaJ.1 hi;obtain⟨hil,hyy⟩:=Uad.1 hy;rw[Uao] at hf;obtain⟨v,hv,rfl⟩:=UaJ.1 hf;obtain⟨hfl,hvv⟩:=Uad.1 hv;have hfk:f<k3:=by rw[<-hk y];exact hfl
     have hlt:i*k3+f<ys.length*k3:=(by have:(i+1)*k3<=ys.length*k3:=Uaz k3 hil;rw[UaP,UbW] at this;omega);have hlt2:i*k3+f<cells.size:=(by rw[Uaa] at g5;rw[g4];have:ys.length*k3<=cc*k3:=Uaz k3 (by omega);omega);refine⟨v,?_,rfl,hsc y v (Uaf hv)⟩;rw[Zz0 (by rw[ZkK];exact hlt) hlt2,ZkL hk hil hfk];subst hyy;rw[hvv]
    ·exact absurd he (ZaV hp0)
   ·by_cases hp0:p=[]
    ·by_cases hp1:p'=[]
     ·rw[hp0,hp1]
     ·obtain⟨e2,he2⟩:=Uan.1 g2;exact absurd he2 (ZaV hp1)
    ·obtain⟨e2,he2⟩:=Uan.1 g1;exact absurd he2 (ZaV hp0)
  ·subst hi;simp only[Zo,if_true] at hs;cases hs
  ·simp only[Zo] at hs;split at hs
   ·rename_i h;rw[h];exact hid
   ·exact hlow i ob hs
end
end Go.Fd
namespace Go.Proofs
open Go.Shelf
def Tryz.sortW_ren:Go.Shelf.Ren:=⟨fun | 6=>168 | 15=>91 | 14=>191 | 28=>129 | 29=>130 | 20=>201 | 21=>202 | 22=>203 | 23=>204 | 24=>205 | 25=>206 | 26=>207 | 27=>208 | 46=>211 | 47=>176 | 48=>177 | 49=>212 | 50=>213 | 57=>224 | n=>n,fun | 22=>46 | 24=>107 | 25=>187 | 3=>3 | 39=>127 | 0=>0 | 53=>155 | 55=>157 | 4=>4 | 46=>148 | 45=>147 | 50=>87 | 5=>5 | 9=>9 | 66=>189 | 70=>193 | 76=>204 | 77=>205 | n=>n,fun | n=>n⟩
theorem Tryz.sortW:Go.Proofs.SlLaysF0.n6 Tryz.prog Tryz.sortW_ren:={
  mixed:=by kernel_rfl,
  f6:=⟨"slices.SortFunc[[]loop.example/g01082/impl.Wire,loop.example/g01082/impl.Wire]",by decide,Tryz.func168.trans (congrArg some (by kernel_rfl))⟩,
  f14:=⟨"slices.pdqsortCmpFunc[loop.example/g01082/impl.Wire]",by decide,Tryz.func191.trans (congrArg some (by kernel_rfl))⟩,
  f15:=Tryz.func91.trans (congrArg some (by kernel_rfl)),
  f20:=⟨"slices.insertionSortCmpFunc[loop.example/g01082/impl.Wire]",by decide,Tryz.func201.trans (congrArg some (by kernel_rfl))⟩,
  f21:=⟨"slices.heapSortCmpFunc[loop.example/g01082/impl.Wire]",by decide,Tryz.func202.trans (congrArg some (by kernel_rfl))⟩,
  f22:=⟨"slices.breakPatternsCmpFunc[loop.example/g01082/impl.Wire]",by decide,Tryz.func203.trans (congrArg some (by kernel_rfl))⟩,
  f23:=⟨"slices.choosePivotCmpFunc[loop.example/g01082/impl.Wire]",by decide,Tryz.func204.trans (congrArg some (by kernel_rfl))⟩,
  f24:=⟨"slices.reverseRangeCmpFunc[loop.example/g01082/impl.Wire]",by decide,Tryz.func205.trans (congrArg some (by kernel_rfl))⟩,
  f25:=⟨"slices.partialInsertionSortCmpFunc[loop.example/g01082/impl.Wire]",by decide,Tryz.func206.trans (congrArg some (by kernel_rfl))⟩,
  f26:=⟨"slices.partitionEqualCmpFunc[loop.example/g01082/impl.Wire]",by decide,Tryz.func207.trans (congrArg some (by kernel_rfl))⟩,
  f27:=⟨"slices.partitionCmpFunc[loop.example/g01082/impl.Wire]",by decide,Tryz.func208.trans (congrArg some (by kernel_rfl))⟩,
  f28:=Tryz.func129.trans (congrArg some (by kernel_rfl)),
  f29:=Tryz.func130.trans (congrArg some (by kernel_rfl)),
  f46:=⟨"slices.siftDownCmpFunc[loop.example/g01082/impl.Wire]",by decide,Tryz.func211.trans (congrArg some (by kernel_rfl))⟩,
  f47:=Tryz.func176.trans (congrArg some (by kernel_rfl)),
  f48:=Tryz.func177.trans (congrArg some (by kernel_rfl)),
  f49:=⟨"slices.medianAdjacentCmpFunc[loop.example/g01082/impl.Wire]",by decide,Tryz.func212.trans (congrArg some (by kernel_rfl))⟩,
  f50:=⟨"slices.medianCmpFunc[loop.example/g01082/impl.Wire]",by decide,Tryz.func213.trans (congrArg some (by kernel_rfl))⟩,
  f57:=⟨"slices.order2CmpFunc[loop.example/g01082/impl.Wire]",by decide,Tryz.func224.trans (congrArg some (by kernel_rfl))⟩,
  t0:=Tryz.underlying0,
  a0:=Tryz.isAgg0,
  z0:=Tryz.sizeOf0,
  v0:=Tryz.zeroValue0,
  t3:=Tryz.underlying3,
  a3:=Tryz.isAgg3,
  z3:=Tryz.sizeOf3,
  v3:=Tryz.zeroValue3,
  t4:=Tryz.underlying4,
  a4:=Tryz.isAgg4,
  z4:=Tryz.sizeOf4,
  v4:=Tryz.zeroValue4,
  t5:=Tryz.underlying5,
  a5:=Tryz.isAgg5,
  z5:=Tryz.sizeOf5,
  v5:=Tryz.zeroValue5,
  t9:=Tryz.underlying9,
  a9:=Tryz.isAgg9,
  z9:=Tryz.sizeOf9,
  v9:=Tryz.zeroValue9,
  t22:=Tryz.underlying46,
  a22:=Tryz.isAgg46,
  z22:=Tryz.sizeOf46,
  v22:=Tryz.zeroValue46,
  t25:=Tryz.underlying187,
  a25:=Tryz.isAgg187,
  z25:=Tryz.sizeOf187,
  v25:=Tryz.zeroValue187,
  t39:=Tryz.underlying127,
  a39:=Tryz.isAgg127,
  z39:=Tryz.sizeOf127,
  v39:=Tryz.zeroValue127,
  t45:=Tryz.underlying147,
  a45:=Tryz.isAgg147,
  z45:=Tryz.sizeOf147,
  v45:=Tryz.zeroValue147,
  t46:=Tryz.underlying148,
  a46:=Tryz.isAgg148,
  z46:=Tryz.sizeOf148,
  v46:=Tryz.zeroValue148,
  t50:=Tryz.underlying87,
  a50:=Tryz.isAgg87,
  z50:=Tryz.sizeOf87,
  v50:=Tryz.zeroValue87,
  t53:=Tryz.underlying155,
  a53:=Tryz.isAgg155,
  z53:=Tryz.sizeOf155,
  v53:=Tryz.zeroValue155,
  t55:=Tryz.underlying157,
  a55:=Tryz.isAgg157,
  z55:=Tryz.sizeOf157,
  v55:=Tryz.zeroValue157,
  t66:=Tryz.underlying189,
  a66:=Tryz.isAgg189,
  z66:=Tryz.sizeOf189,
  v66:=Tryz.zeroValue189,
  t70:=Tryz.underlying193,
  a70:=Tryz.isAgg193,
  z70:=Tryz.sizeOf193,
  v70:=Tryz.zeroValue193,
  t76:=Tryz.underlying204,
  a76:=Tryz.isAgg204,
  z76:=Tryz.sizeOf204,
  v76:=Tryz.zeroValue204,
  t77:=Tryz.underlying205,
  a77:=Tryz.isAgg205,
  z77:=Tryz.sizeOf205,
  v77:=Tryz.zeroValue205 }
end Go.Proofs
namespace Go.Fd
def DA:List (Nat×IV)->List (Nat×IV)->List (Nat×IV)
 | [],env=>env
 | (t,x)::r,env=>DA r (pt t x env)
def DB:List (Nat×Ob)->List (Nat×Ob)->List (Nat×Ob)
 | [],loc=>loc
 | (t,x)::r,loc=>DB r (ptO t x loc)
def chg(ce:List (Nat×IV))(co:List (Nat×Ob))(s:St):St:=⟨s.lvl,DA ce s.env,DB co s.loc,s.out⟩
section
variable {C:ZJ} {lvl:Nat} {env:List (Nat×IV)} {loc:List (Nat×Ob)} {out:Zb} {st:St} {Q:Ex->St->Prop}
theorem Zz3{ce:List (Nat×IV)}{co:List (Nat×Ob)}:chg ce co ⟨lvl,env,loc,out⟩=⟨lvl,DA ce env,DB co loc,out⟩:=(rfl)
theorem Zz4:DA [] env=env:=(rfl)
theorem Zz5{t:Nat}{x:IV}{r:List (Nat×IV)}:DA ((t,x)::r) env=DA r (pt t x env):=(rfl)
theorem Zz6:DB [] loc=loc:=(rfl)
theorem Zz7{t:Nat}{x:Ob}{r:List (Nat×Ob)}:DB ((t,x)::r) loc=DB r (ptO t x loc):=(rfl)
theorem ZP{α:Type}{ks js:List Nat}{c:C2}(N:Nat)(ce:Nat->α->List (Nat×IV))(co:Nat->α->List (Nat×Ob))(A:Nat->α->Prop)(x0:α)
  (h1:clean ks js st) (h0:fgt ks js st=chg (ce 0 x0) (co 0 x0) (fgt ks js st)) (hA:A 0 x0)
  (hs:∀ k x,k<=N->A k x->wp C c (chg (ce k x) (co k x) (fgt ks js st)) (UJ ks js (Zfv N (fun k x=>chg (ce k x) (co k x) (fgt ks js st)) A (N-k)) Q)):wp C (.lp ks js c) st Q :=
 J9 N (fun k x=>chg (ce k x) (co k x) (fgt ks js st)) A x0 ⟨h1,h0⟩ hA hs
end
section
variable {L:Zb} {F:List IV->Prop} {r:List IV}
def ZkM(L:Zb)(r:List IV)(F:List IV->Prop)(y:IV):Prop:=Z5 L r (V1 y F)
theorem Zz8{y:IV}:ZkM L r F y=Z5 L r (V1 y F):=(rfl)
theorem Zz9{id:Zd}{off:Nat}:Z5 L (.ab id off::r) F=Xc (L id) L off (ZkM L r F):=by simp only[Z5,Jc];rfl
def kta(F:IV->Prop)(ts:List Tr):Prop:=F (.ta ts)
theorem ZAa{F:IV->Prop}{ts:List Tr}:kta F ts=F (.ta ts):=(rfl)
theorem ZAb{cells:List IV}{off:Nat}{F:IV->Prop}:Xc (some (.bx cells)) L off F=YM L (cells.drop off) (kta F):=(rfl)
def kct(t:Tr)(F:List Tr->Prop)(ts:List Tr):Prop:=F (t::ts)
theorem ZAc{t:Tr}{F:List Tr->Prop}{ts:List Tr}:kct t F ts=F (t::ts):=(rfl)
def ZkN(L:Zb)(r:List IV)(F:List Tr->Prop)(t:Tr):Prop:=YM L r (kct t F)
theorem ZAd{F:List Tr->Prop}{t:Tr}:ZkN L r F t=YM L r (kct t F):=(rfl)
theorem ZAe{F:List Tr->Prop}:YM L [] F=F []:=(rfl)
theorem ZAf{x:IV}{F:List Tr->Prop}:YM L (x::r) F=VT L x (ZkN L r F):=(rfl)
theorem ZAg{t:Tr}{F:Tr->Prop}:VT L (.tr t) F=F t:=(rfl)
theorem ZAh{es:Row}{F:Tr->Prop}:VT L (.cs es) F=F (.sl es):=(rfl)
def ZkO(off len:Nat)(F:Tr->Prop)(es:Row)(_u:Bool)(_v:Nat):Prop:=off+len<=es.length/\F (.sl (cut es off len))
theorem ZAi{off len:Nat}{F:Tr->Prop}{es:Row}{u:Bool}{v:Nat}:ZkO off len F es u v=(off+len<=es.length/\F (.sl (cut es off len))):=(rfl)
theorem ZAj{id:Zd}{p:Zn}{off len s:Nat}{cap:Option Nat}{F:Tr->Prop}:VT L (.hd id p off len cap s) F=V0 (L id) p s (ZkO off len F):=by rw[<-W3];rfl
end
theorem ZAk{α:Type}{x:α}:List.replicate 1 x=[x]:=(rfl)
theorem ZAl{e:List Tr}:cut [e] 0 1=[e]:=(rfl)
theorem ZAm{l:List Tr}:ScR [l]=(l.all isSc=true):=by
 apply propext;constructor
 ·intro h;exact Ube.2 fun t ht=>h l (by simp) t ht
 ·intro h e he t ht;simp only[UaI] at he;subst he;exact Ube.1 h t ht
theorem ZAn{k:Nat}{l:List Tr}:ZC k [l]=(l.length=k):=by
 apply propext;constructor
 ·intro h;exact h l (by simp)
 ·intro h e he;simp only[UaI] at he;rw[he,h]
theorem ZAo{j:Nat}:max j (j+1)=j+1:=by omega
theorem ZAp{j:Nat}:(j<j+1)=True:=by simp
end Go.Fd
namespace Go.Fd
open Go.RowKit Go.ChangeShapes Go.ChangeMaps Go.WideMaps
section
variable {H:Type} {enc:TypeId×Value->H} {P:Program} {w:World} {t:TypeId} {v:Value} {d:DataW H} {p:List MemPlace} {sp:Nat->Bool} {hd:Bool} {base:Nat}
theorem ZkP(ht:P.underlying t=some (.int .i64))(hok:Value.okWide P w .any base t v)(h:DataW.Trod enc P w 0 sp hd t v d p):∃ n:Int,ZZ .i64 n/\VR G0 S0 w (iI n) v:=by obtain⟨n,rfl,_,_,hw⟩:=open_int ht hok h;refine⟨n,?_,.v _ rfl⟩;simp only[Lit.wf,decide_eq_true_eq,Uae] at hw;exact hw
end
end Go.Fd
namespace Go.Fd
set_option linter.defProp false in
def EV0:=(Uab (Uab (Uab (Uab (Uab @ZsL @ZsM) (Uab @ZsN (Uab @ZsO @ZsP))) (Uab (Uab @ZsQ @ZsR) (Uab @ZsS (Uab @ZsT @ZsU)))) (Uab (Uab (Uab @ZsV @ZsW) (Uab @ZsX (Uab @ZsY @ZsZ))) (Uab (Uab @Zs0 @Zs1) (Uab @Zs2 (Uab @Zs3 @Zs4))))) (Uab (Uab (Uab (Uab @Zs5 @Zs6) (Uab @Zs7 (Uab @Zs8 @Zs9))) (Uab (Uab @Zta @Ztb) (Uab @Ztc (Uab @Ztd @Zte)))) (Uab (Uab (Uab @Ztf @Ztg) (Uab @Zth (Uab @Zti @Ztj))) (Uab (Uab @Ztk @Ztl) (Uab @Ztm (Uab @Ztn @Zto))))))
set_option linter.defProp false in
def EV1:=(Uab (Uab (Uab (Uab (Uab @Ztp @Ztq) (Uab @Ztr (Uab @Zts @Ztt))) (Uab (Uab @Ztu @Ztv) (Uab @Ztw (Uab @Ztx @Zty)))) (Uab (Uab (Uab @Ztz @ZtA) (Uab @ZtB (Uab @ZtC @ZtD))) (Uab (Uab @ZtE @ZtF) (Uab @ZtG (Uab @ZtH @ZtI))))) (Uab (Uab (Uab (Uab @ZtJ @ZtK) (Uab @ZtL (Uab @ZtM @ZtN))) (Uab (Uab @ZtO @ZtP) (Uab @ZtQ (Uab @ZtR @Zj2)))) (Uab (Uab (Uab @Zj3 @ZtS) (Uab @ZtT (Uab @ZtU @ZtV))) (Uab (Uab @ZtW @ZtX) (Uab @ZtY (Uab @ZtZ @Zt0))))))
set_option linter.defProp false in
def EV2:=(Uab (Uab (Uab (Uab (Uab @Zt1 @Zt2) (Uab @Zt3 (Uab @Zt4 @Zt5))) (Uab (Uab @Zt6 @Zt7) (Uab @Zt8 (Uab @Zt9 @Zua)))) (Uab (Uab (Uab @Zub @Zuc) (Uab @Zud (Uab @Zue @Zuf))) (Uab (Uab @Zug @Zuh) (Uab @Zui (Uab @Zuj @Zuk))))) (Uab (Uab (Uab (Uab @Zul @Zum) (Uab @Zun (Uab @Zuo @Zup))) (Uab (Uab @Zuq @Zur) (Uab @Zus (Uab @Zut @Zuu)))) (Uab (Uab (Uab @Zuv @Zuw) (Uab @Zux (Uab @Zuy @Zuz))) (Uab (Uab @ZuA @ZuB) (Uab @ZuC (Uab @ZuD @ZuE))))))
set_option linter.defProp false in
def EV3:=(Uab (Uab (Uab (Uab (Uab @ZuF @ZuG) (Uab @ZuH (Uab @ZuI @ZuJ))) (Uab (Uab @ZuK @ZuL) (Uab @ZuM (Uab @ZuN @ZuO)))) (Uab (Uab (Uab @ZuP @ZuQ) (Uab @ZuR (Uab @ZuS @ZuT))) (Uab (Uab @ZuU @ZuV) (Uab @J3 (Uab @UE @ZuW))))) (Uab (Uab (Uab (Uab @ZuX @YU) (Uab @ZuY (Uab @ZuZ @Zu0))) (Uab (Uab @Zu1 @Zu2) (Uab @Zu3 (Uab @Zu4 @Zu5)))) (Uab (Uab (Uab @Zu6 @Zu7) (Uab @Zu8 (Uab @Zu9 @Zva))) (Uab (Uab @Zvb @Zvc) (Uab @Zvd (Uab @Zve @Zvf))))))
set_option linter.defProp false in
def EV4:=(Uab (Uab (Uab (Uab (Uab @Zvg @Zvh) (Uab @Zvi (Uab @Zvj @Zvk))) (Uab (Uab @Zvl @Zvm) (Uab @Zvn (Uab @Zvo @Zvp)))) (Uab (Uab (Uab @Zvq @Zvr) (Uab @Zvs (Uab @Zvt @Zvu))) (Uab (Uab @Zvv @Zvw) (Uab @Zvx (Uab @Zvy @Zvz))))) (Uab (Uab (Uab (Uab @ZvA @Zkg) (Uab @ZvB (Uab @ZvC @ZvD))) (Uab (Uab @Zfs @Zkk) (Uab @ZvE (Uab @ZvF @ZvG)))) (Uab (Uab (Uab @Zkl @ZvH) (Uab @ZvI (Uab @ZvJ @ZvK))) (Uab (Uab @ZvL @ZvM) (Uab @ZvN (Uab @ZvO @ZvP))))))
set_option linter.defProp false in
def EV5:=(Uab (Uab (Uab (Uab (Uab @ZvQ @ZvR) (Uab @ZvS (Uab @ZvT @ZvU))) (Uab (Uab @ZvV @ZvW) (Uab @ZvX (Uab @ZvY @ZvZ)))) (Uab (Uab (Uab @Zv0 @Zv1) (Uab @Zv2 (Uab @Zv3 @Zv4))) (Uab (Uab @Zv5 @Zv6) (Uab @Zv7 (Uab @Zv8 @Zv9))))) (Uab (Uab (Uab (Uab @Zwa @Zwb) (Uab @Zwc (Uab @Zwd @Zwe))) (Uab (Uab @Zwf @Zwg) (Uab @Zwh (Uab @Zwi @Zwj)))) (Uab (Uab (Uab @Zwk @Zwl) (Uab @Zwm (Uab @Zwn @Zwo))) (Uab (Uab @Zwp @Zwq) (Uab @Zwr (Uab @Zws @Zwt))))))
set_option linter.defProp false in
def EV6:=(Uab (Uab (Uab (Uab (Uab @Zwu @Zwv) (Uab @Zww (Uab @Zwx @Zwy))) (Uab (Uab @Zwz @ZwA) (Uab @ZwB (Uab @ZwC @ZwD)))) (Uab (Uab (Uab @ZwE @ZwF) (Uab @ZwG (Uab @ZwH @ZwI))) (Uab (Uab @ZwJ @ZwK) (Uab @ZwL (Uab @ZwM @ZwN))))) (Uab (Uab (Uab (Uab @ZwO @ZwP) (Uab @ZwQ (Uab @ZwR @ZwS))) (Uab (Uab @ZwT @ZwU) (Uab @ZwV (Uab @ZwW @ZwX)))) (Uab (Uab (Uab @ZwY @Zw0) (Uab @Zw1 (Uab @Zw2 @Zw3))) (Uab (Uab @Zcu @Zcv) (Uab @Zw4 (Uab @Zw5 @Zw6))))))
set_option linter.defProp false in
def EV7:=(Uab (Uab (Uab (Uab (Uab @Zw7 @Zw8) (Uab @Zw9 (Uab @Zxa @Zxb))) (Uab (Uab @Zxc @Zxd) (Uab @Zxe (Uab @Zxf @Zxg)))) (Uab (Uab (Uab @Zxh @Zxi) (Uab @Zxj (Uab @Zxk @Zxl))) (Uab (Uab @Zxm @Zxn) (Uab @Zxo (Uab @Zxp @Zxq))))) (Uab (Uab (Uab (Uab @Zxr @Zxs) (Uab @Zxt (Uab @Zxu @Zxv))) (Uab (Uab @Zxw @Zxx) (Uab @Zxy (Uab @Zxz @ZxA)))) (Uab (Uab (Uab @ZxB @ZxC) (Uab @ZxD (Uab @ZxE @ZxF))) (Uab (Uab @ZxG @ZxH) (Uab @ZxI (Uab @ZxJ @ZxK))))))
set_option linter.defProp false in
def EV8:=(Uab (Uab (Uab (Uab (Uab @ZxL @ZxM) (Uab @ZxN (Uab @ZxO @ZxP))) (Uab (Uab @ZxQ @ZxR) (Uab @ZxS (Uab @ZxT @ZxU)))) (Uab (Uab (Uab @ZxV @ZxW) (Uab @ZxX (Uab @ZxY @ZxZ))) (Uab (Uab @Zx0 @Zx1) (Uab @Zx2 (Uab @Zx3 @Zx4))))) (Uab (Uab (Uab (Uab @Zx5 @Zx6) (Uab @Zx7 (Uab @Zx8 @Zx9))) (Uab (Uab @Zya @Zyb) (Uab @Zyc (Uab @Zyd @Zye)))) (Uab (Uab (Uab @Zyf @Zyg) (Uab @Zyh (Uab @Zyi @Zyj))) (Uab (Uab @Zyk @Zyl) (Uab @Zym (Uab @Zyn @Zyo))))))
set_option linter.defProp false in
def EV9:=(Uab (Uab (Uab (Uab (Uab @Zyp @Zyq) (Uab @Zyr (Uab @Zys @Zyt))) (Uab (Uab @Zyu @Zyv) (Uab @Zfx (Uab @Zfy @Zyw)))) (Uab (Uab (Uab @Zyx @Zyy) (Uab @Zyz (Uab @ZyA @ZyB))) (Uab (Uab @ZyC @ZyD) (Uab @ZyE (Uab @ZyF @ZyG))))) (Uab (Uab (Uab (Uab @ZyH @ZyI) (Uab @ZyJ (Uab @ZyK @ZyL))) (Uab (Uab @ZyM @ZyN) (Uab @ZyO (Uab @ZyP @ZyQ)))) (Uab (Uab (Uab @ZyR @ZyS) (Uab @ZyT (Uab @ZyU @ZyV))) (Uab (Uab @ZyW @ZyX) (Uab @ZyY (Uab @ZyZ @Zy0))))))
set_option linter.defProp false in
def ZAq:=(Uab (Uab (Uab (Uab (Uab @Zy1 @Zy2) (Uab @Zy3 (Uab @Zy4 @Zy5))) (Uab (Uab @Zy6 @Zy7) (Uab @Zy8 (Uab @Zy9 @Zza)))) (Uab (Uab (Uab @Zzb @Zzc) (Uab @Zzd (Uab @Zze @Zzf))) (Uab (Uab @Zzg @Zzh) (Uab @Zzi (Uab @Zzj @Zzk))))) (Uab (Uab (Uab (Uab @Zzl @Zzm) (Uab @Zzn (Uab @Zzo @Zzp))) (Uab (Uab @Zzq @Zzr) (Uab @Zzs (Uab @Zzt @Zzu)))) (Uab (Uab (Uab @Zzv @Zzw) (Uab @Zzx (Uab @Zzy @Zzz))) (Uab (Uab @ZzA @ZzB) (Uab @ZzC (Uab @ZzD @ZzE))))))
set_option linter.defProp false in
def ZAr:=(Uab (Uab (Uab (Uab (Uab @ZzF @Zz3) (Uab @Zz4 (Uab @Zz5 @Zz6))) (Uab (Uab @Zz7 @Zz8) (Uab @Zz9 (Uab @ZAa @ZAb)))) (Uab (Uab (Uab @ZAc @ZAd) (Uab @ZAe (Uab @ZAf @ZAg))) (Uab (Uab @ZAh @ZAi) (Uab @ZAj (Uab @ZAk @ZAl))))) (Uab (Uab (Uab (Uab @ZAm @ZAn) (Uab @ZAo (Uab @ZAp @bigN.eq_1))) (Uab (Uab @fpart.eq_1 @fpart.eq_2) (Uab @okp.eq_1 (Uab @okp.eq_2 @zfill.eq_1)))) (Uab (Uab (Uab @zfill.eq_2 @zobs.eq_1) (Uab @ptd.eq_1 (Uab @ptd.eq_2 @keyOf.eq_1))) (Uab (Uab @keyOf.eq_2 @freshK.eq_1) (Uab @freshK.eq_2 (Uab @lk.eq_1 @lk.eq_2))))))
set_option linter.defProp false in
def ZAs:=(Uab (Uab (Uab (Uab (Uab @pt.eq_1 @pt.eq_2) (Uab @lkO.eq_1 (Uab @lkO.eq_2 @ptO.eq_1))) (Uab (Uab @ptO.eq_2 @addO.eq_1) (Uab @addO.eq_2 (Uab @xv.eq_1 @xv.eq_2)))) (Uab (Uab (Uab @xv.eq_3 @kv.eq_1) (Uab @kv.eq_2 (Uab @kc.eq_1 @kc.eq_2))) (Uab (Uab @params.eq_1 @params.eq_2) (Uab @trv.eq_1 (Uab @trv.eq_2 @List.length_cons.{0}))))) (Uab (Uab (Uab (Uab @List.length_nil.{0} @Option.getD_some.{0}) (Uab @Option.getD_none.{0} (Uab @true_and @and_true))) (Uab (Uab @decide_eq_true_eq @decide_true) (Uab @decide_false (Uab @Option.map_some.{0,0} @Option.map_none.{0,0})))) (Uab (Uab (Uab @Option.isSome_some.{0} @Option.isSome_none.{0}) (Uab @Option.isNone_some.{0} (Uab @Option.isNone_none.{0} @Uah.{0,0}))) (Uab (Uab @Uam.{0,0} @List.cons_append.{0}) (Uab @List.nil_append.{0} (Uab @List.getElem?_cons_zero.{0} @List.getElem?_cons_succ.{0}))))))
set_option linter.defProp false in
def ZAt:=(Uab (Uab (Uab (Uab (Uab @List.drop_succ_cons.{0} @Ubl.{0}) (Uab @List.take_succ_cons.{0} (Uab @List.take_zero.{0} @List.headD_cons.{0}))) (Uab (Uab @List.headD_nil.{0} @List.tail_cons.{0}) (Uab @List.tail_nil.{0} (Uab @noSh.eq_1 @noSh.eq_2)))) (Uab (Uab (Uab @noSh.eq_3 @noSh.eq_4) (Uab @noSh.eq_5 (Uab @noSh.eq_6 @noSh.eq_7))) (Uab (Uab @noSh.eq_8 @noShs.eq_1) (Uab @noShs.eq_2 (Uab @isSc.eq_1 @isSc.eq_2))))) (Uab (Uab (Uab (Uab @impv.eq_1 @impv.eq_2) (Uab @impv.eq_3 (Uab @impv.eq_4 @impvs.eq_1))) (Uab (Uab @impvs.eq_2 @impc.eq_1) (Uab @impc.eq_2 (Uab @memB.eq_1 @memB.eq_2)))) (Uab (Uab (Uab @keepB.eq_1 @keepB.eq_2) (Uab @keepOB.eq_1 (Uab @keepOB.eq_2 @or_true))) (Uab (Uab @true_or @or_false) (Uab @false_or (Uab @Ua0 @Bool.true_eq_false))))))
set_option linter.defProp false in
def ZAu:=(Uab (Uab (Uab (Uab (Uab @if_true.{1} @if_false.{1}) (Uab @Ub3 (Uab @Bool.not_false @scrE.eq_1))) (Uab (Uab @scrE.eq_2 @scrL.eq_1) (Uab @scrL.eq_2 (Uab @scr.eq_1 @scr.eq_2)))) (Uab (Uab (Uab @scr.eq_3 @scr.eq_4) (Uab @scr.eq_5 (Uab @scr.eq_6 @scr.eq_7))) (Uab (Uab @scr.eq_8 @scrs.eq_1) (Uab @scrs.eq_2 (Uab @scrOb.eq_1 @scrOb.eq_2))))) (Uab (Uab (Uab (Uab @rmO.eq_1 @rmO.eq_2) (Uab @Int.toNat_natCast (Uab @Int.toNat_zero @Int.toNat_one))) (Uab (Uab @List.all_cons.{0} @List.all_nil.{0}) (Uab @isCell.eq_1 (Uab @isCell.eq_2 @isCell.eq_3)))) (Uab (Uab (Uab @isCell.eq_4 @isCell.eq_5) (Uab @isCell.eq_6 (Uab @UbN @Bool.true_and))) (Uab (Uab @Bool.and_self @cellsOf.eq_1) (Uab @cellsOf.eq_2 (Uab @totr.eq_1 @totr.eq_2))))))
set_option linter.defProp false in
def ZAv:=(Uab (Uab (Uab (Uab @totr.eq_3 (Uab @totr.eq_4 @totr.eq_5)) (Uab (Uab @totrs.eq_1 @totrs.eq_2) (Uab @tocs.eq_1 @getp.eq_1))) (Uab (Uab (Uab @getp.eq_2 @cvt.eq_1) (Uab @cvt.eq_2 @cvts.eq_1)) (Uab (Uab @cvts.eq_2 @Uax) (Uab @Nat.add_zero @List.set_cons_zero.{0})))) (Uab (Uab (Uab (Uab @List.set_cons_succ.{0} @UaN) (Uab @Bool.not_eq_false' @Int.natCast_nonneg)) (Uab (Uab @Ual @UbJ.{0,0}) (Uab @ne_eq.{1} @not_false_eq_true))) (Uab (Uab (Uab @not_true_eq_false @Uaa.{0,0}) (Uab @UbH.{0} @List.replicate_zero.{0})) (Uab (Uab @and_false @false_and) (Uab @and_self @Int.cast_ofNat_Int)))))
set_option linter.defProp false in
def Za:=(Uab (Uab (Uab (Uab EV0 EV1) (Uab EV2 EV3)) (Uab (Uab EV4 EV5) (Uab EV6 EV7))) (Uab (Uab (Uab EV8 EV9) (Uab ZAq ZAr)) (Uab (Uab ZAs ZAt) (Uab ZAu ZAv))))
abbrev oo(d:Nat)(x:O):OP:=⟨some d,none,x⟩
abbrev Zj(x:O):OP:=⟨none,none,x⟩
abbrev og(d j:Nat)(w:Bool)(x:O):OP:=⟨some d,some (j,w),x⟩
abbrev om(d:Nat)(x:X):OP:=⟨some d,none,.mv x none⟩
abbrev rg(l:List OP):C2:=.rg none l
abbrev i6(n:Int):X:=.k (.int .i64 n)
set_option maxRecDepth 10000
theorem Zv{c:Prop}[Decidable c]{p q:Prop}(h1:c->p)(h2:¬ c->q):if c then p else q:=by
 split
 ·exact h1 ‹_›
 ·exact h2 ‹_›
def YV{α:Type}(f:α->Int->Int):List α->Int->Int
 | [],l=>l
 | x::r,l=>if f x l<0 then -1 else YV f r (f x l)
def YE{α:Type}(f:α->Int->Int)(a:List α)(left:Int):Int:=if left-a.length<0 then -1 else YV f a (left-a.length)
def ZcA(k:Nat)(m:Option Nat)(fid:FuncId):F2 :=
 { nt:=27,res:=[.t 4 [0]],body:=(.sq (.rg none [⟨some 4,none,.mv (.k (.int .i64 0)) none⟩]) (.sq (.rg none [⟨some 6,none,.mv (.t 1) none⟩,
   ⟨some 7,none,.mv (.t 0) none⟩,
   ⟨some 8,none,.ln (.t 7)⟩,
   ⟨some 9,none,.bi .sub 0 (.t 6) (.t 8)⟩,
   ⟨some 1,none,.mv (.t 9) none⟩]) (.sq (.sq (.rg none [⟨some 10,none,.mv (.t 1) none⟩,
    ⟨some 11,none,.bi .lss 0 (.t 10) (.k (.int .i64 0))⟩]) (.cd (.t 11) (.sq (.rg none [⟨some 4,none,.mv (.k (.int .i64 (-1))) none⟩]) (.rt)) (.sk))) (.sq (.sq (.rg none [⟨some 5,none,.mv (.k (.int .i64 0)) none⟩]) (.bl 0 (.lp [0,1,5] [] (.sq (.sq (.rg none [⟨some 12,none,.mv (.t 5) none⟩,
     ⟨some 13,none,.mv (.t 0) none⟩,
     ⟨some 14,none,.ln (.t 13)⟩,
     ⟨some 15,none,.bi .lss 0 (.t 12) (.t 14)⟩]) (.cd (.t 15) (.sk) (.ex 0))) (.sq (.bl 1 (.sq (.rg none [⟨some 18,none,.mv (.t 0) none⟩,
      ⟨some 19,none,.mv (.t 5) none⟩,
      ⟨some 20,none,.ia k (.t 18) (.t 19)⟩,
      ⟨some 21,none,.ld m (.t 20)⟩,
      ⟨some 22,none,.mv (.t 1) none⟩,
      ⟨some 23,none,.ca .pure false (.f fid) [.t 21,.t 22]⟩,
      ⟨some 1,none,.mv (.t 23) none⟩]) (.sq (.rg none [⟨some 24,none,.mv (.t 1) none⟩,
      ⟨some 25,none,.bi .lss 0 (.t 24) (.k (.int .i64 0))⟩]) (.cd (.t 25) (.sq (.rg none [⟨some 4,none,.mv (.k (.int .i64 (-1))) none⟩]) (.rt)) (.sk))))) (.rg none [⟨some 16,none,.mv (.t 5) none⟩,
    ⟨some 17,none,.bi .add 0 (.t 16) (.k (.int .i64 1))⟩,
    ⟨some 5,none,.mv (.t 17) none⟩])))))) (.sq (.rg none [⟨some 26,none,.mv (.t 1) none⟩,
   ⟨some 4,none,.mv (.t 26) none⟩]) (.rt)))))) }
theorem ZkQ{P:Program}{fid fe:FuncId}{k:Nat}(hc:Zk P fid (ZcA k (some k) fe)=true){α:Type}(c:α->List Tr)(f:α->Int->Int)(hk:∀ x,(c x).length=k)(a:List α)(left:Int)(h:a.length<=9223372036854775807)(h0:0<=left)(h1:left<=1048576)
  (hf:∀ x∈a,∀ l:Int,0<=l->l<=1048576->f x l<=l/\∀ lvl S,Sem P fe lvl [.ag ((c x).map .tr),iI l] S (iI (f x l)) S) (lvl:Nat) (S:Zb) :
  Sem P fid lvl [.tr (.sl (a.map c)),iI left] S (iI (YE f a left)) S:=by
 refine Zl hc trivial ?_;simp only[ZcA,Uaa,Za,seval];refine⟨by rw[Ze];omega,?_⟩;unfold YE;split
 ·rfl
 ·rename_i hlt;generalize hr:YV f a (left-a.length)=total;refine J9 (α:=Int) a.length (fun j l=>⟨lvl,[(0,.tr (.sl (a.map c))),(1,iI l),(5,iI j)],[],S⟩) (fun j l=>0<=l/\l<=1048576/\YV f (a.drop j) l=total) (left-a.length) ⟨by simp only[Za,seval],by (simp only[Za,seval])<;>rfl⟩ ⟨by omega,by omega,hr⟩ ?_;intro j l hj ⟨hl0,hl1,hl⟩;simp only[Uaa,Za,seval];split
  ·rename_i hlt;have hja:j<a.length:=by omega
   have ga:(a.map c)[j]? = some (c a[j]):=(by simp [hja]);have hkk:=hk a[j];have htk:(c a[j]).take k=c a[j]:=UaQ (by omega);rw[UaA hja] at hl;obtain⟨hle,hsem⟩:=hf a[j] (Uaj hja) l hl0 hl1;simp only[ga,hkk,htk,Za,seval,Zc,men];refine Zf hsem ?_;simp only[Za,seval];split
   ·rename_i hneg;simp only[YV,if_pos hneg] at hl;rw[hl]
   ·rename_i hneg;simp only[YV,if_neg hneg] at hl;refine⟨by rw[Ze];omega,Zz (f a[j] l) hja rfl ⟨by omega,by omega,hl⟩⟩
  ·rename_i hge;have:j=a.length:=by omega
   subst this;simp only[Ubo,YV] at hl;rw[hl]
def ZfM:F2 :=
 { nt:=28,res:=[.t 4 [0]],body:=(.sq (.rg none [⟨some 4,none,.mv (.k (.int .i64 0)) none⟩]) (.sq (.rg none [⟨some 6,none,.mv (.t 1) none⟩,
   ⟨some 7,none,.mv (.t 0) none⟩,
   ⟨some 8,none,.ln (.t 7)⟩,
   ⟨some 9,none,.bi .sub 0 (.t 6) (.t 8)⟩,
   ⟨some 1,none,.mv (.t 9) none⟩]) (.sq (.sq (.rg none [⟨some 10,none,.mv (.t 1) none⟩,
    ⟨some 11,none,.bi .lss 0 (.t 10) (.k (.int .i64 0))⟩]) (.cd (.t 11) (.sq (.rg none [⟨some 4,none,.mv (.k (.int .i64 (-1))) none⟩]) (.rt)) (.sk))) (.sq (.sq (.rg none [⟨some 5,none,.mv (.k (.int .i64 0)) none⟩]) (.bl 0 (.lp [0,1,5] [] (.sq (.sq (.rg none [⟨some 12,none,.mv (.t 5) none⟩,
     ⟨some 13,none,.mv (.t 0) none⟩,
     ⟨some 14,none,.ln (.t 13)⟩,
     ⟨some 15,none,.bi .lss 0 (.t 12) (.t 14)⟩]) (.cd (.t 15) (.sk) (.ex 0))) (.sq (.bl 1 (.sq (.rg none [⟨some 18,none,.mv (.t 1) none⟩,
      ⟨some 19,none,.mv (.t 0) none⟩,
      ⟨some 20,none,.mv (.t 5) none⟩,
      ⟨some 21,none,.ia 1 (.t 19) (.t 20)⟩,
      ⟨some 22,none,.ld none (.t 21)⟩,
      ⟨some 23,none,.lg (.t 22)⟩,
      ⟨some 24,none,.bi .sub 0 (.t 18) (.t 23)⟩,
      ⟨some 1,none,.mv (.t 24) none⟩]) (.sq (.rg none [⟨some 25,none,.mv (.t 1) none⟩,
      ⟨some 26,none,.bi .lss 0 (.t 25) (.k (.int .i64 0))⟩]) (.cd (.t 26) (.sq (.rg none [⟨some 4,none,.mv (.k (.int .i64 (-1))) none⟩]) (.rt)) (.sk))))) (.rg none [⟨some 16,none,.mv (.t 5) none⟩,
    ⟨some 17,none,.bi .add 0 (.t 16) (.k (.int .i64 1))⟩,
    ⟨some 5,none,.mv (.t 17) none⟩])))))) (.sq (.rg none [⟨some 27,none,.mv (.t 1) none⟩,
   ⟨some 4,none,.mv (.t 27) none⟩]) (.rt)))))) }
theorem ZAw{P:Program}{fid:FuncId}(hc:Zk P fid ZfM=true)(a:List ByteArray)(left:Int)(h:a.length<=9223372036854775807)(h0:0<=left)(h1:left<=1048576)
  (hf:∀ x∈a,x.size<=9223372036854775807) (lvl:Nat) (S:Zb) :
  Sem P fid lvl [tS a,iI left] S (iI (YE (fun x l=>l-x.size) a left)) S:=by
 refine Zl hc trivial ?_;simp only[ZfM,Uaa,Za,seval];refine⟨by rw[Ze];omega,?_⟩;unfold YE;split
 ·rfl
 ·rename_i hlt;generalize hr:YV (fun(x:ByteArray) l=>l-x.size) a (left-a.length)=total;refine J9 (α:=Int) a.length (fun j l=>⟨lvl,[(0,tS a),(1,iI l),(5,iI j)],[],S⟩) (fun j l=>0<=l/\l<=1048576/\YV (fun(x:ByteArray) l=>l-x.size) (a.drop j) l=total) (left-a.length) ⟨by simp only[Za,seval],by (simp only[Za,seval])<;>rfl⟩ ⟨by omega,by omega,hr⟩ ?_;intro j l hj ⟨hl0,hl1,hl⟩;simp only[Uaa,Za,seval];split
  ·rename_i hlt;have hja:j<a.length:=by omega
   have ga:(rS a)[j]? = some [ts a[j]]:=(by simp [hja]);rw[UaA hja] at hl;have hs:=hf a[j] (Uaj hja);simp only[ga,Za,seval];refine⟨by rw[Ze];omega,?_⟩;split
   ·rename_i hneg;simp only[YV,if_pos hneg] at hl;rw[hl]
   ·rename_i hneg;simp only[YV,if_neg hneg] at hl;refine⟨by rw[Ze];omega,Zz (l-a[j].size) hja rfl ⟨by omega,by omega,hl⟩⟩
  ·rename_i hge;have:j=a.length:=by omega
   subst this;simp only[Ubo,YV] at hl;rw[hl]
def ZcB(k:Nat)(m:Option Nat)(fid:FuncId):F2 :=
 { nt:=27,res:=[.t 4 [0]],body:=(.sq (.rg none [⟨some 4,none,.mv (.k (.bool false)) none⟩]) (.sq (.sq (.rg none [⟨some 6,none,.mv (.t 0) none⟩,
    ⟨some 7,none,.ln (.t 6)⟩,
    ⟨some 8,none,.mv (.t 1) none⟩,
    ⟨some 9,none,.ln (.t 8)⟩,
    ⟨some 10,none,.bi .neq 0 (.t 7) (.t 9)⟩]) (.cd (.t 10) (.sq (.rg none [⟨some 4,none,.mv (.k (.bool false)) none⟩]) (.rt)) (.sk))) (.sq (.sq (.rg none [⟨some 5,none,.mv (.k (.int .i64 0)) none⟩]) (.bl 0 (.lp [0,1,5] [] (.sq (.sq (.rg none [⟨some 11,none,.mv (.t 5) none⟩,
     ⟨some 12,none,.mv (.t 0) none⟩,
     ⟨some 13,none,.ln (.t 12)⟩,
     ⟨some 14,none,.bi .lss 0 (.t 11) (.t 13)⟩]) (.cd (.t 14) (.sk) (.ex 0))) (.sq (.bl 1 (.sq (.rg (some 0) [⟨some 17,none,.mv (.t 0) none⟩,
      ⟨some 18,none,.mv (.t 5) none⟩,
      ⟨some 19,none,.ia k (.t 17) (.t 18)⟩,
      ⟨some 20,none,.ld m (.t 19)⟩,
      ⟨some 21,none,.mv (.t 1) none⟩,
      ⟨some 22,none,.mv (.t 5) none⟩,
      ⟨some 23,none,.ia k (.t 21) (.t 22)⟩,
      ⟨some 24,none,.ld m (.t 23)⟩,
      ⟨some 25,none,.ca .pure false (.f fid) [.t 20,.t 24]⟩,
      ⟨some 26,none,.nt (.t 25)⟩]) (.cd (.t 26) (.sq (.rg none [⟨some 4,none,.mv (.k (.bool false)) none⟩]) (.rt)) (.sk)))) (.rg none [⟨some 15,none,.mv (.t 5) none⟩,
    ⟨some 16,none,.bi .add 0 (.t 15) (.k (.int .i64 1))⟩,
    ⟨some 5,none,.mv (.t 16) none⟩])))))) (.sq (.rg none [⟨some 4,none,.mv (.k (.bool true)) none⟩]) (.rt))))) }
theorem ZkR{α:Type}{a b:List α}{j:Nat}(ha:j<a.length)(hb:j<b.length)(h:a[j]≠b[j]):a≠b:=by intro e;subst e;exact h rfl
theorem ZkS{α:Type}{a b:List α}(hl:a.length=b.length)(h:a.take a.length=b.take a.length):a=b:=by rw[Uap,hl,Uap] at h;exact h
theorem ZkT{α:Type}{a b:List α}{j:Nat}(ha:j<a.length)(hb:j<b.length)(h:a.take j=b.take j)(e:a[j]=b[j]):a.take (j+1)=b.take (j+1):=by rw[Uag ha,Uag hb,h,e]
theorem ZkU{P:Program}{fid fe:FuncId}{k:Nat}(hc:Zk P fid (ZcB k (some k) fe)=true){α:Type}[DecidableEq α](c:α->List Tr)(hk:∀ x,(c x).length=k)(a b:List α)(ha:a.length<=9223372036854775807)
  (hf:∀ x∈a,∀ y∈b,∀ lvl S,Sem P fe lvl [.ag ((c x).map .tr),.ag ((c y).map .tr)] S (iB (decide (x=y))) S) (lvl:Nat) (S:Zb) :
  Sem P fid lvl [.tr (.sl (a.map c)),.tr (.sl (b.map c))] S (iB (decide (a=b))) S:=by
 refine Zl hc trivial ?_;simp only[ZcB,Uaa,Za,seval];split
 ·rename_i h;have:¬ a=b:=fun e=>h (by rw[e]);simp [this]
 ·rename_i h;have hlen:a.length=b.length:=by omega
  refine J9 (α:=Unit) a.length (fun j _=>⟨lvl,[(0,.tr (.sl (a.map c))),(1,.tr (.sl (b.map c))),(5,iI j)],[],S⟩) (fun j _=>a.take j=b.take j) () ⟨by simp only[Za,seval],by (simp only[Za,seval])<;>rfl⟩ rfl ?_;intro j _ hj hA;simp only[Uaa,Za,seval];split
  ·rename_i hlt;have hja:j<a.length:=by omega
   have hjb:j<b.length:=(by omega);have ga:(a.map c)[j]? = some (c a[j]):=(by simp [hja]);have gb:(b.map c)[j]? = some (c b[j]):=(by simp [hjb]);have hka:=hk a[j];have hkb:=hk b[j];have hta:(c a[j]).take k=c a[j]:=UaQ (by omega);have htb:(c b[j]).take k=c b[j]:=UaQ (by omega);have hsem:=hf a[j] (Uaj hja) b[j] (Uaj hjb);simp only[ga,gb,hka,hkb,hta,htb,Za,seval,Zc,men];refine Zf hsem ?_;simp only[UaN,Za,seval];split
   ·rename_i hne;have:¬ a=b:=ZkR hja hjb (by simpa using hne);simp [this]
   ·rename_i he;refine⟨by rw[Ze];omega,Zz () hja rfl (ZkT hja hjb hA (by simpa using he))⟩
  ·rename_i hge;have:j=a.length:=by omega
   subst this;have:a=b:=ZkS hlen hA;simp [this]
def ZfN:F2 :=
 { nt:=26,res:=[.t 4 [0]],body:=(.sq (.rg none [⟨some 4,none,.mv (.k (.bool false)) none⟩]) (.sq (.sq (.rg none [⟨some 6,none,.mv (.t 0) none⟩,
    ⟨some 7,none,.ln (.t 6)⟩,
    ⟨some 8,none,.mv (.t 1) none⟩,
    ⟨some 9,none,.ln (.t 8)⟩,
    ⟨some 10,none,.bi .neq 0 (.t 7) (.t 9)⟩]) (.cd (.t 10) (.sq (.rg none [⟨some 4,none,.mv (.k (.bool false)) none⟩]) (.rt)) (.sk))) (.sq (.sq (.rg none [⟨some 5,none,.mv (.k (.int .i64 0)) none⟩]) (.bl 0 (.lp [0,1,5] [] (.sq (.sq (.rg none [⟨some 11,none,.mv (.t 5) none⟩,
     ⟨some 12,none,.mv (.t 0) none⟩,
     ⟨some 13,none,.ln (.t 12)⟩,
     ⟨some 14,none,.bi .lss 0 (.t 11) (.t 13)⟩]) (.cd (.t 14) (.sk) (.ex 0))) (.sq (.bl 1 (.sq (.rg (some 0) [⟨some 17,none,.mv (.t 0) none⟩,
      ⟨some 18,none,.mv (.t 5) none⟩,
      ⟨some 19,none,.ia 1 (.t 17) (.t 18)⟩,
      ⟨some 20,none,.ld none (.t 19)⟩,
      ⟨some 21,none,.mv (.t 1) none⟩,
      ⟨some 22,none,.mv (.t 5) none⟩,
      ⟨some 23,none,.ia 1 (.t 21) (.t 22)⟩,
      ⟨some 24,none,.ld none (.t 23)⟩,
      ⟨some 25,none,.bi .neq 0 (.t 20) (.t 24)⟩]) (.cd (.t 25) (.sq (.rg none [⟨some 4,none,.mv (.k (.bool false)) none⟩]) (.rt)) (.sk)))) (.rg none [⟨some 15,none,.mv (.t 5) none⟩,
    ⟨some 16,none,.bi .add 0 (.t 15) (.k (.int .i64 1))⟩,
    ⟨some 5,none,.mv (.t 16) none⟩])))))) (.sq (.rg none [⟨some 4,none,.mv (.k (.bool true)) none⟩]) (.rt))))) }
theorem ZAx{P:Program}{fid:FuncId}(hc:Zk P fid ZfN=true)(a b:List ByteArray)(ha:a.length<=9223372036854775807)(lvl:Nat)(S:Zb):Sem P fid lvl [tS a,tS b] S (iB (decide (a=b))) S:=by
 refine Zl hc trivial ?_;simp only[ZfN,Uaa,Za,seval];split
 ·rename_i h;have:¬ a=b:=fun e=>h (by rw[e]);simp [this]
 ·rename_i h;have hlen:a.length=b.length:=by omega
  refine J9 (α:=Unit) a.length (fun j _=>⟨lvl,[(0,tS a),(1,tS b),(5,iI j)],[],S⟩) (fun j _=>a.take j=b.take j) () ⟨by simp only[Za,seval],by (simp only[Za,seval])<;>rfl⟩ rfl ?_;intro j _ hj hA;simp only[Uaa,Za,seval];split
  ·rename_i hlt;have hja:j<a.length:=by omega
   have hjb:j<b.length:=(by omega);have ga:(rS a)[j]? = some [ts a[j]]:=(by simp [hja]);have gb:(rS b)[j]? = some [ts b[j]]:=(by simp [hjb]);simp only[ga,gb,Za,seval];split
   ·rename_i hne;have:¬ a=b:=ZkR hja hjb (by simpa using hne);simp [this]
   ·rename_i he;refine⟨by rw[Ze];omega,Zz () hja rfl (ZkT hja hjb hA (by simpa using he))⟩
  ·rename_i hge;have:j=a.length:=by omega
   subst this;have:a=b:=ZkS hlen hA;simp [this]
def YW{α:Type}(c:α->List Tr)(z:List Tr)(a:List α)(j:Nat):Row:=(a.take j).map c++List.replicate (a.length-j) z
theorem ZfO{α:Type}(c:α->List Tr)(z:List Tr)(a:List α):YW c z a 0=List.replicate a.length z:=by simp [YW]
theorem ZfP{α:Type}(c:α->List Tr)(z:List Tr)(a:List α):YW c z a a.length=a.map c:=by simp [YW]
theorem ZkV{α:Type}{c:α->List Tr}{z:List Tr}{a:List α}{j:Nat}(h:j<=a.length):(YW c z a j).length=a.length:=by simp [YW];omega
theorem ZfQ{α:Type}{c:α->List Tr}{z:List Tr}{a:List α}{j:Nat}(h:j<a.length):(YW c z a j)[j]? = some z:=by
 unfold YW;have h1:((a.take j).map c).length=j:=by rw[Uaa,Uai];omega
 rw[Uas (by omega),h1,Ubi,Uba];rw[if_pos (by omega)]
theorem ZfR{α:Type}{c:α->List Tr}{z e:List Tr}{a:List α}{j:Nat}(h:j<a.length)(he:e=c a[j]):(YW c z a j).set j e=YW c z a (j+1):=by
 subst he;unfold YW;have h1:((a.take j).map c).length=j:=by simp;omega
 rw[Ubh _ _ (by omega),h1,Ubi,show a.length-j=(a.length-(j+1))+1 from by omega,List.replicate_succ,List.set_cons_zero,Uag h,Uaw];simp
def ZfS(z:Value):F2 :=
 { nt:=22,res:=[.t 2 [2]],body:=(.sq (.rg none [⟨some 2,none,.mv (.k (.slice none 0 0)) none⟩]) (.sq (.rg none [⟨some 5,none,.mv (.t 0) none⟩,
   ⟨some 6,none,.ln (.t 5)⟩,
   ⟨some 7,none,.ms 1 [z] (.t 6)⟩,
   ⟨some 3,none,.mv (.t 7) none⟩]) (.sq (.sq (.rg none [⟨some 4,none,.mv (.k (.int .i64 0)) none⟩]) (.bl 0 (.lp [0,3,4] [224] (.sq (.sq (.rg none [⟨some 8,none,.mv (.t 4) none⟩,
     ⟨some 9,none,.mv (.t 0) none⟩,
     ⟨some 10,none,.ln (.t 9)⟩,
     ⟨some 11,none,.bi .lss 0 (.t 8) (.t 10)⟩]) (.cd (.t 11) (.sk) (.ex 0))) (.sq (.bl 1 (.rg none [⟨some 14,none,.mv (.t 3) none⟩,
     ⟨some 15,none,.mv (.t 4) none⟩,
     ⟨some 16,none,.mv (.t 0) none⟩,
     ⟨some 17,none,.mv (.t 4) none⟩,
     ⟨some 18,none,.ia 1 (.t 16) (.t 17)⟩,
     ⟨some 19,none,.ld none (.t 18)⟩,
     ⟨some 20,none,.ia 1 (.t 14) (.t 15)⟩,
     ⟨none,none,.st 1 (.t 20) (.t 19)⟩])) (.rg none [⟨some 12,none,.mv (.t 4) none⟩,
    ⟨some 13,none,.bi .add 0 (.t 12) (.k (.int .i64 1))⟩,
    ⟨some 4,none,.mv (.t 13) none⟩])))))) (.sq (.rg none [⟨some 21,none,.mv (.t 3) none⟩,
   ⟨some 2,none,.mv (.t 21) none⟩]) (.rt))))) }
theorem ZAy{P:Program}{fid:FuncId}(hc:Zk P fid (ZfS (.string ⟨#[]⟩))=true)(a:List ByteArray)(ha:a.length<=4294967296)(lvl:Nat)(S:Zb):Sem P fid lvl [tS a] S (.ow 1 (rS a) true) S:=by
 refine Zl hc trivial ?_;simp only[ZfS,Uaa,bigN,Za,seval];refine⟨by omega,?_⟩;refine J9 (α:=Unit) a.length (fun j _=>⟨lvl,[(0,tS a),(3,.hd (lvl,224) [] 0 a.length none a.length),(4,iI j)],[(224,.ar 1 (YW (fun n=>[ts n]) [ts ⟨#[]⟩] a j) true a.length 0)],S⟩) (fun _ _=>True) () ⟨by simp only[Za,seval],by (simp only[ZfO,Za,seval])<;>rfl⟩ trivial ?_;intro j _ hj _;simp only[Uaa,Za,seval];split
 ·rename_i hlt;have hja:j<a.length:=by omega
  have ga:(rS a)[j]? = some [ts a[j]]:=by simp [hja]
  have gz:(YW (fun n=>[ts n]) [ts ⟨#[]⟩] a j)[j]? = some [ts ⟨#[]⟩]:=ZfQ hja;simp only[ga,gz,hja,ZK,List.set_cons_zero,UE,Za,seval];refine⟨by rw[Ze];omega,Zz () hja ?_ trivial⟩;rw[ZfR hja rfl];rfl
 ·rename_i hge;have:j=a.length:=by omega
  subst this;rw[ZfP];simp
def V3(l:Int)(g:Int->Int):Int:=if l<0 then -1 else g l
def Zq(c:Int)(s:Int->Int)(q:Nat):Prop:=∀ l:Int,0<=l->l<=1048576->s l<=l/\(0<=s l->(q:Int)<=c+256*(l-s l))
theorem ZkW:Zq 0 (fun l=>l) 0:=fun l _ _=>⟨Ubt _,fun _=>by simp only;omega⟩
theorem ZkX{c e:Int}{s g:Int->Int}{q r:Nat}(hc:0<=c)(he:0<=e)(hs:Zq c s q)(hg:Zq e g r):Zq (c+e) (fun l=>V3 (s l) g) (q+r):=fun l h0 h1=>by
 have a:=hs l h0 h1;by_cases h:s l<0
 ·simp only[V3,if_pos h];exact⟨by omega,fun h=>by omega⟩
 ·simp only[V3,if_neg h];have b:=hg (s l) (by omega) (by omega);refine⟨by omega,fun h2=>?_⟩;have:=a.2 (by omega);have:=b.2 h2;omega
theorem ZAz(n:Nat):Zq 0 (fun l=>l-n) 0:=fun l h0 h1=>⟨by simp only;omega,fun h=>by simp only at h ⊢;omega⟩
theorem ZAA(n:Nat):Zq 256 (fun l=>l-n) 1:=fun l h0 h1=>⟨by simp only;omega,fun h=>by simp only at h ⊢;omega⟩
theorem ZkY{α:Type}{f:α->Int->Int}{n:α->Nat}(hf:∀ x,Zq 256 (f x) (n x)):∀(a:List α),Zq (256*a.length) (fun l=>YV f a l) (nL n a)
 | []=>fun l _ _=>⟨Ubt l,fun _=>by simp only[YV,nL,List.length_nil];omega⟩
 | x::r=>fun l h0 h1=>by
  simp only[YV,nL,List.length_cons];have a:=hf x l h0 h1;split
  ·exact⟨by omega,fun h=>by omega⟩
  ·have b:=ZkY hf r (f x l) (by omega) (by omega);simp only at b;refine⟨by omega,fun h=>?_⟩;have:=a.2 (by omega);have:=b.2 h;omega
theorem ZfT{α:Type}{f:α->Int->Int}{n:α->Nat}(hf:∀ x,Zq 256 (f x) (n x))(a:List α):Zq 0 (fun l=>YE f a l) (nL n a):=fun l h0 h1=>by
 simp only[YE];split
 ·exact⟨by omega,fun h=>by omega⟩
 ·have b:=ZkY hf a (l-a.length) (by omega) (by omega);simp only at b;refine⟨by omega,fun h=>?_⟩;have:=b.2 h;omega
theorem ZcC{c e:Int}{s:Int->Int}{q r:Nat}(h:Zq c s q)(hq:(r:Int)+c<=q+e):Zq e s r:=fun l h0 h1=>by have a:=h l h0 h1;refine⟨a.1,fun h2=>?_⟩;have:=a.2 h2;omega
structure TControl where
 name:ByteArray
 ports:Int
 kind_:Int
 deriving DecidableEq
def Zx(x:TControl):List Tr:=[ts x.name,tv x.ports,tv x.kind_]
theorem ZkZ(x:TControl):(Zx x).length=3:=rfl
def ZfU(x:TControl):IV:=.ag [iS x.name,iI x.ports,iI x.kind_]
def Z9(n:Nat)(x:TControl):Prop:=x.name.size<=n
def Zk0(x:TControl):Prop:=ZZ .i64 x.ports/\ZZ .i64 x.kind_
def VE(x:TControl)(l:Int):Int:=V3 (l-x.name.size) fun l=>l
structure TNode where
 control:Int
 parent:Int
 links:(List Int)
 deriving DecidableEq
def ZQ(x:TNode):List Tr:=[tv x.control,tv x.parent,.sl (rI x.links)]
def ZaW(n:Nat)(x:TNode):Prop:=x.links.length<=n
def ZAB(x:TNode):Prop:=ZZ .i64 x.control/\ZZ .i64 x.parent/\(∀ y∈x.links,ZZ .i64 y)
structure TWire where
 name:ByteArray
 link:Int
 deriving DecidableEq
def ZS(x:TWire):List Tr:=[ts x.name,tv x.link]
def W8(n:Nat)(x:TWire):Prop:=x.name.size<=n
def ZAC(x:TWire):Prop:=ZZ .i64 x.link
structure TBigraph where
 roots:Int
 nodes:(List TNode)
 sites:(List Int)
 edges:Int
 outer:(List ByteArray)
 inner:(List TWire)
 deriving DecidableEq
def Zh(x:TBigraph):List Tr:=[tv x.roots,.sl (x.nodes.map ZQ),.sl (rI x.sites),tv x.edges,.sl (rS x.outer),.sl (x.inner.map ZS)]
def ZA(x:TBigraph):IV:=.ag [iI x.roots,.ow 3 (x.nodes.map ZQ) true,.ow 1 (rI x.sites) true,iI x.edges,.ow 1 (rS x.outer) true,.ow 2 (x.inner.map ZS) true]
def Jo(n:Nat)(x:TBigraph):Prop:=x.nodes.length<=n/\(∀ y∈x.nodes,ZaW n y)/\x.sites.length<=n/\x.outer.length<=n/\(∀ y∈x.outer,y.size<=n)/\x.inner.length<=n/\(∀ y∈x.inner,W8 n y)
def JM(x:TBigraph):Prop:=ZZ .i64 x.roots/\(∀ y∈x.nodes,ZAB y)/\(∀ y∈x.sites,ZZ .i64 y)/\ZZ .i64 x.edges/\(∀ y∈x.inner,ZAC y)
structure TTermStep where
 kind_:Int
 control:Int
 site:Int
 names:(List ByteArray)
 deriving DecidableEq
def Zg(x:TTermStep):List Tr:=[tv x.kind_,tv x.control,tv x.site,.sl (rS x.names)]
theorem ZAD(x:TTermStep):(Zg x).length=4:=rfl
def ZfV(x:TTermStep):IV:=.ag [iI x.kind_,iI x.control,iI x.site,.ow 1 (rS x.names) true]
def Jm(n:Nat)(x:TTermStep):Prop:=x.names.length<=n/\(∀ y∈x.names,y.size<=n)
def Zk1(x:TTermStep):Prop:=ZZ .i64 x.kind_/\ZZ .i64 x.control/\ZZ .i64 x.site
def QH(x:TTermStep)(l:Int):Int:=V3 (YE (fun x m=>m-x.size) x.names l) fun l=>l
abbrev Zk2:FuncId:=3
abbrev ZfW:FuncId:=4
abbrev ZfX:FuncId:=5
abbrev ZfY:FuncId:=6
abbrev DC:FuncId:=7
abbrev DD:FuncId:=8
abbrev ZcD:FuncId:=9
abbrev DE:FuncId:=10
abbrev ZfZ:FuncId:=11
abbrev Zf0:FuncId:=12
abbrev ZcE:FuncId:=13
abbrev ZcF:FuncId:=14
abbrev Zf1:FuncId:=15
abbrev Zf2:FuncId:=16
abbrev ZcG:FuncId:=17
abbrev VF:FuncId:=18
abbrev Zf3:FuncId:=19
abbrev ZaX:FuncId:=20
abbrev Zf4:FuncId:=21
abbrev QI:FuncId:=22
abbrev Zf5:FuncId:=23
abbrev Zf6:FuncId:=24
abbrev ZcH:FuncId:=25
abbrev V4:FuncId:=26
abbrev Zf7:FuncId:=27
abbrev Wp:FuncId:=28
abbrev ZcI:FuncId:=29
abbrev Zf8:FuncId:=30
abbrev Zf9:FuncId:=31
abbrev Zga:FuncId:=32
abbrev ZaY:FuncId:=33
abbrev Zgb:FuncId:=34
abbrev Zgc:FuncId:=35
abbrev Zgd:FuncId:=36
abbrev ZcJ:FuncId:=37
abbrev ZcK:FuncId:=38
abbrev Zge:FuncId:=39
abbrev DF:FuncId:=40
abbrev UL:FuncId:=41
abbrev ZcL:FuncId:=42
abbrev Zgf:FuncId:=43
abbrev Xx:FuncId:=44
abbrev ZcM:FuncId:=45
abbrev Zgg:FuncId:=46
abbrev ZaZ:FuncId:=47
abbrev Za0:FuncId:=48
abbrev Zgh:FuncId:=49
abbrev DG:FuncId:=50
abbrev Zgi:FuncId:=51
abbrev UM:FuncId:=52
abbrev Zgj:FuncId:=53
abbrev DH:FuncId:=54
abbrev UN:FuncId:=55
abbrev Zgk:FuncId:=56
abbrev Za1:FuncId:=57
abbrev Zgl:FuncId:=58
abbrev ZcN:FuncId:=59
abbrev Zgm:FuncId:=60
abbrev Zgn:FuncId:=61
abbrev Zgo:FuncId:=62
abbrev UO:FuncId:=63
abbrev Zk3:FuncId:=64
abbrev ZcO:FuncId:=65
abbrev Zgp:FuncId:=66
abbrev Zgq:FuncId:=67
abbrev DI:FuncId:=68
abbrev Zgr:FuncId:=69
abbrev Zgs:FuncId:=70
abbrev Za2:FuncId:=71
abbrev ZcP:FuncId:=72
abbrev Zgt:FuncId:=73
abbrev Zgu:FuncId:=74
abbrev Zgv:FuncId:=75
abbrev Zgw:FuncId:=76
abbrev ZcQ:FuncId:=77
abbrev ZcR:FuncId:=78
abbrev Zk4:FuncId:=79
abbrev Zk5:FuncId:=80
abbrev Za3:FuncId:=81
abbrev ZcS:FuncId:=82
abbrev UP:FuncId:=83
abbrev Zgx:FuncId:=84
abbrev ZcT:FuncId:=85
abbrev ZcU:FuncId:=86
abbrev Zgy:FuncId:=87
abbrev Zgz:FuncId:=88
abbrev ZgA:FuncId:=89
abbrev Za4:FuncId:=90
abbrev Za5:FuncId:=91
abbrev DJ:FuncId:=92
abbrev UQ:FuncId:=93
abbrev ZgB:FuncId:=94
abbrev UR:FuncId:=95
abbrev DK:FuncId:=96
abbrev ZgC:FuncId:=97
abbrev ZgD:FuncId:=98
abbrev ZgE:FuncId:=99
abbrev ZcV:FuncId:=107
abbrev ZgF:FuncId:=108
abbrev ZgG:FuncId:=109
abbrev ZgH:FuncId:=110
abbrev ZgI:FuncId:=111
abbrev Wq:FuncId:=112
abbrev ZgJ:FuncId:=113
abbrev Za6:FuncId:=114
abbrev DL:FuncId:=115
abbrev ZgK:FuncId:=116
abbrev ZgL:FuncId:=117
abbrev Wr:FuncId:=118
abbrev ZcW:FuncId:=119
abbrev ZgM:FuncId:=120
abbrev ZAE:FuncId:=121
abbrev ZAF:FuncId:=122
abbrev ZAG:FuncId:=123
abbrev ZAH:FuncId:=124
abbrev ZAI:FuncId:=125
abbrev ZcX:FuncId:=126
abbrev ZAJ:FuncId:=127
abbrev ZAK:FuncId:=128
abbrev ZAL:FuncId:=129
abbrev ZgN:FuncId:=130
abbrev ZgO:FuncId:=131
abbrev ZcY:FuncId:=132
abbrev ZgP:FuncId:=133
abbrev ZgQ:FuncId:=134
abbrev ZcZ:FuncId:=135
abbrev Zc0:FuncId:=136
abbrev ZgR:FuncId:=137
abbrev US:FuncId:=138
abbrev Za7:FuncId:=139
abbrev ZgS:FuncId:=140
abbrev Zc1:FuncId:=141
abbrev DM:FuncId:=142
abbrev UT:FuncId:=143
abbrev W9:FuncId:=144
abbrev ZgT:FuncId:=145
abbrev DN:FuncId:=146
abbrev Za8:FuncId:=147
abbrev Zc2:FuncId:=152
abbrev Za9:FuncId:=153
abbrev Zc3:FuncId:=154
abbrev Zc4:FuncId:=155
abbrev DO:FuncId:=156
abbrev Zc5:FuncId:=157
abbrev Zc6:FuncId:=158
abbrev ZgU:FuncId:=159
abbrev ZgV:FuncId:=160
abbrev Zc7:FuncId:=161
abbrev ZgW:FuncId:=162
abbrev Zk6:FuncId:=163
abbrev ZgX:FuncId:=164
abbrev Zc8:FuncId:=165
abbrev Zc9:FuncId:=166
abbrev Zda:FuncId:=167
abbrev Zdb:FuncId:=168
abbrev UU:FuncId:=169
abbrev ZgY:FuncId:=170
abbrev Zdc:FuncId:=171
abbrev Zdd:FuncId:=172
abbrev Zde:FuncId:=173
abbrev ZgZ:FuncId:=174
abbrev Zdf:FuncId:=180
abbrev Zdg:FuncId:=184
abbrev Zdh:FuncId:=185
abbrev DP:FuncId:=186
abbrev Zdi:FuncId:=187
abbrev Zg0:FuncId:=188
abbrev Zk7:FuncId:=189
abbrev Zk8:FuncId:=190
abbrev Zba:FuncId:=191
abbrev Zg1:FuncId:=192
abbrev Zdj:FuncId:=193
abbrev Zbb:FuncId:=194
abbrev Zg2:FuncId:=195
abbrev Zg3:FuncId:=201
abbrev ZAM:FuncId:=202
abbrev ZAN:FuncId:=203
abbrev ZAO:FuncId:=204
abbrev ZAP:FuncId:=205
abbrev ZAQ:FuncId:=206
abbrev ZAR:FuncId:=207
abbrev ZAS:FuncId:=208
abbrev Zbc:FuncId:=209
abbrev Zg4:FuncId:=214
abbrev ZAT:FuncId:=215
abbrev ZAU:FuncId:=216
abbrev ZAV:FuncId:=217
abbrev ZAW:FuncId:=218
abbrev ZAX:FuncId:=219
abbrev Zdk:FuncId:=220
abbrev ZAY:FuncId:=221
abbrev ZAZ:FuncId:=222
abbrev Zdl:FuncId:=228
abbrev qM(d a:Nat):OP:=om d (.t a)
abbrev qL(d a:Nat):OP:=oo d (.ld none (.t a))
abbrev qF(d o a:Nat):OP:=oo d (.fa o (.t a))
abbrev qN(d a:Nat):OP:=oo d (.ln (.t a))
abbrev qS(d k a:Nat):OP:=oo d (.ld (some k) (.t a))
abbrev qE(d i a:Nat):OP:=oo d (.ex i (.t a))
abbrev qI(d k a b:Nat):OP:=oo d (.ia k (.t a) (.t b))
abbrev qB(d:Nat)(o:BinOp)(a b:Nat):OP:=oo d (.bi o 0 (.t a) (.t b))
end Go.Fd
