/-
  FOUNDATION 45: more rules: loads, parts of slices, calls, results, forgetting. Own work.
-/
import Derived.Test.YtilephfpcfclgaaGreatDoorT03
import Derived.ChangeArms
import Derived.OpenShut
import Derived.Carry
import Derived.ChangeMaps5
import Derived.ChangeShapes
import Derived.Test.YtilephfpcfclgaaGreatDoorProg
set_option linter.all false
namespace Go.Fd
section
variable {C:ZG} {lvl:Nat} {env:List (Nat×IV)} {loc:List (Nat×Ob)} {out:Zc} {d:Option Nat} {K:St->Prop} {st:St} {Q:Ex->St->Prop} {F:IV->Prop}
theorem JA{k:Nat}:ZE lvl loc out (lvl,k)=lkO k loc:=by unfold ZE;rw[if_pos rfl]
theorem VX{id:Zd}(h:id.1≠lvl):ZE lvl loc out id=out id:=by unfold ZE;rw[if_neg h]
theorem Xq{k:Nat}{ob:Ob}:Zi ⟨lvl,env,loc,out⟩ (lvl,k) ob=⟨lvl,env,ptO k ob loc,out⟩:=by unfold Zi;rw[if_pos rfl]
theorem QO{id:Zd}{ob:Ob}(h:id.1≠lvl):Zi ⟨lvl,env,loc,out⟩ id ob=⟨lvl,env,loc,Zj out id ob⟩:=by unfold Zi;rw[if_neg h]
theorem ZnS{id:Zd}:Zp id ⟨lvl,env,loc,out⟩=⟨lvl,scrE id env,scrL id (rmO id.2 loc),out⟩:=(rfl)
theorem ZnT:(⟨lvl,env,loc,out⟩:St).sto=ZE lvl loc out:=(rfl)
theorem Qj{id:Zd}{ob:Ob}{S:Zc}:Zj S id ob id=some ob:=by unfold Zj;rw[if_pos rfl]
def ltr(F:IV->Prop)(t:Tr):Prop:=F (.tr t)
theorem ZnU{t:Tr}:ltr F t=F (.tr t):=(rfl)
def D8(o:Option Ob)(off:Nat)(F:IV->Prop):Prop :=
 match o with
 | some (.bx cells)=>Z7 cells[off]? F
 | _=>False
theorem ZnV{cells:List IV}{off:Nat}:D8 (some (.bx cells)) off F=Z7 cells[off]? F:=(rfl)
def D9(id:Zd)(p:Zh)(i f:Nat)(F:IV->Prop)(es:Ze)(u:Bool)(ver:Nat):Prop:=Z7 es[i]? fun e=>Z7 e[f]? fun t=>F (cvt id p i f u ver t)
def ZfN(id:Zd)(p:Zh)(i f:Nat)(F:IV->Prop)(u:Bool)(ver:Nat)(e:List Tr):Prop:=Z7 e[f]? fun t=>F (cvt id p i f u ver t)
def ZfO(id:Zd)(p:Zh)(i f:Nat)(F:IV->Prop)(u:Bool)(ver:Nat)(t:Tr):Prop:=F (cvt id p i f u ver t)
theorem ZnW{id:Zd}{p:Zh}{i f:Nat}{es:Ze}{u:Bool}{ver:Nat}:D9 id p i f F es u ver=Z7 es[i]? (ZfN id p i f F u ver):=(rfl)
theorem ZnX{id:Zd}{p:Zh}{i f:Nat}{e:List Tr}{u:Bool}{ver:Nat}:ZfN id p i f F u ver e=Z7 e[f]? (ZfO id p i f F u ver):=(rfl)
theorem ZnY{id:Zd}{p:Zh}{i f:Nat}{t:Tr}{u:Bool}{ver:Nat}:ZfO id p i f F u ver t=F (cvt id p i f u ver t):=(rfl)
def Zaa(id:Zd)(p:Zh)(i f m:Nat)(F:IV->Prop)(es:Ze)(u:Bool)(ver:Nat):Prop:=Z7 es[i]? fun e=>f+m<=e.length/\F (.ag (cvts id p i u ver f ((e.drop f).take m)))
def ZfP(id:Zd)(p:Zh)(i f m:Nat)(F:IV->Prop)(u:Bool)(ver:Nat)(e:List Tr):Prop:=f+m<=e.length/\F (.ag (cvts id p i u ver f ((e.drop f).take m)))
theorem ZnZ{id:Zd}{p:Zh}{i f m:Nat}{es:Ze}{u:Bool}{ver:Nat}:Zaa id p i f m F es u ver=Z7 es[i]? (ZfP id p i f m F u ver):=(rfl)
theorem Zn0{id:Zd}{p:Zh}{i f m:Nat}{e:List Tr}{u:Bool}{ver:Nat}:ZfP id p i f m F u ver e=(f+m<=e.length/\F (.ag (cvts id p i u ver f ((e.drop f).take m)))):=(rfl)
def VY(L:Zc)(m:Option Nat)(x:IV)(F:IV->Prop):Prop :=
 match m,x with
 | none,.ta cells=>Z7 cells[0]? (ltr F)
 | none,.ab id off=>D8 (L id) off F
 | none,.ae id p i f st=>Y8 (L id) p st (D9 id p i f F)
 | some m,.ta cells=>m<=cells.length/\F (.ag ((cells.take m).map .tr))
 | some m,.ab id off =>
  match L id with
  | some (.bx cells)=>off+m<=cells.length/\F (.ag ((cells.drop off).take m))
  | _=>False
 | some m,.ae id p i f st=>Y8 (L id) p st (Zaa id p i f m F)
 | _,_=>False
theorem Zn1{m:Option Nat}{p:X}:Zu C d (.ld m p) ⟨lvl,env,loc,out⟩ K=VY (ZE lvl loc out) m (xv env p) (JI lvl env loc out d K):=by
 refine J1 (o:=.ld m p) (T:=fun F=>VY (ZE lvl loc out) m (xv env p) F) (by cases m <;> rfl) (fun Kd=>?_)
 cases m with
 | none =>
  simp only[ev]
  generalize xv env p=v
  cases v <;> try rfl
  ·dsimp only[VY,D8]
   rename_i id off
   generalize ZE lvl loc out id=o
   cases o with
   | none=>rfl
   | some ob =>
    cases ob with
    | bx=>exact Yk
    | ar=>rfl
    | mp=>rfl
  ·dsimp only[VY]
   rw[<-Xp]
   congr 1
   funext es u ver
   simp only[D9,<-Yk]
  ·exact Yk
 | some m =>
  simp only[ev]
  generalize xv env p=v
  cases v <;> try rfl
  dsimp only[VY]
  rw[<-Xp]
  congr 1
  funext es u ver
  simp only[Zaa,<-Yk]
theorem Zn2{L:Zc}{cells:List Tr}:VY L none (.ta cells) F=Z7 cells[0]? (ltr F):=(rfl)
theorem Zn3{L:Zc}{id:Zd}{off:Nat}:VY L none (.ab id off) F=D8 (L id) off F:=(rfl)
theorem Zn4{L:Zc}{id:Zd}{p:Zh}{i f s:Nat}:VY L none (.ae id p i f s) F=Y8 (L id) p s (D9 id p i f F):=(rfl)
theorem Zn5{L:Zc}{m:Nat}{cells:List Tr}:VY L (some m) (.ta cells) F=(m<=cells.length/\F (.ag ((cells.take m).map .tr))):=(rfl)
def ZfQ(o:Option Ob)(off m:Nat)(F:IV->Prop):Prop :=
 match o with
 | some (.bx cells)=>off+m<=cells.length/\F (.ag ((cells.drop off).take m))
 | _=>False
theorem Zn6{cells:List IV}{off m:Nat}:ZfQ (some (.bx cells)) off m F=(off+m<=cells.length/\F (.ag ((cells.drop off).take m))):=(rfl)
theorem Zn7{L:Zc}{m:Nat}{id:Zd}{off:Nat}:VY L (some m) (.ab id off) F=ZfQ (L id) off m F:=(rfl)
theorem Zn8{L:Zc}{m:Nat}{id:Zd}{p:Zh}{i f s:Nat}:VY L (some m) (.ae id p i f s) F=Y8 (L id) p s (Zaa id p i f m F):=(rfl)
def bn(x:Option IV)(n:Nat)(F:Nat->Prop):Prop :=
 match x with
 | none=>F n
 | some (.tr (.v (.int _ m)))=>0<=m/\F m.toNat
 | _=>False
theorem Zn9{n:Nat}{F:Nat->Prop}:bn none n F=F n:=(rfl)
theorem Zoa{n:Nat}{k:IntKind}{m:Int}{F:Nat->Prop}:bn (some (.tr (.v (.int k m)))) n F=(0<=m/\F m.toNat):=(rfl)
theorem ZfR{ρ:X->IV}{x:Option X}{n:Nat}{F:Nat->Prop}:ZQ ρ x n F=bn (x.map ρ) n F:=by
 cases x with
 | none=>rfl
 | some x =>
  simp only[ZQ,bn,Option.map_some]
  generalize ρ x=v
  cases v <;> try rfl
  rename_i t
  cases t <;> try rfl
  rename_i y
  cases y <;> rfl
def XR(k:Nat)(es:Ze)(los:Bool)(hi mx:Option IV)(q:Bool)(F:IV->Prop)(a:Nat):Prop:=(los=true->ZA k es)/\bn hi es.length fun b=>a<=b/\b<=es.length/\bn mx b fun m=>m=b/\F (if q then .cs (cut es a (b-a)) else .tr (.sl (cut es a (b-a))))
def ZfS(es:Ze)(mx:Option IV)(q:Bool)(F:IV->Prop)(a b:Nat):Prop:=a<=b/\b<=es.length/\bn mx b fun m=>m=b/\F (if q then .cs (cut es a (b-a)) else .tr (.sl (cut es a (b-a))))
def ZfT(es:Ze)(q:Bool)(F:IV->Prop)(a b m:Nat):Prop:=m=b/\F (if q then .cs (cut es a (b-a)) else .tr (.sl (cut es a (b-a))))
theorem Zob{k:Nat}{es:Ze}{los q:Bool}{hi mx:Option IV}{a:Nat}:XR k es los hi mx q F a=((los=true->ZA k es)/\bn hi es.length (ZfS es mx q F a)):=(rfl)
theorem Zoc{es:Ze}{q:Bool}{mx:Option IV}{a b:Nat}:ZfS es mx q F a b=(a<=b/\b<=es.length/\bn mx b (ZfT es q F a b)):=(rfl)
theorem Zod{es:Ze}{q:Bool}{a b m:Nat}:ZfT es q F a b m=(m=b/\F (if q=true then .cs (cut es a (b-a)) else .tr (.sl (cut es a (b-a))))):=(rfl)
def sxh(L:Zc)(k:Nat)(id:Zd)(p:Zh)(off len:Nat)(cap:Option Nat)(s:Nat)(hi mx:Option IV)(F:IV->Prop)(a:Nat):Prop :=
 bn hi len fun b=>a<=b/\b<=len/\bn mx b fun m=>b<=m/\m<=len/\JF L id p k/\F (.hd id p (off+a) (b-a) (if mx.isSome then some (m-a) else cap.map (· - a)) s)
def ZfU(L:Zc)(k:Nat)(id:Zd)(p:Zh)(off len:Nat)(cap:Option Nat)(s:Nat)(mx:Option IV)(F:IV->Prop)(a b:Nat):Prop :=
 a<=b/\b<=len/\bn mx b fun m=>b<=m/\m<=len/\JF L id p k/\F (.hd id p (off+a) (b-a) (if mx.isSome then some (m-a) else cap.map (· - a)) s)
def ZfV(L:Zc)(k:Nat)(id:Zd)(p:Zh)(off len:Nat)(cap:Option Nat)(s:Nat)(mx:Option IV)(F:IV->Prop)(a b m:Nat):Prop :=
 b<=m/\m<=len/\JF L id p k/\F (.hd id p (off+a) (b-a) (if mx.isSome then some (m-a) else cap.map (· - a)) s)
theorem Zoe{L:Zc}{k:Nat}{id:Zd}{p:Zh}{off len:Nat}{cap:Option Nat}{s:Nat}{hi mx:Option IV}{a:Nat}:sxh L k id p off len cap s hi mx F a=bn hi len (ZfU L k id p off len cap s mx F a):=(rfl)
theorem Zof{L:Zc}{k:Nat}{id:Zd}{p:Zh}{off len:Nat}{cap:Option Nat}{s:Nat}{mx:Option IV}{a b:Nat}:ZfU L k id p off len cap s mx F a b=(a<=b/\b<=len/\bn mx b (ZfV L k id p off len cap s mx F a b)):=(rfl)
theorem Zog{L:Zc}{k:Nat}{id:Zd}{p:Zh}{off len:Nat}{cap:Option Nat}{s:Nat}{mx:Option IV}{a b m:Nat}:ZfV L k id p off len cap s mx F a b m=(b<=m/\m<=len/\JF L id p k/\F (.hd id p (off+a) (b-a) (if mx.isSome then some (m-a) else cap.map (· - a)) s)):=(rfl)
def Xr(L:Zc)(k:Nat)(x:IV)(lo hi mx:Option IV)(F:IV->Prop):Prop :=
 match x with
 | .tr (.sl es)=>bn lo 0 (XR k es lo.isSome hi mx mx.isSome F)
 | .cs es=>bn lo 0 (XR k es lo.isSome hi mx (mx.isSome || hi.isNone) F)
 | .hd id p off len cap s=>bn lo 0 (sxh L k id p off len cap s hi mx F)
 | _=>False
theorem ZfW{x:Option IV}{n:Nat}{p:Prop}{F:Nat->Prop}:(p/\bn x n F)=bn x n fun a=>p/\F a:=by
 apply propext
 cases x with
 | none=>rfl
 | some v =>
  cases v <;> try exact⟨fun h=>h.2,fun h=>h.elim⟩
  rename_i t
  cases t <;> try exact⟨fun h=>h.2,fun h=>h.elim⟩
  rename_i y
  cases y <;> first | exact⟨fun h=>h.2,fun h=>h.elim⟩ | exact⟨fun⟨h1,h2,h3⟩=>⟨h2,h1,h3⟩,fun⟨h1,h2,h3⟩=>⟨h2,h1,h3⟩⟩
theorem Zoh{k:Nat}{x:X}{lo hi mx:Option X}:Zu C d (.sx k x lo hi mx) ⟨lvl,env,loc,out⟩ K=Xr (ZE lvl loc out) k (xv env x) (lo.map (xv env)) (hi.map (xv env)) (mx.map (xv env)) (JI lvl env loc out d K):=by
 refine J1 (o:=.sx k x lo hi mx) (T:=fun F=>Xr (ZE lvl loc out) k (xv env x) (lo.map (xv env)) (hi.map (xv env)) (mx.map (xv env)) F) rfl (fun Kd=>?_)
 simp only[ev,ZfR]
 generalize xv env x=v
 cases v <;> try rfl
 ·rename_i t
  cases t <;> try rfl
  dsimp only[Xr,XR]
  rw[ZfW]
  simp only[Option.isSome_map]
  rfl
 ·dsimp only[Xr,XR]
  rw[ZfW]
  simp only[Option.isSome_map,Option.isNone_map]
  rfl
 ·dsimp only[Xr]
  congr 1
  funext a
  unfold sxh
  congr 1
  funext b
  simp only[Option.isSome_map]
theorem Zoi{L:Zc}{k:Nat}{es:Ze}{lo hi mx:Option IV}:Xr L k (.tr (.sl es)) lo hi mx F=bn lo 0 (XR k es lo.isSome hi mx mx.isSome F):=(rfl)
theorem Zoj{L:Zc}{k:Nat}{es:Ze}{lo hi mx:Option IV}:Xr L k (.cs es) lo hi mx F=bn lo 0 (XR k es lo.isSome hi mx (mx.isSome || hi.isNone) F):=(rfl)
theorem Zok{L:Zc}{k:Nat}{id:Zd}{p:Zh}{off len:Nat}{cap:Option Nat}{s:Nat}{lo hi mx:Option IV}:Xr L k (.hd id p off len cap s) lo hi mx F=bn lo 0 (sxh L k id p off len cap s hi mx F):=(rfl)
def sst(s:ByteArray)(hi:Option IV)(F:IV->Prop)(a:Nat):Prop:=bn hi s.size fun b=>a<=b/\b<=s.size/\F (iS (s.extract a b))
def ZfX(s:ByteArray)(F:IV->Prop)(a b:Nat):Prop:=a<=b/\b<=s.size/\F (iS (s.extract a b))
theorem Zol{s:ByteArray}{hi:Option IV}{a:Nat}:sst s hi F a=bn hi s.size (ZfX s F a):=(rfl)
theorem Zom{s:ByteArray}{a b:Nat}:ZfX s F a b=(a<=b/\b<=s.size/\F (iS (s.extract a b))):=(rfl)
def ss2(x:IV)(lo hi:Option IV)(F:IV->Prop):Prop :=
 match x with
 | .tr (.v (.string s))=>bn lo 0 (sst s hi F)
 | _=>False
theorem Zon{x:X}{lo hi:Option X}:Zu C d (.ss x lo hi) ⟨lvl,env,loc,out⟩ K=ss2 (xv env x) (lo.map (xv env)) (hi.map (xv env)) (JI lvl env loc out d K):=by
 refine J1 (o:=.ss x lo hi) (T:=fun F=>ss2 (xv env x) (lo.map (xv env)) (hi.map (xv env)) F) rfl (fun Kd=>?_)
 simp only[ev,ZfR]
 rfl
theorem Zoo{s:ByteArray}{lo hi:Option IV}:ss2 (.tr (.v (.string s))) lo hi F=bn lo 0 (sst s hi F):=(rfl)
def sa2(n:Nat)(x:IV)(F:IV->Prop):Prop :=
 match x with
 | .ta cells=>n<=cells.length/\F (.cs ((cells.take n).map fun c=>[c]))
 | _=>False
theorem Zop{n:Nat}{x:X}:Zu C d (.sa n x) ⟨lvl,env,loc,out⟩ K=sa2 n (xv env x) (JI lvl env loc out d K):=J1 rfl fun _=>rfl
theorem Zoq{n:Nat}{cells:List Tr}:sa2 n (.ta cells) F=(n<=cells.length/\F (.cs ((cells.take n).map fun c=>[c]))):=(rfl)
def XT(F:IV->Prop)(l:List UInt8):Prop:=F (iS ⟨l.toArray⟩)
theorem Zor{l:List UInt8}:XT F l=F (iS ⟨l.toArray⟩):=(rfl)
def sbh(off len:Nat)(F:IV->Prop)(es:Ze)(_u:Bool)(_v:Nat):Prop:=off+len<=es.length/\Z7 (Yu (cut es off len)) (XT F)
theorem Zos{off len:Nat}{es:Ze}{u:Bool}{v:Nat}:sbh off len F es u v=(off+len<=es.length/\Z7 (Yu (cut es off len)) (XT F)):=(rfl)
def Ww(L:Zc)(x:IV)(F:IV->Prop):Prop :=
 match x with
 | .tr (.sl es)=>Z7 (Yu es) (XT F)
 | .cs es=>Z7 (Yu es) (XT F)
 | .hd id p off len _ st=>Y8 (L id) p st (sbh off len F)
 | _=>False
theorem Zot{x:X}:Zu C d (.sb x) ⟨lvl,env,loc,out⟩ K=Ww (ZE lvl loc out) (xv env x) (JI lvl env loc out d K):=by
 refine J1 (o:=.sb x) (T:=fun F=>Ww (ZE lvl loc out) (xv env x) F) rfl (fun Kd=>?_)
 simp only[ev]
 generalize xv env x=v
 cases v <;> try rfl
 ·rename_i t
  cases t <;> try rfl
  exact Yk
 ·exact Yk
 ·dsimp only[Ww]
  rw[<-Xp]
  congr 1
  funext es u ver
  simp only[sbh,<-Yk]
  rfl
theorem Zou{L:Zc}{es:Ze}:Ww L (.tr (.sl es)) F=Z7 (Yu es) (XT F):=(rfl)
theorem Zov{L:Zc}{es:Ze}:Ww L (.cs es) F=Z7 (Yu es) (XT F):=(rfl)
theorem Zow{L:Zc}{id:Zd}{p:Zh}{off len s:Nat}{cap:Option Nat}:Ww L (.hd id p off len cap s) F=Y8 (L id) p s (sbh off len F):=(rfl)
theorem Ju{o:O}(h:Jk o=true):Zu C d o st K=ew C d st K o:=by unfold Zu;rw[if_pos h]
def Y9(x:IV)(F:List IV->Prop)(l:List IV):Prop:=F (x::l)
theorem ZfY{x:IV}{F:List IV->Prop}{l:List IV}:Y9 x F l=F (x::l):=(rfl)
def ZfZ(L:Zc)(r:List IV)(F:List IV->Prop)(l:List IV):Prop:=ZY L r (Y9 (.ag l) F)
theorem Zox{L:Zc}{r:List IV}{F:List IV->Prop}{l:List IV}:ZfZ L r F l=ZY L r (Y9 (.ag l) F):=(rfl)
def Zf0(L:Zc)(f:FuncId)(r:List IV)(F:List IV->Prop)(l:List IV):Prop:=ZY L r (Y9 (.fn f l) F)
theorem Zoy{L:Zc}{f:FuncId}{r:List IV}{F:List IV->Prop}{l:List IV}:Zf0 L f r F l=ZY L r (Y9 (.fn f l) F):=(rfl)
def Zf1(L:Zc)(off len:Nat)(r:List IV)(F:List IV->Prop)(es:Ze)(_u:Bool)(_v:Nat):Prop:=off+len<=es.length/\ZY L r (Y9 (.tr (.sl (cut es off len))) F)
theorem Zoz{L:Zc}{off len:Nat}{r:List IV}{F:List IV->Prop}{es:Ze}{u:Bool}{v:Nat}:Zf1 L off len r F es u v=(off+len<=es.length/\ZY L r (Y9 (.tr (.sl (cut es off len))) F)):=(rfl)
section sn
variable {L:Zc} {r:List IV} {F:List IV->Prop}
theorem Zb5:ZY L [] F=F []:=by simp only[ZY]
theorem Zf2{t:Tr}:ZY L (.tr t::r) F=ZY L r (Y9 (.tr t) F):=by simp only[ZY,Z3];rfl
theorem ZoA{es:Ze}:ZY L (.cs es::r) F=ZY L r (Y9 (.tr (.sl es)) F):=by simp only[ZY,Z3];rfl
theorem ZoB{l:List IV}:ZY L (.ag l::r) F=ZY L l (ZfZ L r F):=by simp only[ZY,Z3];rfl
theorem ZoC{f:FuncId}{l:List IV}:ZY L (.fn f l::r) F=ZY L l (Zf0 L f r F):=by simp only[ZY,Z3];rfl
theorem Zf3{l:List Tr}:ZY L (.ta l::r) F=ZY L r (Y9 (.ta l) F):=by simp only[ZY,Z3];rfl
theorem ZoD:ZY L (.er::r) F=ZY L r (Y9 .er F):=by simp only[ZY,Z3];rfl
theorem ZoE:ZY L (.un::r) F=ZY L r (Y9 .un F):=by simp only[ZY,Z3];rfl
theorem ZoF{id:Zd}{p:Zh}{off len s:Nat}{cap:Option Nat}:ZY L (.hd id p off len cap s::r) F=Y8 (L id) p s (Zf1 L off len r F):=by simp only[ZY,Z3];rw[<-Xp];rfl
end sn
def kca(C:ZG)(fid:FuncId)(nm:Prop)(imp:Bool)(lvl:Nat)(env:List (Nat×IV))(loc:List (Nat×Ob))(out:Zc)(d:Option Nat)(K:St->Prop)(args:List IV):Prop :=
 ∃ r,(∀ l S,C fid l args S r S)/\(nm\/noSh r)/\freshK (keyOf d) loc (impv imp lvl (keyOf d) 0 r).2.length/\K ⟨lvl,ptd d (impv imp lvl (keyOf d) 0 r).1 env,addO (keyOf d) (impv imp lvl (keyOf d) 0 r).2 loc,out⟩
theorem Zg{fid:FuncId}{nm:Prop}{imp:Bool}{args:List IV}{r:IV}(h:∀ l S,C fid l args S r S)
  (hk:(nm\/noSh r)/\freshK (keyOf d) loc (impv imp lvl (keyOf d) 0 r).2.length/\K ⟨lvl,ptd d (impv imp lvl (keyOf d) 0 r).1 env,addO (keyOf d) (impv imp lvl (keyOf d) 0 r).2 loc,out⟩):kca C fid nm imp lvl env loc out d K args:=⟨r,h,hk⟩
def ca2(C:ZG)(f:IV)(xs:List IV)(imp:Bool)(lvl:Nat)(env:List (Nat×IV))(loc:List (Nat×Ob))(out:Zc)(d:Option Nat)(K:St->Prop):Prop :=
 match f with
 | .fn fid caps=>ZY (ZE lvl loc out) (xs++caps) (kca C fid (Za (fun _=>False) (xs++caps)) imp lvl env loc out d K)
 | _=>False
theorem ZoG{imp:Bool}{f:X}{xs:List X}:Zu C d (.ca .pure imp f xs) ⟨lvl,env,loc,out⟩ K=ca2 C (xv env f) (xs.map (xv env)) imp lvl env loc out d K:=by
 rw[JQ rfl]
 simp only[ev]
 generalize xv env f=v
 cases v <;> rfl
theorem ZoH{fid:FuncId}{caps xs:List IV}{imp:Bool}:ca2 C (.fn fid caps) xs imp lvl env loc out d K=ZY (ZE lvl loc out) (xs++caps) (kca C fid (Za (fun _=>False) (xs++caps)) imp lvl env loc out d K):=(rfl)
def kce(C:ZG)(fid:FuncId)(imp:Bool)(lvl:Nat)(env:List (Nat×IV))(loc:List (Nat×Ob))(out:Zc)(d:Option Nat)(K:St->Prop)(args:List IV):Prop :=
 ∃ r,(∀ l S,Za (WR (ZE lvl loc out) S l) args->C fid l args S r S)/\freshK (keyOf d) loc (impv imp lvl (keyOf d) 0 r).2.length/\K ⟨lvl,ptd d (impv imp lvl (keyOf d) 0 r).1 env,addO (keyOf d) (impv imp lvl (keyOf d) 0 r).2 loc,out⟩
def Zf4(C:ZG)(f:IV)(xs:List IV)(imp:Bool)(lvl:Nat)(env:List (Nat×IV))(loc:List (Nat×Ob))(out:Zc)(d:Option Nat)(K:St->Prop):Prop :=
 match f with
 | .fn fid caps=>kce C fid imp lvl env loc out d K (xs++caps)
 | _=>False
theorem ZoI{imp:Bool}{f:X}{xs:List X}:Zu C d (.ca .see imp f xs) ⟨lvl,env,loc,out⟩ K=Zf4 C (xv env f) (xs.map (xv env)) imp lvl env loc out d K:=by
 rw[JQ rfl]
 simp only[ev]
 generalize xv env f=v
 cases v <;> rfl
theorem ZoJ{fid:FuncId}{caps xs:List IV}{imp:Bool}:Zf4 C (.fn fid caps) xs imp lvl env loc out d K=kce C fid imp lvl env loc out d K (xs++caps):=(rfl)
def kcs(C:ZG)(fid:FuncId)(imp:Bool)(lvl:Nat)(env:List (Nat×IV))(loc:List (Nat×Ob))(out:Zc)(d:Option Nat)(K:St->Prop)(args:List IV):Prop :=
 ∃ r,C fid (lvl+1) args (ZE lvl loc out) r (ZE lvl loc out)/\freshK (keyOf d) loc (impv imp lvl (keyOf d) 0 r).2.length/\K ⟨lvl,ptd d (impv imp lvl (keyOf d) 0 r).1 env,addO (keyOf d) (impv imp lvl (keyOf d) 0 r).2 loc,out⟩
def Zf5(C:ZG)(f:IV)(xs:List IV)(imp:Bool)(lvl:Nat)(env:List (Nat×IV))(loc:List (Nat×Ob))(out:Zc)(d:Option Nat)(K:St->Prop):Prop :=
 match f with
 | .fn fid caps=>kcs C fid imp lvl env loc out d K (xs.map JL++caps)
 | _=>False
theorem ZoK{imp:Bool}{f:X}{xs:List X}:Zu C d (.ca .same imp f xs) ⟨lvl,env,loc,out⟩ K=Zf5 C (xv env f) (xs.map (xv env)) imp lvl env loc out d K:=by
 rw[Ju rfl]
 simp only[ew]
 generalize xv env f=v
 cases v <;> rfl
theorem ZoL{fid:FuncId}{caps xs:List IV}{imp:Bool}:Zf5 C (.fn fid caps) xs imp lvl env loc out d K=kcs C fid imp lvl env loc out d K (xs.map JL++caps):=(rfl)
def Zf6(C:ZG)(f:IV)(xs:List IV)(imp:Bool)(lvl:Nat)(env:List (Nat×IV))(loc:List (Nat×Ob))(out:Zc)(d:Option Nat)(K:St->Prop):Prop :=
 match f with
 | .fn fid caps=>kcs C fid imp lvl env loc out d K (xs++caps)
 | _=>False
theorem ZoM{imp:Bool}{f:X}{xs:List X}:Zu C d (.ca .keep imp f xs) ⟨lvl,env,loc,out⟩ K=Zf6 C (xv env f) (xs.map (xv env)) imp lvl env loc out d K:=by
 rw[Ju rfl]
 simp only[ew]
 generalize xv env f=v
 cases v <;> rfl
theorem ZoN{fid:FuncId}{caps xs:List IV}{imp:Bool}:Zf6 C (.fn fid caps) xs imp lvl env loc out d K=kcs C fid imp lvl env loc out d K (xs++caps):=(rfl)
def QP(C:ZG)(fid:FuncId)(imp:Bool)(lvl:Nat)(env:List (Nat×IV))(loc:List (Nat×Ob))(out:Zc)(d:Option Nat)(K:St->Prop)(args:List IV):Prop :=
 ∃ r loc' out',(∀ i,i.1=lvl->out' i=out i)/\C fid (lvl+1) args (ZE lvl loc out) r (ZE lvl loc' out')/\freshK (keyOf d) loc' (impv imp lvl (keyOf d) 0 r).2.length/\K ⟨lvl,ptd d (impv imp lvl (keyOf d) 0 r).1 env,addO (keyOf d) (impv imp lvl (keyOf d) 0 r).2 loc',out'⟩
theorem Wx{fid:FuncId}{imp:Bool}{args:List IV}{r:IV}(loc':List (Nat×Ob))(out':Zc)(ho:∀ i,i.1=lvl->out' i=out i)(h:C fid (lvl+1) args (ZE lvl loc out) r (ZE lvl loc' out'))
  (hk:freshK (keyOf d) loc' (impv imp lvl (keyOf d) 0 r).2.length/\K ⟨lvl,ptd d (impv imp lvl (keyOf d) 0 r).1 env,addO (keyOf d) (impv imp lvl (keyOf d) 0 r).2 loc',out'⟩):QP C fid imp lvl env loc out d K args:=⟨r,loc',out',ho,h,hk⟩
def Zf7(C:ZG)(f:IV)(xs:List IV)(imp:Bool)(lvl:Nat)(env:List (Nat×IV))(loc:List (Nat×Ob))(out:Zc)(d:Option Nat)(K:St->Prop):Prop :=
 match f with
 | .fn fid caps=>QP C fid imp lvl env loc out d K (xs.map JL++caps)
 | _=>False
theorem ZoO{imp:Bool}{f:X}{xs:List X}:Zu C d (.ca .any imp f xs) ⟨lvl,env,loc,out⟩ K=Zf7 C (xv env f) (xs.map (xv env)) imp lvl env loc out d K:=by
 rw[Ju rfl]
 simp only[ew]
 generalize xv env f=v
 cases v <;> rfl
theorem ZoP{fid:FuncId}{caps xs:List IV}{imp:Bool}:Zf7 C (.fn fid caps) xs imp lvl env loc out d K=QP C fid imp lvl env loc out d K (xs.map JL++caps):=(rfl)
def kfe(K:IV->Zc->Prop)(l:List IV)(st:St):Prop:=match l with | [x]=>K x st.out | xs=>K (.tu xs) st.out
theorem ZoQ{rs:List RS}{K:IV->Zc->Prop}:Z8 rs st K=Qy rs st (kfe K):=(rfl)
theorem ZoR{K:IV->Zc->Prop}:kfe K [] ⟨lvl,env,loc,out⟩=K (.tu []) out:=(rfl)
theorem ZoS{K:IV->Zc->Prop}{x:IV}:kfe K [x] ⟨lvl,env,loc,out⟩=K x out:=(rfl)
theorem ZoT{K:IV->Zc->Prop}{x y:IV}{r:List IV}:kfe K (x::y::r) ⟨lvl,env,loc,out⟩=K (.tu (x::y::r)) out:=(rfl)
def kex(rs:List RS)(F:List IV->St->Prop)(x:IV)(st:St):Prop:=Qy rs st fun xs st'' => F (x::xs) st''
def kcx(x:IV)(F:List IV->St->Prop)(l:List IV)(st:St):Prop:=F (x::l) st
theorem ZoU{x:IV}{F:List IV->St->Prop}{l:List IV}:kcx x F l st=F (x::l) st:=(rfl)
theorem ZoV{F:List IV->St->Prop}:Qy [] st F=F [] st:=(rfl)
theorem ZoW{r:RS}{rs:List RS}{F:List IV->St->Prop}:Qy (r::rs) st F=Qx r st (kex rs F):=(rfl)
theorem ZoX{rs:List RS}{F:List IV->St->Prop}{x:IV}:kex rs F x st=Qy rs st (kcx x F):=(rfl)
theorem ZoY{n:Nat}{ks:List Nat}{F:IV->St->Prop}:Qx (.t n ks) ⟨lvl,env,loc,out⟩ F=Yq ks (lk n env) ⟨lvl,env,loc,out⟩ F:=(rfl)
def exb(o:Option Ob)(off:Nat)(m:Option Nat)(ks:List Nat)(st:St)(F:IV->St->Prop):Prop :=
 match o,m with
 | some (.bx cells),some m=>off+m<=cells.length/\Yq ks (.ag ((cells.drop off).take m)) st F
 | some (.bx cells),none=>Z7 cells[off]? fun x=>isCell x=true/\Yq ks x st F
 | _,_=>False
def Zf8(ks:List Nat)(st:St)(F:IV->St->Prop)(x:IV):Prop:=isCell x=true/\Yq ks x st F
theorem ZoZ{ks:List Nat}{F:IV->St->Prop}{x:IV}:Zf8 ks st F x=(isCell x=true/\Yq ks x st F):=(rfl)
theorem Zo0{cells:List IV}{off m:Nat}{ks:List Nat}{F:IV->St->Prop}:exb (some (.bx cells)) off (some m) ks st F=(off+m<=cells.length/\Yq ks (.ag ((cells.drop off).take m)) st F):=(rfl)
theorem Zo1{cells:List IV}{off:Nat}{ks:List Nat}{F:IV->St->Prop}:exb (some (.bx cells)) off none ks st F=Z7 cells[off]? (Zf8 ks st F):=(rfl)
def exk(x:IV)(st:St)(F:IV->St->Prop):Prop :=
 match x with
 | .cs es=>F (.cs es) st
 | _=>False
theorem Zo2{n:Nat}{F:IV->St->Prop}:Qx (.k n) ⟨lvl,env,loc,out⟩ F=exk (lk n env) ⟨lvl,env,loc,out⟩ F:=(rfl)
theorem Zo3{es:Ze}{F:IV->St->Prop}:exk (.cs es) st F=F (.cs es) st:=(rfl)
def exc(v:IV)(m:Option Nat)(ks:List Nat)(st:St)(F:IV->St->Prop):Prop :=
 match v with
 | .ab id off=>exb (st.sto id) off m ks st F
 | _=>False
theorem Zo4{n:Nat}{m:Option Nat}{ks:List Nat}{F:IV->St->Prop}:Qx (.c n m ks) ⟨lvl,env,loc,out⟩ F=exc (lk n env) m ks ⟨lvl,env,loc,out⟩ F:=by
 simp only[Qx]
 generalize lk n env=v
 cases v <;> try rfl
 rename_i id off
 dsimp only[exc]
 generalize (⟨lvl,env,loc,out⟩:St).sto id=o
 cases o with
 | none=>rfl
 | some ob =>
  cases ob with
  | ar=>cases m <;> rfl
  | mp=>cases m <;> rfl
  | bx cells =>
   cases m with
   | some m=>rfl
   | none=>exact Yk
theorem Zo5{id:Zd}{off:Nat}{m:Option Nat}{ks:List Nat}{F:IV->St->Prop}:exc (.ab id off) m ks ⟨lvl,env,loc,out⟩ F=exb (ZE lvl loc out id) off m ks ⟨lvl,env,loc,out⟩ F:=(rfl)
def Zf9(F:IV->St->Prop)(l:List IV)(st:St):Prop:=F (.ag l) st
theorem Zo6{F:IV->St->Prop}{l:List IV}:Zf9 F l st=F (.ag l) st:=(rfl)
theorem Zo7{ks:List Nat}{l:List IV}{F:IV->St->Prop}:Yq ks (.ag l) st F=Qa ks l st (Zf9 F):=(rfl)
theorem Zo8{ks:List Nat}{t:Tr}{F:IV->St->Prop}:Yq ks (.tr t) st F=F (.tr t) st:=(rfl)
theorem Zo9{ks:List Nat}{es:Ze}{F:IV->St->Prop}:Yq ks (.cs es) st F=J6 (ks.headD 0) (.cs es) st F:=(rfl)
theorem Zpa{ks:List Nat}{id:Zd}{p:Zh}{off len s:Nat}{cap:Option Nat}{F:IV->St->Prop}:Yq ks (.hd id p off len cap s) st F=J6 (ks.headD 0) (.hd id p off len cap s) st F:=(rfl)
theorem Zpb{ks:List Nat}{F:IV->St->Prop}:Yq ks .er st F=F .er st:=(rfl)
theorem Zpc{ks:List Nat}{f:FuncId}{c:List IV}{F:IV->St->Prop}:Yq ks (.fn f c) st F=(Z9 st.lvl c/\F (.fn f c) st):=(rfl)
theorem Zpd{ks:List Nat}{F:IV->St->Prop}:Yq ks .un st F=F .un st:=(rfl)
def kxc(ks:List Nat)(r:List IV)(F:List IV->St->Prop)(y:IV)(st:St):Prop:=Qa ks r st (kcx y F)
theorem Zpe{ks:List Nat}{r:List IV}{F:List IV->St->Prop}{y:IV}:kxc ks r F y st=Qa ks r st (kcx y F):=(rfl)
theorem Zpf{ks:List Nat}{F:List IV->St->Prop}:Qa ks [] st F=F [] st:=by cases ks <;> rfl
theorem Zpg{ks:List Nat}{x:IV}{r:List IV}{F:List IV->St->Prop}:Qa ks (x::r) st F=J6 (ks.headD 0) x st (kxc ks.tail r F):=(rfl)
theorem Zph{k:Nat}{t:Tr}{F:IV->St->Prop}:J6 k (.tr t) st F=F (.tr t) st:=(rfl)
theorem Zpi{k:Nat}{F:IV->St->Prop}:J6 (k+1) (.cs []) st F=F (.ow k [] true) st:=(rfl)
theorem Zpj{es:Ze}{F:IV->St->Prop}:J6 0 (.cs es) st F=F (.tr (.sl es)) st:=(rfl)
theorem Zpk{F:IV->St->Prop}:J6 1 (.cs []) st F=F (.ow 0 [] true) st:=(rfl)
theorem Zpl{F:IV->St->Prop}:J6 2 (.cs []) st F=F (.ow 1 [] true) st:=(rfl)
theorem Zpm{F:IV->St->Prop}:J6 3 (.cs []) st F=F (.ow 2 [] true) st:=(rfl)
theorem Zpn{F:IV->St->Prop}:J6 4 (.cs []) st F=F (.ow 3 [] true) st:=(rfl)
theorem Zpo{F:IV->St->Prop}:J6 5 (.cs []) st F=F (.ow 4 [] true) st:=(rfl)
theorem Zpp{F:IV->St->Prop}:J6 6 (.cs []) st F=F (.ow 5 [] true) st:=(rfl)
theorem Zpq{F:IV->St->Prop}:J6 7 (.cs []) st F=F (.ow 6 [] true) st:=(rfl)
theorem Zpr{k:Nat}{F:IV->St->Prop}:J6 k .er st F=F .er st:=(rfl)
theorem Zps{k:Nat}{F:IV->St->Prop}:J6 k .un st F=F .un st:=(rfl)
def exh(o:Option Ob)(k:Nat)(p:Zh)(off len:Nat)(cap:Option Nat)(s:Nat)(st1:St)(F:IV->St->Prop):Prop :=
 match o with
 | some (.ar k' es u hw _)=>p=[]/\s=hw/\(match k with
  | 0=>off+len<=es.length/\F (.tr (.sl (cut es off len))) st1
  | k1+1=>k1=k'/\off=0/\len=es.length/\cap=none/\F (.ow k' es u) st1)
 | _=>False
theorem Zpt{k key:Nat}{p:Zh}{off len s:Nat}{cap:Option Nat}{F:IV->St->Prop}:J6 k (.hd (lvl,key) p off len cap s) ⟨lvl,env,loc,out⟩ F=exh (lkO key loc) k p off len cap s (Zp (lvl,key) ⟨lvl,env,loc,out⟩) F:=by
 unfold J6
 dsimp only
 rw[if_pos rfl]
 have:(⟨lvl,env,loc,out⟩:St).sto (lvl,key)=lkO key loc:=JA
 rw[this]
 generalize lkO key loc=o
 cases o with
 | none=>rfl
 | some ob=>cases ob <;> cases k <;> rfl
theorem Zpu{k':Nat}{es:Ze}{u:Bool}{hw ver:Nat}{p:Zh}{off len s:Nat}{cap:Option Nat}{st1:St}{F:IV->St->Prop}:exh (some (.ar k' es u hw ver)) 0 p off len cap s st1 F=(p=[]/\s=hw/\off+len<=es.length/\F (.tr (.sl (cut es off len))) st1):=(rfl)
theorem Zpv{k k':Nat}{es:Ze}{u:Bool}{hw ver:Nat}{p:Zh}{off len s:Nat}{cap:Option Nat}{st1:St}{F:IV->St->Prop}:exh (some (.ar k' es u hw ver)) (k+1) p off len cap s st1 F=(p=[]/\s=hw/\k=k'/\off=0/\len=es.length/\cap=none/\F (.ow k' es u) st1):=(rfl)
def memB(t:Nat):List Nat->Bool
 | []=>false
 | a::r=>if t=a then true else memB t r
theorem XU{t:Nat}:∀{l:List Nat},memB t l=true↔t∈l
 | []=>by simp [memB]
 | a::r=>by
  simp only[memB,UaW]
  by_cases h:t=a
  ·simp [h]
  ·rw[if_neg h,XU];simp [h]
def keepB(ks:List Nat):List (Nat×IV)->List (Nat×IV)
 | []=>[]
 | (t,x)::r=>if memB t ks=true then (t,x)::keepB ks r else keepB ks r
def keepOB(ks:List Nat):List (Nat×Ob)->List (Nat×Ob)
 | []=>[]
 | (t,x)::r=>if memB t ks=true then (t,x)::keepOB ks r else keepOB ks r
theorem Zb6{ks:List Nat}:∀{e:List (Nat×IV)},V9 ks e=keepB ks e
 | []=>rfl
 | (t,x)::r=>by
  simp only[V9,keepB,Zb6 (e:=r),XU]
theorem Zb7{ks:List Nat}:∀{e:List (Nat×Ob)},Qw ks e=keepOB ks e
 | []=>rfl
 | (t,x)::r=>by
  simp only[Qw,keepOB,Zb7 (e:=r),XU]
theorem Zpw{ks js:List Nat}:fgt ks js ⟨lvl,env,loc,out⟩=⟨lvl,keepB ks env,keepOB js loc,out⟩:=by
 simp only[fgt,Zb6,Zb7]
theorem Zpx{ks js:List Nat}:clean ks js ⟨lvl,env,loc,out⟩=(XF lvl js (keepB ks env)/\Vq lvl js (keepOB js loc)):=by
 simp only[clean,Zb6,Zb7]
theorem Zpy{js:List Nat}{k:Nat}{p:Zh}{off len s:Nat}{cap:Option Nat}:JO lvl js (.hd (lvl,k) p off len cap s)=(memB k js=true):=by
 apply propext
 simp only[JO,men,forall_const,XU]
theorem Zpz{js:List Nat}{k off:Nat}:JO lvl js (.ab (lvl,k) off)=(memB k js=true):=by
 apply propext
 simp only[JO,men,forall_const,XU]
theorem ZpA{js:List Nat}{k:Nat}:JO lvl js (.sv (lvl,k))=(memB k js=true):=by
 apply propext
 simp only[JO,men,forall_const,XU]
theorem ZpB{js:List Nat}{k:Nat}{p:Zh}{i f s:Nat}:JO lvl js (.ae (lvl,k) p i f s)=(memB k js=true):=by
 apply propext
 simp only[JO,men,forall_const,XU]
theorem ZM{js:List Nat}{id:Zd}{p:Zh}{off len s:Nat}{cap:Option Nat}(h:id.1≠lvl):JO lvl js (.hd id p off len cap s)=True:=by
 apply propext
 simp only[JO,men,iff_true]
 exact fun hh=>absurd hh h
theorem ZpC{js:List Nat}{t:Tr}:JO lvl js (.tr t)=True:=(rfl)
theorem ZpD{js:List Nat}{es:Ze}:JO lvl js (.cs es)=True:=(rfl)
theorem ZpE{js:List Nat}{l:List IV}:JO lvl js (.ag l)=Vd lvl js l:=by simp only[JO,Vd,men]
theorem ZpF{js:List Nat}{l:List IV}:JO lvl js (.tu l)=Vd lvl js l:=by simp only[JO,Vd,men]
theorem ZpG{js:List Nat}{f:FuncId}{l:List IV}:JO lvl js (.fn f l)=Vd lvl js l:=by simp only[JO,Vd,men]
theorem ZpH{js:List Nat}:JO lvl js .un=True:=(rfl)
theorem ZpI{js:List Nat}:JO lvl js .er=True:=(rfl)
theorem ZpJ{js:List Nat}{l:List Tr}:JO lvl js (.ta l)=True:=(rfl)
theorem ZpK{js:List Nat}:Vd lvl js []=True:=(rfl)
theorem ZpL{js:List Nat}{x:IV}{r:List IV}:Vd lvl js (x::r)=(JO lvl js x/\Vd lvl js r):=(rfl)
theorem ZpM{js:List Nat}:XF lvl js []=True:=(rfl)
theorem ZpN{js:List Nat}{t:Nat}{x:IV}{r:List (Nat×IV)}:XF lvl js ((t,x)::r)=(JO lvl js x/\XF lvl js r):=(rfl)
theorem ZpO{js:List Nat}:Vq lvl js []=True:=(rfl)
theorem ZpP{js:List Nat}{t:Nat}{x:List IV}{r:List (Nat×Ob)}:Vq lvl js ((t,.bx x)::r)=(Vd lvl js x/\Vq lvl js r):=(rfl)
theorem ZpQ{js:List Nat}{t k:Nat}{es:Ze}{u:Bool}{hw ver:Nat}{r:List (Nat×Ob)}:Vq lvl js ((t,.ar k es u hw ver)::r)=Vq lvl js r:=(rfl)
theorem ZpR{js:List Nat}{t:Nat}{l:List (Int×Int)}{r:List (Nat×Ob)}:Vq lvl js ((t,.mp l)::r)=Vq lvl js r:=(rfl)
def Xs(ks js:List Nat)(J:St->Prop)(Q:Ex->St->Prop):Ex->St->Prop:=fun e s' => match e with | .nrm=>clean ks js s'/\J (fgt ks js s') | e=>Q e s'
theorem ZpS{ks js:List Nat}{J:St->Prop}:Xs ks js J Q .nrm st=(clean ks js st/\J (fgt ks js st)):=(rfl)
theorem ZpT{ks js:List Nat}{J:St->Prop}{i:Nat}:Xs ks js J Q (.ext i) st=Q (.ext i) st:=(rfl)
theorem ZpU{ks js:List Nat}{J:St->Prop}:Xs ks js J Q .ret st=Q .ret st:=(rfl)
theorem Zga{ks js:List Nat}{c:C2}(I:Nat->St->Prop)(n0:Nat)(h0:clean ks js st/\I n0 (fgt ks js st))(hs:∀ n s,I n s->wp C c s (Xs ks js (fun s' => ∃ m,m<n/\I m s') Q)):wp C (.lp ks js c) st Q:=by
 refine⟨I,⟨h0.1,n0,h0.2⟩,fun n s hI=>?_⟩
 have h:=hs n s hI
 have e:(Xs ks js (fun s' => ∃ m,m<n/\I m s') Q)=fun e s' => match e with | .nrm=>clean ks js s'/\∃ m,m<n/\I m (fgt ks js s') | e=>Q e s':=by
  funext e s';cases e <;> rfl
 rw[e] at h
 exact h
def Zb8{α:Type}(N:Nat)(mk:Nat->α->St)(A:Nat->α->Prop)(n:Nat)(s':St):Prop:=∃ m,m<n/\∃ k x,k+m=N/\s'=mk k x/\A k x
theorem ZI{α:Type}{N:Nat}{mk:Nat->α->St}{A:Nat->α->Prop}{k:Nat}{s':St}(y:α)(hk:k<N)(h:s'=mk (k+1) y)(ha:A (k+1) y):Zb8 N mk A (N-k) s':=⟨N-(k+1),by omega,k+1,y,by omega,h,ha⟩
theorem J7{α:Type}{ks js:List Nat}{c:C2}(N:Nat)(mk:Nat->α->St)(A:Nat->α->Prop)(x0:α)(h0:clean ks js st/\fgt ks js st=mk 0 x0)(hA:A 0 x0)
  (hs:∀ k x,k<=N->A k x->wp C c (mk k x) (Xs ks js (Zb8 N mk A (N-k)) Q)):wp C (.lp ks js c) st Q:=by
 refine Zga (fun n s=>∃ k x,k+n=N/\s=mk k x/\A k x) N ⟨h0.1,0,x0,by omega,h0.2,hA⟩ (fun n s ⟨k,x,hk,he,ha⟩=>?_)
 subst he
 have h:=hs k x (by omega) ha
 have hn:N-k=n:=by omega
 rw[hn] at h
 exact h
end
end Go.Fd

namespace Go.Fd
section
variable {C:ZG} {lvl:Nat} {env:List (Nat×IV)} {loc:List (Nat×Ob)} {out:Zc} {d:Option Nat} {K:St->Prop} {st:St}
def st2(v:Option (List IV))(m:Nat)(p:IV)(d:Option Nat)(st:St)(K:St->Prop):Prop :=
 match v with
 | some l=>d=none/\l.length=m /\
  match p with
  | .ab id off =>
   match st.sto id with
   | some (.bx cells)=>off+l.length<=cells.length/\Z9 (id.1+1) l/\K (Zi st id (.bx (JH cells off l)))
   | _=>False
  | .ae id p i f s=>Yf id p i s f l st K
  | _=>False
 | none=>False
theorem ZpV{m:Nat}{p x:X}:Zu C d (.st m p x) ⟨lvl,env,loc,out⟩ K=st2 (cellsOf (xv env x)) m (xv env p) d ⟨lvl,env,loc,out⟩ K:=by
 rw[Ju rfl]
 simp only[ew]
 generalize cellsOf (xv env x)=v
 cases v with
 | none=>simp [st2]
 | some l=>rfl
def stb(o:Option Ob)(id:Zd)(off:Nat)(l:List IV)(st:St)(K:St->Prop):Prop :=
 match o with
 | some (.bx cells)=>off+l.length<=cells.length/\Z9 (id.1+1) l/\K (Zi st id (.bx (JH cells off l)))
 | _=>False
theorem ZpW{m:Nat}{l:List IV}{id:Zd}{off:Nat}:st2 (some l) m (.ab id off) d ⟨lvl,env,loc,out⟩ K=(d=none/\l.length=m/\stb (ZE lvl loc out id) id off l ⟨lvl,env,loc,out⟩ K):=(rfl)
theorem ZpX{m:Nat}{l:List IV}{id:Zd}{p:Zh}{i f s:Nat}:st2 (some l) m (.ae id p i f s) d st K=(d=none/\l.length=m/\Yf id p i s f l st K):=(rfl)
theorem ZpY{cells l:List IV}{id:Zd}{off:Nat}:stb (some (.bx cells)) id off l st K=(off+l.length<=cells.length/\Z9 (id.1+1) l/\K (Zi st id (.bx (JH cells off l)))):=(rfl)
theorem YL{cs:List IV}{off:Nat}:JH cs off []=cs:=(rfl)
theorem YM{cs:List IV}{off:Nat}{x:IV}{r:List IV}:JH cs off (x::r)=JH (cs.set off x) (off+1) r:=(rfl)
theorem ZpZ{l:Nat}:Z9 l []=True:=(rfl)
theorem Zp0{l:Nat}{x:IV}{r:List IV}:Z9 l (x::r)=(low l x/\Z9 l r):=(rfl)
theorem Zp1{l:Nat}{t:Tr}:low l (.tr t)=True:=(rfl)
theorem Zp2{l:Nat}{es:Ze}:low l (.cs es)=True:=(rfl)
theorem Zp3{l k:Nat}{p:Zh}{off len s:Nat}{cap:Option Nat}:low (l+1) (.hd (l,k) p off len cap s)=True:=by
 apply propext;simp [low,men]
theorem Zp4{l k off:Nat}:low (l+1) (.ab (l,k) off)=True:=by
 apply propext;simp [low,men]
theorem Zp5{l:Nat}{c:List IV}:low l (.ag c)=Z9 l c:=by simp only[low,Z9,men]
theorem Zp6{l:Nat}{c:List IV}:low l (.tu c)=Z9 l c:=by simp only[low,Z9,men]
theorem Zp7{l k:Nat}{es:Ze}{u:Bool}:low l (.ow k es u)=True:=(rfl)
theorem Zp8{l:Nat}:low l .un=True:=(rfl)
theorem Zp9{l:Nat}:low l .er=True:=(rfl)
theorem Zqa{l:Nat}{c:List Tr}:low l (.ta c)=True:=(rfl)
def kst(id:Zd)(p:Zh)(i s f:Nat)(r:List IV)(K:St->Prop)(st':St):Prop:=Yf id p i s f r st' K
theorem Zqb{id:Zd}{p:Zh}{i s f:Nat}{r:List IV}:kst id p i s f r K st=Yf id p i s f r st K:=(rfl)
theorem Zqc{id:Zd}{p:Zh}{i s f:Nat}:Yf id p i s f [] st K=K st:=(rfl)
def sc1(o:Option Ob)(id:Zd)(p:Zh)(i f s:Nat)(x:IV)(st:St)(K:St->Prop):Prop :=
 match o with
 | some (.ar k es u hw ver)=>JE p s hw ver u/\Z7 (getp es p) fun es' => Z7 es'[i]? fun e=>Z7 e[f]? fun t0 =>
  match x with
  | .tr (.v y)=>isSc t0=true/\K (Zi st id (.ar k (ZO es p i f (.v y)) u hw ver))
  | .cs []=>p=[]/\K (Zi st id (.ar k (ZO es [] i f (.sl [])) u hw (ver+1)))
  | .cs zs=>p=[]/\K (Zi st id (.ar k (ZO es [] i f (.sl zs)) false hw (ver+1)))
  | .tr (.sl zs)=>p=[]/\K (Zi st id (.ar k (ZO es [] i f (.sl zs)) false hw (ver+1)))
  | .hd id2 [] 0 len none s2=>p=[]/\id2≠id/\id2.1=st.lvl /\
   match st.sto id2 with
   | some (.ar _ zs u2 hw2 _)=>s2=hw2/\len=zs.length/\K (Zi (Zp id2 st) id (.ar k (ZO es [] i f (.sl zs)) (u&&u2) hw (ver+1)))
   | _=>False
  | .hd id2 [(a,b)] 0 len none s2=>p=[]/\id2=id/\a=i/\b=f/\u=true/\s2=ver/\X5 t0=some len/\K (Zi st id (.ar k es u hw ver))
  | _=>False
 | _=>False
theorem Zqd{id:Zd}{p:Zh}{i s f:Nat}{x:IV}{r:List IV}:Yf id p i s f (x::r) ⟨lvl,env,loc,out⟩ K=sc1 (ZE lvl loc out id) id p i f s x ⟨lvl,env,loc,out⟩ (kst id p i s (f+1) r K):=by
 simp only[Yf,Qu,sc1]
 rw[show (⟨lvl,env,loc,out⟩:St).sto id=ZE lvl loc out id from rfl]
 generalize ZE lvl loc out id=o
 cases o with
 | none=>rfl
 | some ob =>
  cases ob with
  | bx=>rfl
  | mp=>rfl
  | ar k es u hw ver =>
   dsimp only
   rw[<-Yk]
   apply propext
   constructor
   ·rintro⟨es',h1,h2,e,h3,t0,h4,h5⟩
    refine⟨h2,es',h1,?_⟩
    rw[h3]
    simp only[Z7]
    rw[h4]
    exact h5
   ·rintro⟨h2,es',h1,h3⟩
    rw[<-Yk] at h3
    obtain⟨e,h3,h4⟩:=h3
    rw[<-Yk] at h4
    obtain⟨t0,h4,h5⟩:=h4
    exact⟨es',h1,h2,e,h3,t0,h4,h5⟩
def Xt(k:Nat)(es:Ze)(u:Bool)(hw ver:Nat)(id:Zd)(p:Zh)(i f:Nat)(x:IV)(st:St)(K:St->Prop)(t0:Tr):Prop :=
  match x with
  | .tr (.v y)=>isSc t0=true/\K (Zi st id (.ar k (ZO es p i f (.v y)) u hw ver))
  | .cs []=>p=[]/\K (Zi st id (.ar k (ZO es [] i f (.sl [])) u hw (ver+1)))
  | .cs zs=>p=[]/\K (Zi st id (.ar k (ZO es [] i f (.sl zs)) false hw (ver+1)))
  | .tr (.sl zs)=>p=[]/\K (Zi st id (.ar k (ZO es [] i f (.sl zs)) false hw (ver+1)))
  | .hd id2 [] 0 len none s2=>p=[]/\id2≠id/\id2.1=st.lvl /\
   match st.sto id2 with
   | some (.ar _ zs u2 hw2 _)=>s2=hw2/\len=zs.length/\K (Zi (Zp id2 st) id (.ar k (ZO es [] i f (.sl zs)) (u&&u2) hw (ver+1)))
   | _=>False
  | .hd id2 [(a,b)] 0 len none s2=>p=[]/\id2=id/\a=i/\b=f/\u=true/\s2=ver/\X5 t0=some len/\K (Zi st id (.ar k es u hw ver))
  | _=>False
def sc3(k:Nat)(es:Ze)(u:Bool)(hw ver:Nat)(id:Zd)(p:Zh)(i f:Nat)(x:IV)(st:St)(K:St->Prop)(e:List Tr):Prop:=Z7 e[f]? (Xt k es u hw ver id p i f x st K)
def sc4(k:Nat)(es:Ze)(u:Bool)(hw ver:Nat)(id:Zd)(p:Zh)(i f:Nat)(x:IV)(st:St)(K:St->Prop)(es':Ze):Prop:=Z7 es'[i]? (sc3 k es u hw ver id p i f x st K)
section sc
variable {k:Nat} {es:Ze} {u:Bool} {hw ver:Nat} {id:Zd} {p:Zh} {i f s:Nat} {x:IV}
theorem Zqe:sc1 (some (.ar k es u hw ver)) id p i f s x st K=(JE p s hw ver u/\Z7 (getp es p) (sc4 k es u hw ver id p i f x st K)):=(rfl)
theorem Zqf{e:List Tr}:sc3 k es u hw ver id p i f x st K e=Z7 e[f]? (Xt k es u hw ver id p i f x st K):=(rfl)
theorem Zqg{es':Ze}:sc4 k es u hw ver id p i f x st K es'=Z7 es'[i]? (sc3 k es u hw ver id p i f x st K):=(rfl)
theorem Zqh{y:Value}{t0:Tr}:Xt k es u hw ver id p i f (.tr (.v y)) st K t0=(isSc t0=true/\K (Zi st id (.ar k (ZO es p i f (.v y)) u hw ver))):=(rfl)
theorem Zqi{t0:Tr}:Xt k es u hw ver id p i f (.cs []) st K t0=(p=[]/\K (Zi st id (.ar k (ZO es [] i f (.sl [])) u hw (ver+1)))):=(rfl)
theorem Zqj{zs:Ze}{t0:Tr}:Xt k es u hw ver id p i f (.tr (.sl zs)) st K t0=(p=[]/\K (Zi st id (.ar k (ZO es [] i f (.sl zs)) false hw (ver+1)))):=(rfl)
def sc5(o:Option Ob)(k:Nat)(es:Ze)(u:Bool)(hw ver:Nat)(id:Zd)(i f len s2:Nat)(st2 st:St)(K:St->Prop):Prop :=
 match o with
 | some (.ar _ zs u2 hw2 _)=>s2=hw2/\len=zs.length/\K (Zi st2 id (.ar k (ZO es [] i f (.sl zs)) (u&&u2) hw (ver+1)))
 | _=>False
theorem Zqk{key len s2:Nat}{t0:Tr}:Xt k es u hw ver id p i f (.hd (lvl,key) [] 0 len none s2) ⟨lvl,env,loc,out⟩ K t0=(p=[]/\(lvl,key)≠id/\sc5 (lkO key loc) k es u hw ver id i f len s2 (Zp (lvl,key) ⟨lvl,env,loc,out⟩) ⟨lvl,env,loc,out⟩ K):=by
 simp only[Xt]
 rw[show (⟨lvl,env,loc,out⟩:St).sto (lvl,key)=lkO key loc from JA]
 generalize lkO key loc=o
 apply propext
 constructor
 ·rintro⟨h1,h2,_,h3⟩
  refine⟨h1,h2,?_⟩
  cases o with
  | none=>exact h3
  | some ob=>cases ob <;> exact h3
 ·rintro⟨h1,h2,h3⟩
  refine⟨h1,h2,trivial,?_⟩
  cases o with
  | none=>exact h3
  | some ob=>cases ob <;> exact h3
theorem Zql{id2:Zd}{a b len s2:Nat}{t0:Tr}:Xt k es u hw ver id p i f (.hd id2 [(a,b)] 0 len none s2) st K t0=(p=[]/\id2=id/\a=i/\b=f/\u=true/\s2=ver/\X5 t0=some len/\K (Zi st id (.ar k es u hw ver))):=(rfl)
theorem Zqm{es:Ze}:X5 (.sl es)=some es.length:=(rfl)
theorem Zqn{k2:Nat}{zs:Ze}{u2:Bool}{hw2 ver2 len s2:Nat}{st2:St}:sc5 (some (.ar k2 zs u2 hw2 ver2)) k es u hw ver id i f len s2 st2 st K=(s2=hw2/\len=zs.length/\K (Zi st2 id (.ar k (ZO es [] i f (.sl zs)) (u&&u2) hw (ver+1)))):=(rfl)
end sc
theorem Zqo{k n:Nat}{z:List Value}{ps:List (Nat×X)}:Zu C d (.bw k n z ps) ⟨lvl,env,loc,out⟩ K=ew C d ⟨lvl,env,loc,out⟩ K (.bw k n z ps):=Ju rfl
def kbw(k lvl:Nat)(d:Option Nat)(K:St->Prop)(ts:List Tr)(u:Bool)(st':St):Prop :=
 K { Zi st' (lvl,keyOf d) (.ar k [ts] u 1 0) with env:=ptd d (.hd (lvl,keyOf d) [] 0 1 none 1) st'.env }
theorem Zqp{k:Nat}{ts:List Tr}{u:Bool}:kbw k lvl d K ts u ⟨lvl,env,loc,out⟩=K ⟨lvl,ptd d (.hd (lvl,keyOf d) [] 0 1 none 1) env,ptO (keyOf d) (.ar k [ts] u 1 0) loc,out⟩:=by
 simp only[kbw,Xq]
def bw2(v:Option (List IV))(k n:Nat)(d:Option Nat)(loc:List (Nat×Ob))(lvl:Nat)(st:St)(K:St->Prop):Prop :=
 match v with
 | some l=>n=1/\l.length=k/\freshK (keyOf d) loc 1/\Yp l st (kbw k lvl d K)
 | none=>False
theorem Zqq{k n:Nat}{z:List Value}{x:X}:ew C d ⟨lvl,env,loc,out⟩ K (.bw k n z [(0,x)])=bw2 (cellsOf (xv env x)) k n d loc lvl ⟨lvl,env,loc,out⟩ K:=by
 simp only[ew]
 generalize cellsOf (xv env x)=v
 cases v with
 | none=>simp [bw2]
 | some l=>rfl
theorem Zqr{k n:Nat}{l:List IV}:bw2 (some l) k n d loc lvl st K=(n=1/\l.length=k/\freshK (keyOf d) loc 1/\Yp l st (kbw k lvl d K)):=(rfl)
def kmv(r:List IV)(F:List Tr->Bool->St->Prop)(t:Tr)(a:Bool)(st':St):Prop:=Yp r st' fun ts b st'' => F (t::ts) (a&&b) st''
def kmc(t:Tr)(a:Bool)(F:List Tr->Bool->St->Prop)(ts:List Tr)(b:Bool)(st'':St):Prop:=F (t::ts) (a&&b) st''
section mv
variable {r:List IV} {F:List Tr->Bool->St->Prop} {F1:Tr->Bool->St->Prop}
theorem Zqs{t:Tr}{a:Bool}:kmv r F t a st=Yp r st (kmc t a F):=(rfl)
theorem Zqt{t:Tr}{a:Bool}{ts:List Tr}{b:Bool}:kmc t a F ts b st=F (t::ts) (a&&b) st:=(rfl)
theorem Zqu:Yp [] st F=F [] true st:=(rfl)
theorem Zqv{x:IV}:Yp (x::r) st F=V7 st x (kmv r F):=(rfl)
theorem Zqw{y:Value}:V7 st (.tr (.v y)) F1=F1 (.v y) true st:=(rfl)
theorem Zqx{es:Ze}:V7 st (.tr (.sl es)) F1=F1 (.sl es) false st:=(rfl)
theorem Zqy:V7 st (.cs []) F1=F1 (.sl []) true st:=(rfl)
def mv5(o:Option Ob)(len s2:Nat)(st1:St)(F1:Tr->Bool->St->Prop):Prop :=
 match o with
 | some (.ar _ zs u2 hw2 _)=>s2=hw2/\len=zs.length/\F1 (.sl zs) u2 st1
 | _=>False
theorem Zqz{key len s2:Nat}:V7 ⟨lvl,env,loc,out⟩ (.hd (lvl,key) [] 0 len none s2) F1=mv5 (lkO key loc) len s2 (Zp (lvl,key) ⟨lvl,env,loc,out⟩) F1:=by
 simp only[V7]
 rw[show (⟨lvl,env,loc,out⟩:St).sto (lvl,key)=lkO key loc from JA]
 generalize lkO key loc=o
 apply propext
 constructor
 ·rintro⟨_,h3⟩
  cases o with
  | none=>exact h3
  | some ob=>cases ob <;> exact h3
 ·intro h3
  refine⟨trivial,?_⟩
  cases o with
  | none=>exact h3
  | some ob=>cases ob <;> exact h3
theorem ZqA{k2:Nat}{zs:Ze}{u2:Bool}{hw2 ver2 len s2:Nat}:mv5 (some (.ar k2 zs u2 hw2 ver2)) len s2 st F1=(s2=hw2/\len=zs.length/\F1 (.sl zs) u2 st):=(rfl)
end mv
def Us:IV->Prop
 | .hd _ [] 0 _ none _=>True
 | _=>False
theorem ZqB{id:Zd}{len s:Nat}:Us (.hd id [] 0 len none s)=True:=(rfl)
def Xu:List IV->Prop
 | []=>True
 | .tr (.v _)::r=>Xu r
 | _=>False
theorem ZqC:Xu []=True:=(rfl)
theorem ZqD{y:Value}{r:List IV}:Xu (.tr (.v y)::r)=Xu r:=(rfl)
def smp(p:IV)(l:Option (List IV)):Prop :=
 match p with
 | .ab .. => True
 | .ae .. => l≠some []/\Xu (l.getD [])
 | _=>False
theorem ZqE{id:Zd}{off:Nat}{l:Option (List IV)}:smp (.ab id off) l=True:=(rfl)
theorem ZqF{id:Zd}{p:Zh}{i f s:Nat}{x:IV}{r:List IV}:smp (.ae id p i f s) (some (x::r))=Xu (x::r):=by simp [smp]
theorem Zgb{id:Zd}{p:Zh}{i s k:Nat}{u:Bool}{hw ver:Nat}:∀(l:List IV) (f:Nat) (es:Ze) (st0:St) (K:St->Prop),Xu l->st0.sto id=some (.ar k es u hw ver)->Yf id p i s f l st0 K->VJ p i f l es (fun es' => K (Zi st0 id (.ar k es' u hw ver)))\/l=[]
 | [],f,es,st0,K,_,_,h=>.inr rfl
 | x::r,f,es,st0,K,ha,hs,h=>by
  refine .inl ?_
  simp only[Yf,Qu] at h
  rw[hs] at h
  obtain⟨es',hg,hst,e,hi,t0,hf,h⟩:=h
  cases x with
  | tr t =>
   cases t with
   | v y =>
    obtain⟨hsc,h⟩:=h
    simp only[VJ]
    refine⟨es',hg,e,hi,t0,hf,hsc,?_⟩
    have hs1:(Zi st0 id (.ar k (ZO es p i f (.v y)) u hw ver)).sto id=some (.ar k (ZO es p i f (.v y)) u hw ver):=by rw[J0];unfold Zj;rw[if_pos rfl]
    rcases Zgb r (f+1) _ _ K ha hs1 h with g | g
    ·simp only[Dz] at g
     exact g
    ·subst g
     exact h
   | sl=>cases ha
  | _=>cases ha
theorem ZqG{m:Nat}{p x:X}:Zu C d (.s0 m p x) ⟨lvl,env,loc,out⟩ K=(smp (xv env p) (cellsOf (xv env x))/\Zu C d (.st m p x) ⟨lvl,env,loc,out⟩ K):=by
 rw[Ju rfl,Ju rfl]
 simp only[ew,Jm]
 generalize cellsOf (xv env x)=v
 generalize xv env p=q
 apply propext
 constructor
 ·rintro⟨h0,h⟩
  split at h <;> try contradiction
  rename_i l
  obtain⟨h1,h⟩:=h
  split at h <;> try contradiction
  ·exact⟨trivial,h0,h1,h⟩
  ·rename_i id p i f s
   split at h <;> try contradiction
   rename_i k es u hw ver hs
   obtain⟨g1,g2,g3⟩:=h
   refine⟨⟨by simpa using g1,?_⟩,h0,h1,Zbz g2 l f es _ K hs g3 (fun e=>absurd e g1)⟩
   have:∀(l:List IV) (f:Nat) (es:Ze) (K:Ze->Prop),VJ p i f l es K->Xu l:=by
    intro l
    induction l with
    | nil=>intros;trivial
    | cons x r ih =>
     intro f es K h
     simp only[VJ] at h
     obtain⟨_,_,_,_,_,_,_,h⟩:=h
     split at h <;> try contradiction
     exact ih _ _ _ h
   exact this _ _ _ _ g3
 ·rintro⟨h3,h0,h⟩
  refine⟨h0,?_⟩
  split at h <;> try contradiction
  rename_i l
  obtain⟨h1,h⟩:=h
  refine⟨h1,?_⟩
  split at h <;> try contradiction
  ·exact h
  ·rename_i id p i f s
   obtain⟨g1,g2⟩:=h3
   cases l with
   | nil=>exact absurd rfl g1
   | cons y r =>
    have h':=h
    simp only[Yf,Qu] at h'
    split at h' <;> try contradiction
    rename_i k es u hw ver hs
    refine⟨by simp,h'.choose_spec.2.1,?_⟩
    rcases Zgb _ _ _ _ K g2 hs h with g | g
    ·exact g
    ·cases g
theorem ZqH{k:Nat}{x y:X}:Zu C d (.a0 k x y) ⟨lvl,env,loc,out⟩ K=(Us (xv env x)/\Zu C d (.ap k 0 x y) ⟨lvl,env,loc,out⟩ K):=by
 rw[Ju rfl,Ju rfl]
 apply propext
 constructor
 ·intro he
  refine⟨?_,ZeE he⟩
  simp only[ew,Jm] at he
  split at he <;> try contradiction
  rename_i hx
  rw[hx];trivial
 ·rintro⟨h1,h⟩
  generalize hq:xv env x=q at h1
  unfold Us at h1
  split at h1 <;> try contradiction
  rename_i id len s
  have go:∀ items:Ze,ScR items->Jb d k x loc items true ⟨lvl,env,loc,out⟩ K->match ZE lvl loc out id with
   | some (.ar k' es u hw ver)=>k'=k/\s=hw/\len=es.length/\ScR items/\ZA k items/\len+items.length<=bigN /\
     K { Zi ⟨lvl,env,loc,out⟩ id (.ar k (es++items) u (max hw (len+items.length)) ver) with env:=ptd d (.hd id [] 0 (len+items.length) none (max hw (len+items.length))) env }
   | _=>False:=fun items hsc h=>by
   unfold Jb at h
   obtain⟨g1,h⟩:=h
   simp only[hq] at h
   rw[show (⟨lvl,env,loc,out⟩:St).sto id=ZE lvl loc out id from rfl] at h
   generalize ZE lvl loc out id=o at h ⊢
   cases o with
   | none=>exact h
   | some ob =>
    cases ob with
    | bx=>exact h
    | mp=>exact h
    | ar k' es u hw ver =>
     simp only[Ubo] at h
     exact⟨h.1,h.2.1,h.2.2.1,hsc,g1,h.2.2.2.1,h.2.2.2.2⟩
  simp only[ew,Jm,YE] at h ⊢
  rw[hq]
  rw[show (⟨lvl,env,loc,out⟩:St).sto=ZE lvl loc out from rfl] at *
  split at h <;> try contradiction
  ·rename_i zs hy
   simp only[if_true] at h
   have:=go zs h.1 h.2
   rw[hy]
   exact this
  ·rename_i zs hy
   simp only[if_true] at h
   have:=go zs h.1 h.2
   rw[hy]
   exact this
  ·rename_i id2 p2 off2 len2 c2 s2 hy
   simp only[if_true] at h
   rw[hy]
   dsimp only
   unfold Jz at h ⊢
   generalize ZE lvl loc out id2=o3 at h ⊢
   cases o3 with
   | none=>exact h.elim
   | some ob3 =>
    cases ob3 with
    | bx=>exact h.elim
    | mp=>exact h.elim
    | ar k3 es3 u3 hw3 ver3 =>
     obtain⟨es',q1,q2,q3,q4,q5⟩:=h
     have:=go _ q4 q5
     split at this <;> try contradiction
     rename_i hs
     show (match ZE lvl loc out id with
      | some (.ar k' es u hw ver)=>k'=k/\s=hw/\len=es.length/\∃ es',getp es3 p2=some es'/\JE p2 s2 hw3 ver3 u3/\off2+len2<=es'.length/\ScR (cut es' off2 len2)/\ZA k (cut es' off2 len2)/\len+(cut es' off2 len2).length<=bigN /\
        K { Zi ⟨lvl,env,loc,out⟩ id (.ar k (es++cut es' off2 len2) u (max hw (len+(cut es' off2 len2).length)) ver) with env:=ptd d (.hd id [] 0 (len+(cut es' off2 len2).length) none (max hw (len+(cut es' off2 len2).length))) env }
      | _=>False)
     rw[hs]
     exact⟨this.1,this.2.1,this.2.2.1,es',q1,q2,q3,this.2.2.2⟩
  ·exact absurd h.1 (by decide)
def Zab:IV->Prop
 | .tr (.sl _)=>True
 | .cs _=>True
 | _=>False
theorem ZqI{es:Ze}:Zab (.tr (.sl es))=True:=(rfl)
theorem ZqJ{es:Ze}:Zab (.cs es)=True:=(rfl)
theorem ZqK{k:Nat}{x y:X}:Zu C d (.a1 k x y) ⟨lvl,env,loc,out⟩ K=(Us (xv env x)/\Zab (xv env y)/\Zu C d (.ap k 1 x y) ⟨lvl,env,loc,out⟩ K):=by
 rw[Ju rfl,Ju rfl]
 apply propext
 constructor
 ·intro he
  refine⟨?_,?_,ZeF he⟩
  ·simp only[ew,Jm] at he
   split at he <;> try contradiction
   rename_i hx
   rw[hx];trivial
  ·simp only[ew,Jm] at he
   split at he <;> try contradiction
   split at he <;> try contradiction
   have h4:=he.2.2.2
   unfold X6 at h4
   split at h4 <;> try contradiction
   ·rename_i hy;rw[hy];trivial
   ·rename_i hy;rw[hy];trivial
 ·rintro⟨h1,h2,h⟩
  generalize hq:xv env x=q at h1
  unfold Us at h1
  split at h1 <;> try contradiction
  rename_i id len s
  have go:∀ items:Ze,Jb d k x loc items false ⟨lvl,env,loc,out⟩ K->match ZE lvl loc out id with
   | some (.ar k' es u hw ver)=>k'=k/\s=hw/\len=es.length/\ZA k items/\len+items.length<=bigN /\
     K { Zi ⟨lvl,env,loc,out⟩ id (.ar k (es++items) false (max hw (len+items.length)) ver) with env:=ptd d (.hd id [] 0 (len+items.length) none (max hw (len+items.length))) env }
   | _=>False:=fun items h=>by
   unfold Jb at h
   obtain⟨g1,h⟩:=h
   simp only[hq] at h
   rw[show (⟨lvl,env,loc,out⟩:St).sto id=ZE lvl loc out id from rfl] at h
   generalize ZE lvl loc out id=o at h ⊢
   cases o with
   | none=>exact h
   | some ob =>
    cases ob with
    | bx=>exact h
    | mp=>exact h
    | ar k' es u hw ver =>
     simp only[Bool.and_false] at h
     exact⟨h.1,h.2.1,h.2.2.1,g1,h.2.2.2.1,h.2.2.2.2⟩
  simp only[ew,Jm,X6] at h ⊢
  rw[hq]
  rw[show (⟨lvl,env,loc,out⟩:St).sto=ZE lvl loc out from rfl] at *
  generalize hy:xv env y=yv at h h2 ⊢
  unfold Zab at h2
  split at h2 <;> try contradiction
  ·simp only[Nat.reduceEqDiff,if_false,true_and] at h
   exact go _ h
  ·simp only[Nat.reduceEqDiff,if_false,true_and] at h
   exact go _ h
def az1(x n:IV)(d:Option Nat)(k:Nat)(z:List Value)(st:St)(K:St->Prop):Prop :=
 match x with
 | .cs [] =>
  match n with
  | .tr (.v (.int .i64 m))=>0<m/\m<=bigN/\freshK (keyOf d) st.loc 1 /\
    K { Zi st (st.lvl,keyOf d) (.ar k (List.replicate m.toNat (z.map trv)) true m.toNat 0) with env:=ptd d (.hd (st.lvl,keyOf d) [] 0 m.toNat none m.toNat) st.env }
  | _=>False
 | _=>False
theorem ZqL{k:Nat}{z:List Value}{x n:X}:Zu C d (.az k z x n) ⟨lvl,env,loc,out⟩ K=az1 (xv env x) (xv env n) d k z ⟨lvl,env,loc,out⟩ K:=by
 rw[Ju rfl]
 rfl
theorem ZqM{k:Nat}{z:List Value}{m:Int}:az1 (.cs []) (.tr (.v (.int .i64 m))) d k z ⟨lvl,env,loc,out⟩ K=(0<m/\m<=bigN/\freshK (keyOf d) loc 1/\K ⟨lvl,ptd d (.hd (lvl,keyOf d) [] 0 m.toNat none m.toNat) env,ptO (keyOf d) (.ar k (List.replicate m.toNat (z.map trv)) true m.toNat 0) loc,out⟩):=by
 simp only[az1,Xq]
def tbx:IV->Prop
 | .ta _=>True
 | _=>False
theorem ZqN{cells:List Tr}:tbx (.ta cells)=True:=(rfl)
theorem ZqO{m:Option Nat}{p:X}:Zu C d (.lt m p) ⟨lvl,env,loc,out⟩ K=(tbx (xv env p)/\Zu C d (.ld m p) ⟨lvl,env,loc,out⟩ K):=by
 cases m <;> (
  rw[JQ rfl,JQ rfl]
  simp only[ev]
  generalize hx:xv env p=q
  cases q <;> simp [tbx])
def av4(o:Option Ob)(id:Zd)(es:Ze)(hw ver len off2 len2 s2 k:Nat)(d:Option Nat)(st:St)(K:St->Prop):Prop :=
 match o with
 | some (.ar _ es2 false hw2 _)=>s2=hw2/\off2+len2<=es2.length/\ZA k (cut es2 off2 len2)/\len+(cut es2 off2 len2).length<=bigN /\
   K { Zi st id (.ar k (es++cut es2 off2 len2) false (max hw (len+(cut es2 off2 len2).length)) ver) with env:=ptd d (.hd id [] 0 (len+(cut es2 off2 len2).length) none (max hw (len+(cut es2 off2 len2).length))) st.env }
 | _=>False
def av3(y:IV)(id:Zd)(es:Ze)(hw ver len k:Nat)(d:Option Nat)(st:St)(K:St->Prop):Prop :=
 match y with
 | .hd id2 [] off2 len2 _ s2=>av4 (st.sto id2) id es hw ver len off2 len2 s2 k d st K
 | _=>False
def av2(o:Option Ob)(y:IV)(id:Zd)(len s k:Nat)(d:Option Nat)(st:St)(K:St->Prop):Prop :=
 match o with
 | some (.ar k' es _ hw ver)=>k'=k/\s=hw/\len=es.length/\av3 y id es hw ver len k d st K
 | _=>False
def av1(x y:IV)(k:Nat)(d:Option Nat)(st:St)(K:St->Prop):Prop :=
 match x with
 | .hd id [] 0 len none s=>av2 (st.sto id) y id len s k d st K
 | _=>False
theorem ZqP{k:Nat}{x y:X}:Zu C d (.a2 k x y) ⟨lvl,env,loc,out⟩ K=av1 (xv env x) (xv env y) k d ⟨lvl,env,loc,out⟩ K:=by
 rw[Ju rfl]
 rfl
theorem ZqQ{id:Zd}{len s k:Nat}{y:IV}:av1 (.hd id [] 0 len none s) y k d ⟨lvl,env,loc,out⟩ K=av2 (ZE lvl loc out id) y id len s k d ⟨lvl,env,loc,out⟩ K:=(rfl)
theorem ZqR{k' hw ver len s k:Nat}{es:Ze}{u:Bool}{y:IV}{id:Zd}:av2 (some (.ar k' es u hw ver)) y id len s k d st K=(k'=k/\s=hw/\len=es.length/\av3 y id es hw ver len k d st K):=(rfl)
theorem ZqS{id id2:Zd}{es:Ze}{hw ver len k off2 len2 s2:Nat}{c2:Option Nat}:av3 (.hd id2 [] off2 len2 c2 s2) id es hw ver len k d ⟨lvl,env,loc,out⟩ K=av4 (ZE lvl loc out id2) id es hw ver len off2 len2 s2 k d ⟨lvl,env,loc,out⟩ K:=(rfl)
theorem ZqT{key:Nat}{es es2:Ze}{k2 hw ver len off2 len2 s2 k hw2 ver2:Nat}:av4 (some (.ar k2 es2 false hw2 ver2)) (lvl,key) es hw ver len off2 len2 s2 k d ⟨lvl,env,loc,out⟩ K=(s2=hw2/\off2+len2<=es2.length/\ZA k (cut es2 off2 len2)/\len+(cut es2 off2 len2).length<=bigN /\
   K ⟨lvl,ptd d (.hd (lvl,key) [] 0 (len+(cut es2 off2 len2).length) none (max hw (len+(cut es2 off2 len2).length))) env,ptO key (.ar k (es++cut es2 off2 len2) false (max hw (len+(cut es2 off2 len2).length)) ver) loc,out⟩):=by
 simp only[av4,Xq]
def abx:IV->Prop
 | .ab .. => True
 | _=>False
theorem ZqU{id:Zd}{off:Nat}:abx (.ab id off)=True:=(rfl)
theorem ZqV{m:Option Nat}{p:X}:Zu C d (.lb m p none) ⟨lvl,env,loc,out⟩ K=(abx (xv env p)/\Zu C d (.ld m p) ⟨lvl,env,loc,out⟩ K):=by
 cases m <;> (
  rw[JQ rfl,JQ rfl]
  simp only[ev,Y1]
  generalize hx:xv env p=q
  cases q <;> simp [abx])
theorem ZqW{l i j:Nat}{a b:Nat}:Y0 (.ab (l,i) a) (.ab (l,j) b)=((i=j)=False):=by
 simp [Y0]
theorem ZqX{m:Option Nat}{p:X}{q:Nat}:Zu C d (.lb m p (some q)) ⟨lvl,env,loc,out⟩ K=(Y0 (xv env p) (xv env (.t q))/\Zu C d (.ld m p) ⟨lvl,env,loc,out⟩ K):=by
 cases m <;> (
  rw[JQ rfl,JQ rfl]
  simp only[ev,Y1]
  generalize hx:xv env p=q
  generalize hy:xv env (.t _)=y
  cases q <;> cases y <;> simp [Y0])
def Vy:IV->Prop
 | .tr (.sl _)=>True
 | .cs _=>True
 | _=>False
theorem ZqY{es:Ze}:Vy (.tr (.sl es))=True:=(rfl)
theorem ZqZ{es:Ze}:Vy (.cs es)=True:=(rfl)
theorem Zq0{k:Nat}{x:X}{lo hi mx:Option X}:Zu C d (.sy k x lo hi mx) ⟨lvl,env,loc,out⟩ K=(Vy (xv env x)/\Zu C d (.sx k x lo hi mx) ⟨lvl,env,loc,out⟩ K):=by
 rw[JQ rfl,JQ rfl]
 simp only[ev]
 generalize hx:xv env x=q
 cases q with
 | tr t =>
  cases t with
  | v=>simp [Vy]
  | sl es=>simp only[Vy,true_and]
 | cs es=>simp only[Vy,true_and]
 | _=>simp only[Vy,false_and]
def Qk(L:Zc)(k:Nat):IV->Prop
 | .tr (.sl _)=>True
 | .cs _=>True
 | .hd id [] _ _ _ _=>JF L id [] k
 | _=>False
theorem Zq1{L:Zc}{k:Nat}{es:Ze}:Qk L k (.tr (.sl es))=True:=(rfl)
theorem Zq2{L:Zc}{k:Nat}{es:Ze}:Qk L k (.cs es)=True:=(rfl)
theorem Zq3{L:Zc}{k:Nat}{id:Zd}{off len s:Nat}{cap:Option Nat}:Qk L k (.hd id [] off len cap s)=JF L id [] k:=(rfl)
def Zgc(m:Nat):Option Ob->Prop
 | some (.ar k _ _ _ _)=>k=m
 | _=>False
theorem Zq4{m k hw ver:Nat}{es:Ze}{u:Bool}:Zgc m (some (.ar k es u hw ver))=(k=m):=(rfl)
theorem Zq5{key m:Nat}:JF (ZE lvl loc out) (lvl,key) [] m=Zgc m (lkO key loc):=by
 unfold JF
 rw[JA]
 cases lkO key loc with
 | none=>rfl
 | some ob=>cases ob <;> rfl
theorem Zq6{k:Nat}{x:X}{lo hi mx:Option X}:Zu C d (.sw k x lo hi mx) ⟨lvl,env,loc,out⟩ K=(Qk (ZE lvl loc out) k (xv env x)/\Zu C d (.sx k x lo hi mx) ⟨lvl,env,loc,out⟩ K):=by
 rw[JQ rfl,JQ rfl]
 simp only[ev]
 generalize xv env x=q
 cases q with
 | tr t =>
  cases t with
  | v=>simp [Qk]
  | sl es=>simp only[Qk,true_and]
 | cs es=>simp only[Qk,true_and]
 | hd id p off len cap s =>
  cases p with
  | nil =>
   simp only[Qk]
   exact propext ⟨fun⟨hw,h⟩=>⟨hw,QI (fun a h=>QI (fun b h=>⟨h.1,h.2.1,QI (fun m g=>⟨g.1,g.2.1,hw,g.2.2⟩) h.2.2⟩) h) h⟩,fun⟨hw,h⟩=>⟨hw,QI (fun a h=>QI (fun b h=>⟨h.1,h.2.1,QI (fun m g=>⟨g.1,g.2.1,g.2.2.2⟩) h.2.2⟩) h) h⟩⟩
  | cons c r=>simp [Qk]
 | _=>simp [Qk]
theorem Zq7{k:Nat}{x i:X}:Zu C d (.it k x i) ⟨lvl,env,loc,out⟩ K=(Vy (xv env x)/\Zu C d (.ia k x i) ⟨lvl,env,loc,out⟩ K):=by
 rw[JQ rfl,JQ rfl]
 simp only[ev]
 generalize xv env x=q
 generalize xv env i=qi
 cases q with
 | tr t =>
  cases t with
  | v=>simp only[Vy,false_and];split <;> simp
  | sl es=>simp only[Vy,true_and]
 | cs es=>simp only[Vy,true_and]
 | _=>simp only[Vy,false_and];split <;> simp
def Ut(v:IV)(d:Option Nat)(k:Nat)(loc0:List (Nat×Ob))(items:Ze)(ui:Bool)(st1:St)(K:St->Prop):Prop :=
 ZA k items /\
 match v with
 | .cs zs=>(zs=[]\/items≠[])/\zs.length+items.length<=bigN/\ZA k zs/\freshK (keyOf d) loc0 1/\(zs=[]\/ui=false\/ScR zs) /\
  K { Zi st1 (st1.lvl,keyOf d) (.ar k (zs++items) ui (zs.length+items.length) 0) with env:=ptd d (.hd (st1.lvl,keyOf d) [] 0 (zs.length+items.length) none (zs.length+items.length)) st1.env }
 | .hd id [] 0 len none s =>
  match st1.sto id with
  | some (.ar k' es u hw ver)=>k'=k/\s=hw/\len=es.length/\len+items.length<=bigN /\
   K { Zi st1 id (.ar k (es++items) (u&&ui) (max hw (len+items.length)) ver) with env:=ptd d (.hd id [] 0 (len+items.length) none (max hw (len+items.length))) st1.env }
  | _=>False
 | _=>False
theorem Zq8{k:Nat}{x:X}{loc0:List (Nat×Ob)}{items:Ze}{ui:Bool}:Jb d k x loc0 items ui ⟨lvl,env,loc,out⟩ K=Ut (xv env x) d k loc0 items ui ⟨lvl,env,loc,out⟩ K:=(rfl)
theorem Zq9{k:Nat}{loc0:List (Nat×Ob)}{items zs:Ze}{ui:Bool}:Ut (.cs zs) d k loc0 items ui ⟨lvl,env,loc,out⟩ K=(ZA k items/\(zs=[]\/items≠[])/\zs.length+items.length<=bigN/\ZA k zs/\freshK (keyOf d) loc0 1/\(zs=[]\/ui=false\/ScR zs) /\
  K ⟨lvl,ptd d (.hd (lvl,keyOf d) [] 0 (zs.length+items.length) none (zs.length+items.length)) env,ptO (keyOf d) (.ar k (zs++items) ui (zs.length+items.length) 0) loc,out⟩):=by
 simp only[Ut,Xq]
def aph(o:Option Ob)(d:Option Nat)(k:Nat)(id:Zd)(len s:Nat)(items:Ze)(ui:Bool)(st1:St)(K:St->Prop):Prop :=
 match o with
 | some (.ar k' es u hw ver)=>k'=k/\s=hw/\len=es.length/\len+items.length<=bigN /\
   K { Zi st1 id (.ar k (es++items) (u&&ui) (max hw (len+items.length)) ver) with env:=ptd d (.hd id [] 0 (len+items.length) none (max hw (len+items.length))) st1.env }
 | _=>False
theorem Zra{k key len s:Nat}{loc0:List (Nat×Ob)}{items:Ze}{ui:Bool}:Ut (.hd (lvl,key) [] 0 len none s) d k loc0 items ui ⟨lvl,env,loc,out⟩ K=(ZA k items/\aph (lkO key loc) d k (lvl,key) len s items ui ⟨lvl,env,loc,out⟩ K):=by
 simp only[Ut]
 rw[show (⟨lvl,env,loc,out⟩:St).sto (lvl,key)=lkO key loc from JA]
 rfl
theorem Zrb{k k' key len s:Nat}{items es:Ze}{u ui:Bool}{hw ver:Nat}:aph (some (.ar k' es u hw ver)) d k (lvl,key) len s items ui ⟨lvl,env,loc,out⟩ K=(k'=k/\s=hw/\len=es.length/\len+items.length<=bigN /\
   K ⟨lvl,ptd d (.hd (lvl,key) [] 0 (len+items.length) none (max hw (len+items.length))) env,ptO key (.ar k (es++items) (u&&ui) (max hw (len+items.length)) ver) loc,out⟩):=by
 simp only[aph,Xq]
def Vz(C:ZG)(d:Option Nat)(k md:Nat)(x:X)(y:IV)(st:St)(K:St->Prop):Prop :=
 match y with
 | .tr (.sl es)=>if md=0 then ScR es/\Jb d k x st.loc es true st K else md=1/\Jb d k x st.loc es false st K
 | .cs es=>if md=0 then ScR es/\Jb d k x st.loc es true st K else md=1/\Jb d k x st.loc es false st K
 | .hd id2 p2 off2 len2 c2 s2 =>
   if md=2 then
    p2=[]/\off2=0/\c2=none/\id2.1=st.lvl /\
    match st.sto id2 with
    | some (.ar _ zs u2 hw2 _)=>s2=hw2/\len2=zs.length/\Jb d k x st.loc zs u2 (Zp id2 st) K
    | _=>False
   else if md=0 then
    Jz st.sto id2 p2 s2 fun es _ _=>off2+len2<=es.length/\ScR (cut es off2 len2)/\Jb d k x st.loc (cut es off2 len2) true st K
   else md=1/\p2=[] /\
    match st.sto id2 with
    | some (.ar k2 es _ hw2 ver2)=>s2=hw2/\off2+len2<=es.length/\Jb d k x st.loc (cut es off2 len2) false (Zi st id2 (.ar k2 es false hw2 ver2)) K
    | _=>False
 | .sv id2=>md=2/\id2.1=st.lvl /\
   match st.sto id2 with
   | some (.bx l)=>l.length=k/\Yp l st fun ts u st' => Jb d k x st.loc [ts] u (Zp id2 st') K
   | _=>False
 | _=>False
theorem Zrc{k md:Nat}{x y:X}:Zu C d (.ap k md x y) ⟨lvl,env,loc,out⟩ K=Vz C d k md x (xv env y) ⟨lvl,env,loc,out⟩ K:=by
 rw[Ju rfl]
 rfl
theorem Zrd{k:Nat}{x y:X}:Zu C d (.a4 k x y) ⟨lvl,env,loc,out⟩ K=(V8 lvl (keyOf d) (ZE lvl loc out) (xv env x) (xv env y)/\Zu C d (.ap k 2 x y) ⟨lvl,env,loc,out⟩ K):=by
 rw[Ju rfl,Ju rfl]
 apply propext
 constructor
 ·intro h
  simp only[ew] at h
  exact⟨h.1,ZeG h.2⟩
 ·rintro⟨h1,h2⟩
  have h0:=h1
  unfold V8 at h1
  split at h1 <;> try contradiction
  split at h1 <;> try contradiction
  rename_i hy
  simp only[ew,hy] at h2
  simp only[ew]
  refine⟨h0,?_⟩
  unfold Qv
  simp only[hy]
  exact h2.2
theorem Zre{i j kd off len s:Nat}{p:Zh}{cap:Option Nat}{L:Zc}:V8 lvl kd L (.hd (lvl,i) p off len cap s) (.sv (lvl,j))=(i<kd/\j<kd/\((i=j)=False)/\X7 lvl kd (lvl,i) (L (lvl,j))):=by
 simp [V8]
theorem Zrf{i r kd off len s:Nat}{p:Zh}{cap:Option Nat}:X7 lvl kd (lvl,i) (some (.bx [.hd (lvl,r) p off len cap s]))=(r<kd/\((i=r)=False)):=by
 simp [X7]
section ap
variable {k:Nat} {x:X}
theorem Zrg{es:Ze}:Vz C d k 0 x (.tr (.sl es)) ⟨lvl,env,loc,out⟩ K=(ScR es/\Jb d k x loc es true ⟨lvl,env,loc,out⟩ K):=(rfl)
theorem Zrh{es:Ze}:Vz C d k 1 x (.tr (.sl es)) ⟨lvl,env,loc,out⟩ K=Jb d k x loc es false ⟨lvl,env,loc,out⟩ K:=by simp [Vz]
theorem Zri{es:Ze}:Vz C d k 0 x (.cs es) ⟨lvl,env,loc,out⟩ K=(ScR es/\Jb d k x loc es true ⟨lvl,env,loc,out⟩ K):=(rfl)
theorem Zrj{es:Ze}:Vz C d k 1 x (.cs es) ⟨lvl,env,loc,out⟩ K=Jb d k x loc es false ⟨lvl,env,loc,out⟩ K:=by simp [Vz]
def kap(d:Option Nat)(k:Nat)(x:X)(off2 len2:Nat)(st:St)(K:St->Prop)(es:Ze)(_u:Bool)(_v:Nat):Prop:=off2+len2<=es.length/\ScR (cut es off2 len2)/\Jb d k x st.loc (cut es off2 len2) true st K
theorem Zrk{off2 len2:Nat}{es:Ze}{u:Bool}{v:Nat}:kap d k x off2 len2 ⟨lvl,env,loc,out⟩ K es u v=(off2+len2<=es.length/\ScR (cut es off2 len2)/\Jb d k x loc (cut es off2 len2) true ⟨lvl,env,loc,out⟩ K):=(rfl)
theorem Zrl{id2:Zd}{p2:Zh}{off2 len2 s2:Nat}{c2:Option Nat}:Vz C d k 0 x (.hd id2 p2 off2 len2 c2 s2) ⟨lvl,env,loc,out⟩ K=Y8 (ZE lvl loc out id2) p2 s2 (kap d k x off2 len2 ⟨lvl,env,loc,out⟩ K):=by
 rw[<-Xp]
 rfl
def ap5(o:Option Ob)(d:Option Nat)(k:Nat)(x:X)(len2 s2:Nat)(loc0:List (Nat×Ob))(st1:St)(K:St->Prop):Prop :=
 match o with
 | some (.ar _ zs u2 hw2 _)=>s2=hw2/\len2=zs.length/\Jb d k x loc0 zs u2 st1 K
 | _=>False
theorem Zrm{key:Nat}{p2:Zh}{off2 len2 s2:Nat}{c2:Option Nat}:Vz C d k 2 x (.hd (lvl,key) p2 off2 len2 c2 s2) ⟨lvl,env,loc,out⟩ K=(p2=[]/\off2=0/\c2=none/\ap5 (lkO key loc) d k x len2 s2 loc (Zp (lvl,key) ⟨lvl,env,loc,out⟩) K):=by
 simp only[Vz,if_true]
 rw[show (⟨lvl,env,loc,out⟩:St).sto (lvl,key)=lkO key loc from JA]
 generalize lkO key loc=o
 apply propext
 constructor
 ·rintro⟨h1,h2,h3,_,h5⟩
  refine⟨h1,h2,h3,?_⟩
  cases o with
  | none=>exact h5
  | some ob=>cases ob <;> exact h5
 ·rintro⟨h1,h2,h3,h5⟩
  refine⟨h1,h2,h3,trivial,?_⟩
  cases o with
  | none=>exact h5
  | some ob=>cases ob <;> exact h5
theorem Zrn{k2:Nat}{zs:Ze}{u2:Bool}{hw2 ver2 len2 s2:Nat}{loc0:List (Nat×Ob)}{st1:St}:ap5 (some (.ar k2 zs u2 hw2 ver2)) d k x len2 s2 loc0 st1 K=(s2=hw2/\len2=zs.length/\Jb d k x loc0 zs u2 st1 K):=(rfl)
def Zb9(d:Option Nat)(k:Nat)(x:X)(loc0:List (Nat×Ob))(id2:Zd)(K:St->Prop)(ts:List Tr)(u:Bool)(st':St):Prop:=Jb d k x loc0 [ts] u (Zp id2 st') K
theorem Zro{loc0:List (Nat×Ob)}{id2:Zd}{ts:List Tr}{u:Bool}:Zb9 d k x loc0 id2 K ts u st=Jb d k x loc0 [ts] u (Zp id2 st) K:=(rfl)
def aps(o:Option Ob)(d:Option Nat)(k:Nat)(x:X)(loc0:List (Nat×Ob))(id2:Zd)(st1:St)(K:St->Prop):Prop :=
 match o with
 | some (.bx l)=>l.length=k/\Yp l st1 (Zb9 d k x loc0 id2 K)
 | _=>False
theorem Zrp{l:List IV}{loc0:List (Nat×Ob)}{id2:Zd}{st1:St}:aps (some (.bx l)) d k x loc0 id2 st1 K=(l.length=k/\Yp l st1 (Zb9 d k x loc0 id2 K)):=(rfl)
theorem Zrq{key:Nat}:Vz C d k 2 x (.sv (lvl,key)) ⟨lvl,env,loc,out⟩ K=aps (lkO key loc) d k x loc (lvl,key) ⟨lvl,env,loc,out⟩ K:=by
 simp only[Vz]
 rw[show (⟨lvl,env,loc,out⟩:St).sto (lvl,key)=lkO key loc from JA]
 generalize lkO key loc=o
 apply propext
 constructor
 ·rintro⟨_,_,h⟩
  cases o with
  | none=>exact h
  | some ob=>cases ob <;> exact h
 ·intro h
  refine⟨trivial,trivial,?_⟩
  cases o with
  | none=>exact h
  | some ob=>cases ob <;> exact h
end ap
theorem Zca{L:Zc}{F:List IV->Prop}:∀{l:List Tr},ZY L (l.map .tr) F=F (l.map .tr)
 | []=>Zb5
 | t::r=>by rw[Ual,Zf2,Zca,ZfY]
theorem Zac{Pd:Zd->Prop}:∀{l:List Tr},Za Pd (l.map .tr)=True
 | []=>rfl
 | t::r=>by simp only[Ual,Za,men,Zac,and_self]
def nlf(v:IV)(neg:Bool)(lvl:Nat)(env:List (Nat×IV))(loc:List (Nat×Ob))(out:Zc)(d:Option Nat)(K:St->Prop):Prop :=
 match v with
 | .tr (.sl es)=>K ⟨lvl,ptd d (iB neg) env,loc,out⟩/\(es=[]->K ⟨lvl,ptd d (iB !neg) env,loc,out⟩)
 | .cs es=>K ⟨lvl,ptd d (iB neg) env,loc,out⟩/\(es=[]->K ⟨lvl,ptd d (iB !neg) env,loc,out⟩)
 | _=>False
theorem Zrr{C:ZG}{d:Option Nat}{neg:Bool}{x:X}{lvl:Nat}{env:List (Nat×IV)}{loc:List (Nat×Ob)}{out:Zc}{K:St->Prop}:Zu C d (.nl neg x) ⟨lvl,env,loc,out⟩ K=nlf (xv env x) neg lvl env loc out d K:=by
 rw[Ju rfl]
 rfl
theorem Zrs{neg:Bool}{es:Ze}{d:Option Nat}{lvl:Nat}{env:List (Nat×IV)}{loc:List (Nat×Ob)}{out:Zc}{K:St->Prop}:nlf (.tr (.sl es)) neg lvl env loc out d K=(K ⟨lvl,ptd d (iB neg) env,loc,out⟩/\(es=[]->K ⟨lvl,ptd d (iB !neg) env,loc,out⟩)):=(rfl)
theorem Zrt{neg:Bool}{es:Ze}{d:Option Nat}{lvl:Nat}{env:List (Nat×IV)}{loc:List (Nat×Ob)}{out:Zc}{K:St->Prop}:nlf (.cs es) neg lvl env loc out d K=(K ⟨lvl,ptd d (iB neg) env,loc,out⟩/\(es=[]->K ⟨lvl,ptd d (iB !neg) env,loc,out⟩)):=(rfl)
section row
variable {C:ZG} {d:Option Nat} {x y hi:X} {lvl:Nat} {env:List (Nat×IV)} {loc:List (Nat×Ob)} {out:Zc} {K:St->Prop} {st:St}
def J2(d:Option Nat)(x:IV)(st:St)(K:St->Prop):Prop:=K { st with env:=ptd d x st.env }
theorem Zru{v:IV}:J2 d v ⟨lvl,env,loc,out⟩ K=K ⟨lvl,ptd d v env,loc,out⟩:=(rfl)
theorem Wy{v:IV}{id:Zd}{ob:Ob}:J2 d v (Zi st id ob) K=K { Zi st id ob with env:=ptd d v st.env }:=by
 unfold J2
 rw[Xe]
def cpf(v:IV)(lvl:Nat)(env:List (Nat×IV))(loc:List (Nat×Ob))(out:Zc)(d:Option Nat)(K:St->Prop):Prop :=
 match v with
 | .cs es=>K ⟨lvl,ptd d (iI es.length) env,loc,out⟩
 | _=>False
theorem Zrv:Zu C d (.cp x) ⟨lvl,env,loc,out⟩ K=cpf (xv env x) lvl env loc out d K:=by
 rw[Ju rfl]
 rfl
theorem Zrw{es:Ze}:cpf (.cs es) lvl env loc out d K=K ⟨lvl,ptd d (iI es.length) env,loc,out⟩:=(rfl)
def shg(o:Option Ob)(id:Zd)(m:Int)(len s k:Nat)(d:Option Nat)(st:St)(K:St->Prop):Prop :=
 match o with
 | some (.ar k2 es u hw ver)=>k2=k/\s=hw/\0<=m/\m.toNat<=len/\len<=es.length/\J2 d (.hd id [] 0 m.toNat none hw) (Zi st id (.ar k2 (es.take m.toNat) u hw (ver+1))) K
 | _=>False
def Uu(v hv:IV)(k:Nat)(d:Option Nat)(st:St)(K:St->Prop):Prop :=
 match v with
 | .cs es =>
  match hv with
  | .tr (.v (.int _ m))=>m=es.length/\ZA k es/\J2 d (.cs es) st K
  | _=>False
 | .hd id p off len cap s =>
  match hv with
  | .tr (.v (.int _ m))=>p=[]/\off=0/\cap=none/\shg (st.sto id) id m len s k d st K
  | _=>False
 | _=>False
theorem Zrx{k:Nat}:Zu C d (.sh k x hi) ⟨lvl,env,loc,out⟩ K=Uu (xv env x) (xv env hi) k d ⟨lvl,env,loc,out⟩ K:=by
 rw[Ju rfl]
 simp only[ew]
 generalize xv env x=v
 cases v <;> try rfl
 rename_i id p off len cap s
 generalize xv env hi=hv
 cases hv <;> try rfl
 rename_i t
 cases t <;> try rfl
 rename_i q
 cases q <;> try rfl
 simp only[Uu,shg]
 generalize (⟨lvl,env,loc,out⟩:St).sto id=o
 cases o with
 | none=>simp
 | some ob =>
  cases ob with
  | bx=>simp
  | mp=>simp
  | ar k2 es u hw ver=>simp only[Wy]
theorem Zry{id:Zd}{len s k:Nat}{kk:IntKind}{m:Int}:Uu (.hd id [] 0 len none s) (.tr (.v (.int kk m))) k d ⟨lvl,env,loc,out⟩ K=shg (ZE lvl loc out id) id m len s k d ⟨lvl,env,loc,out⟩ K:=by
 simp only[Uu,true_and]
 rfl
theorem Zrz{es:Ze}{k:Nat}{kk:IntKind}{m:Int}:Uu (.cs es) (.tr (.v (.int kk m))) k d ⟨lvl,env,loc,out⟩ K=(m=es.length/\ZA k es/\J2 d (.cs es) ⟨lvl,env,loc,out⟩ K):=(rfl)
theorem ZrA{id:Zd}{len s k k2 hw ver:Nat}{es:Ze}{u:Bool}{m:Int}:shg (some (.ar k2 es u hw ver)) id m len s k d st K=(k2=k/\s=hw/\0<=m/\m.toNat<=len/\len<=es.length/\J2 d (.hd id [] 0 m.toNat none hw) (Zi st id (.ar k2 (es.take m.toNat) u hw (ver+1))) K):=(rfl)
def fzg(o:Option Ob)(len s:Nat)(d:Option Nat)(st1:St)(K:St->Prop):Prop :=
 match o with
 | some (.ar _ zs _ hw _)=>s=hw/\len=zs.length/\J2 d (.tr (.sl zs)) st1 K
 | _=>False
def fzf(v:IV)(d:Option Nat)(st:St)(K:St->Prop):Prop :=
 match v with
 | .hd id [] 0 len none s=>id.1=st.lvl/\fzg (st.sto id) len s d (Zp id st) K
 | _=>False
theorem ZrB:Zu C d (.fz x) ⟨lvl,env,loc,out⟩ K=fzf (xv env x) d ⟨lvl,env,loc,out⟩ K:=by
 rw[Ju rfl]
 simp only[ew]
 generalize xv env x=v
 unfold fzf
 split
 ·rename_i id len s
  simp only[fzg]
  generalize (⟨lvl,env,loc,out⟩:St).sto id=o
  cases o with
  | none=>rfl
  | some ob=>cases ob <;> rfl
 ·rename_i hv
  split
  ·exact(hv _ _ _ rfl).elim
  ·rfl
theorem ZrC{key len s:Nat}:fzf (.hd (lvl,key) [] 0 len none s) d ⟨lvl,env,loc,out⟩ K=fzg (lkO key loc) len s d (Zp (lvl,key) ⟨lvl,env,loc,out⟩) K:=by
 simp only[fzf,true_and]
 rw[show (⟨lvl,env,loc,out⟩:St).sto (lvl,key)=lkO key loc from JA]
theorem ZrD{len s k hw ver:Nat}{zs:Ze}{u:Bool}:fzg (some (.ar k zs u hw ver)) len s d st K=(s=hw/\len=zs.length/\J2 d (.tr (.sl zs)) st K):=(rfl)
def drp(o:Option Ob)(id:Zd)(st:St):St :=
 match o with
 | none=>st
 | some _=>Zp id st
theorem ZrE{id:Zd}:drp none id st=st:=(rfl)
theorem ZrF{ob:Ob}{id:Zd}:drp (some ob) id st=Zp id st:=(rfl)
def rkg(o:Option Ob)(len s:Nat)(id0:Zd)(d:Option Nat)(st1:St)(K:St->Prop):Prop :=
 match o with
 | some (.ar k zs u hw ver)=>s=hw/\len=zs.length/\J2 d (.hd id0 [] 0 len none s) (Zi st1 id0 (.ar k zs u hw ver)) K
 | _=>False
def rkf(v:IV)(d:Option Nat)(st:St)(K:St->Prop):Prop :=
 match v with
 | .hd id [] 0 len none s=>id.1=st.lvl/\(st.lvl,keyOf d)≠id/\rkg (st.sto id) len s (st.lvl,keyOf d) d (Zp id (YR (st.lvl,keyOf d) st)) K
 | _=>False
theorem ZrG:Zu C d (.rk x) ⟨lvl,env,loc,out⟩ K=rkf (xv env x) d ⟨lvl,env,loc,out⟩ K:=by
 rw[Ju rfl]
 simp only[ew]
 generalize xv env x=v
 unfold rkf
 split
 ·rename_i id len s
  simp only[rkg]
  generalize (⟨lvl,env,loc,out⟩:St).sto id=o
  cases o with
  | none=>rfl
  | some ob =>
   cases ob with
   | bx=>rfl
   | mp=>rfl
   | ar k2 es u hw ver=>simp only[Wy]
 ·rename_i hv
  split
  ·exact(hv _ _ _ rfl).elim
  ·rfl
theorem ZrH{key len s:Nat}{t:Nat}:rkf (.hd (lvl,key) [] 0 len none s) (some t) ⟨lvl,env,loc,out⟩ K=(t*32≠key/\rkg (lkO key loc) len s (lvl,t*32) (some t) (Zp (lvl,key) (drp (lkO (t*32) loc) (lvl,t*32) ⟨lvl,env,loc,out⟩)) K):=by
 simp only[rkf,true_and,YR,keyOf]
 rw[show (⟨lvl,env,loc,out⟩:St).sto (lvl,key)=lkO key loc from JA,show (⟨lvl,env,loc,out⟩:St).sto (lvl,t*32)=lkO (t*32) loc from JA]
 congr 1
 simp
theorem ZrI:Zu C d .mk ⟨lvl,env,loc,out⟩ K=(freshK (keyOf d) loc 1/\J2 d (.sv (lvl,keyOf d)) (Zi ⟨lvl,env,loc,out⟩ (lvl,keyOf d) (.mp [])) K):=by
 rw[Ju rfl,Wy]
 rfl
def Uv(o:Option Ob)(F:List (Int×Int)->Prop):Prop :=
 match o with
 | some (.mp l)=>F l
 | _=>False
theorem ZrJ{l:List (Int×Int)}{F:List (Int×Int)->Prop}:Uv (some (.mp l)) F=F l:=(rfl)
def mpv(v:IV)(F:Int->Prop):Prop :=
 match v with
 | .tr (.v (.int .i64 a))=>F a
 | _=>False
theorem ZrK{a:Int}{F:Int->Prop}:mpv (iI a) F=F a:=(rfl)
def muk(kv xv:IV)(id:Zd)(st:St)(K:St->Prop)(l:List (Int×Int)):Prop:=mpv kv fun a=>mpv xv fun b=>K (Zi st id (.mp (YF a b l)))
theorem ZrL{a b:Int}{id:Zd}{l:List (Int×Int)}:muk (iI a) (iI b) id st K l=K (Zi st id (.mp (YF a b l))):=(rfl)
def muh(m kv xv:IV)(st:St)(K:St->Prop):Prop :=
 match m with
 | .sv id=>Uv (st.sto id) (muk kv xv id st K)
 | _=>False
theorem ZrM{id:Zd}{kv xv:IV}:muh (.sv id) kv xv ⟨lvl,env,loc,out⟩ K=Uv (ZE lvl loc out id) (muk kv xv id ⟨lvl,env,loc,out⟩ K):=(rfl)
theorem ZrN{m k:X}:Zu C d (.mu m k x) ⟨lvl,env,loc,out⟩ K=(d=none/\muh (xv env m) (xv env k) (xv env x) ⟨lvl,env,loc,out⟩ K):=by
 rw[Ju rfl]
 simp only[ew,muf,muh]
 congr 1
def mlk(kv:IV)(d:Option Nat)(st:St)(K:St->Prop)(l:List (Int×Int)):Prop:=mpv kv fun a=>J2 d (.tu [iI ((J5 a l).getD 0),iB (J5 a l).isSome]) st K
theorem ZrO{a:Int}{l:List (Int×Int)}:mlk (iI a) d st K l=J2 d (.tu [iI ((J5 a l).getD 0),iB (J5 a l).isSome]) st K:=(rfl)
def mlh(m kv:IV)(d:Option Nat)(st:St)(K:St->Prop):Prop :=
 match m with
 | .sv id=>Uv (st.sto id) (mlk kv d st K)
 | _=>False
theorem ZrP{id:Zd}{kv:IV}:mlh (.sv id) kv d ⟨lvl,env,loc,out⟩ K=Uv (ZE lvl loc out id) (mlk kv d ⟨lvl,env,loc,out⟩ K):=(rfl)
theorem ZrQ{m k:X}:Zu C d (.ml m k) ⟨lvl,env,loc,out⟩ K=mlh (xv env m) (xv env k) d ⟨lvl,env,loc,out⟩ K:=by
 rw[Ju rfl]
 simp only[ew,mlf,mlh]
 generalize xv env m=vm
 cases vm <;> rfl
def skg(o:Option Ob)(n len s:Nat)(id0:Zd)(st1:St)(K:St->Prop):Prop :=
 match o with
 | some (.ar k zs u hw ver)=>s=hw/\len=zs.length/\J2 (some n) (.hd id0 [] 0 len none s) (Zi st1 id0 (.ar k zs u hw ver)) K
 | _=>False
theorem ZrR{n len s k hw ver:Nat}{zs:Ze}{u:Bool}{id0:Zd}:skg (some (.ar k zs u hw ver)) n len s id0 st K=(s=hw/\len=zs.length/\J2 (some n) (.hd id0 [] 0 len none s) (Zi st id0 (.ar k zs u hw ver)) K):=(rfl)
def skf(v:IV)(n key:Nat)(st:St)(K:St->Prop):Prop :=
 match v with
 | .hd id [] 0 len none s=>id.1=st.lvl/\if id.2=key then K st else skg (st.sto id) n len s (st.lvl,key) (Zp id (YR (st.lvl,key) st)) K
 | _=>False
theorem ZrS{n key key2 len s:Nat}:skf (.hd (lvl,key2) [] 0 len none s) n key ⟨lvl,env,loc,out⟩ K=if key2=key then K ⟨lvl,env,loc,out⟩ else skg (lkO key2 loc) n len s (lvl,key) (Zp (lvl,key2) (drp (lkO key loc) (lvl,key) ⟨lvl,env,loc,out⟩)) K:=by
 simp only[skf,true_and,YR]
 rw[show (⟨lvl,env,loc,out⟩:St).sto (lvl,key)=lkO key loc from JA,show (⟨lvl,env,loc,out⟩:St).sto (lvl,key2)=lkO key2 loc from JA]
 rfl
def Zcb(o:Option Ob)(l:List IV)(id:Zd)(off:Nat)(st:St)(K:St->Prop):Prop :=
 match o with
 | some (.bx cells)=>off+l.length<=cells.length/\Z9 (id.1+1) l/\K (Zi st id (.bx (JH cells off l)))
 | _=>False
theorem ZrT{cells l:List IV}{id:Zd}{off:Nat}:Zcb (some (.bx cells)) l id off st K=(off+l.length<=cells.length/\Z9 (id.1+1) l/\K (Zi st id (.bx (JH cells off l)))):=(rfl)
def Zgd(c:Option (List IV))(p:IV)(st:St)(K:St->Prop):Prop :=
 match c with
 | some l=>l.length=1 /\
  match p with
  | .ab id off=>Zcb (st.sto id) l id off st K
  | _=>False
 | none=>False
theorem ZrU{l:List IV}{id:Zd}{off:Nat}:Zgd (some l) (.ab id off) ⟨lvl,env,loc,out⟩ K=(l.length=1/\Zcb (ZE lvl loc out id) l id off ⟨lvl,env,loc,out⟩ K):=(rfl)
def Zge(p:X)(n:Nat)(K:St->Prop)(st:St):Prop:=Db p (.t n) K st
theorem ZrV{p:X}{n:Nat}:Zge p n K ⟨lvl,env,loc,out⟩=Zgd (cellsOf (lk n env)) (xv env p) ⟨lvl,env,loc,out⟩ K:=(rfl)
theorem ZrW{key n:Nat}{p:X}:Zu C d (.sk key p n) ⟨lvl,env,loc,out⟩ K=(d=none/\skf (lk n env) n key ⟨lvl,env,loc,out⟩ (Zge p n K)):=by
 rw[Ju rfl]
 simp only[ew,rkk]
 congr 1
 generalize lk n env=v
 unfold skf
 split
 ·rename_i id len s
  dsimp only
  congr 1
  split
  ·rfl
  ·simp only[skg]
   generalize (⟨lvl,env,loc,out⟩:St).sto id=o
   cases o with
   | none=>rfl
   | some ob =>
    cases ob with
    | bx=>rfl
    | mp=>rfl
    | ar k2 es u hw ver=>simp only[Wy];rfl
 ·rename_i hv
  split
  ·exact(hv _ _ _ rfl).elim
  ·rfl
theorem ZrX{key:Nat}{p x:X}:Zu C d (.gv key p x) ⟨lvl,env,loc,out⟩ K=(d=none/\WS (xv env p) (xv env x) key ⟨lvl,env,loc,out⟩ K):=by
 rw[Ju rfl]
 simp only[ew]
theorem ZrY{id:Zd}{off key key2 len s:Nat}:WS (.ab id off) (.hd (lvl,key2) [] 0 len none s) key ⟨lvl,env,loc,out⟩ K=(id.1<lvl/\ZE lvl loc out (id.1,key)=none/\Da (ZE lvl loc out id) (lkO key2 loc) id off key len s (lvl,key2) ⟨lvl,env,loc,out⟩ K):=by
 simp only[WS,true_and]
 rw[show (⟨lvl,env,loc,out⟩:St).sto (lvl,key2)=lkO key2 loc from JA]
 rfl
theorem ZrZ{cells:List IV}{k:Nat}{zs:Ze}{u:Bool}{hw ver:Nat}{id id2:Zd}{off key len s:Nat}:Da (some (.bx cells)) (some (.ar k zs u hw ver)) id off key len s id2 st K=(off+1<=cells.length/\s=hw/\len=zs.length/\K (Zi (Zi (Zp id2 st) (id.1,key) (.ar k zs u hw ver)) id (.bx (JH cells off [.hd (id.1,key) [] 0 len none s])))):=(rfl)
theorem Zr0{len s k hw ver:Nat}{zs:Ze}{u:Bool}{id0:Zd}:rkg (some (.ar k zs u hw ver)) len s id0 d st K=(s=hw/\len=zs.length/\J2 d (.hd id0 [] 0 len none s) (Zi st id0 (.ar k zs u hw ver)) K):=(rfl)
theorem Zr1{K:List IV->St->Prop}:Qt [] st K=K [] st:=(rfl)
theorem Zr2{x:X}{r:List X}{K:List IV->St->Prop}:Qt (x::r) st K=X4 (xv st.env x) st fun t st1=>Qt r st1 fun ts st2=>K (.ta t::ts) st2:=(rfl)
def Zad(o:Option (List Tr×Bool))(F:List Tr->Prop)(H:Prop):Prop :=
 match o with
 | some (ts,_)=>F ts
 | none=>H
def Zcc(o:Option Ob)(F:List Tr->Prop)(H:List IV->Prop):Prop :=
 match o with
 | some (.bx cells)=>Zad (totrs cells) F (H cells)
 | _=>False
theorem Zr3{ts:List Tr}{K:List Tr->St->Prop}:X4 (.ta ts) st K=K ts st:=(rfl)
theorem Zr4{key:Nat}{K:List Tr->St->Prop}:X4 (.ab (lvl,key) 0) ⟨lvl,env,loc,out⟩ K=Zcc (lkO key loc) (fun ts=>K ts (Zp (lvl,key) ⟨lvl,env,loc,out⟩)) (fun cells=>Yo cells ⟨lvl,env,loc,out⟩ fun ts st1=>K ts (Zp (lvl,key) st1)):=by
 simp only[X4,true_and]
 rw[show (⟨lvl,env,loc,out⟩:St).sto (lvl,key)=lkO key loc from JA]
 generalize lkO key loc=o
 cases o with
 | none=>rfl
 | some ob =>
  cases ob with
  | ar=>rfl
  | mp=>rfl
  | bx cells =>
   simp only[Zcc]
   generalize totrs cells=q
   cases q <;> rfl
theorem Zr5{cells:List IV}{F:List Tr->Prop}{H:List IV->Prop}:Zcc (some (.bx cells)) F H=Zad (totrs cells) F (H cells):=(rfl)
theorem Zr6{ts:List Tr}{q:Bool}{F:List Tr->Prop}{H:Prop}:Zad (some (ts,q)) F H=F ts:=(rfl)
theorem Zr7{F:List Tr->Prop}{H:Prop}:Zad none F H=H:=(rfl)
theorem Zr8{id:Zd}{p:Zh}{off len s:Nat}{cap:Option Nat}{r:List IV}:totrs (.hd id p off len cap s::r)=none:=(rfl)
theorem Zr9{f:Nat}{cs:List X}:Zu C d (.mz f cs) ⟨lvl,env,loc,out⟩ K=Qt cs ⟨lvl,env,loc,out⟩ fun l st1=>J2 d (.fn f l) st1 K:=by
 rw[Ju rfl]
 rfl
theorem Zsa{K:List Tr->St->Prop}:Yo [] st K=K [] st:=(rfl)
theorem Zsb{x:IV}{r:List IV}{K:List Tr->St->Prop}:Yo (x::r) st K=Q6 x st fun t st1=>Yo r st1 fun ts st2=>K (t::ts) st2:=(rfl)
def Zgf(o:Option Ob)(len s:Nat)(F:Ze->Prop):Prop :=
 match o with
 | some (.ar _ zs _ hw _)=>s=hw/\len=zs.length/\F zs
 | _=>False
theorem Zsc{t:Tr}{K:Tr->St->Prop}:Q6 (.tr t) st K=K t st:=(rfl)
theorem Zsd{es:Ze}{K:Tr->St->Prop}:Q6 (.cs es) st K=K (.sl es) st:=(rfl)
theorem Zse{key len s:Nat}{K:Tr->St->Prop}:Q6 (.hd (lvl,key) [] 0 len none s) ⟨lvl,env,loc,out⟩ K=Zgf (lkO key loc) len s fun zs=>K (.sl zs) (Zp (lvl,key) ⟨lvl,env,loc,out⟩):=by
 simp only[Q6,true_and]
 rw[show (⟨lvl,env,loc,out⟩:St).sto (lvl,key)=lkO key loc from JA]
 generalize lkO key loc=o
 cases o with
 | none=>rfl
 | some ob=>cases ob <;> rfl
theorem Zsf{k len s hw ver:Nat}{zs:Ze}{u:Bool}{F:Ze->Prop}:Zgf (some (.ar k zs u hw ver)) len s F=(s=hw/\len=zs.length/\F zs):=(rfl)
def lzg(o:Option Ob)(off m:Nat)(d:Option Nat)(st:St)(K:St->Prop):Prop :=
 match o with
 | some (.bx cells)=>off+m<=cells.length/\Yo ((cells.drop off).take m) st fun ts st1=>J2 d (.ag (ts.map .tr)) st1 K
 | _=>False
def lzf(v:IV)(m:Nat)(d:Option Nat)(st:St)(K:St->Prop):Prop :=
 match v with
 | .ab id off=>lzg (st.sto id) off m d st K
 | _=>False
theorem Zsg{m:Nat}:Zu C d (.lz m x) ⟨lvl,env,loc,out⟩ K=lzf (xv env x) m d ⟨lvl,env,loc,out⟩ K:=by
 rw[Ju rfl]
 simp only[ew]
 generalize xv env x=v
 cases v <;> rfl
theorem Zsh{key off m:Nat}:lzf (.ab (lvl,key) off) m d ⟨lvl,env,loc,out⟩ K=lzg (lkO key loc) off m d ⟨lvl,env,loc,out⟩ K:=by
 simp only[lzf]
 rw[show (⟨lvl,env,loc,out⟩:St).sto (lvl,key)=lkO key loc from JA]
theorem Zsi{cells:List IV}{off m:Nat}:lzg (some (.bx cells)) off m d st K=(off+m<=cells.length/\Yo ((cells.drop off).take m) st fun ts st1=>J2 d (.ag (ts.map .tr)) st1 K):=(rfl)
def clg(o:Option Ob)(id:Zd)(off len s k:Nat)(d:Option Nat)(st:St)(K:St->Prop):Prop :=
 match o with
 | some (.ar k2 es u hw ver)=>k2=k/\s=hw/\off+len=es.length/\J2 d (.tu []) (Zi st id (.ar k2 (es.take off) u hw (ver+1))) K
 | _=>False
def clf(v:IV)(k:Nat)(d:Option Nat)(st:St)(K:St->Prop):Prop :=
 match v with
 | .hd id p off len _ s=>p=[]/\clg (st.sto id) id off len s k d st K
 | _=>False
theorem Zsj{k:Nat}{z:List Value}:Zu C d (.cl k z x) ⟨lvl,env,loc,out⟩ K=clf (xv env x) k d ⟨lvl,env,loc,out⟩ K:=by
 rw[Ju rfl]
 simp only[ew]
 generalize xv env x=v
 cases v <;> try rfl
 rename_i id p off len cap s
 simp only[clf,clg]
 generalize (⟨lvl,env,loc,out⟩:St).sto id=o
 cases o with
 | none=>simp
 | some ob =>
  cases ob with
  | bx=>simp
  | mp=>simp
  | ar k2 es u hw ver=>simp only[Wy]
theorem Zsk{id:Zd}{off len s k:Nat}{cap:Option Nat}:clf (.hd id [] off len cap s) k d ⟨lvl,env,loc,out⟩ K=clg (ZE lvl loc out id) id off len s k d ⟨lvl,env,loc,out⟩ K:=by
 simp only[clf,true_and]
 rfl
theorem Zsl{id:Zd}{off len s k k2 hw ver:Nat}{es:Ze}{u:Bool}:clg (some (.ar k2 es u hw ver)) id off len s k d st K=(k2=k/\s=hw/\off+len=es.length/\J2 d (.tu []) (Zi st id (.ar k2 (es.take off) u hw (ver+1))) K):=(rfl)
def srk(off len:Nat)(F:Ze->Prop)(es:Ze)(_u:Bool)(_v:Nat):Prop:=off+len<=es.length/\F (cut es off len)
theorem Zsm{off len:Nat}{F:Ze->Prop}{es:Ze}{u:Bool}{v:Nat}:srk off len F es u v=(off+len<=es.length/\F (cut es off len)):=(rfl)
theorem Zsn{zs:Ze}{F:Ze->Prop}:VI st (.tr (.sl zs)) F=F zs:=(rfl)
theorem Zso{zs:Ze}{F:Ze->Prop}:VI st (.cs zs) F=F zs:=(rfl)
theorem Zsp{id:Zd}{p:Zh}{off len s:Nat}{cap:Option Nat}{F:Ze->Prop}:VI ⟨lvl,env,loc,out⟩ (.hd id p off len cap s) F=Y8 (ZE lvl loc out id) p s (srk off len F):=by
 rw[<-Xp]
 rfl
def Uw(zs:Ze)(k:Nat)(d:Option Nat)(st:St)(K:St->Prop)(items:Ze):Prop :=
 items≠[]/\ScR items/\ZA k zs/\ZA k items/\zs.length+items.length<=bigN/\K ⟨st.lvl,ptd d (.tr (.sl (zs++items))) st.env,st.loc,st.out⟩
theorem Zsq{zs items:Ze}{k:Nat}:Uw zs k d ⟨lvl,env,loc,out⟩ K items=(items≠[]/\ScR items/\ZA k zs/\ZA k items/\zs.length+items.length<=bigN/\K ⟨lvl,ptd d (.tr (.sl (zs++items))) env,loc,out⟩):=(rfl)
def a3f(vx vy:IV)(k:Nat)(d:Option Nat)(st:St)(K:St->Prop):Prop :=
 match vx with
 | .cs zs=>VI st vy (Uw zs k d st K)
 | _=>False
theorem Zsr{zs:Ze}{vy:IV}{k:Nat}:a3f (.cs zs) vy k d st K=VI st vy (Uw zs k d st K):=(rfl)
theorem Zss{k:Nat}{x y:X}:Zu C d (.a3 k x y) ⟨lvl,env,loc,out⟩ K=a3f (xv env x) (xv env y) k d ⟨lvl,env,loc,out⟩ K:=by
 rw[JQ rfl]
 simp only[ev]
 generalize xv env x=vx
 cases vx <;> try rfl
 rename_i zs
 have e:∀ items:Ze,(items≠[]/\ScR items/\ZA k zs/\ZA k items/\zs.length+items.length<=bigN/\ZC (fun mk obs=>freshK (keyOf d) loc (obs lvl (keyOf d)).length/\K ⟨lvl,ptd d (mk lvl (keyOf d)) env,addO (keyOf d) (obs lvl (keyOf d)) loc,out⟩) (.tr (.sl (zs++items))))=Uw zs k d ⟨lvl,env,loc,out⟩ K items:=fun items=>by
  simp [Uw,ZC,freshK,addO]
 simp only[e]
 rfl
theorem Zst{k:Nat}{x y:X}:Zu C d (.c0 k x y) ⟨lvl,env,loc,out⟩ K=Zu C d (.cy k x y) ⟨lvl,env,loc,out⟩ K:=by
 rw[Ju rfl,Ju rfl]
 exact propext ⟨ZeQ,ZkF⟩
def Ux(es:Ze)(u:Bool)(hw ver:Nat)(id:Zd)(off len k:Nat)(d:Option Nat)(st:St)(K:St->Prop)(zs:Ze):Prop :=
 ScR zs/\ZA k zs/\J2 d (iI (min zs.length len:Nat)) (Zi st id (.ar k (es.take off++zs.take len++es.drop (off+min zs.length len)) u hw (ver+1))) K
theorem Zsu{es:Ze}{u:Bool}{hw ver:Nat}{id:Zd}{off len k:Nat}{zs:Ze}:Ux es u hw ver id off len k d st K zs=(ScR zs/\ZA k zs/\J2 d (iI (min zs.length len:Nat)) (Zi st id (.ar k (es.take off++zs.take len++es.drop (off+min zs.length len)) u hw (ver+1))) K):=(rfl)
def cyg(o:Option Ob)(id:Zd)(off len s k:Nat)(v:IV)(d:Option Nat)(st:St)(K:St->Prop):Prop :=
 match o with
 | some (.ar k2 es u hw ver)=>k2=k/\s=hw/\off+len<=es.length/\ScR es/\VI st v (Ux es u hw ver id off len k d st K)
 | _=>False
def cyf(x v:IV)(k:Nat)(d:Option Nat)(st:St)(K:St->Prop):Prop :=
 match x with
 | .hd id p off len _ s=>p=[]/\cyg (st.sto id) id off len s k v d st K
 | _=>False
theorem Zsv{k:Nat}:Zu C d (.cy k x y) ⟨lvl,env,loc,out⟩ K=cyf (xv env x) (xv env y) k d ⟨lvl,env,loc,out⟩ K:=by
 rw[Ju rfl]
 simp only[ew]
 generalize xv env x=v
 cases v <;> try rfl
 rename_i id p off len cap s
 simp only[cyf,cyg]
 generalize (⟨lvl,env,loc,out⟩:St).sto id=o
 cases o with
 | none=>simp
 | some ob =>
  cases ob with
  | bx=>simp
  | mp=>simp
  | ar k2 es u hw ver =>
   dsimp only
   by_cases hk:k2=k
   ·subst hk
    have:(fun zs=>ScR zs/\ZA k2 zs/\K { Zi ⟨lvl,env,loc,out⟩ id (.ar k2 (es.take off++zs.take len++es.drop (off+min zs.length len)) u hw (ver+1)) with env:=ptd d (iI (min zs.length len:Nat)) env })=Ux es u hw ver id off len k2 d ⟨lvl,env,loc,out⟩ K:=by
     funext zs
     simp only[Ux,Wy]
    rw[this]
   ·simp [hk]
theorem Zsw{id:Zd}{off len s k:Nat}{cap:Option Nat}{v:IV}:cyf (.hd id [] off len cap s) v k d ⟨lvl,env,loc,out⟩ K=cyg (ZE lvl loc out id) id off len s k v d ⟨lvl,env,loc,out⟩ K:=by
 simp only[cyf,true_and]
 rfl
theorem Zsx{id:Zd}{off len s k k2 hw ver:Nat}{es:Ze}{u:Bool}{v:IV}:cyg (some (.ar k2 es u hw ver)) id off len s k v d st K=(k2=k/\s=hw/\off+len<=es.length/\ScR es/\VI st v (Ux es u hw ver id off len k d st K)):=(rfl)
end row
theorem Zsy{α:Type}{F:α->Prop}:Z7 none F=False:=(rfl)
end
abbrev tv(n:Int):Tr:=.v (.int .i64 n)
abbrev tb(b:Bool):Tr:=.v (.bool b)
abbrev ts(s:ByteArray):Tr:=.v (.string s)
abbrev rI(l:List Int):Ze:=l.map fun n=>[tv n]
abbrev tI(l:List Int):IV:=.tr (.sl (rI l))
abbrev rS(l:List ByteArray):Ze:=l.map fun n=>[ts n]
abbrev tS(l:List ByteArray):IV:=.tr (.sl (rS l))
theorem Zn(n:Int):Jg .i64 n=(-9223372036854775808<=n/\n<=9223372036854775807):=by
 simp [Jg,IntKind.min,IntKind.max,IntKind.signed,IntKind.bits]
theorem Zcd{α:Type}{k:Nat}(f:α->List Tr)(h:∀ x,(f x).length=k)(l:List α):ZA k (l.map f):=by
 intro e he
 obtain⟨x,_,rfl⟩:=UaM.1 he
 exact h x
end Go.Fd

namespace Go.Fd
def In(w:World)(b:Nat):Prop:=b<w.heap.size
def Zae(w:World)(cs:List Value)(ts:List Tr):Prop:=∀(j:Nat) (v:Value) (t:Tr),cs[j]? = some v->ts[j]? = some t->Rds w (In w) v t
def JU(P:Program)(t:TypeId){α:Type}(c:α->List Tr)(Q:α->Prop):Prop :=
 ∀(H:Type) (enc:TypeId×Value->H) (w:World) (sp:Nat->Bool) (hd:Bool) (fuel:Nat) (cs:List Value) (x:DataW H×List MemPlace),
  DataW.trod enc P w 0 sp hd fuel t cs=some x->∃ y,Q y/\Zae w cs (c y)
theorem Zaf{w:World}{v:Value}{t:Tr}(h:Rds w (In w) v t):Zae w [v] [t]:=fun j v' t' h1 h2=>by
 match j with
 | 0=>simp at h1 h2;subst h1;subst h2;exact h
 | j+1=>simp at h1
theorem Zsz{P:Program}{t:TypeId}(ht:P.underlying t=some (.int .i64)):JU P t (fun n:Int=>[tv n]) (Jg .i64):=by
 intro H enc w sp hd fuel cs x h
 obtain⟨n,rfl,_,hw⟩:=DataW.trod_int ht h
 exact⟨n,by simpa [Lit.wf,Jg] using hw,Zaf (.v _ rfl)⟩
theorem ZsA{P:Program}{t:TypeId}(ht:P.underlying t=some .string):JU P t (fun n:ByteArray=>[ts n]) (fun n=>n.size<=9223372036854775807):=by
 intro H enc w sp hd fuel cs x h
 obtain⟨n,rfl,_,hw⟩:=DataW.trod_string ht h
 exact⟨n,hw,Zaf (.v _ rfl)⟩
theorem ZsB{w:World}{a:Addr}{v:Value}(h:w.cell? a=some v):a.block<w.heap.size:=by
 unfold World.cell? at h
 cases hh:w.heap[a.block]? with
 | none=>rw[hh] at h;cases h
 | some o=>exact(Uav.1 hh).1
theorem ZsC{α:Type}(n:Nat)(R:Nat->α->Prop)(h:∀ i,i<n->∃ y,R i y):∃ l:List α,l.length=n/\∀ i y,l[i]? = some y->R i y:=by
 induction n with
 | zero=>exact⟨[],rfl,fun i y h=>by simp at h⟩
 | succ n ih =>
  obtain⟨l,hl,hr⟩:=ih (fun i hi=>h i (by omega))
  obtain⟨y,hy⟩:=h n (by omega)
  refine⟨l++[y],by simp [hl],fun i z hz=>?_⟩
  by_cases hi:i<n
  ·rw[Uam (by omega)] at hz;exact hr i z hz
  ·have hlt:=(Uac.1 hz).1
   simp only[Uaj,List.length_singleton] at hlt
   have:i=n:=by omega
   subst this
   rw[Uak (by omega),hl,Ube] at hz
   simp at hz
   exact hz ▸ hy
theorem Uy{P:Program}{t e:TypeId}{k:Nat}{α:Type}{c:α->List Tr}{Q:α->Prop}(ht:P.underlying t=some (.slice e))(hk:P.cellsOf e=k+1)(hc:∀ x,(c x).length=k+1)
  (he:JU P e c Q):JU P t (fun l:List α=>[.sl (l.map c)]) (fun l=>l.length<=9223372036854775807/\∀ x∈l,Q x):=by
 intro H enc w sp hd fuel cs x h
 rcases DataW.trod_slice ht h with ⟨rfl,_⟩ | ⟨a,len,cap,elems,rest,n,_,rfl,_,_,hl,hm,hlen,hel,_,_⟩
 ·exact⟨[],⟨by simp,by simp⟩,Zaf (.nil none 0)⟩
 ·have each:∀ i,i<len->∃ y,Q y/\∀ j t,(c y)[j]? = some t->∃ v,w.cell? (a.add (i*(k+1)+j))=some v/\Rds w (In w) v t:=fun i hi=>by
   have h1:=hel i hi
   rw[hk] at h1
   obtain⟨z,hz⟩:∃ z,elems[i]? = some z:=⟨elems[i]'(by omega),Uag _⟩
   rw[hz,Option.bind_eq_some_iff] at h1
   obtain⟨row,hrow,hx⟩:=h1
   obtain⟨y,hy,hr⟩:=he H enc w sp hd n row z hx
   obtain⟨_,hrl,hg⟩:=World.cells?_some hrow
   refine⟨y,hy,fun j t hj=>?_⟩
   have hjk:j<k+1:=by rw[<-hc y];exact(Uac.1 hj).1
   have hv:row[j]? = some (row[j]'(by omega)):=Uag _
   have:=hg j hjk
   rw[hv] at this
   have e2:(a.add (i*(k+1))).add j=a.add (i*(k+1)+j):=by
    unfold Addr.add
    by_cases h0:i*(k+1)=0
    ·simp [h0]
    ·by_cases h1:j=0
     ·simp [h1,h0]
     ·have h2:¬ (i*(k+1)+j=0):=by omega
      simp only[if_neg h0,if_neg h1,if_neg h2,Addr.mk.injEq,and_true,true_and]
      omega
   rw[e2] at this
   exact⟨_,this,hr j _ t hv hj⟩
  obtain⟨l,hll,hlr⟩:=ZsC len _ each
  refine⟨l,⟨?_,fun y hy=>?_⟩,Zaf ?_⟩
  ·rw[hll];exact UaE hl hm
  ·obtain⟨i,hi⟩:=Ua7 hy
   exact(hlr i y hi).1
  ·by_cases h0:len=0
   ·have:l=[]:=Uau (by omega)
    subst this;subst h0
    exact .nil _ _
   ·obtain⟨y0,hy0⟩:∃ y0,l[0]? = some y0:=⟨l[0]'(by omega),Uag _⟩
    obtain⟨t0,ht0⟩:∃ t0,(c y0)[0]? = some t0:=⟨(c y0)[0]'(by rw[hc];omega),Uag _⟩
    obtain⟨v0,hv0,_⟩:=(hlr 0 y0 hy0).2 0 t0 ht0
    obtain⟨b,o,s⟩:=a
    have hs:s=none:=by simpa [Addr.add] using World.cell?_spot hv0
    subst hs
    have hb:b<w.heap.size:=by simpa [Addr.add] using ZsB hv0
    have hel2:∀ i e j t,(l.map c)[i]? = some e->e[j]? = some t->∃ v,w.cell? ⟨b,o+i*(k+1)+j,none⟩=some v/\Rds w (In w) v t:=fun i e j t h1 h2=>by
     rw[Uaw,UaD] at h1
     obtain⟨y,hy,rfl⟩:=h1
     obtain⟨v,hv,hr⟩:=(hlr i y hy).2 j t h2
     refine⟨v,?_,hr⟩
     rw[<-hv]
     congr 1
     unfold Addr.add
     by_cases h0:i*(k+1)+j=0
     ·have:o+i*(k+1)+j=o:=by omega
      rw[if_pos h0,this]
     ·rw[if_neg h0]
      have:o+i*(k+1)+j=o+(i*(k+1)+j):=by omega
      simp only[this]
    have hlm:(l.map c).length=len:=by simpa using hll
    have:=Rds.sl (w:=w) (A:=In w) b o cap (k+1) (l.map c) (fun i j=>(w.cell? ⟨b,o+i*(k+1)+j,none⟩).getD .nilFunc) hb
     (fun e he=>by simp only[UaM] at he;obtain⟨y,_,rfl⟩:=he;exact hc y) (by omega)
     (fun i e j t h1 h2=>by obtain⟨v,hv,_⟩:=hel2 i e j t h1 h2;rw[hv];rfl)
     (fun i e j t h1 h2=>by obtain⟨v,hv,hr⟩:=hel2 i e j t h1 h2;rw[hv];exact hr)
    rw[hlm] at this
    exact this
def QQ(P:Program)(o:Nat)(l:List (Nat×TypeId)){α:Type}(c:α->List Tr)(Q:α->Prop):Prop :=
 ∀(H:Type) (enc:TypeId×Value->H) (w:World) (sp:Nat->Bool) (hd:Bool) (fuel:Nat) (cs:List Value),
  (∀ p∈l,∃ x,DataW.trod enc P w 0 sp hd fuel p.2 ((cs.drop p.1).take (P.cellsOf p.2))=some x)->∃ y,Q y/\Zae w (cs.drop o) (c y)
theorem Uz{P:Program}{o:Nat}:QQ P o [] (fun _:Unit=>[]) (fun _=>True):=fun H enc w sp hd fuel cs _=>⟨(),trivial,fun j v t _ h=>by simp at h⟩
theorem Yz{P:Program}{o k:Nat}{t:TypeId}{l:List (Nat×TypeId)}{α β:Type}{c:α->List Tr}{Q:α->Prop}{c2:β->List Tr}{Q2:β->Prop}
  (hk:P.cellsOf t=k) (hc:∀ x,(c x).length=k) (h1:JU P t c Q) (h2:QQ P (o+k) l c2 Q2) :
  QQ P o ((o,t)::l) (fun p:α×β=>c p.1++c2 p.2) (fun p=>Q p.1/\Q2 p.2):=fun H enc w sp hd fuel cs h=>by
 obtain⟨x,hx⟩:=h (o,t) (by simp)
 obtain⟨y,hy,hr⟩:=h1 _ _ _ _ _ _ _ _ hx
 obtain⟨y2,hy2,hr2⟩:=h2 H enc w sp hd fuel cs (fun p hp=>h p (by simp [hp]))
 refine⟨(y,y2),⟨hy,hy2⟩,fun j v t' hv ht=>?_⟩
 by_cases hj:j<k
 ·rw[Uam (by rw[hc];exact hj)] at ht
  refine hr j v t' ?_ ht
  rw[hk,List.getElem?_take_of_lt hj]
  exact hv
 ·rw[Uak (by rw[hc];omega),hc] at ht
  refine hr2 (j-k) v t' ?_ ht
  rw[UaH] at hv ⊢
  rw[<-hv]
  congr 1
  omega
theorem UA{P:Program}{t:TypeId}{fs:Array Field}{α:Type}{c:α->List Tr}{Q:α->Prop}(ht:P.underlying t=some (.struct fs))(h:QQ P 0 (fs.toList.map fun f=>(f.offset,f.type)) c Q):JU P t c Q:=by
 intro H enc w sp hd fuel cs x hx
 obtain⟨xs,n,_,_,_,hl,hf⟩:=DataW.trod_struct ht hx
 have:=h H enc w sp hd n cs (fun p hp=>by
  simp only[UaM] at hp
  obtain⟨f,hf1,rfl⟩:=hp
  obtain⟨i,hi⟩:=Ua7 hf1
  have hi':fs[i]? = some f:=by simpa using hi
  have hlt:i<xs.length:=by rw[hl];exact(Uav.1 hi').1
  exact⟨_,(hf i f hi').trans (Uag hlt)⟩)
 simpa using this
theorem ZsD{P:Program}{t:TypeId}{α β:Type}{c:α->List Tr}{Q:α->Prop}{c2:β->List Tr}{Q2:β->Prop}(g:α->β)(hg:∀ x,c2 (g x)=c x)(hq:∀ x,Q x->Q2 (g x))(h:JU P t c Q):JU P t c2 Q2:=by
 intro H enc w sp hd fuel cs x hx
 obtain⟨y,hy,hr⟩:=h H enc w sp hd fuel cs x hx
 exact⟨g y,hq y hy,by rw[hg];exact hr⟩
theorem UB{P:Program}{t:TypeId}{α β:Type}{c:α->List Tr}{Q:α->Prop}{c2:β->List Tr}{Q2:β->Prop}(h:JU P t c Q)(g:α->β)(hg:∀ x,c2 (g x)=c x)(hq:∀ x,Q x->Q2 (g x)):JU P t c2 Q2:=ZsD g hg hq h
end Go.Fd

namespace Go.Fd
variable [Tabs]
open Go.RowKit
def G0:Gh:=fun _ _=>none
def S0:Zc:=fun _=>none
theorem Av0{w:World}{b:Nat}(h:In w b):Av G0 S0 w b:=⟨h,fun id ob hs=>by cases hs⟩
theorem Zgg{w:World}:∀{cs:List Value} {ts:List Tr},cs.length=ts.length->Zae w cs ts->Zl G0 S0 w (ts.map .tr) cs
 | [],[],_,_=>by simp [Zl]
 | v::cs,t::ts,hl,h=>by
  simp only[Ual,Zl]
  refine⟨v,cs,rfl,?_,Zgg (by simpa using hl) (fun j v' t' h1 h2=>h (j+1) v' t' (by simpa using h1) (by simpa using h2))⟩
  simp only[VR]
  exact Rds.mono (fun b=>Av0) (fun b _=>rfl) (h 0 v t rfl rfl)
 | [],_::_,hl,_=>by simp at hl
 | _::_,[],hl,_=>by simp at hl
theorem ZsE{P:Program}{f:FuncId}{args:List IV}{b:Bool}{w:World}{vs:List Value}(h:Sem P f 0 args S0 (iB b) S0)(hv:Zl G0 S0 w args vs)(hg:Tabs.good w) :
  Calls P f vs.toArray w fun e w' => e = .returned (.bool b)/\Below w.heap.size w w':=by
 obtain⟨_,_,h⟩:=h
 refine(h (fun id ob hs=>by cases hs) G0 w vs ⟨fun id ob hs=>(nomatch hs),fun id ob id2 ob2 b2 hs=>(nomatch hs),fun id cells hs=>(nomatch hs)⟩ hv ⟨w,hg,Uaf _,fun b hb=>⟨⟨hb,fun id ob hs=>by cases hs⟩,rfl⟩⟩).mono ?_
 rintro e w' ⟨v,G',rfl,_,hr,_,hf⟩
 have hr':Rds w' (Av G' (ZR S0 0 0 (impv true 0 0 0 (iB b)).2) w') v (.v (.bool b)):=hr
 cases hr' with
 | v x hx =>
  exact⟨rfl,hf.os,hf.tape,hf.output,hf.size,fun k hk=>hf.old k hk (fun id ob hs=>by cases hs)⟩
theorem ZsF{P:Program}{w:World}{r:Reach}{base:Nat}{t e:TypeId}{v:Value}(ht:P.underlying t=some (.slice e))(h:Value.okWide P w r base t v):v.cells.toList=[v]:=by
 unfold Value.okWide at h
 rw[ht] at h
 simp only[Cell.okWide,ht,Cell.ok] at h
 cases v <;> first | rfl | exact absurd h (by simp)
theorem ZsG{P:Program}{w:World}{r:Reach}{base:Nat}{t:TypeId}{fs:Array Field}{v:Value}(ht:P.underlying t=some (.struct fs))(h:Value.okWide P w r base t v):∃ cs,v = .agg cs/\cs.size=P.cellsOf t:=by
 unfold Value.okWide at h
 rw[ht] at h
 obtain⟨cs,h1,h2,_⟩:=h
 exact⟨cs,h1,h2⟩
section
variable {H:Type} {enc:TypeId×Value->H} {P:Program} {w:World} {t:TypeId} {v:Value} {d:DataW H} {p:List MemPlace} {α:Type} {c:α->List Tr} {Q:α->Prop} {sp:Nat->Bool} {hd:Bool} {base:Nat}
theorem Zgh{fs:Array Field}{k:Nat}(hr:JU P t c Q)(ht:P.underlying t=some (.struct fs))(hk:P.cellsOf t=k)(hc:∀ x,(c x).length=k)(hok:Value.okWide P w .any base t v)(h:DataW.Trod enc P w 0 sp hd t v d p) :
  ∃ y,Q y/\VR G0 S0 w (.ag ((c y).map .tr)) v:=by
 obtain⟨cs,rfl,hs⟩:=ZsG ht hok
 obtain⟨n,hn⟩:=h
 obtain⟨y,hy,hrow⟩:=hr H enc w sp hd n _ _ hn
 refine⟨y,hy,?_⟩
 simp only[VR]
 refine⟨cs.toList,by simp,Zgg ?_ hrow⟩
 rw[hc,<-hk,<-hs]
 simp
theorem ZsH{e:TypeId}{g:α->Tr}(hr:JU P t (fun x=>[g x]) Q)(ht:P.underlying t=some (.slice e))(hok:Value.okWide P w .any base t v)(h:DataW.Trod enc P w 0 sp hd t v d p) :
  ∃ y,Q y/\VR G0 S0 w (.tr (g y)) v:=by
 obtain⟨n,hn⟩:=h
 rw[ZsF ht hok] at hn
 obtain⟨y,hy,hrow⟩:=hr H enc w sp hd n _ _ hn
 refine⟨y,hy,?_⟩
 simp only[VR]
 exact Rds.mono (fun b=>Av0) (fun b _=>rfl) (hrow 0 v _ rfl rfl)
end
theorem ZsI{H:Type}{enc:TypeId×Value->H}{P:Program}{f:Func}{s:ChangeSpec}{Xj:Bool}{W W':World}{args:Array Value}{v:Value}{ds gs:List (DataW H)}{before pa pv:List MemPlace}
  (hW:DataW.Whole enc P f.params.toList s.vars Xj W args.toList ds gs before) (hb:Below W.heap.size W W')
  (hres:DataW.TrodAll enc P W' W.heap.size (fun _=>false) false f.resultTypes.toList (v.resultList f.resultTypes.size) (s.fn H (ds++gs)).results [])
  (hargs:DataW.TrodAll enc P W' 0 (fun b=>decide (b<W.heap.size)) true f.params.toList args.toList (s.fn H (ds++gs)).args pa)
  (hvars:DataW.TrodVars enc P W' (fun b=>decide (b<W.heap.size)) s.vars (s.fn H (ds++gs)).vars pv) :
  s.post enc P f Xj true false false W args v W' :=
 ⟨ds,gs,before,[],pa,pv,hW,hres,hargs,hvars,hb.frame _,fun h=>by cases h⟩
end Go.Fd

namespace Go.Fd
variable [Tabs]
open Go.RowKit
theorem ZsJ{w w':World}(h:Below w.heap.size w w'):Ext w w':=⟨h.size,h.block,h.os,h.tape,h.output⟩
theorem Zgi{G:Gh}{S:Zc}{w:World}:∀{xs vs:List Value},Zl G S w (xs.map fun v=>.tr (.v v)) vs->vs=xs
 | [],vs,h=>by simpa [Zl] using h
 | x::r,vs,h=>by
  simp only[Ual,Zl] at h
  obtain⟨v,vr,rfl,h1,h2⟩:=h
  rw[Zgi h2]
  have h1':Rds w (Av G S w) v (.v x):=h1
  cases h1'
  rfl
theorem ZsK{P:Program}{f:FuncId}{lvl:Nat}{S:Zc}{args:List IV}{r:IV}(hc:W4 P f)(hi:impv true lvl 0 0 r=(r,[]))(hlow:low lvl r)
  (h:(∀ id ob,S id=some ob->id.1<lvl)->∀ G w vs,SOk G S w->Zl G S w args vs->Fix G S w->Calls P f vs.toArray w fun e w' => ∃ v,e = .returned v/\VR G S w' r v/\Below w.heap.size w w'):Sem P f lvl args S r S:=by
 refine⟨hlow,hc,fun hS G w vs hok hv hfx=>?_⟩
 refine(h hS G w vs hok hv hfx).mono ?_
 rintro e w' ⟨v,rfl,hr,hb⟩
 rw[hi]
 have e:Ext w w':=ZsJ hb
 exact⟨v,G,rfl,hok.ext e,hr,hS,Frm.of_ext e⟩
theorem ZsL{P:Program}{f:FuncId}{lvl:Nat}{S:Zc}{args:List IV}{r:IV}(hc:W4 P f)(hi:impv true lvl 0 0 r=(r,[]))(hlow:low lvl r)
  (h:(∀ id ob,S id=some ob->id.1<lvl)->∀ G w vs,SOk G S w->Zl G S w args vs->Calls P f vs.toArray w fun e w' => ∃ v,e = .returned v/\VR G S w' r v/\Below w.heap.size w w'):Sem P f lvl args S r S :=
 ZsK hc hi hlow fun hS G w vs hok hv _=>h hS G w vs hok hv
theorem ZsM{P:Program}{f:FuncId}{lvl:Nat}{S:Zc}{xs:List Value}{y:Value}(hc:W4 P f)(hy:Jp y=true)
  (h:∀ w,Calls P f xs.toArray w fun e w' => e = .returned y/\Below w.heap.size w w'):Sem P f lvl (xs.map fun v=>.tr (.v v)) S (.tr (.v y)) S:=by
 refine ZsL hc rfl trivial fun _ G w vs _ hv=>?_
 rw[Zgi hv]
 exact(h w).mono fun e w' ⟨h1,h2⟩=>⟨y,h1,.v y hy,h2⟩
end Go.Fd

namespace Go.Fd
def Wz:List (Nat×IV)->List (Nat×IV)->List (Nat×IV)
 | [],env=>env
 | (t,x)::r,env=>Wz r (pt t x env)
def WA:List (Nat×Ob)->List (Nat×Ob)->List (Nat×Ob)
 | [],loc=>loc
 | (t,x)::r,loc=>WA r (ptO t x loc)
def VZ(ce:List (Nat×IV))(co:List (Nat×Ob))(s:St):St:=⟨s.lvl,Wz ce s.env,WA co s.loc,s.out⟩
section
variable {C:ZG} {lvl:Nat} {env:List (Nat×IV)} {loc:List (Nat×Ob)} {out:Zc} {st:St} {Q:Ex->St->Prop}
theorem ZsN{ce:List (Nat×IV)}{co:List (Nat×Ob)}:VZ ce co ⟨lvl,env,loc,out⟩=⟨lvl,Wz ce env,WA co loc,out⟩:=(rfl)
theorem ZsO:Wz [] env=env:=(rfl)
theorem ZsP{t:Nat}{x:IV}{r:List (Nat×IV)}:Wz ((t,x)::r) env=Wz r (pt t x env):=(rfl)
theorem ZsQ:WA [] loc=loc:=(rfl)
theorem ZsR{t:Nat}{x:Ob}{r:List (Nat×Ob)}:WA ((t,x)::r) loc=WA r (ptO t x loc):=(rfl)
theorem Jf{α:Type}{ks js:List Nat}{c:C2}(N:Nat)(ce:Nat->α->List (Nat×IV))(co:Nat->α->List (Nat×Ob))(A:Nat->α->Prop)(x0:α)
  (h1:clean ks js st) (h0:fgt ks js st=VZ (ce 0 x0) (co 0 x0) (fgt ks js st)) (hA:A 0 x0)
  (hs:∀ k x,k<=N->A k x->wp C c (VZ (ce k x) (co k x) (fgt ks js st)) (Xs ks js (Zb8 N (fun k x=>VZ (ce k x) (co k x) (fgt ks js st)) A (N-k)) Q)):wp C (.lp ks js c) st Q :=
 J7 N (fun k x=>VZ (ce k x) (co k x) (fgt ks js st)) A x0 ⟨h1,h0⟩ hA hs
theorem ZsS{α:Type}{ks js:List Nat}{c:C2}(M:α->Nat)(ce:α->List (Nat×IV))(co:α->List (Nat×Ob))(A:α->Prop)(x0:α)
  (h1:clean ks js st) (h0:fgt ks js st=VZ (ce x0) (co x0) (fgt ks js st)) (hA:A x0)
  (hs:∀ x,A x->wp C c (VZ (ce x) (co x) (fgt ks js st)) (Xs ks js (fun s' => ∃ y,M y<M x/\s'=VZ (ce y) (co y) (fgt ks js st)/\A y) Q)):wp C (.lp ks js c) st Q:=by
 refine Zga (fun n s=>∃ x,M x=n/\s=VZ (ce x) (co x) (fgt ks js st)/\A x) (M x0) ⟨h1,x0,rfl,h0,hA⟩ (fun n s ⟨x,hn,he,ha⟩=>?_)
 subst he
 have h:=hs x ha
 refine(?_:_->_) h
 intro h
 have e:(fun s' => ∃ y,M y<M x/\s'=VZ (ce y) (co y) (fgt ks js st)/\A y)=fun s' => ∃ m,m<n/\∃ x,M x=m/\s'=VZ (ce x) (co x) (fgt ks js st)/\A x:=by
  funext s'
  apply propext
  constructor
  ·rintro⟨y,h1,h2,h3⟩;exact⟨M y,by omega,y,rfl,h2,h3⟩
  ·rintro⟨m,h1,y,h2,h3,h4⟩;exact⟨y,by omega,h3,h4⟩
 rw[e] at h
 exact h
end
section
variable {L:Zc} {F:List IV->Prop} {r:List IV}
def Zgj(L:Zc)(r:List IV)(F:List IV->Prop)(y:IV):Prop:=ZY L r (Y9 y F)
theorem ZsT{y:IV}:Zgj L r F y=ZY L r (Y9 y F):=(rfl)
theorem ZsU{id:Zd}{off:Nat}:ZY L (.ab id off::r) F=V5 (L id) L off (Zgj L r F):=by simp only[ZY,Z3];rfl
def kta(F:IV->Prop)(ts:List Tr):Prop:=F (.ta ts)
theorem ZsV{F:IV->Prop}{ts:List Tr}:kta F ts=F (.ta ts):=(rfl)
theorem ZsW{cells:List IV}{off:Nat}{F:IV->Prop}:V5 (some (.bx cells)) L off F=Yd L (cells.drop off) (kta F):=(rfl)
def kct(t:Tr)(F:List Tr->Prop)(ts:List Tr):Prop:=F (t::ts)
theorem ZsX{t:Tr}{F:List Tr->Prop}{ts:List Tr}:kct t F ts=F (t::ts):=(rfl)
def Zgk(L:Zc)(r:List IV)(F:List Tr->Prop)(t:Tr):Prop:=Yd L r (kct t F)
theorem ZsY{F:List Tr->Prop}{t:Tr}:Zgk L r F t=Yd L r (kct t F):=(rfl)
theorem ZsZ{F:List Tr->Prop}:Yd L [] F=F []:=(rfl)
theorem Zs0{x:IV}{F:List Tr->Prop}:Yd L (x::r) F=YZ L x (Zgk L r F):=(rfl)
theorem Zs1{t:Tr}{F:Tr->Prop}:YZ L (.tr t) F=F t:=(rfl)
theorem Zs2{es:Ze}{F:Tr->Prop}:YZ L (.cs es) F=F (.sl es):=(rfl)
def Zgl(off len:Nat)(F:Tr->Prop)(es:Ze)(_u:Bool)(_v:Nat):Prop:=off+len<=es.length/\F (.sl (cut es off len))
theorem Zs3{off len:Nat}{F:Tr->Prop}{es:Ze}{u:Bool}{v:Nat}:Zgl off len F es u v=(off+len<=es.length/\F (.sl (cut es off len))):=(rfl)
theorem Zs4{id:Zd}{p:Zh}{off len s:Nat}{cap:Option Nat}{F:Tr->Prop}:YZ L (.hd id p off len cap s) F=Y8 (L id) p s (Zgl off len F):=by rw[<-Xp];rfl
end
theorem Zs5{α:Type}{x:α}:List.replicate 1 x=[x]:=(rfl)
theorem Zs6{e:List Tr}:cut [e] 0 1=[e]:=(rfl)
theorem Zs7{l:List Tr}:ScR [l]=(l.all isSc=true):=by
 apply propext
 constructor
 ·intro h
  exact Ua0.2 fun t ht=>h l (by simp) t ht
 ·intro h e he t ht
  simp only[Ubb] at he
  subst he
  exact Ua0.1 h t ht
theorem Zs8{k:Nat}{l:List Tr}:ZA k [l]=(l.length=k):=by
 apply propext
 constructor
 ·intro h;exact h l (by simp)
 ·intro h e he
  simp only[Ubb] at he
  rw[he,h]
theorem Zs9{j:Nat}:max j (j+1)=j+1:=by omega
theorem Zta{j:Nat}:(j<j+1)=True:=by simp
end Go.Fd

namespace Go.Fd
open Go.RowKit Go.ChangeShapes Go.ChangeMaps Go.WideMaps
section
variable {H:Type} {enc:TypeId×Value->H} {P:Program} {w:World} {t:TypeId} {v:Value} {d:DataW H} {p:List MemPlace} {sp:Nat->Bool} {hd:Bool} {base:Nat}
end
end Go.Fd

namespace Go.Fd
set_option linter.defProp false in
def EV0:=(Uab (Uab (Uab (Uab (Uab @ZlH @ZlI) (Uab @ZlJ (Uab @ZlK @ZlL))) (Uab (Uab @ZlM @ZlN) (Uab @ZlO (Uab @ZlP @ZlQ)))) (Uab (Uab (Uab @ZlR @ZlS) (Uab @ZlT (Uab @ZlU @ZlV))) (Uab (Uab @ZlW @ZlX) (Uab @ZlY (Uab @ZlZ @Zl0))))) (Uab (Uab (Uab (Uab @Zl1 @Zl2) (Uab @Zl3 (Uab @Zl4 @Zl5))) (Uab (Uab @Zl6 @Zl7) (Uab @Zl8 (Uab @Zl9 @Zma)))) (Uab (Uab (Uab @Zmb @Zmc) (Uab @Zmd (Uab @Zme @Zmf))) (Uab (Uab @Zmg @Zmh) (Uab @Zmi (Uab @Zmj @Zmk))))))
set_option linter.defProp false in
def EV1:=(Uab (Uab (Uab (Uab (Uab @Zml @Zmm) (Uab @Zmn (Uab @Zmo @Zmp))) (Uab (Uab @Zmq @Zmr) (Uab @Zms (Uab @Zmt @Zmu)))) (Uab (Uab (Uab @Zmv @Zmw) (Uab @Zmx (Uab @Zmy @Zmz))) (Uab (Uab @ZmA @ZmB) (Uab @ZmC (Uab @ZmD @ZmE))))) (Uab (Uab (Uab (Uab @ZmF @ZmG) (Uab @ZmH (Uab @ZmI @ZmJ))) (Uab (Uab @ZmK @ZmL) (Uab @ZmM (Uab @ZmN @ZfK)))) (Uab (Uab (Uab @ZfL @ZmO) (Uab @ZmP (Uab @ZmQ @ZmR))) (Uab (Uab @ZmS @ZmT) (Uab @ZmU (Uab @ZmV @ZmW))))))
set_option linter.defProp false in
def EV2:=(Uab (Uab (Uab (Uab (Uab @ZmX @ZmY) (Uab @ZmZ (Uab @Zm0 @Zm1))) (Uab (Uab @Zm2 @Zm3) (Uab @Zm4 (Uab @Zm5 @Zm6)))) (Uab (Uab (Uab @Zm7 @Zm8) (Uab @Zm9 (Uab @Zna @Znb))) (Uab (Uab @Znc @Znd) (Uab @Zne (Uab @Znf @Zng))))) (Uab (Uab (Uab (Uab @Znh @Zni) (Uab @Znj (Uab @Znk @Znl))) (Uab (Uab @Znm @Znn) (Uab @Zno (Uab @Znp @Znq)))) (Uab (Uab (Uab @Znr @Zns) (Uab @Znt (Uab @Znu @Znv))) (Uab (Uab @Znw @Znx) (Uab @Zny (Uab @Znz @ZnA))))))
set_option linter.defProp false in
def EV3:=(Uab (Uab (Uab (Uab (Uab @ZnB @ZnC) (Uab @ZnD (Uab @ZnE @ZnF))) (Uab (Uab @ZnG @ZnH) (Uab @ZnI (Uab @ZnJ @ZnK)))) (Uab (Uab (Uab @ZnL @ZnM) (Uab @ZnN (Uab @ZnO @ZnP))) (Uab (Uab @ZnQ @ZnR) (Uab @JA (Uab @Xq @ZnS))))) (Uab (Uab (Uab (Uab @ZnT @Qj) (Uab @ZnU (Uab @ZnV @ZnW))) (Uab (Uab @ZnX @ZnY) (Uab @ZnZ (Uab @Zn0 @Zn1)))) (Uab (Uab (Uab @Zn2 @Zn3) (Uab @Zn4 (Uab @Zn5 @Zn6))) (Uab (Uab @Zn7 @Zn8) (Uab @Zn9 (Uab @Zoa @Zob))))))
set_option linter.defProp false in
def EV4:=(Uab (Uab (Uab (Uab (Uab @Zoc @Zod) (Uab @Zoe (Uab @Zof @Zog))) (Uab (Uab @Zoh @Zoi) (Uab @Zoj (Uab @Zok @Zol)))) (Uab (Uab (Uab @Zom @Zon) (Uab @Zoo (Uab @Zop @Zoq))) (Uab (Uab @Zor @Zos) (Uab @Zot (Uab @Zou @Zov))))) (Uab (Uab (Uab (Uab @Zow @ZfY) (Uab @Zox (Uab @Zoy @Zoz))) (Uab (Uab @Zb5 @Zf2) (Uab @ZoA (Uab @ZoB @ZoC)))) (Uab (Uab (Uab @Zf3 @ZoD) (Uab @ZoE (Uab @ZoF @ZoG))) (Uab (Uab @ZoH @ZoI) (Uab @ZoJ (Uab @ZoK @ZoL))))))
set_option linter.defProp false in
def EV5:=(Uab (Uab (Uab (Uab (Uab @ZoM @ZoN) (Uab @ZoO (Uab @ZoP @ZoQ))) (Uab (Uab @ZoR @ZoS) (Uab @ZoT (Uab @ZoU @ZoV)))) (Uab (Uab (Uab @ZoW @ZoX) (Uab @ZoY (Uab @ZoZ @Zo0))) (Uab (Uab @Zo1 @Zo2) (Uab @Zo3 (Uab @Zo4 @Zo5))))) (Uab (Uab (Uab (Uab @Zo6 @Zo7) (Uab @Zo8 (Uab @Zo9 @Zpa))) (Uab (Uab @Zpb @Zpc) (Uab @Zpd (Uab @Zpe @Zpf)))) (Uab (Uab (Uab @Zpg @Zph) (Uab @Zpi (Uab @Zpj @Zpk))) (Uab (Uab @Zpl @Zpm) (Uab @Zpn (Uab @Zpo @Zpp))))))
set_option linter.defProp false in
def EV6:=(Uab (Uab (Uab (Uab (Uab @Zpq @Zpr) (Uab @Zps (Uab @Zpt @Zpu))) (Uab (Uab @Zpv @Zpw) (Uab @Zpx (Uab @Zpy @Zpz)))) (Uab (Uab (Uab @ZpA @ZpB) (Uab @ZpC (Uab @ZpD @ZpE))) (Uab (Uab @ZpF @ZpG) (Uab @ZpH (Uab @ZpI @ZpJ))))) (Uab (Uab (Uab (Uab @ZpK @ZpL) (Uab @ZpM (Uab @ZpN @ZpO))) (Uab (Uab @ZpP @ZpQ) (Uab @ZpR (Uab @ZpS @ZpT)))) (Uab (Uab (Uab @ZpU @ZpV) (Uab @ZpW (Uab @ZpX @ZpY))) (Uab (Uab @YL @YM) (Uab @ZpZ (Uab @Zp0 @Zp1))))))
set_option linter.defProp false in
def EV7:=(Uab (Uab (Uab (Uab (Uab @Zp2 @Zp3) (Uab @Zp4 (Uab @Zp5 @Zp6))) (Uab (Uab @Zp7 @Zp8) (Uab @Zp9 (Uab @Zqa @Zqb)))) (Uab (Uab (Uab @Zqc @Zqd) (Uab @Zqe (Uab @Zqf @Zqg))) (Uab (Uab @Zqh @Zqi) (Uab @Zqj (Uab @Zqk @Zql))))) (Uab (Uab (Uab (Uab @Zqm @Zqn) (Uab @Zqo (Uab @Zqp @Zqq))) (Uab (Uab @Zqr @Zqs) (Uab @Zqt (Uab @Zqu @Zqv)))) (Uab (Uab (Uab @Zqw @Zqx) (Uab @Zqy (Uab @Zqz @ZqA))) (Uab (Uab @ZqB @ZqC) (Uab @ZqD (Uab @ZqE @ZqF))))))
set_option linter.defProp false in
def EV8:=(Uab (Uab (Uab (Uab (Uab @ZqG @ZqH) (Uab @ZqI (Uab @ZqJ @ZqK))) (Uab (Uab @ZqL @ZqM) (Uab @ZqN (Uab @ZqO @ZqP)))) (Uab (Uab (Uab @ZqQ @ZqR) (Uab @ZqS (Uab @ZqT @ZqU))) (Uab (Uab @ZqV @ZqW) (Uab @ZqX (Uab @ZqY @ZqZ))))) (Uab (Uab (Uab (Uab @Zq0 @Zq1) (Uab @Zq2 (Uab @Zq3 @Zq4))) (Uab (Uab @Zq5 @Zq6) (Uab @Zq7 (Uab @Zq8 @Zq9)))) (Uab (Uab (Uab @Zra @Zrb) (Uab @Zrc (Uab @Zrd @Zre))) (Uab (Uab @Zrf @Zrg) (Uab @Zrh (Uab @Zri @Zrj))))))
set_option linter.defProp false in
def EV9:=(Uab (Uab (Uab (Uab (Uab @Zrk @Zrl) (Uab @Zrm (Uab @Zrn @Zro))) (Uab (Uab @Zrp @Zrq) (Uab @Zca (Uab @Zac @Zrr)))) (Uab (Uab (Uab @Zrs @Zrt) (Uab @Zru (Uab @Zrv @Zrw))) (Uab (Uab @Zrx @Zry) (Uab @Zrz (Uab @ZrA @ZrB))))) (Uab (Uab (Uab (Uab @ZrC @ZrD) (Uab @ZrE (Uab @ZrF @ZrG))) (Uab (Uab @ZrH @ZrI) (Uab @ZrJ (Uab @ZrK @ZrL)))) (Uab (Uab (Uab @ZrM @ZrN) (Uab @ZrO (Uab @ZrP @ZrQ))) (Uab (Uab @ZrR @ZrS) (Uab @ZrT (Uab @ZrU @ZrV))))))
set_option linter.defProp false in
def Ztb:=(Uab (Uab (Uab (Uab (Uab @ZrW @ZrX) (Uab @ZrY (Uab @ZrZ @Zr0))) (Uab (Uab @Zr1 @Zr2) (Uab @Zr3 (Uab @Zr4 @Zr5)))) (Uab (Uab (Uab @Zr6 @Zr7) (Uab @Zr8 (Uab @Zr9 @Zsa))) (Uab (Uab @Zsb @Zsc) (Uab @Zsd (Uab @Zse @Zsf))))) (Uab (Uab (Uab (Uab @Zsg @Zsh) (Uab @Zsi (Uab @Zsj @Zsk))) (Uab (Uab @Zsl @Zsm) (Uab @Zsn (Uab @Zso @Zsp)))) (Uab (Uab (Uab @Zsq @Zsr) (Uab @Zss (Uab @Zst @Zsu))) (Uab (Uab @Zsv @Zsw) (Uab @Zsx (Uab @Zsy @ZsN))))))
set_option linter.defProp false in
def Ztc:=(Uab (Uab (Uab (Uab (Uab @ZsO @ZsP) (Uab @ZsQ (Uab @ZsR @ZsT))) (Uab (Uab @ZsU @ZsV) (Uab @ZsW (Uab @ZsX @ZsY)))) (Uab (Uab (Uab @ZsZ @Zs0) (Uab @Zs1 (Uab @Zs2 @Zs3))) (Uab (Uab @Zs4 @Zs5) (Uab @Zs6 (Uab @Zs7 @Zs8))))) (Uab (Uab (Uab (Uab @Zs9 @Zta) (Uab @bigN.eq_1 (Uab @fpart.eq_1 @fpart.eq_2))) (Uab (Uab @okp.eq_1 @okp.eq_2) (Uab @zfill.eq_1 (Uab @zfill.eq_2 @zobs.eq_1)))) (Uab (Uab (Uab @ptd.eq_1 @ptd.eq_2) (Uab @keyOf.eq_1 (Uab @keyOf.eq_2 @freshK.eq_1))) (Uab (Uab @freshK.eq_2 @lk.eq_1) (Uab @lk.eq_2 (Uab @pt.eq_1 @pt.eq_2))))))
set_option linter.defProp false in
def Ztd:=(Uab (Uab (Uab (Uab (Uab @lkO.eq_1 @lkO.eq_2) (Uab @ptO.eq_1 (Uab @ptO.eq_2 @addO.eq_1))) (Uab (Uab @addO.eq_2 @xv.eq_1) (Uab @xv.eq_2 (Uab @xv.eq_3 @kv.eq_1)))) (Uab (Uab (Uab @kv.eq_2 @kc.eq_1) (Uab @kc.eq_2 (Uab @params.eq_1 @params.eq_2))) (Uab (Uab @trv.eq_1 @trv.eq_2) (Uab @List.length_cons.{0} (Uab @List.length_nil.{0} @Option.getD_some.{0}))))) (Uab (Uab (Uab (Uab @Option.getD_none.{0} @true_and) (Uab @and_true (Uab @decide_eq_true_eq @decide_true))) (Uab (Uab @decide_false @Option.map_some.{0,0}) (Uab @Option.map_none.{0,0} (Uab @Option.isSome_some.{0} @Option.isSome_none.{0})))) (Uab (Uab (Uab @Option.isNone_some.{0} @Option.isNone_none.{0}) (Uab @Ual.{0,0} (Uab @Uaq.{0,0} @List.cons_append.{0}))) (Uab (Uab @List.nil_append.{0} @List.getElem?_cons_zero.{0}) (Uab @List.getElem?_cons_succ.{0} (Uab @List.drop_succ_cons.{0} @UbF.{0}))))))
set_option linter.defProp false in
def Zte:=(Uab (Uab (Uab (Uab (Uab @List.take_succ_cons.{0} @List.take_zero.{0}) (Uab @List.headD_cons.{0} (Uab @List.headD_nil.{0} @List.tail_cons.{0}))) (Uab (Uab @List.tail_nil.{0} @noSh.eq_1) (Uab @noSh.eq_2 (Uab @noSh.eq_3 @noSh.eq_4)))) (Uab (Uab (Uab @noSh.eq_5 @noSh.eq_6) (Uab @noSh.eq_7 (Uab @noSh.eq_8 @noShs.eq_1))) (Uab (Uab @noShs.eq_2 @isSc.eq_1) (Uab @isSc.eq_2 (Uab @impv.eq_1 @impv.eq_2))))) (Uab (Uab (Uab (Uab @impv.eq_3 @impv.eq_4) (Uab @impvs.eq_1 (Uab @impvs.eq_2 @impc.eq_1))) (Uab (Uab @impc.eq_2 @memB.eq_1) (Uab @memB.eq_2 (Uab @keepB.eq_1 @keepB.eq_2)))) (Uab (Uab (Uab @keepOB.eq_1 @keepOB.eq_2) (Uab @or_true (Uab @true_or @or_false))) (Uab (Uab @false_or @UaU) (Uab @Bool.true_eq_false (Uab @if_true.{1} @if_false.{1}))))))
set_option linter.defProp false in
def Ztf:=(Uab (Uab (Uab (Uab (Uab @Bool.not_true @Bool.not_false) (Uab @scrE.eq_1 (Uab @scrE.eq_2 @scrL.eq_1))) (Uab (Uab @scrL.eq_2 @scr.eq_1) (Uab @scr.eq_2 (Uab @scr.eq_3 @scr.eq_4)))) (Uab (Uab (Uab @scr.eq_5 @scr.eq_6) (Uab @scr.eq_7 (Uab @scr.eq_8 @scrs.eq_1))) (Uab (Uab @scrs.eq_2 @scrOb.eq_1) (Uab @scrOb.eq_2 (Uab @rmO.eq_1 @rmO.eq_2))))) (Uab (Uab (Uab (Uab @Int.toNat_natCast @Int.toNat_zero) (Uab @Int.toNat_one (Uab @List.all_cons.{0} @List.all_nil.{0}))) (Uab (Uab @isCell.eq_1 @isCell.eq_2) (Uab @isCell.eq_3 (Uab @isCell.eq_4 @isCell.eq_5)))) (Uab (Uab (Uab @isCell.eq_6 @Ubo) (Uab @Bool.true_and (Uab @Bool.and_self @cellsOf.eq_1))) (Uab (Uab @cellsOf.eq_2 @totr.eq_1) (Uab @totr.eq_2 (Uab @totr.eq_3 @totr.eq_4))))))
set_option linter.defProp false in
def Ztg:=(Uab (Uab (Uab (Uab @totr.eq_5 (Uab @totrs.eq_1 @totrs.eq_2)) (Uab (Uab @tocs.eq_1 @getp.eq_1) (Uab @getp.eq_2 @cvt.eq_1))) (Uab (Uab @cvt.eq_2 (Uab @cvts.eq_1 @cvts.eq_2)) (Uab (Uab @Uat @Nat.add_zero) (Uab @List.set_cons_zero.{0} @List.set_cons_succ.{0})))) (Uab (Uab (Uab @Uao (Uab @Bool.not_eq_false' @Uar)) (Uab (Uab @Uaf @UaQ.{0,0}) (Uab @ne_eq.{1} @not_false_eq_true))) (Uab (Uab (Uab @not_true_eq_false @Uaa.{0,0}) (Uab @Ubs.{0} @List.replicate_zero.{0})) (Uab (Uab @and_false @false_and) (Uab @and_self @Int.cast_ofNat_Int)))))
set_option linter.defProp false in
def Zb:=(Uab (Uab (Uab (Uab EV0 EV1) (Uab EV2 EV3)) (Uab (Uab EV4 EV5) (Uab EV6 EV7))) (Uab (Uab (Uab EV8 EV9) (Uab Ztb Ztc)) (Uab (Uab Ztd Zte) (Uab Ztf Ztg))))
abbrev oo(d:Nat)(x:O):OP:=⟨some d,none,x⟩
abbrev ZN(x:O):OP:=⟨none,none,x⟩
abbrev og(d j:Nat)(w:Bool)(x:O):OP:=⟨some d,some (j,w),x⟩
abbrev om(d:Nat)(x:X):OP:=⟨some d,none,.mv x none⟩
abbrev rg(l:List OP):C2:=.rg none l
abbrev i6(n:Int):X:=.k (.int .i64 n)
set_option maxRecDepth 10000
theorem Zx{c:Prop}[Decidable c]{p q:Prop}(h1:c->p)(h2:¬ c->q):if c then p else q:=by
 split
 ·exact h1 ‹_›
 ·exact h2 ‹_›
def YN(n:Nat)(left:Int):Int:=if left-n<0 then -1 else left-n
def Yl{α:Type}(f:α->Int->Int):List α->Int->Int
 | [],l=>l
 | x::r,l=>if f x l<0 then -1 else Yl f r (f x l)
def JB{α:Type}(f:α->Int->Int)(a:List α)(left:Int):Int:=if left-a.length<0 then -1 else Yl f a (left-a.length)
def sz0:F2 :=
 { nt:=12,res:=[.t 4 [0]],body:=(.sq (.rg none [⟨some 4,none,.mv (.k (.int .i64 0)) none⟩]) (.sq (.rg none [⟨some 5,none,.mv (.t 1) none⟩,
   ⟨some 6,none,.mv (.t 0) none⟩,
   ⟨some 7,none,.ln (.t 6)⟩,
   ⟨some 8,none,.bi .sub 0 (.t 5) (.t 7)⟩,
   ⟨some 1,none,.mv (.t 8) none⟩]) (.sq (.sq (.rg none [⟨some 9,none,.mv (.t 1) none⟩,
    ⟨some 10,none,.bi .lss 0 (.t 9) (.k (.int .i64 0))⟩]) (.cd (.t 10) (.sq (.rg none [⟨some 4,none,.mv (.k (.int .i64 (-1))) none⟩]) (.rt)) (.sk))) (.sq (.rg none [⟨some 11,none,.mv (.t 1) none⟩,
   ⟨some 4,none,.mv (.t 11) none⟩]) (.rt))))) }
theorem Zth{P:Program}{fid:FuncId}(hc:Zo P fid sz0=true)(es:Ze)(left:Int)(h:es.length<=9223372036854775807)(h0:0<=left)(h1:left<=1048576)(lvl:Nat)(S:Zc) :
  Sem P fid lvl [.tr (.sl es),iI left] S (iI (YN es.length left)) S:=by
 refine Zw hc trivial ?_
 simp only[sz0,Zb,seval,Za,men]
 refine⟨by rw[Zn];omega,?_⟩
 unfold YN
 split <;> rfl
def UC(k:Nat)(m:Option Nat)(fid:FuncId):F2 :=
 { nt:=27,res:=[.t 4 [0]],body:=(.sq (.rg none [⟨some 4,none,.mv (.k (.int .i64 0)) none⟩]) (.sq (.rg none [⟨some 6,none,.mv (.t 1) none⟩,
   ⟨some 7,none,.mv (.t 0) none⟩,
   ⟨some 8,none,.ln (.t 7)⟩,
   ⟨some 9,none,.bi .sub 0 (.t 6) (.t 8)⟩,
   ⟨some 1,none,.mv (.t 9) none⟩]) (.sq (.sq (.rg none [⟨some 10,none,.mv (.t 1) none⟩,
    ⟨some 11,none,.bi .lss 0 (.t 10) (.k (.int .i64 0))⟩]) (.cd (.t 11) (.sq (.rg none [⟨some 4,none,.mv (.k (.int .i64 (-1))) none⟩]) (.rt)) (.sk))) (.sq (.sq (.rg none [⟨some 5,none,.mv (.k (.int .i64 0)) none⟩]) (.bl 0 (.lp [0,1,5] [] (.sq (.sq (.rg none [⟨some 12,none,.mv (.t 5) none⟩,
     ⟨some 13,none,.mv (.t 0) none⟩,
     ⟨some 14,none,.ln (.t 13)⟩,
     ⟨some 15,none,.bi .lss 0 (.t 12) (.t 14)⟩]) (.cd (.t 15) (.sk) (.ex 0))) (.sq (.bl 1 (.sq (.rg none [⟨some 18,none,.mv (.t 0) none⟩,
      ⟨some 19,none,.mv (.t 5) none⟩,
      ⟨some 20,none,.ia k (.t 18) (.t 19)⟩,
      ⟨some 21,none,.ld m (.t 20)⟩,
      ⟨some 22,none,.mv (.t 1) none⟩,
      ⟨some 23,none,.ca .pure false (.f fid) [.t 21,.t 22]⟩,
      ⟨some 1,none,.mv (.t 23) none⟩]) (.sq (.rg none [⟨some 24,none,.mv (.t 1) none⟩,
      ⟨some 25,none,.bi .lss 0 (.t 24) (.k (.int .i64 0))⟩]) (.cd (.t 25) (.sq (.rg none [⟨some 4,none,.mv (.k (.int .i64 (-1))) none⟩]) (.rt)) (.sk))))) (.rg none [⟨some 16,none,.mv (.t 5) none⟩,
    ⟨some 17,none,.bi .add 0 (.t 16) (.k (.int .i64 1))⟩,
    ⟨some 5,none,.mv (.t 17) none⟩])))))) (.sq (.rg none [⟨some 26,none,.mv (.t 1) none⟩,
   ⟨some 4,none,.mv (.t 26) none⟩]) (.rt)))))) }
theorem Zce{P:Program}{fid fe:FuncId}{k:Nat}(hc:Zo P fid (UC k (some k) fe)=true){α:Type}(c:α->List Tr)(f:α->Int->Int)(hk:∀ x,(c x).length=k)(a:List α)(left:Int)(h:a.length<=9223372036854775807)(h0:0<=left)(h1:left<=1048576)
  (hf:∀ x∈a,∀ l:Int,0<=l->l<=1048576->f x l<=l/\∀ lvl S,Sem P fe lvl [.ag ((c x).map .tr),iI l] S (iI (f x l)) S) (lvl:Nat) (S:Zc) :
  Sem P fid lvl [.tr (.sl (a.map c)),iI left] S (iI (JB f a left)) S:=by
 refine Zw hc trivial ?_
 simp only[UC,Uaa,Zb,seval,Za,men]
 refine⟨by rw[Zn];omega,?_⟩
 unfold JB
 split
 ·rfl
 ·rename_i hlt
  generalize hr:Yl f a (left-a.length)=total
  refine J7 (α:=Int) a.length (fun j l=>⟨lvl,[(0,.tr (.sl (a.map c))),(1,iI l),(5,iI j)],[],S⟩) (fun j l=>0<=l/\l<=1048576/\Yl f (a.drop j) l=total) (left-a.length) ⟨by simp only[Zb,seval,Za,men],by (simp only[Zb,seval,Za,men]) <;> rfl⟩ ⟨by omega,by omega,hr⟩ ?_
  intro j l hj ⟨hl0,hl1,hl⟩
  simp only[Uaa,Zb,seval,Za,men]
  split
  ·rename_i hlt
   have hja:j<a.length:=by omega
   have ga:(a.map c)[j]? = some (c a[j]):=by simp [hja]
   have hkk:=hk a[j]
   have htk:(c a[j]).take k=c a[j]:=UaP (by omega)
   rw[Ubi hja] at hl
   obtain⟨hle,hsem⟩:=hf a[j] (Uan hja) l hl0 hl1
   simp only[ga,hkk,htk,Uar,Uaf,Zb,seval,Za,men]
   refine Zg hsem ?_
   simp only[Zb,seval,Za,men]
   split
   ·rename_i hneg
    simp only[Yl,if_pos hneg] at hl
    rw[hl]
   ·rename_i hneg
    simp only[Yl,if_neg hneg] at hl
    refine⟨by rw[Zn];omega,ZI (f a[j] l) hja rfl ⟨by omega,by omega,hl⟩⟩
  ·rename_i hge
   have:j=a.length:=by omega
   subst this
   simp only[UbG,Yl] at hl
   rw[hl]
def Zcf:F2 :=
 { nt:=28,res:=[.t 4 [0]],body:=(.sq (.rg none [⟨some 4,none,.mv (.k (.int .i64 0)) none⟩]) (.sq (.rg none [⟨some 6,none,.mv (.t 1) none⟩,
   ⟨some 7,none,.mv (.t 0) none⟩,
   ⟨some 8,none,.ln (.t 7)⟩,
   ⟨some 9,none,.bi .sub 0 (.t 6) (.t 8)⟩,
   ⟨some 1,none,.mv (.t 9) none⟩]) (.sq (.sq (.rg none [⟨some 10,none,.mv (.t 1) none⟩,
    ⟨some 11,none,.bi .lss 0 (.t 10) (.k (.int .i64 0))⟩]) (.cd (.t 11) (.sq (.rg none [⟨some 4,none,.mv (.k (.int .i64 (-1))) none⟩]) (.rt)) (.sk))) (.sq (.sq (.rg none [⟨some 5,none,.mv (.k (.int .i64 0)) none⟩]) (.bl 0 (.lp [0,1,5] [] (.sq (.sq (.rg none [⟨some 12,none,.mv (.t 5) none⟩,
     ⟨some 13,none,.mv (.t 0) none⟩,
     ⟨some 14,none,.ln (.t 13)⟩,
     ⟨some 15,none,.bi .lss 0 (.t 12) (.t 14)⟩]) (.cd (.t 15) (.sk) (.ex 0))) (.sq (.bl 1 (.sq (.rg none [⟨some 18,none,.mv (.t 1) none⟩,
      ⟨some 19,none,.mv (.t 0) none⟩,
      ⟨some 20,none,.mv (.t 5) none⟩,
      ⟨some 21,none,.ia 1 (.t 19) (.t 20)⟩,
      ⟨some 22,none,.ld none (.t 21)⟩,
      ⟨some 23,none,.lg (.t 22)⟩,
      ⟨some 24,none,.bi .sub 0 (.t 18) (.t 23)⟩,
      ⟨some 1,none,.mv (.t 24) none⟩]) (.sq (.rg none [⟨some 25,none,.mv (.t 1) none⟩,
      ⟨some 26,none,.bi .lss 0 (.t 25) (.k (.int .i64 0))⟩]) (.cd (.t 26) (.sq (.rg none [⟨some 4,none,.mv (.k (.int .i64 (-1))) none⟩]) (.rt)) (.sk))))) (.rg none [⟨some 16,none,.mv (.t 5) none⟩,
    ⟨some 17,none,.bi .add 0 (.t 16) (.k (.int .i64 1))⟩,
    ⟨some 5,none,.mv (.t 17) none⟩])))))) (.sq (.rg none [⟨some 27,none,.mv (.t 1) none⟩,
   ⟨some 4,none,.mv (.t 27) none⟩]) (.rt)))))) }
theorem Zti{P:Program}{fid:FuncId}(hc:Zo P fid Zcf=true)(a:List ByteArray)(left:Int)(h:a.length<=9223372036854775807)(h0:0<=left)(h1:left<=1048576)
  (hf:∀ x∈a,x.size<=9223372036854775807) (lvl:Nat) (S:Zc) :
  Sem P fid lvl [tS a,iI left] S (iI (JB (fun x l=>l-x.size) a left)) S:=by
 refine Zw hc trivial ?_
 simp only[Zcf,Uaa,Zb,seval,Za,men]
 refine⟨by rw[Zn];omega,?_⟩
 unfold JB
 split
 ·rfl
 ·rename_i hlt
  generalize hr:Yl (fun(x:ByteArray) l=>l-x.size) a (left-a.length)=total
  refine J7 (α:=Int) a.length (fun j l=>⟨lvl,[(0,tS a),(1,iI l),(5,iI j)],[],S⟩) (fun j l=>0<=l/\l<=1048576/\Yl (fun(x:ByteArray) l=>l-x.size) (a.drop j) l=total) (left-a.length) ⟨by simp only[Zb,seval,Za,men],by (simp only[Zb,seval,Za,men]) <;> rfl⟩ ⟨by omega,by omega,hr⟩ ?_
  intro j l hj ⟨hl0,hl1,hl⟩
  simp only[Uaa,Zb,seval,Za,men]
  split
  ·rename_i hlt
   have hja:j<a.length:=by omega
   have ga:(rS a)[j]? = some [ts a[j]]:=by simp [hja]
   rw[Ubi hja] at hl
   have hs:=hf a[j] (Uan hja)
   simp only[ga,Uar,Uaf,Zb,seval,Za,men]
   refine⟨by rw[Zn];omega,?_⟩
   split
   ·rename_i hneg
    simp only[Yl,if_pos hneg] at hl
    rw[hl]
   ·rename_i hneg
    simp only[Yl,if_neg hneg] at hl
    refine⟨by rw[Zn];omega,ZI (l-a[j].size) hja rfl ⟨by omega,by omega,hl⟩⟩
  ·rename_i hge
   have:j=a.length:=by omega
   subst this
   simp only[UbG,Yl] at hl
   rw[hl]
def UD(k:Nat)(m:Option Nat)(fid:FuncId):F2 :=
 { nt:=27,res:=[.t 4 [0]],body:=(.sq (.rg none [⟨some 4,none,.mv (.k (.bool false)) none⟩]) (.sq (.sq (.rg none [⟨some 6,none,.mv (.t 0) none⟩,
    ⟨some 7,none,.ln (.t 6)⟩,
    ⟨some 8,none,.mv (.t 1) none⟩,
    ⟨some 9,none,.ln (.t 8)⟩,
    ⟨some 10,none,.bi .neq 0 (.t 7) (.t 9)⟩]) (.cd (.t 10) (.sq (.rg none [⟨some 4,none,.mv (.k (.bool false)) none⟩]) (.rt)) (.sk))) (.sq (.sq (.rg none [⟨some 5,none,.mv (.k (.int .i64 0)) none⟩]) (.bl 0 (.lp [0,1,5] [] (.sq (.sq (.rg none [⟨some 11,none,.mv (.t 5) none⟩,
     ⟨some 12,none,.mv (.t 0) none⟩,
     ⟨some 13,none,.ln (.t 12)⟩,
     ⟨some 14,none,.bi .lss 0 (.t 11) (.t 13)⟩]) (.cd (.t 14) (.sk) (.ex 0))) (.sq (.bl 1 (.sq (.rg (some 0) [⟨some 17,none,.mv (.t 0) none⟩,
      ⟨some 18,none,.mv (.t 5) none⟩,
      ⟨some 19,none,.ia k (.t 17) (.t 18)⟩,
      ⟨some 20,none,.ld m (.t 19)⟩,
      ⟨some 21,none,.mv (.t 1) none⟩,
      ⟨some 22,none,.mv (.t 5) none⟩,
      ⟨some 23,none,.ia k (.t 21) (.t 22)⟩,
      ⟨some 24,none,.ld m (.t 23)⟩,
      ⟨some 25,none,.ca .pure false (.f fid) [.t 20,.t 24]⟩,
      ⟨some 26,none,.nt (.t 25)⟩]) (.cd (.t 26) (.sq (.rg none [⟨some 4,none,.mv (.k (.bool false)) none⟩]) (.rt)) (.sk)))) (.rg none [⟨some 15,none,.mv (.t 5) none⟩,
    ⟨some 16,none,.bi .add 0 (.t 15) (.k (.int .i64 1))⟩,
    ⟨some 5,none,.mv (.t 16) none⟩])))))) (.sq (.rg none [⟨some 4,none,.mv (.k (.bool true)) none⟩]) (.rt))))) }
theorem Zag{α:Type}{a b:List α}{j:Nat}(ha:j<a.length)(hb:j<b.length)(h:a[j]≠b[j]):a≠b:=by
 intro e;subst e;exact h rfl
theorem Zah{α:Type}{a b:List α}(hl:a.length=b.length)(h:a.take a.length=b.take a.length):a=b:=by
 rw[Ubk,hl,Ubk] at h;exact h
theorem Zai{α:Type}{a b:List α}{j:Nat}(ha:j<a.length)(hb:j<b.length)(h:a.take j=b.take j)(e:a[j]=b[j]):a.take (j+1)=b.take (j+1):=by
 rw[Uaz ha,Uaz hb,h,e]
theorem Zcg{P:Program}{fid fe:FuncId}{k:Nat}(hc:Zo P fid (UD k (some k) fe)=true){α:Type}[DecidableEq α](c:α->List Tr)(hk:∀ x,(c x).length=k)(a b:List α)(ha:a.length<=9223372036854775807)
  (hf:∀ x∈a,∀ y∈b,∀ lvl S,Sem P fe lvl [.ag ((c x).map .tr),.ag ((c y).map .tr)] S (iB (decide (x=y))) S) (lvl:Nat) (S:Zc) :
  Sem P fid lvl [.tr (.sl (a.map c)),.tr (.sl (b.map c))] S (iB (decide (a=b))) S:=by
 refine Zw hc trivial ?_
 simp only[UD,Uaa,Zb,seval,Za,men]
 split
 ·rename_i h
  have:¬ a=b:=fun e=>h (by rw[e])
  simp [this]
 ·rename_i h
  have hlen:a.length=b.length:=by omega
  refine J7 (α:=Unit) a.length (fun j _=>⟨lvl,[(0,.tr (.sl (a.map c))),(1,.tr (.sl (b.map c))),(5,iI j)],[],S⟩) (fun j _=>a.take j=b.take j) () ⟨by simp only[Zb,seval,Za,men],by (simp only[Zb,seval,Za,men]) <;> rfl⟩ rfl ?_
  intro j _ hj hA
  simp only[Uaa,Zb,seval,Za,men]
  split
  ·rename_i hlt
   have hja:j<a.length:=by omega
   have hjb:j<b.length:=by omega
   have ga:(a.map c)[j]? = some (c a[j]):=by simp [hja]
   have gb:(b.map c)[j]? = some (c b[j]):=by simp [hjb]
   have hka:=hk a[j]
   have hkb:=hk b[j]
   have hta:(c a[j]).take k=c a[j]:=UaP (by omega)
   have htb:(c b[j]).take k=c b[j]:=UaP (by omega)
   have hsem:=hf a[j] (Uan hja) b[j] (Uan hjb)
   simp only[ga,gb,hka,hkb,hta,htb,Uar,Uaf,Zb,seval,Za,men]
   refine Zg hsem ?_
   simp only[Uao,Zb,seval,Za,men]
   split
   ·rename_i hne
    have:¬ a=b:=Zag hja hjb (by simpa using hne)
    simp [this]
   ·rename_i he
    refine⟨by rw[Zn];omega,ZI () hja rfl (Zai hja hjb hA (by simpa using he))⟩
  ·rename_i hge
   have:j=a.length:=by omega
   subst this
   have:a=b:=Zah hlen hA
   simp [this]
def WB:F2 :=
 { nt:=26,res:=[.t 4 [0]],body:=(.sq (.rg none [⟨some 4,none,.mv (.k (.bool false)) none⟩]) (.sq (.sq (.rg none [⟨some 6,none,.mv (.t 0) none⟩,
    ⟨some 7,none,.ln (.t 6)⟩,
    ⟨some 8,none,.mv (.t 1) none⟩,
    ⟨some 9,none,.ln (.t 8)⟩,
    ⟨some 10,none,.bi .neq 0 (.t 7) (.t 9)⟩]) (.cd (.t 10) (.sq (.rg none [⟨some 4,none,.mv (.k (.bool false)) none⟩]) (.rt)) (.sk))) (.sq (.sq (.rg none [⟨some 5,none,.mv (.k (.int .i64 0)) none⟩]) (.bl 0 (.lp [0,1,5] [] (.sq (.sq (.rg none [⟨some 11,none,.mv (.t 5) none⟩,
     ⟨some 12,none,.mv (.t 0) none⟩,
     ⟨some 13,none,.ln (.t 12)⟩,
     ⟨some 14,none,.bi .lss 0 (.t 11) (.t 13)⟩]) (.cd (.t 14) (.sk) (.ex 0))) (.sq (.bl 1 (.sq (.rg (some 0) [⟨some 17,none,.mv (.t 0) none⟩,
      ⟨some 18,none,.mv (.t 5) none⟩,
      ⟨some 19,none,.ia 1 (.t 17) (.t 18)⟩,
      ⟨some 20,none,.ld none (.t 19)⟩,
      ⟨some 21,none,.mv (.t 1) none⟩,
      ⟨some 22,none,.mv (.t 5) none⟩,
      ⟨some 23,none,.ia 1 (.t 21) (.t 22)⟩,
      ⟨some 24,none,.ld none (.t 23)⟩,
      ⟨some 25,none,.bi .neq 0 (.t 20) (.t 24)⟩]) (.cd (.t 25) (.sq (.rg none [⟨some 4,none,.mv (.k (.bool false)) none⟩]) (.rt)) (.sk)))) (.rg none [⟨some 15,none,.mv (.t 5) none⟩,
    ⟨some 16,none,.bi .add 0 (.t 15) (.k (.int .i64 1))⟩,
    ⟨some 5,none,.mv (.t 16) none⟩])))))) (.sq (.rg none [⟨some 4,none,.mv (.k (.bool true)) none⟩]) (.rt))))) }
theorem Ztj{P:Program}{fid:FuncId}(hc:Zo P fid WB=true)(a b:List Int)(ha:a.length<=9223372036854775807)(lvl:Nat)(S:Zc):Sem P fid lvl [tI a,tI b] S (iB (decide (a=b))) S:=by
 refine Zw hc trivial ?_
 simp only[WB,Uaa,Zb,seval,Za,men]
 split
 ·rename_i h
  have:¬ a=b:=fun e=>h (by rw[e])
  simp [this]
 ·rename_i h
  have hlen:a.length=b.length:=by omega
  refine J7 (α:=Unit) a.length (fun j _=>⟨lvl,[(0,tI a),(1,tI b),(5,iI j)],[],S⟩) (fun j _=>a.take j=b.take j) () ⟨by simp only[Zb,seval,Za,men],by (simp only[Zb,seval,Za,men]) <;> rfl⟩ rfl ?_
  intro j _ hj hA
  simp only[Uaa,Zb,seval,Za,men]
  split
  ·rename_i hlt
   have hja:j<a.length:=by omega
   have hjb:j<b.length:=by omega
   have ga:(rI a)[j]? = some [tv a[j]]:=by simp [hja]
   have gb:(rI b)[j]? = some [tv b[j]]:=by simp [hjb]
   simp only[ga,gb,Uar,Uaf,Zb,seval,Za,men]
   split
   ·rename_i hne
    have:¬ a=b:=Zag hja hjb (by simpa using hne)
    simp [this]
   ·rename_i he
    refine⟨by rw[Zn];omega,ZI () hja rfl (Zai hja hjb hA (by simpa using he))⟩
  ·rename_i hge
   have:j=a.length:=by omega
   subst this
   have:a=b:=Zah hlen hA
   simp [this]
theorem Ztk{P:Program}{fid:FuncId}(hc:Zo P fid WB=true)(a b:List ByteArray)(ha:a.length<=9223372036854775807)(lvl:Nat)(S:Zc):Sem P fid lvl [tS a,tS b] S (iB (decide (a=b))) S:=by
 refine Zw hc trivial ?_
 simp only[WB,Uaa,Zb,seval,Za,men]
 split
 ·rename_i h
  have:¬ a=b:=fun e=>h (by rw[e])
  simp [this]
 ·rename_i h
  have hlen:a.length=b.length:=by omega
  refine J7 (α:=Unit) a.length (fun j _=>⟨lvl,[(0,tS a),(1,tS b),(5,iI j)],[],S⟩) (fun j _=>a.take j=b.take j) () ⟨by simp only[Zb,seval,Za,men],by (simp only[Zb,seval,Za,men]) <;> rfl⟩ rfl ?_
  intro j _ hj hA
  simp only[Uaa,Zb,seval,Za,men]
  split
  ·rename_i hlt
   have hja:j<a.length:=by omega
   have hjb:j<b.length:=by omega
   have ga:(rS a)[j]? = some [ts a[j]]:=by simp [hja]
   have gb:(rS b)[j]? = some [ts b[j]]:=by simp [hjb]
   simp only[ga,gb,Uar,Uaf,Zb,seval,Za,men]
   split
   ·rename_i hne
    have:¬ a=b:=Zag hja hjb (by simpa using hne)
    simp [this]
   ·rename_i he
    refine⟨by rw[Zn];omega,ZI () hja rfl (Zai hja hjb hA (by simpa using he))⟩
  ·rename_i hge
   have:j=a.length:=by omega
   subst this
   have:a=b:=Zah hlen hA
   simp [this]
def JV{α:Type}(c:α->List Tr)(z:List Tr)(a:List α)(j:Nat):Ze:=(a.take j).map c++List.replicate (a.length-j) z
theorem UE{α:Type}(c:α->List Tr)(z:List Tr)(a:List α):JV c z a 0=List.replicate a.length z:=by simp [JV]
theorem UF{α:Type}(c:α->List Tr)(z:List Tr)(a:List α):JV c z a a.length=a.map c:=by simp [JV]
theorem Zch{α:Type}{c:α->List Tr}{z:List Tr}{a:List α}{j:Nat}(h:j<=a.length):(JV c z a j).length=a.length:=by
 simp [JV];omega
theorem UG{α:Type}{c:α->List Tr}{z:List Tr}{a:List α}{j:Nat}(h:j<a.length):(JV c z a j)[j]? = some z:=by
 unfold JV
 have h1:((a.take j).map c).length=j:=by rw[Uaa,Uap];omega
 rw[Uak (by omega),h1,Ube,Ubn]
 rw[if_pos (by omega)]
theorem UH{α:Type}{c:α->List Tr}{z e:List Tr}{a:List α}{j:Nat}(h:j<a.length)(he:e=c a[j]):(JV c z a j).set j e=JV c z a (j+1):=by
 subst he
 unfold JV
 have h1:((a.take j).map c).length=j:=by simp;omega
 rw[List.set_append_right _ _ (by omega),h1,Ube,show a.length-j=(a.length-(j+1))+1 from by omega,List.replicate_succ,List.set_cons_zero,Uaz h,UaN]
 simp
def WC(z:Value):F2 :=
 { nt:=22,res:=[.t 2 [2]],body:=(.sq (.rg none [⟨some 2,none,.mv (.k (.slice none 0 0)) none⟩]) (.sq (.rg none [⟨some 5,none,.mv (.t 0) none⟩,
   ⟨some 6,none,.ln (.t 5)⟩,
   ⟨some 7,none,.ms 1 [z] (.t 6)⟩,
   ⟨some 3,none,.mv (.t 7) none⟩]) (.sq (.sq (.rg none [⟨some 4,none,.mv (.k (.int .i64 0)) none⟩]) (.bl 0 (.lp [0,3,4] [224] (.sq (.sq (.rg none [⟨some 8,none,.mv (.t 4) none⟩,
     ⟨some 9,none,.mv (.t 0) none⟩,
     ⟨some 10,none,.ln (.t 9)⟩,
     ⟨some 11,none,.bi .lss 0 (.t 8) (.t 10)⟩]) (.cd (.t 11) (.sk) (.ex 0))) (.sq (.bl 1 (.rg none [⟨some 14,none,.mv (.t 3) none⟩,
     ⟨some 15,none,.mv (.t 4) none⟩,
     ⟨some 16,none,.mv (.t 0) none⟩,
     ⟨some 17,none,.mv (.t 4) none⟩,
     ⟨some 18,none,.ia 1 (.t 16) (.t 17)⟩,
     ⟨some 19,none,.ld none (.t 18)⟩,
     ⟨some 20,none,.ia 1 (.t 14) (.t 15)⟩,
     ⟨none,none,.st 1 (.t 20) (.t 19)⟩])) (.rg none [⟨some 12,none,.mv (.t 4) none⟩,
    ⟨some 13,none,.bi .add 0 (.t 12) (.k (.int .i64 1))⟩,
    ⟨some 4,none,.mv (.t 13) none⟩])))))) (.sq (.rg none [⟨some 21,none,.mv (.t 3) none⟩,
   ⟨some 2,none,.mv (.t 21) none⟩]) (.rt))))) }
theorem Ztl{P:Program}{fid:FuncId}(hc:Zo P fid (WC (.int .i64 0))=true)(a:List Int)(ha:a.length<=4294967296)(lvl:Nat)(S:Zc):Sem P fid lvl [tI a] S (.ow 1 (rI a) true) S:=by
 refine Zw hc trivial ?_
 simp only[WC,Uaa,bigN,Uar,Zb,seval,Za,men]
 refine⟨by omega,?_⟩
 refine J7 (α:=Unit) a.length (fun j _=>⟨lvl,[(0,tI a),(3,.hd (lvl,224) [] 0 a.length none a.length),(4,iI j)],[(224,.ar 1 (JV (fun n=>[tv n]) [tv 0] a j) true a.length 0)],S⟩) (fun _ _=>True) () ⟨by simp only[Zb,seval,Za,men],by (simp only[UE,Zb,seval,Za,men]) <;> rfl⟩ trivial ?_
 intro j _ hj _
 simp only[Uaa,Zb,seval,Za,men]
 split
 ·rename_i hlt
  have hja:j<a.length:=by omega
  have ga:(rI a)[j]? = some [tv a[j]]:=by simp [hja]
  have gz:(JV (fun n=>[tv n]) [tv 0] a j)[j]? = some [tv 0]:=UG hja
  simp only[ga,gz,Uar,Uaf,hja,ZO,List.set_cons_zero,Xq,Zb,seval,Za,men]
  refine⟨by rw[Zn];omega,ZI () hja ?_ trivial⟩
  rw[UH hja rfl]
  rfl
 ·rename_i hge
  have:j=a.length:=by omega
  subst this
  rw[UF]
  simp
theorem Ztm{P:Program}{fid:FuncId}(hc:Zo P fid (WC (.string ⟨#[]⟩))=true)(a:List ByteArray)(ha:a.length<=4294967296)(lvl:Nat)(S:Zc):Sem P fid lvl [tS a] S (.ow 1 (rS a) true) S:=by
 refine Zw hc trivial ?_
 simp only[WC,Uaa,bigN,Uar,Zb,seval,Za,men]
 refine⟨by omega,?_⟩
 refine J7 (α:=Unit) a.length (fun j _=>⟨lvl,[(0,tS a),(3,.hd (lvl,224) [] 0 a.length none a.length),(4,iI j)],[(224,.ar 1 (JV (fun n=>[ts n]) [ts ⟨#[]⟩] a j) true a.length 0)],S⟩) (fun _ _=>True) () ⟨by simp only[Zb,seval,Za,men],by (simp only[UE,Zb,seval,Za,men]) <;> rfl⟩ trivial ?_
 intro j _ hj _
 simp only[Uaa,Zb,seval,Za,men]
 split
 ·rename_i hlt
  have hja:j<a.length:=by omega
  have ga:(rS a)[j]? = some [ts a[j]]:=by simp [hja]
  have gz:(JV (fun n=>[ts n]) [ts ⟨#[]⟩] a j)[j]? = some [ts ⟨#[]⟩]:=UG hja
  simp only[ga,gz,Uar,Uaf,hja,ZO,List.set_cons_zero,Xq,Zb,seval,Za,men]
  refine⟨by rw[Zn];omega,ZI () hja ?_ trivial⟩
  rw[UH hja rfl]
  rfl
 ·rename_i hge
  have:j=a.length:=by omega
  subst this
  rw[UF]
  simp
end Go.Fd

namespace Go.Fd
variable [Tabs]
def Je:Ze->Zh->Ze->Ze
 | _,[],r=>r
 | es,(a,b)::p,r =>
  match es[a]? with
  | some e =>
   match e[b]? with
   | some (.sl es')=>es.set a (e.set b (.sl (Je es' p r)))
   | _=>es
  | none=>es
theorem Zci{es es':Ze}{a b:Nat}{p:Zh}{e:List Tr}(h1:es[a]? = some e)(h2:e[b]? = some (.sl es')):getp es ((a,b)::p)=getp es' p:=by
 simp only[getp,h1,h2]
theorem Ql{es es':Ze}{a b:Nat}{p:Zh}{e:List Tr}{r:Ze}(h1:es[a]? = some e)(h2:e[b]? = some (.sl es')):Je es ((a,b)::p) r=es.set a (e.set b (.sl (Je es' p r))):=by
 simp only[Je,h1,h2]
theorem Ztn{es es':Ze}{a b i f:Nat}{p:Zh}{e:List Tr}{t:Tr}(h1:es[a]? = some e)(h2:e[b]? = some (.sl es')):ZO es ((a,b)::p) i f t=es.set a (e.set b (.sl (ZO es' p i f t))):=by
 simp only[ZO,h1,h2]
theorem WD{es r0:Ze}{a b:Nat}{p:Zh}(h:getp es ((a,b)::p)=some r0):∃ e es',es[a]? = some e/\e[b]? = some (.sl es')/\getp es' p=some r0:=by
 simp only[getp] at h
 cases h1:es[a]? with
 | none=>rw[h1] at h;cases h
 | some e =>
  rw[h1] at h
  cases h2:e[b]? with
  | none=>simp only[h2] at h;cases h
  | some t =>
   simp only[h2] at h
   cases t with
   | v x=>cases h
   | sl es' => exact⟨e,es',rfl,h2,h⟩
theorem WE{α:Type}{l:List α}{a:Nat}{x y:α}(h:l[a]? = some x):(l.set a y)[a]? = some y:=by
 rw[Ua5];exact(Uac.1 h).1
theorem XV{r:Ze}:∀{p:Zh} {es r0:Ze},getp es p=some r0->getp (Je es p r) p=some r
 | [],_,_,_=>rfl
 | (a,b)::p,es,r0,h=>by
  obtain⟨e,es',h1,h2,h3⟩:=WD h
  rw[Ql h1 h2,Zci (WE h1) (WE h2)]
  exact XV h3
theorem Zgm{r s:Ze}:∀{p:Zh} {es r0:Ze},getp es p=some r0->Je (Je es p r) p s=Je es p s
 | [],_,_,_=>rfl
 | (a,b)::p,es,r0,h=>by
  obtain⟨e,es',h1,h2,h3⟩:=WD h
  rw[Ql h1 h2,Ql h1 h2,Ql (WE h1) (WE h2),Zgm h3,Ubf,Ubf]
theorem Zgn{r:Ze}{i f:Nat}{t:Tr}{e0:List Tr}(hi:r[i]? = some e0):∀{p:Zh} {es r0:Ze},getp es p=some r0->ZO (Je es p r) p i f t=Je es p (r.set i (e0.set f t))
 | [],es,_,_=>by simp only[Je,ZO,hi]
 | (a,b)::p,es,r0,h=>by
  obtain⟨e,es',h1,h2,h3⟩:=WD h
  rw[Ql h1 h2,Ql h1 h2,Ztn (WE h1) (WE h2),Zgn hi h3,Ubf,Ubf]
theorem Zgo{q:Zh}:∀{p:Zh} {es r0:Ze},getp es p=some r0->getp es (p++q)=getp r0 q
 | [],es,r0,h=>by simp only[getp,Uai] at h;subst h;rfl
 | (a,b)::p,es,r0,h=>by
  obtain⟨e,es',h1,h2,h3⟩:=WD h
  rw[List.cons_append,Zci h1 h2]
  exact Zgo h3
theorem Zgp{q:Zh}{z:Ze}:∀{p:Zh} {es r0:Ze},getp es p=some r0->Je es (p++q) z=Je es p (Je r0 q z)
 | [],es,r0,h=>by simp only[getp,Uai] at h;subst h;rfl
 | (a,b)::p,es,r0,h=>by
  obtain⟨e,es',h1,h2,h3⟩:=WD h
  rw[List.cons_append,Ql h1 h2,Ql h1 h2,Zgp h3]
theorem Zcj{α:Type}{l:List α}{a:Nat}{x:α}(h:l[a]? = some x):l.set a x=l:=by
 obtain⟨h1,h2⟩:=Uac.1 h
 rw[<-h2,List.set_getElem_self]
theorem Zgq:∀{p:Zh} {es r:Ze},getp es p=some r->Je es p r=es
 | [],es,r,h=>by simp only[getp,Uai] at h;subst h;rfl
 | (a,b)::p,es,r,h=>by
  obtain⟨e,es',h1,h2,h3⟩:=WD h
  rw[Ql h1 h2,Zgq h3,Zcj h2,Zcj h1]
theorem QR{S:Zc}{id:Zd}{a b:Ob}:Zj (Zj S id a) id b=Zj S id b:=by
 funext i
 unfold Zj
 split <;> rfl
theorem Zgr{S:Zc}{id:Zd}{a:Ob}(h:S id=some a):Zj S id a=S:=by
 funext i
 unfold Zj
 split
 ·rename_i e;rw[e,h]
 ·rfl
theorem XW{lvl:Nat}{loc:List (Nat×Ob)}{S:Zc}{id:Zd}{o:Ob}(h:id.1≠lvl):ZE lvl loc (Zj S id o)=Zj (ZE lvl loc S) id o:=by
 funext i
 by_cases e:i=id
 ·subst e
  rw[VX h]
  unfold Zj
  rw[if_pos rfl,if_pos rfl]
 ·unfold Zj ZE
  simp only[if_neg e]
section mark
variable {α:Type} (m:α->Int->α) (n:α->Nat)
def mL:List α->Int->List α
 | [],_=>[]
 | x::r,k=>m x k::mL r (k+n x)
def nL:List α->Nat
 | []=>0
 | x::r=>n x+nL r
theorem ZP:∀(a:List α) (k:Int),(mL m n a k).length=a.length
 | [],_=>rfl
 | x::r,k=>by simp only[mL,List.length_cons,ZP r]
theorem Zck:∀(a b:List α),nL n (a++b)=nL n a+nL n b
 | [],b=>by simp [nL]
 | x::r,b=>by simp only[List.cons_append,nL,Zck r b];omega
theorem Zgs:∀(a b:List α) (k:Int),mL m n (a++b) k=mL m n a k++mL m n b (k+nL n a)
 | [],b,k=>by simp [mL,nL]
 | x::r,b,k=>by
  simp only[List.cons_append,mL,nL,Zgs r b]
  rw[show k+(n x:Int)+(nL n r:Int)=k+((n x+nL n r:Nat):Int) from by omega]
def kJ(a:List α)(k:Int)(j:Nat):Int:=k+nL n (a.take j)
def lJ(a:List α)(k:Int)(j:Nat):List α:=mL m n (a.take j) k++a.drop j
theorem QT{a:List α}{k:Int}:kJ n a k 0=k:=by simp [kJ,nL]
theorem UI{a:List α}{k:Int}:lJ m n a k 0=a:=by simp [lJ,mL]
theorem QU{a:List α}{k:Int}:kJ n a k a.length=k+nL n a:=by simp [kJ]
theorem UJ{a:List α}{k:Int}:lJ m n a k a.length=mL m n a k:=by simp [lJ]
theorem Ys{a:List α}{k:Int}{j:Nat}(h:j<a.length):kJ n a k (j+1)=kJ n a k j+n a[j]:=by
 unfold kJ
 rw[Uaz h,Zck]
 simp only[nL]
 omega
theorem QV{a:List α}{k:Int}{j:Nat}:kJ n a k j<=k+nL n a:=by
 have:nL n a=nL n (a.take j)+nL n (a.drop j):=by rw[<-Zck,List.take_append_drop]
 unfold kJ
 omega
theorem QW{a:List α}{k:Int}{j:Nat}:k<=kJ n a k j:=by unfold kJ;omega
theorem Zto{a:List α}{k:Int}{j:Nat}:(lJ m n a k j).length=a.length:=by
 unfold lJ
 rw[Uaj,ZP,Uap,Ubv]
 omega
theorem Ztp{a:List α}{k:Int}{j:Nat}(h:j<a.length):(lJ m n a k j)[j]? = some a[j]:=by
 unfold lJ
 have h1:(mL m n (a.take j) k).length=j:=by rw[ZP,Uap];omega
 rw[Uak (by omega),h1,Ube,UaH,Nat.add_zero,Uag h]
theorem Ztq{a:List α}{k:Int}{j:Nat}(h:j<a.length):(lJ m n a k j).set j (m a[j] (kJ n a k j))=lJ m n a k (j+1):=by
 unfold lJ
 have h1:(mL m n (a.take j) k).length=j:=by rw[ZP,Uap];omega
 rw[List.set_append_right _ _ (by omega),h1,Ube,Ubi h,List.set_cons_zero,Uaz h,Zgs]
 simp only[mL,kJ,UaR,List.cons_append,List.nil_append]
theorem UK(c:α->List Tr){a:List α}{k:Int}{j:Nat}(h:j<a.length):∃ R:Ze,j<R.length/\(lJ m n a k j).map c=R.set j (c a[j])/\(lJ m n a k (j+1)).map c=R.set j (c (m a[j] (kJ n a k j))):=by
 refine⟨(lJ m n a k j).map c,by rw[Uaa,Zto];exact h,?_,?_⟩
 ·refine(Zcj ?_).symm
  rw[Uaw,Ztp m n h];rfl
 ·rw[<-Ztq m n h,List.map_set]
end mark
theorem Qm{R:Ze}{j:Nat}(h:j<R.length)(e:List Tr):(R.set j e)[j]? = some e:=Ua5 h
theorem QX{es r0:Ze}{p:Zh}{R:Ze}{j:Nat}(hv:getp es p=some r0)(h:j<R.length)(e:List Tr)(f:Nat)(t:Tr):ZO (Je es p (R.set j e)) p j f t=Je es p (R.set j (e.set f t)):=by
 rw[Zgn (Qm h e) hv,Ubf]
def MarkS(P:Program)(fid:FuncId){α:Type}(c:α->List Tr)(m:α->Int->α)(n:α->Nat)(B:α->Prop):Prop :=
 ∀(a:List α) (k:Int) (lvl:Nat) (S:Zc) (id:Zd) (p:Zh) (es r0:Ze) (kk hw ver st:Nat) (cap:Option Nat),id.1<lvl->getp es p=some r0->JE p st hw ver true->0<=k->k+nL n a<=4611686018427387904 ->
  a.length<=4294967296->(∀ x∈a,B x)->Sem P fid lvl [.hd id p 0 a.length cap st,iI k] (Zj S id (.ar kk (Je es p (a.map c)) true hw ver)) (iI (k+nL n a)) (Zj S id (.ar kk (Je es p ((mL m n a k).map c)) true hw ver))
theorem MarkS.nested{P:Program}{fid:FuncId}{α:Type}{c:α->List Tr}{m:α->Int->α}{n:α->Nat}{B:α->Prop}(hm:MarkS P fid c m n B){a:List α}{k:Int}{lvl:Nat}{S:Zc}{id:Zd}{p:Zh}{es r0:Ze}{kk hw ver j f:Nat}{R:Ze}{e:List Tr}
  (hid:id.1<lvl) (hv:getp es p=some r0) (h0:0<=k) (h1:k+nL n a<=4611686018427387904) (hl:a.length<=4294967296) (hB:∀ x∈a,B x) (hj:j<R.length) (he:e[f]? = some (.sl (a.map c))) :
  Sem P fid lvl [.hd id (p++[(j,f)]) 0 a.length none ver,iI k] (Zj S id (.ar kk (Je es p (R.set j e)) true hw ver)) (iI (k+nL n a)) (Zj S id (.ar kk (Je es p (R.set j (e.set f (.sl ((mL m n a k).map c))))) true hw ver)):=by
 have hR:(R.set j e)[j]? = some e:=by rw[Ua5 hj]
 have g1:getp (Je es p (R.set j e)) p=some (R.set j e):=XV hv
 have g2:getp (Je es p (R.set j e)) (p++[(j,f)])=some (a.map c):=by
  rw[Zgo g1,Zci hR he];rfl
 have:=hm a k lvl S id (p++[(j,f)]) (Je es p (R.set j e)) _ kk hw ver ver none hid g2 (by cases p <;> exact⟨rfl,rfl⟩) h0 h1 hl hB
 rw[Zgq g2,Zgp g1,Zgm hv,Ql hR he] at this
 simp only[Je,Ubf] at this
 exact this
theorem Ztr{P:Program}{fid:FuncId}{α:Type}{c:α->List Tr}{m:α->Int->α}{n:α->Nat}{B:α->Prop}(hm:MarkS P fid c m n B){a:List α}{k:Int}{lvl len:Nat}{S:Zc}{id:Zd}{p:Zh}{es r0:Ze}{kk hw ver j f:Nat}{R:Ze}{e:List Tr}{env:List (Nat×IV)}{loc:List (Nat×Ob)}{d:Option Nat}{K:St->Prop}
  (hid:id.1<lvl) (hv:getp es p=some r0) (h0:0<=k) (h1:k+nL n a<=4611686018427387904) (hl:a.length<=4294967296) (hB:∀ x∈a,B x) (hj:j<R.length) (he:e[f]? = some (.sl (a.map c))) (hlen:len=a.length)
  (hk:K ⟨lvl,ptd d (iI (k+nL n a)) env,loc,Zj S id (.ar kk (Je es p (R.set j (e.set f (.sl ((mL m n a k).map c))))) true hw ver)⟩) :
  QP (Sem P) fid true lvl env loc (Zj S id (.ar kk (Je es p (R.set j e)) true hw ver)) d K [.hd id (p++[(j,f)]) 0 len none ver,iI k]:=by
 subst hlen
 have hne:id.1≠lvl:=by omega
 refine Wx (r:=iI (k+nL n a)) loc (Zj S id (.ar kk (Je es p (R.set j (e.set f (.sl ((mL m n a k).map c))))) true hw ver)) ?_ ?_ ⟨?_,hk⟩
 ·intro i hi
  have:i≠id:=fun e=>hne (by rw[<-e];exact hi)
  unfold Zj
  rw[if_neg this,if_neg this]
 ·rw[XW hne,XW hne]
  exact hm.nested (Ubq hid) hv h0 h1 hl hB hj he
 ·trivial
theorem Va{lvl key:Nat}{loc:List (Nat×Ob)}{out:Zc}{o:Ob}:ZE lvl (ptO key o loc) out=Zj (ZE lvl loc out) (lvl,key) o:=by
 funext i
 unfold ZE Zj
 by_cases h:i.1=lvl
 ·rw[if_pos h,WZ]
  by_cases h2:i.2=key
  ·have:i=(lvl,key):=by obtain⟨a,b⟩:=i;simp only at h h2;rw[h,h2]
   rw[if_pos h2,if_pos this]
  ·have:¬ i=(lvl,key):=fun e=>h2 (by rw[e])
   rw[if_neg h2,if_neg this]
   exact(if_pos h).symm
 ·have:¬ i=(lvl,key):=fun e=>h (by rw[e])
  rw[if_neg h,if_neg this]
  exact(if_neg h).symm
theorem UL{P:Program}{fid:FuncId}{α:Type}{c:α->List Tr}{m:α->Int->α}{n:α->Nat}{B:α->Prop}(hm:MarkS P fid c m n B){a:List α}{k:Int}{lvl:Nat}{out:Zc}{id:Zd}{kk hw ver:Nat}{cap:Option Nat}{env:List (Nat×IV)}{loc:List (Nat×Ob)}{d:Option Nat}{K:St->Prop}
  (hid:id.1<lvl) (hS:out id=some (.ar kk (a.map c) true hw ver)) (h0:0<=k) (h1:k+nL n a<=4611686018427387904) (hl:a.length<=4294967296) (hB:∀ x∈a,B x)
  (hk:K ⟨lvl,ptd d (iI (k+nL n a)) env,loc,Zj out id (.ar kk ((mL m n a k).map c) true hw ver)⟩) :
  QP (Sem P) fid true lvl env loc out d K [.hd id [] 0 a.length cap hw,iI k]:=by
 have hne:id.1≠lvl:=by omega
 refine Wx (r:=iI (k+nL n a)) loc (Zj out id (.ar kk ((mL m n a k).map c) true hw ver)) ?_ ?_ ⟨?_,hk⟩
 ·intro i hi
  have:i≠id:=fun e=>hne (by rw[<-e];exact hi)
  unfold Zj
  rw[if_neg this]
 ·rw[XW hne]
  have e:ZE lvl loc out=Zj (ZE lvl loc out) id (.ar kk (Je (a.map c) [] (a.map c)) true hw ver):=(Zgr (by rw[VX hne];exact hS)).symm
  have:=hm a k (lvl+1) (ZE lvl loc out) id [] (a.map c) (a.map c) kk hw ver hw cap (Ubq hid) rfl rfl h0 h1 hl hB
  rw[<-e] at this
  exact this
 ·trivial
theorem Zgt{P:Program}{fid:FuncId}{α:Type}{c:α->List Tr}{m:α->Int->α}{n:α->Nat}{B:α->Prop}(hm:MarkS P fid c m n B){a:List α}{k:Int}{lvl key:Nat}{out:Zc}{kk hw ver:Nat}{cap:Option Nat}{env:List (Nat×IV)}{loc:List (Nat×Ob)}{d:Option Nat}{K:St->Prop}
  (hS:lkO key loc=some (.ar kk (a.map c) true hw ver)) (h0:0<=k) (h1:k+nL n a<=4611686018427387904) (hl:a.length<=4294967296) (hB:∀ x∈a,B x)
  (hk:K ⟨lvl,ptd d (iI (k+nL n a)) env,ptO key (.ar kk ((mL m n a k).map c) true hw ver) loc,out⟩) :
  QP (Sem P) fid true lvl env loc out d K [.hd (lvl,key) [] 0 a.length cap hw,iI k]:=by
 refine Wx (r:=iI (k+nL n a)) (ptO key (.ar kk ((mL m n a k).map c) true hw ver) loc) out (fun _ _=>rfl) ?_ ⟨?_,hk⟩
 ·rw[Va]
  have e:ZE lvl loc out=Zj (ZE lvl loc out) (lvl,key) (.ar kk (Je (a.map c) [] (a.map c)) true hw ver):=(Zgr (by unfold ZE;rw[if_pos rfl];exact hS)).symm
  have:=hm a k (lvl+1) (ZE lvl loc out) (lvl,key) [] (a.map c) (a.map c) kk hw ver hw cap (UaA _) rfl rfl h0 h1 hl hB
  rw[<-e] at this
  exact this
 ·trivial
end Go.Fd

namespace Go.Fd
def Ji(l:Int)(g:Int->Int):Int:=if l<0 then -1 else g l
def Zq(c:Int)(s:Int->Int)(q:Nat):Prop:=∀ l:Int,0<=l->l<=1048576->s l<=l/\(0<=s l->(q:Int)<=c+256*(l-s l))
theorem UM:Zq 0 (fun l=>l) 0:=fun l _ _=>⟨Ua4 _,fun _=>by simp only;omega⟩
theorem Qn{c e:Int}{s g:Int->Int}{q r:Nat}(hc:0<=c)(he:0<=e)(hs:Zq c s q)(hg:Zq e g r):Zq (c+e) (fun l=>Ji (s l) g) (q+r):=fun l h0 h1=>by
 have a:=hs l h0 h1
 by_cases h:s l<0
 ·simp only[Ji,if_pos h]
  exact⟨by omega,fun h=>by omega⟩
 ·simp only[Ji,if_neg h]
  have b:=hg (s l) (by omega) (by omega)
  refine⟨by omega,fun h2=>?_⟩
  have:=a.2 (by omega)
  have:=b.2 h2
  omega
theorem Zcl{α:Type}(n:α->Nat)(hn:∀ x,n x<=256)(a:List α):Zq 0 (fun l=>YN a.length l) (nL n a):=fun l h0 h1=>by
 have hh:∀ b:List α,nL n b<=256*b.length:=fun b=>by
  induction b with
  | nil=>exact Uaf 0
  | cons x r ih=>simp only[nL,List.length_cons];have:=hn x;omega
 have:=hh a
 simp only[YN]
 split
 ·exact⟨by omega,fun h=>by omega⟩
 ·exact⟨by omega,fun h=>by omega⟩
theorem Zgu(n:Nat):Zq 0 (fun l=>l-n) 0:=fun l h0 h1=>⟨by simp only;omega,fun h=>by simp only at h ⊢;omega⟩
theorem Zts(n:Nat):Zq 256 (fun l=>l-n) 1:=fun l h0 h1=>⟨by simp only;omega,fun h=>by simp only at h ⊢;omega⟩
theorem Zgv{α:Type}{f:α->Int->Int}{n:α->Nat}(hf:∀ x,Zq 256 (f x) (n x)):∀(a:List α),Zq (256*a.length) (fun l=>Yl f a l) (nL n a)
 | []=>fun l _ _=>⟨Ua4 l,fun _=>by simp only[Yl,nL,List.length_nil];omega⟩
 | x::r=>fun l h0 h1=>by
  simp only[Yl,nL,List.length_cons]
  have a:=hf x l h0 h1
  split
  ·exact⟨by omega,fun h=>by omega⟩
  ·have b:=Zgv hf r (f x l) (by omega) (by omega)
   simp only at b
   refine⟨by omega,fun h=>?_⟩
   have:=a.2 (by omega)
   have:=b.2 h
   omega
theorem Zaj{α:Type}{f:α->Int->Int}{n:α->Nat}(hf:∀ x,Zq 256 (f x) (n x))(a:List α):Zq 0 (fun l=>JB f a l) (nL n a):=fun l h0 h1=>by
 simp only[JB]
 split
 ·exact⟨by omega,fun h=>by omega⟩
 ·have b:=Zgv hf a (l-a.length) (by omega) (by omega)
  simp only at b
  refine⟨by omega,fun h=>?_⟩
  have:=b.2 h
  omega
theorem Xv{c e:Int}{s:Int->Int}{q r:Nat}(h:Zq c s q)(hq:(r:Int)+c<=q+e):Zq e s r:=fun l h0 h1=>by
 have a:=h l h0 h1
 refine⟨a.1,fun h2=>?_⟩
 have:=a.2 h2
 omega
set_option maxRecDepth 10000
structure TNode where
 control:Int
 parent:Int
 links:(List Int)
 deriving DecidableEq
def Zr(x:TNode):List Tr:=[tv x.control,tv x.parent,.sl (rI x.links)]
theorem Ztt(x:TNode):(Zr x).length=3:=rfl
def Zak(x:TNode):IV:=.ag [iI x.control,iI x.parent,.ow 1 (rI x.links) true]
def YV(n:Nat)(x:TNode):Prop:=x.links.length<=n
def Zal(x:TNode):Prop:=Jg .i64 x.control/\Jg .i64 x.parent/\(∀ y∈x.links,Jg .i64 y)
def VA(x:TNode)(l:Int):Int:=Ji (YN x.links.length l) fun l=>l
structure TWire where
 name:ByteArray
 link:Int
 deriving DecidableEq
def ZH(x:TWire):List Tr:=[ts x.name,tv x.link]
theorem Ztu(x:TWire):(ZH x).length=2:=rfl
def Zam(x:TWire):IV:=.ag [iS x.name,iI x.link]
def YA(n:Nat)(x:TWire):Prop:=x.name.size<=n
def Zcm(x:TWire):Prop:=Jg .i64 x.link
def VB(x:TWire)(l:Int):Int:=Ji (l-x.name.size) fun l=>l
structure TBigraph where
 roots:Int
 nodes:(List TNode)
 sites:(List Int)
 edges:Int
 outer:(List ByteArray)
 inner:(List TWire)
 deriving DecidableEq
def Zf(x:TBigraph):List Tr:=[tv x.roots,.sl (x.nodes.map Zr),.sl (rI x.sites),tv x.edges,.sl (rS x.outer),.sl (x.inner.map ZH)]
def Zz(x:TBigraph):IV:=.ag [iI x.roots,.ow 3 (x.nodes.map Zr) true,.ow 1 (rI x.sites) true,iI x.edges,.ow 1 (rS x.outer) true,.ow 2 (x.inner.map ZH) true]
def Jj(n:Nat)(x:TBigraph):Prop:=x.nodes.length<=n/\(∀ y∈x.nodes,YV n y)/\x.sites.length<=n/\x.outer.length<=n/\(∀ y∈x.outer,y.size<=n)/\x.inner.length<=n/\(∀ y∈x.inner,YA n y)
def YW(x:TBigraph):Prop:=Jg .i64 x.roots/\(∀ y∈x.nodes,Zal y)/\(∀ y∈x.sites,Jg .i64 y)/\Jg .i64 x.edges/\(∀ y∈x.inner,Zcm y)
def V0(x:TBigraph)(l:Int):Int:=Ji (JB VA x.nodes l) fun l=>Ji (YN x.sites.length l) fun l=>Ji (JB (fun x m=>m-x.size) x.outer l) fun l=>Ji (JB VB x.inner l) fun l=>l
structure TRule where
 redex:TBigraph
 reactum:TBigraph
 copies:(List Int)
 deriving DecidableEq
def Zs(x:TRule):List Tr:=[tv x.redex.roots,.sl (x.redex.nodes.map Zr),.sl (rI x.redex.sites),tv x.redex.edges,.sl (rS x.redex.outer),.sl (x.redex.inner.map ZH),tv x.reactum.roots,.sl (x.reactum.nodes.map Zr),.sl (rI x.reactum.sites),tv x.reactum.edges,.sl (rS x.reactum.outer),.sl (x.reactum.inner.map ZH),.sl (rI x.copies)]
def ZV(x:TRule):IV:=.ag [iI x.redex.roots,.ow 3 (x.redex.nodes.map Zr) true,.ow 1 (rI x.redex.sites) true,iI x.redex.edges,.ow 1 (rS x.redex.outer) true,.ow 2 (x.redex.inner.map ZH) true,iI x.reactum.roots,.ow 3 (x.reactum.nodes.map Zr) true,.ow 1 (rI x.reactum.sites) true,iI x.reactum.edges,.ow 1 (rS x.reactum.outer) true,.ow 2 (x.reactum.inner.map ZH) true,.ow 1 (rI x.copies) true]
def YB(n:Nat)(x:TRule):Prop:=Jj n x.redex/\Jj n x.reactum/\x.copies.length<=n
def Xw(x:TRule):Prop:=YW x.redex/\YW x.reactum/\(∀ y∈x.copies,Jg .i64 y)
def Qo(x:TRule)(l:Int):Int:=Ji (V0 x.redex l) fun l=>Ji (V0 x.reactum l) fun l=>Ji (YN x.copies.length l) fun l=>l
structure TControl where
 name:ByteArray
 ports:Int
 kind_:Int
 deriving DecidableEq
def ZF(x:TControl):List Tr:=[ts x.name,tv x.ports,tv x.kind_]
theorem Zgw(x:TControl):(ZF x).length=3:=rfl
def Zan(x:TControl):IV:=.ag [iS x.name,iI x.ports,iI x.kind_]
def Jw(n:Nat)(x:TControl):Prop:=x.name.size<=n
def Zgx(x:TControl):Prop:=Jg .i64 x.ports/\Jg .i64 x.kind_
def Yt(x:TControl)(l:Int):Int:=Ji (l-x.name.size) fun l=>l
abbrev Zgy:FuncId:=3
abbrev Zcn:FuncId:=4
abbrev Zco:FuncId:=5
abbrev UN:FuncId:=6
abbrev WF:FuncId:=7
abbrev WG:FuncId:=8
abbrev WH:FuncId:=9
abbrev Xx:FuncId:=10
abbrev Zao:FuncId:=11
abbrev Xy:FuncId:=12
abbrev Zcp:FuncId:=13
abbrev Zcq:FuncId:=14
abbrev Zcr:FuncId:=15
abbrev Zap:FuncId:=16
abbrev Xz:FuncId:=17
abbrev Zaq:FuncId:=18
abbrev Zcs:FuncId:=19
abbrev UO:FuncId:=20
abbrev Zct:FuncId:=21
abbrev Zcu:FuncId:=22
abbrev Zcv:FuncId:=23
abbrev Zcw:FuncId:=24
abbrev Zcx:FuncId:=25
abbrev Zar:FuncId:=26
abbrev Zcy:FuncId:=27
abbrev Zcz:FuncId:=28
abbrev UP:FuncId:=29
abbrev ZcA:FuncId:=30
abbrev ZcB:FuncId:=31
abbrev ZcC:FuncId:=32
abbrev ZcD:FuncId:=33
abbrev ZcE:FuncId:=34
abbrev ZcF:FuncId:=35
abbrev ZcG:FuncId:=36
abbrev ZcH:FuncId:=37
abbrev UQ:FuncId:=38
abbrev ZcI:FuncId:=39
abbrev ZcJ:FuncId:=40
abbrev ZcK:FuncId:=41
abbrev XX:FuncId:=42
abbrev UR:FuncId:=43
abbrev ZcL:FuncId:=44
abbrev ZcM:FuncId:=45
abbrev ZcN:FuncId:=46
abbrev ZcO:FuncId:=47
abbrev Zas:FuncId:=48
abbrev ZcP:FuncId:=49
abbrev ZcQ:FuncId:=50
abbrev ZcR:FuncId:=51
abbrev ZcS:FuncId:=52
abbrev ZcT:FuncId:=53
abbrev WI:FuncId:=54
abbrev ZcU:FuncId:=55
abbrev ZcV:FuncId:=56
abbrev ZcW:FuncId:=57
abbrev ZcX:FuncId:=58
abbrev ZcY:FuncId:=59
abbrev ZcZ:FuncId:=60
abbrev Zc0:FuncId:=61
abbrev Zc1:FuncId:=62
abbrev Zgz:FuncId:=63
abbrev Zat:FuncId:=64
abbrev Zc2:FuncId:=65
abbrev V1:FuncId:=66
abbrev WJ:FuncId:=67
abbrev Zc3:FuncId:=68
abbrev Zc4:FuncId:=69
abbrev Zau:FuncId:=70
abbrev US:FuncId:=71
abbrev Zc5:FuncId:=72
abbrev Zc6:FuncId:=73
abbrev Zc7:FuncId:=74
abbrev Zc8:FuncId:=75
abbrev VC:FuncId:=76
abbrev Zav:FuncId:=77
abbrev Zc9:FuncId:=78
abbrev Zda:FuncId:=79
abbrev Zaw:FuncId:=80
abbrev Zax:FuncId:=81
abbrev Zdb:FuncId:=82
abbrev Zdc:FuncId:=83
abbrev Zdd:FuncId:=84
abbrev ZgA:FuncId:=85
abbrev Zde:FuncId:=86
abbrev Zay:FuncId:=87
abbrev Zdf:FuncId:=88
abbrev Zaz:FuncId:=89
abbrev Zdg:FuncId:=90
abbrev ZaA:FuncId:=91
abbrev Zdh:FuncId:=92
abbrev ZgB:FuncId:=93
abbrev Zdi:FuncId:=94
abbrev Zdj:FuncId:=95
abbrev Zdk:FuncId:=96
abbrev ZaB:FuncId:=97
abbrev Zdl:FuncId:=98
abbrev ZaC:FuncId:=99
abbrev Zdm:FuncId:=100
abbrev ZaD:FuncId:=101
abbrev ZgC:FuncId:=102
abbrev ZaE:FuncId:=103
abbrev ZgD:FuncId:=104
abbrev Zdn:FuncId:=105
abbrev Zdo:FuncId:=106
abbrev ZgE:FuncId:=107
abbrev ZgF:FuncId:=108
abbrev qM(d a:Nat):OP:=om d (.t a)
abbrev qL(d a:Nat):OP:=oo d (.ld none (.t a))
abbrev qF(d o a:Nat):OP:=oo d (.fa o (.t a))
abbrev qN(d a:Nat):OP:=oo d (.ln (.t a))
abbrev qS(d k a:Nat):OP:=oo d (.ld (some k) (.t a))
abbrev qE(d i a:Nat):OP:=oo d (.ex i (.t a))
abbrev qI(d k a b:Nat):OP:=oo d (.ia k (.t a) (.t b))
abbrev qB(d:Nat)(o:BinOp)(a b:Nat):OP:=oo d (.bi o 0 (.t a) (.t b))
end Go.Fd
