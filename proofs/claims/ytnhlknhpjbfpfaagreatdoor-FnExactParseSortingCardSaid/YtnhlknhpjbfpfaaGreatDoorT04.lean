/-
  FOUNDATION 45: more rules: loads, parts of slices, calls, results, forgetting. Own work.
-/
import Derived.Test.YtnhlknhpjbfpfaaGreatDoorT03
import Derived.ChangeArms
import Derived.OpenShut
import Derived.Carry
import Derived.ChangeMaps5
import Derived.ChangeShapes
import Derived.Test.YtnhlknhpjbfpfaaGreatDoorProg
import Derived.Lib.LaidTab
import Derived.Lib.ItoaNum
set_option linter.all false
namespace Go.Fd
section
variable {C:ZB} {lvl:Nat} {env:List (Nat×IV)} {loc:List (Nat×Ob)} {out:Zc} {d:Option Nat} {K:St->Prop} {st:St} {Q:Ex->St->Prop} {F:IV->Prop}
theorem J2{k:Nat}:Zy lvl loc out (lvl,k)=lkO k loc:=by unfold Zy;rw[if_pos rfl]
theorem V2{id:Zd}(h:id.1≠lvl):Zy lvl loc out id=out id:=by unfold Zy;rw[if_neg h]
theorem WH{k:Nat}{ob:Ob}:Zg ⟨lvl,env,loc,out⟩ (lvl,k) ob=⟨lvl,env,ptO k ob loc,out⟩:=by unfold Zg;rw[if_pos rfl]
theorem Q8{id:Zd}{ob:Ob}(h:id.1≠lvl):Zg ⟨lvl,env,loc,out⟩ id ob=⟨lvl,env,loc,Zh out id ob⟩:=by unfold Zg;rw[if_neg h]
theorem ZnF{id:Zd}:Zn id ⟨lvl,env,loc,out⟩=⟨lvl,scrE id env,scrL id (rmO id.2 loc),out⟩:=(rfl)
theorem ZnG:(⟨lvl,env,loc,out⟩:St).sto=Zy lvl loc out:=(rfl)
theorem Qs{id:Zd}{ob:Ob}{S:Zc}:Zh S id ob id=some ob:=by unfold Zh;rw[if_pos rfl]
def ltr(F:IV->Prop)(t:Tr):Prop:=F (.tr t)
theorem ZnH{t:Tr}:ltr F t=F (.tr t):=(rfl)
def DU(o:Option Ob)(off:Nat)(F:IV->Prop):Prop :=
 match o with
 | some (.bx cells)=>ZW cells[off]? F
 | _=>False
theorem ZnI{cells:List IV}{off:Nat}:DU (some (.bx cells)) off F=ZW cells[off]? F:=(rfl)
def DV(id:Zd)(p:Zf)(i f:Nat)(F:IV->Prop)(es:Ze)(u:Bool)(ver:Nat):Prop:=ZW es[i]? fun e=>ZW e[f]? fun t=>F (cvt id p i f u ver t)
def ZfK(id:Zd)(p:Zf)(i f:Nat)(F:IV->Prop)(u:Bool)(ver:Nat)(e:List Tr):Prop:=ZW e[f]? fun t=>F (cvt id p i f u ver t)
def ZfL(id:Zd)(p:Zf)(i f:Nat)(F:IV->Prop)(u:Bool)(ver:Nat)(t:Tr):Prop:=F (cvt id p i f u ver t)
theorem ZnJ{id:Zd}{p:Zf}{i f:Nat}{es:Ze}{u:Bool}{ver:Nat}:DV id p i f F es u ver=ZW es[i]? (ZfK id p i f F u ver):=(rfl)
theorem ZnK{id:Zd}{p:Zf}{i f:Nat}{e:List Tr}{u:Bool}{ver:Nat}:ZfK id p i f F u ver e=ZW e[f]? (ZfL id p i f F u ver):=(rfl)
theorem ZnL{id:Zd}{p:Zf}{i f:Nat}{t:Tr}{u:Bool}{ver:Nat}:ZfL id p i f F u ver t=F (cvt id p i f u ver t):=(rfl)
def DW(id:Zd)(p:Zf)(i f m:Nat)(F:IV->Prop)(es:Ze)(u:Bool)(ver:Nat):Prop:=ZW es[i]? fun e=>f+m<=e.length/\F (.ag (cvts id p i u ver f ((e.drop f).take m)))
def ZfM(id:Zd)(p:Zf)(i f m:Nat)(F:IV->Prop)(u:Bool)(ver:Nat)(e:List Tr):Prop:=f+m<=e.length/\F (.ag (cvts id p i u ver f ((e.drop f).take m)))
theorem ZnM{id:Zd}{p:Zf}{i f m:Nat}{es:Ze}{u:Bool}{ver:Nat}:DW id p i f m F es u ver=ZW es[i]? (ZfM id p i f m F u ver):=(rfl)
theorem ZnN{id:Zd}{p:Zf}{i f m:Nat}{e:List Tr}{u:Bool}{ver:Nat}:ZfM id p i f m F u ver e=(f+m<=e.length/\F (.ag (cvts id p i u ver f ((e.drop f).take m)))):=(rfl)
def V3(L:Zc)(m:Option Nat)(x:IV)(F:IV->Prop):Prop :=
 match m,x with
 | none,.ta cells=>ZW cells[0]? (ltr F)
 | none,.ab id off=>DU (L id) off F
 | none,.ae id p i f st=>Va (L id) p st (DV id p i f F)
 | some m,.ta cells=>m<=cells.length/\F (.ag ((cells.take m).map .tr))
 | some m,.ab id off =>
  match L id with
  | some (.bx cells)=>off+m<=cells.length/\F (.ag ((cells.drop off).take m))
  | _=>False
 | some m,.ae id p i f st=>Va (L id) p st (DW id p i f m F)
 | _,_=>False
theorem ZnO{m:Option Nat}{p:X}:Zo C d (.ld m p) ⟨lvl,env,loc,out⟩ K=V3 (Zy lvl loc out) m (xv env p) (JE lvl env loc out d K):=by
 refine JT (o:=.ld m p) (T:=fun F=>V3 (Zy lvl loc out) m (xv env p) F) (by cases m <;> rfl) (fun Kd=>?_)
 cases m with
 | none =>
  simp only[ev]
  generalize xv env p=v
  cases v <;> try rfl
  ·dsimp only[V3,DU]
   rename_i id off
   generalize Zy lvl loc out id=o
   cases o with
   | none=>rfl
   | some ob =>
    cases ob with
    | bx=>exact Yf
    | ar=>rfl
  ·dsimp only[V3]
   rw[<-Xz]
   congr 1
   funext es u ver
   simp only[DV,<-Yf]
  ·exact Yf
 | some m =>
  simp only[ev]
  generalize xv env p=v
  cases v <;> try rfl
  dsimp only[V3]
  rw[<-Xz]
  congr 1
  funext es u ver
  simp only[DW,<-Yf]
theorem ZnP{L:Zc}{cells:List Tr}:V3 L none (.ta cells) F=ZW cells[0]? (ltr F):=(rfl)
theorem ZnQ{L:Zc}{id:Zd}{off:Nat}:V3 L none (.ab id off) F=DU (L id) off F:=(rfl)
theorem ZnR{L:Zc}{id:Zd}{p:Zf}{i f s:Nat}:V3 L none (.ae id p i f s) F=Va (L id) p s (DV id p i f F):=(rfl)
theorem ZnS{L:Zc}{m:Nat}{cells:List Tr}:V3 L (some m) (.ta cells) F=(m<=cells.length/\F (.ag ((cells.take m).map .tr))):=(rfl)
def ZfN(o:Option Ob)(off m:Nat)(F:IV->Prop):Prop :=
 match o with
 | some (.bx cells)=>off+m<=cells.length/\F (.ag ((cells.drop off).take m))
 | _=>False
theorem ZnT{cells:List IV}{off m:Nat}:ZfN (some (.bx cells)) off m F=(off+m<=cells.length/\F (.ag ((cells.drop off).take m))):=(rfl)
theorem ZnU{L:Zc}{m:Nat}{id:Zd}{off:Nat}:V3 L (some m) (.ab id off) F=ZfN (L id) off m F:=(rfl)
theorem ZnV{L:Zc}{m:Nat}{id:Zd}{p:Zf}{i f s:Nat}:V3 L (some m) (.ae id p i f s) F=Va (L id) p s (DW id p i f m F):=(rfl)
def bn(x:Option IV)(n:Nat)(F:Nat->Prop):Prop :=
 match x with
 | none=>F n
 | some (.tr (.v (.int _ m)))=>0<=m/\F m.toNat
 | _=>False
theorem ZnW{n:Nat}{F:Nat->Prop}:bn none n F=F n:=(rfl)
theorem ZnX{n:Nat}{k:IntKind}{m:Int}{F:Nat->Prop}:bn (some (.tr (.v (.int k m)))) n F=(0<=m/\F m.toNat):=(rfl)
theorem ZfO{ρ:X->IV}{x:Option X}{n:Nat}{F:Nat->Prop}:ZI ρ x n F=bn (x.map ρ) n F:=by
 cases x with
 | none=>rfl
 | some x =>
  simp only[ZI,bn,Option.map_some]
  generalize ρ x=v
  cases v <;> try rfl
  rename_i t
  cases t <;> try rfl
  rename_i y
  cases y <;> rfl
def XX(k:Nat)(es:Ze)(los:Bool)(hi mx:Option IV)(q:Bool)(F:IV->Prop)(a:Nat):Prop:=(los=true->Zs k es)/\bn hi es.length fun b=>a<=b/\b<=es.length/\bn mx b fun m=>m=b/\F (if q then .cs (cut es a (b-a)) else .tr (.sl (cut es a (b-a))))
def ZfP(es:Ze)(mx:Option IV)(q:Bool)(F:IV->Prop)(a b:Nat):Prop:=a<=b/\b<=es.length/\bn mx b fun m=>m=b/\F (if q then .cs (cut es a (b-a)) else .tr (.sl (cut es a (b-a))))
def ZfQ(es:Ze)(q:Bool)(F:IV->Prop)(a b m:Nat):Prop:=m=b/\F (if q then .cs (cut es a (b-a)) else .tr (.sl (cut es a (b-a))))
theorem ZnY{k:Nat}{es:Ze}{los q:Bool}{hi mx:Option IV}{a:Nat}:XX k es los hi mx q F a=((los=true->Zs k es)/\bn hi es.length (ZfP es mx q F a)):=(rfl)
theorem ZnZ{es:Ze}{q:Bool}{mx:Option IV}{a b:Nat}:ZfP es mx q F a b=(a<=b/\b<=es.length/\bn mx b (ZfQ es q F a b)):=(rfl)
theorem Zn0{es:Ze}{q:Bool}{a b m:Nat}:ZfQ es q F a b m=(m=b/\F (if q=true then .cs (cut es a (b-a)) else .tr (.sl (cut es a (b-a))))):=(rfl)
def DX(L:Zc)(k:Nat)(id:Zd)(p:Zf)(off len:Nat)(cap:Option Nat)(s:Nat)(hi mx:Option IV)(F:IV->Prop)(a:Nat):Prop :=
 bn hi len fun b=>a<=b/\b<=len/\bn mx b fun m=>b<=m/\m<=len/\Jy L id p k/\F (.hd id p (off+a) (b-a) (if mx.isSome then some (m-a) else cap.map (· - a)) s)
def ZfR(L:Zc)(k:Nat)(id:Zd)(p:Zf)(off len:Nat)(cap:Option Nat)(s:Nat)(mx:Option IV)(F:IV->Prop)(a b:Nat):Prop :=
 a<=b/\b<=len/\bn mx b fun m=>b<=m/\m<=len/\Jy L id p k/\F (.hd id p (off+a) (b-a) (if mx.isSome then some (m-a) else cap.map (· - a)) s)
def ZfS(L:Zc)(k:Nat)(id:Zd)(p:Zf)(off len:Nat)(cap:Option Nat)(s:Nat)(mx:Option IV)(F:IV->Prop)(a b m:Nat):Prop :=
 b<=m/\m<=len/\Jy L id p k/\F (.hd id p (off+a) (b-a) (if mx.isSome then some (m-a) else cap.map (· - a)) s)
theorem Zn1{L:Zc}{k:Nat}{id:Zd}{p:Zf}{off len:Nat}{cap:Option Nat}{s:Nat}{hi mx:Option IV}{a:Nat}:DX L k id p off len cap s hi mx F a=bn hi len (ZfR L k id p off len cap s mx F a):=(rfl)
theorem Zn2{L:Zc}{k:Nat}{id:Zd}{p:Zf}{off len:Nat}{cap:Option Nat}{s:Nat}{mx:Option IV}{a b:Nat}:ZfR L k id p off len cap s mx F a b=(a<=b/\b<=len/\bn mx b (ZfS L k id p off len cap s mx F a b)):=(rfl)
theorem Zn3{L:Zc}{k:Nat}{id:Zd}{p:Zf}{off len:Nat}{cap:Option Nat}{s:Nat}{mx:Option IV}{a b m:Nat}:ZfS L k id p off len cap s mx F a b m=(b<=m/\m<=len/\Jy L id p k/\F (.hd id p (off+a) (b-a) (if mx.isSome then some (m-a) else cap.map (· - a)) s)):=(rfl)
def XA(L:Zc)(k:Nat)(x:IV)(lo hi mx:Option IV)(F:IV->Prop):Prop :=
 match x with
 | .tr (.sl es)=>bn lo 0 (XX k es lo.isSome hi mx mx.isSome F)
 | .cs es=>bn lo 0 (XX k es lo.isSome hi mx (mx.isSome || hi.isNone) F)
 | .hd id p off len cap s=>bn lo 0 (DX L k id p off len cap s hi mx F)
 | _=>False
theorem ZfT{x:Option IV}{n:Nat}{p:Prop}{F:Nat->Prop}:(p/\bn x n F)=bn x n fun a=>p/\F a:=by
 apply propext
 cases x with
 | none=>rfl
 | some v =>
  cases v <;> try exact⟨fun h=>h.2,fun h=>h.elim⟩
  rename_i t
  cases t <;> try exact⟨fun h=>h.2,fun h=>h.elim⟩
  rename_i y
  cases y <;> first | exact⟨fun h=>h.2,fun h=>h.elim⟩ | exact⟨fun⟨h1,h2,h3⟩=>⟨h2,h1,h3⟩,fun⟨h1,h2,h3⟩=>⟨h2,h1,h3⟩⟩
theorem Zn4{k:Nat}{x:X}{lo hi mx:Option X}:Zo C d (.sx k x lo hi mx) ⟨lvl,env,loc,out⟩ K=XA (Zy lvl loc out) k (xv env x) (lo.map (xv env)) (hi.map (xv env)) (mx.map (xv env)) (JE lvl env loc out d K):=by
 refine JT (o:=.sx k x lo hi mx) (T:=fun F=>XA (Zy lvl loc out) k (xv env x) (lo.map (xv env)) (hi.map (xv env)) (mx.map (xv env)) F) rfl (fun Kd=>?_)
 simp only[ev,ZfO]
 generalize xv env x=v
 cases v <;> try rfl
 ·rename_i t
  cases t <;> try rfl
  dsimp only[XA,XX]
  rw[ZfT]
  simp only[Option.isSome_map]
  rfl
 ·dsimp only[XA,XX]
  rw[ZfT]
  simp only[Option.isSome_map,Option.isNone_map]
  rfl
 ·dsimp only[XA]
  congr 1
  funext a
  unfold DX
  congr 1
  funext b
  simp only[Option.isSome_map]
theorem Zn5{L:Zc}{k:Nat}{es:Ze}{lo hi mx:Option IV}:XA L k (.tr (.sl es)) lo hi mx F=bn lo 0 (XX k es lo.isSome hi mx mx.isSome F):=(rfl)
theorem Zn6{L:Zc}{k:Nat}{es:Ze}{lo hi mx:Option IV}:XA L k (.cs es) lo hi mx F=bn lo 0 (XX k es lo.isSome hi mx (mx.isSome || hi.isNone) F):=(rfl)
theorem Zn7{L:Zc}{k:Nat}{id:Zd}{p:Zf}{off len:Nat}{cap:Option Nat}{s:Nat}{lo hi mx:Option IV}:XA L k (.hd id p off len cap s) lo hi mx F=bn lo 0 (DX L k id p off len cap s hi mx F):=(rfl)
def sst(s:ByteArray)(hi:Option IV)(F:IV->Prop)(a:Nat):Prop:=bn hi s.size fun b=>a<=b/\b<=s.size/\F (iS (s.extract a b))
def ZfU(s:ByteArray)(F:IV->Prop)(a b:Nat):Prop:=a<=b/\b<=s.size/\F (iS (s.extract a b))
theorem Zn8{s:ByteArray}{hi:Option IV}{a:Nat}:sst s hi F a=bn hi s.size (ZfU s F a):=(rfl)
theorem Zn9{s:ByteArray}{a b:Nat}:ZfU s F a b=(a<=b/\b<=s.size/\F (iS (s.extract a b))):=(rfl)
def ss2(x:IV)(lo hi:Option IV)(F:IV->Prop):Prop :=
 match x with
 | .tr (.v (.string s))=>bn lo 0 (sst s hi F)
 | _=>False
theorem Zoa{x:X}{lo hi:Option X}:Zo C d (.ss x lo hi) ⟨lvl,env,loc,out⟩ K=ss2 (xv env x) (lo.map (xv env)) (hi.map (xv env)) (JE lvl env loc out d K):=by
 refine JT (o:=.ss x lo hi) (T:=fun F=>ss2 (xv env x) (lo.map (xv env)) (hi.map (xv env)) F) rfl (fun Kd=>?_)
 simp only[ev,ZfO]
 rfl
theorem Zob{s:ByteArray}{lo hi:Option IV}:ss2 (.tr (.v (.string s))) lo hi F=bn lo 0 (sst s hi F):=(rfl)
def sa2(n:Nat)(x:IV)(F:IV->Prop):Prop :=
 match x with
 | .ta cells=>n<=cells.length/\F (.cs ((cells.take n).map fun c=>[c]))
 | _=>False
theorem Zoc{n:Nat}{x:X}:Zo C d (.sa n x) ⟨lvl,env,loc,out⟩ K=sa2 n (xv env x) (JE lvl env loc out d K):=JT rfl fun _=>rfl
theorem Zod{n:Nat}{cells:List Tr}:sa2 n (.ta cells) F=(n<=cells.length/\F (.cs ((cells.take n).map fun c=>[c]))):=(rfl)
def XY(F:IV->Prop)(l:List UInt8):Prop:=F (iS ⟨l.toArray⟩)
theorem Zoe{l:List UInt8}:XY F l=F (iS ⟨l.toArray⟩):=(rfl)
def DY(off len:Nat)(F:IV->Prop)(es:Ze)(_u:Bool)(_v:Nat):Prop:=off+len<=es.length/\ZW (Yx (cut es off len)) (XY F)
theorem Zof{off len:Nat}{es:Ze}{u:Bool}{v:Nat}:DY off len F es u v=(off+len<=es.length/\ZW (Yx (cut es off len)) (XY F)):=(rfl)
def WI(L:Zc)(x:IV)(F:IV->Prop):Prop :=
 match x with
 | .tr (.sl es)=>ZW (Yx es) (XY F)
 | .cs es=>ZW (Yx es) (XY F)
 | .hd id p off len _ st=>Va (L id) p st (DY off len F)
 | _=>False
theorem Zog{x:X}:Zo C d (.sb x) ⟨lvl,env,loc,out⟩ K=WI (Zy lvl loc out) (xv env x) (JE lvl env loc out d K):=by
 refine JT (o:=.sb x) (T:=fun F=>WI (Zy lvl loc out) (xv env x) F) rfl (fun Kd=>?_)
 simp only[ev]
 generalize xv env x=v
 cases v <;> try rfl
 ·rename_i t
  cases t <;> try rfl
  exact Yf
 ·exact Yf
 ·dsimp only[WI]
  rw[<-Xz]
  congr 1
  funext es u ver
  simp only[DY,<-Yf]
  rfl
theorem Zoh{L:Zc}{es:Ze}:WI L (.tr (.sl es)) F=ZW (Yx es) (XY F):=(rfl)
theorem Zoi{L:Zc}{es:Ze}:WI L (.cs es) F=ZW (Yx es) (XY F):=(rfl)
theorem Zoj{L:Zc}{id:Zd}{p:Zf}{off len s:Nat}{cap:Option Nat}:WI L (.hd id p off len cap s) F=Va (L id) p s (DY off len F):=(rfl)
theorem Jz{o:O}(h:Jg o=true):Zo C d o st K=ew C d st K o:=by unfold Zo;rw[if_pos h]
def Vb(x:IV)(F:List IV->Prop)(l:List IV):Prop:=F (x::l)
theorem ZfV{x:IV}{F:List IV->Prop}{l:List IV}:Vb x F l=F (x::l):=(rfl)
def ZfW(L:Zc)(r:List IV)(F:List IV->Prop)(l:List IV):Prop:=ZQ L r (Vb (.ag l) F)
theorem Zok{L:Zc}{r:List IV}{F:List IV->Prop}{l:List IV}:ZfW L r F l=ZQ L r (Vb (.ag l) F):=(rfl)
def ZfX(L:Zc)(f:FuncId)(r:List IV)(F:List IV->Prop)(l:List IV):Prop:=ZQ L r (Vb (.fn f l) F)
theorem Zol{L:Zc}{f:FuncId}{r:List IV}{F:List IV->Prop}{l:List IV}:ZfX L f r F l=ZQ L r (Vb (.fn f l) F):=(rfl)
def ZfY(L:Zc)(off len:Nat)(r:List IV)(F:List IV->Prop)(es:Ze)(_u:Bool)(_v:Nat):Prop:=off+len<=es.length/\ZQ L r (Vb (.tr (.sl (cut es off len))) F)
theorem Zom{L:Zc}{off len:Nat}{r:List IV}{F:List IV->Prop}{es:Ze}{u:Bool}{v:Nat}:ZfY L off len r F es u v=(off+len<=es.length/\ZQ L r (Vb (.tr (.sl (cut es off len))) F)):=(rfl)
section sn
variable {L:Zc} {r:List IV} {F:List IV->Prop}
theorem Zb7:ZQ L [] F=F []:=by simp only[ZQ]
theorem ZfZ{t:Tr}:ZQ L (.tr t::r) F=ZQ L r (Vb (.tr t) F):=by simp only[ZQ,ZU];rfl
theorem Zon{es:Ze}:ZQ L (.cs es::r) F=ZQ L r (Vb (.tr (.sl es)) F):=by simp only[ZQ,ZU];rfl
theorem Zoo{l:List IV}:ZQ L (.ag l::r) F=ZQ L l (ZfW L r F):=by simp only[ZQ,ZU];rfl
theorem Zop{f:FuncId}{l:List IV}:ZQ L (.fn f l::r) F=ZQ L l (ZfX L f r F):=by simp only[ZQ,ZU];rfl
theorem Zf0{l:List Tr}:ZQ L (.ta l::r) F=ZQ L r (Vb (.ta l) F):=by simp only[ZQ,ZU];rfl
theorem Zoq:ZQ L (.er::r) F=ZQ L r (Vb .er F):=by simp only[ZQ,ZU];rfl
theorem Zor:ZQ L (.un::r) F=ZQ L r (Vb .un F):=by simp only[ZQ,ZU];rfl
theorem Zos{id:Zd}{p:Zf}{off len s:Nat}{cap:Option Nat}:ZQ L (.hd id p off len cap s::r) F=Va (L id) p s (ZfY L off len r F):=by simp only[ZQ,ZU];rw[<-Xz];rfl
end sn
def kca(C:ZB)(fid:FuncId)(nm:Prop)(imp:Bool)(lvl:Nat)(env:List (Nat×IV))(loc:List (Nat×Ob))(out:Zc)(d:Option Nat)(K:St->Prop)(args:List IV):Prop :=
 ∃ r,(∀ l S,C fid l args S r S)/\(nm\/noSh r)/\freshK (keyOf d) loc (impv imp lvl (keyOf d) 0 r).2.length/\K ⟨lvl,ptd d (impv imp lvl (keyOf d) 0 r).1 env,addO (keyOf d) (impv imp lvl (keyOf d) 0 r).2 loc,out⟩
theorem Zi{fid:FuncId}{nm:Prop}{imp:Bool}{args:List IV}{r:IV}(h:∀ l S,C fid l args S r S)
  (hk:(nm\/noSh r)/\freshK (keyOf d) loc (impv imp lvl (keyOf d) 0 r).2.length/\K ⟨lvl,ptd d (impv imp lvl (keyOf d) 0 r).1 env,addO (keyOf d) (impv imp lvl (keyOf d) 0 r).2 loc,out⟩):kca C fid nm imp lvl env loc out d K args:=⟨r,h,hk⟩
def ca2(C:ZB)(f:IV)(xs:List IV)(imp:Bool)(lvl:Nat)(env:List (Nat×IV))(loc:List (Nat×Ob))(out:Zc)(d:Option Nat)(K:St->Prop):Prop :=
 match f with
 | .fn fid caps=>ZQ (Zy lvl loc out) (xs++caps) (kca C fid (Za (fun _=>False) (xs++caps)) imp lvl env loc out d K)
 | _=>False
theorem Zot{imp:Bool}{f:X}{xs:List X}:Zo C d (.ca .pure imp f xs) ⟨lvl,env,loc,out⟩ K=ca2 C (xv env f) (xs.map (xv env)) imp lvl env loc out d K:=by
 rw[JK rfl]
 simp only[ev]
 generalize xv env f=v
 cases v <;> rfl
theorem Zou{fid:FuncId}{caps xs:List IV}{imp:Bool}:ca2 C (.fn fid caps) xs imp lvl env loc out d K=ZQ (Zy lvl loc out) (xs++caps) (kca C fid (Za (fun _=>False) (xs++caps)) imp lvl env loc out d K):=(rfl)
def kce(C:ZB)(fid:FuncId)(imp:Bool)(lvl:Nat)(env:List (Nat×IV))(loc:List (Nat×Ob))(out:Zc)(d:Option Nat)(K:St->Prop)(args:List IV):Prop :=
 ∃ r,(∀ l S,Za (W3 (Zy lvl loc out) S l) args->C fid l args S r S)/\freshK (keyOf d) loc (impv imp lvl (keyOf d) 0 r).2.length/\K ⟨lvl,ptd d (impv imp lvl (keyOf d) 0 r).1 env,addO (keyOf d) (impv imp lvl (keyOf d) 0 r).2 loc,out⟩
def Zf1(C:ZB)(f:IV)(xs:List IV)(imp:Bool)(lvl:Nat)(env:List (Nat×IV))(loc:List (Nat×Ob))(out:Zc)(d:Option Nat)(K:St->Prop):Prop :=
 match f with
 | .fn fid caps=>kce C fid imp lvl env loc out d K (xs++caps)
 | _=>False
theorem Zov{imp:Bool}{f:X}{xs:List X}:Zo C d (.ca .see imp f xs) ⟨lvl,env,loc,out⟩ K=Zf1 C (xv env f) (xs.map (xv env)) imp lvl env loc out d K:=by
 rw[JK rfl]
 simp only[ev]
 generalize xv env f=v
 cases v <;> rfl
theorem Zow{fid:FuncId}{caps xs:List IV}{imp:Bool}:Zf1 C (.fn fid caps) xs imp lvl env loc out d K=kce C fid imp lvl env loc out d K (xs++caps):=(rfl)
def DZ(C:ZB)(fid:FuncId)(imp:Bool)(lvl:Nat)(env:List (Nat×IV))(loc:List (Nat×Ob))(out:Zc)(d:Option Nat)(K:St->Prop)(args:List IV):Prop :=
 ∃ r,C fid (lvl+1) args (Zy lvl loc out) r (Zy lvl loc out)/\freshK (keyOf d) loc (impv imp lvl (keyOf d) 0 r).2.length/\K ⟨lvl,ptd d (impv imp lvl (keyOf d) 0 r).1 env,addO (keyOf d) (impv imp lvl (keyOf d) 0 r).2 loc,out⟩
def Zf2(C:ZB)(f:IV)(xs:List IV)(imp:Bool)(lvl:Nat)(env:List (Nat×IV))(loc:List (Nat×Ob))(out:Zc)(d:Option Nat)(K:St->Prop):Prop :=
 match f with
 | .fn fid caps=>DZ C fid imp lvl env loc out d K (xs.map Yw++caps)
 | _=>False
theorem Zox{imp:Bool}{f:X}{xs:List X}:Zo C d (.ca .same imp f xs) ⟨lvl,env,loc,out⟩ K=Zf2 C (xv env f) (xs.map (xv env)) imp lvl env loc out d K:=by
 rw[Jz rfl]
 simp only[ew]
 generalize xv env f=v
 cases v <;> rfl
theorem Zoy{fid:FuncId}{caps xs:List IV}{imp:Bool}:Zf2 C (.fn fid caps) xs imp lvl env loc out d K=DZ C fid imp lvl env loc out d K (xs.map Yw++caps):=(rfl)
def Zf3(C:ZB)(f:IV)(xs:List IV)(imp:Bool)(lvl:Nat)(env:List (Nat×IV))(loc:List (Nat×Ob))(out:Zc)(d:Option Nat)(K:St->Prop):Prop :=
 match f with
 | .fn fid caps=>DZ C fid imp lvl env loc out d K (xs++caps)
 | _=>False
theorem Zoz{imp:Bool}{f:X}{xs:List X}:Zo C d (.ca .keep imp f xs) ⟨lvl,env,loc,out⟩ K=Zf3 C (xv env f) (xs.map (xv env)) imp lvl env loc out d K:=by
 rw[Jz rfl]
 simp only[ew]
 generalize xv env f=v
 cases v <;> rfl
theorem ZoA{fid:FuncId}{caps xs:List IV}{imp:Bool}:Zf3 C (.fn fid caps) xs imp lvl env loc out d K=DZ C fid imp lvl env loc out d K (xs++caps):=(rfl)
def XZ(C:ZB)(fid:FuncId)(imp:Bool)(lvl:Nat)(env:List (Nat×IV))(loc:List (Nat×Ob))(out:Zc)(d:Option Nat)(K:St->Prop)(args:List IV):Prop :=
 ∃ r loc' out',(∀ i,i.1=lvl->out' i=out i)/\C fid (lvl+1) args (Zy lvl loc out) r (Zy lvl loc' out')/\freshK (keyOf d) loc' (impv imp lvl (keyOf d) 0 r).2.length/\K ⟨lvl,ptd d (impv imp lvl (keyOf d) 0 r).1 env,addO (keyOf d) (impv imp lvl (keyOf d) 0 r).2 loc',out'⟩
theorem D0{fid:FuncId}{imp:Bool}{args:List IV}{r:IV}(loc':List (Nat×Ob))(out':Zc)(ho:∀ i,i.1=lvl->out' i=out i)(h:C fid (lvl+1) args (Zy lvl loc out) r (Zy lvl loc' out'))
  (hk:freshK (keyOf d) loc' (impv imp lvl (keyOf d) 0 r).2.length/\K ⟨lvl,ptd d (impv imp lvl (keyOf d) 0 r).1 env,addO (keyOf d) (impv imp lvl (keyOf d) 0 r).2 loc',out'⟩):XZ C fid imp lvl env loc out d K args:=⟨r,loc',out',ho,h,hk⟩
def Zf4(C:ZB)(f:IV)(xs:List IV)(imp:Bool)(lvl:Nat)(env:List (Nat×IV))(loc:List (Nat×Ob))(out:Zc)(d:Option Nat)(K:St->Prop):Prop :=
 match f with
 | .fn fid caps=>XZ C fid imp lvl env loc out d K (xs.map Yw++caps)
 | _=>False
theorem ZoB{imp:Bool}{f:X}{xs:List X}:Zo C d (.ca .any imp f xs) ⟨lvl,env,loc,out⟩ K=Zf4 C (xv env f) (xs.map (xv env)) imp lvl env loc out d K:=by
 rw[Jz rfl]
 simp only[ew]
 generalize xv env f=v
 cases v <;> rfl
theorem ZoC{fid:FuncId}{caps xs:List IV}{imp:Bool}:Zf4 C (.fn fid caps) xs imp lvl env loc out d K=XZ C fid imp lvl env loc out d K (xs.map Yw++caps):=(rfl)
def D7(K:IV->Zc->Prop)(l:List IV)(st:St):Prop:=match l with | [x]=>K x st.out | xs=>K (.tu xs) st.out
theorem ZoD{rs:List RS}{K:IV->Zc->Prop}:Jd rs st K=QQ rs st (D7 K):=(rfl)
theorem ZoE{K:IV->Zc->Prop}:D7 K [] ⟨lvl,env,loc,out⟩=K (.tu []) out:=(rfl)
theorem ZoF{K:IV->Zc->Prop}{x:IV}:D7 K [x] ⟨lvl,env,loc,out⟩=K x out:=(rfl)
theorem ZoG{K:IV->Zc->Prop}{x y:IV}{r:List IV}:D7 K (x::y::r) ⟨lvl,env,loc,out⟩=K (.tu (x::y::r)) out:=(rfl)
def kex(rs:List RS)(F:List IV->St->Prop)(x:IV)(st:St):Prop:=QQ rs st fun xs st'' => F (x::xs) st''
def D8(x:IV)(F:List IV->St->Prop)(l:List IV)(st:St):Prop:=F (x::l) st
theorem ZoH{x:IV}{F:List IV->St->Prop}{l:List IV}:D8 x F l st=F (x::l) st:=(rfl)
theorem ZoI{F:List IV->St->Prop}:QQ [] st F=F [] st:=(rfl)
theorem ZoJ{r:RS}{rs:List RS}{F:List IV->St->Prop}:QQ (r::rs) st F=QP r st (kex rs F):=(rfl)
theorem ZoK{rs:List RS}{F:List IV->St->Prop}{x:IV}:kex rs F x st=QQ rs st (D8 x F):=(rfl)
theorem ZoL{n:Nat}{ks:List Nat}{F:IV->St->Prop}:QP (.t n ks) ⟨lvl,env,loc,out⟩ F=Yo ks (lk n env) ⟨lvl,env,loc,out⟩ F:=(rfl)
def D9(o:Option Ob)(off:Nat)(m:Option Nat)(ks:List Nat)(st:St)(F:IV->St->Prop):Prop :=
 match o,m with
 | some (.bx cells),some m=>off+m<=cells.length/\Yo ks (.ag ((cells.drop off).take m)) st F
 | some (.bx cells),none=>ZW cells[off]? fun x=>isCell x=true/\Yo ks x st F
 | _,_=>False
def Zf5(ks:List Nat)(st:St)(F:IV->St->Prop)(x:IV):Prop:=isCell x=true/\Yo ks x st F
theorem ZoM{ks:List Nat}{F:IV->St->Prop}{x:IV}:Zf5 ks st F x=(isCell x=true/\Yo ks x st F):=(rfl)
theorem ZoN{cells:List IV}{off m:Nat}{ks:List Nat}{F:IV->St->Prop}:D9 (some (.bx cells)) off (some m) ks st F=(off+m<=cells.length/\Yo ks (.ag ((cells.drop off).take m)) st F):=(rfl)
theorem ZoO{cells:List IV}{off:Nat}{ks:List Nat}{F:IV->St->Prop}:D9 (some (.bx cells)) off none ks st F=ZW cells[off]? (Zf5 ks st F):=(rfl)
def exk(x:IV)(st:St)(F:IV->St->Prop):Prop :=
 match x with
 | .cs es=>F (.cs es) st
 | _=>False
theorem ZoP{n:Nat}{F:IV->St->Prop}:QP (.k n) ⟨lvl,env,loc,out⟩ F=exk (lk n env) ⟨lvl,env,loc,out⟩ F:=(rfl)
theorem ZoQ{es:Ze}{F:IV->St->Prop}:exk (.cs es) st F=F (.cs es) st:=(rfl)
def exc(v:IV)(m:Option Nat)(ks:List Nat)(st:St)(F:IV->St->Prop):Prop :=
 match v with
 | .ab id off=>D9 (st.sto id) off m ks st F
 | _=>False
theorem ZoR{n:Nat}{m:Option Nat}{ks:List Nat}{F:IV->St->Prop}:QP (.c n m ks) ⟨lvl,env,loc,out⟩ F=exc (lk n env) m ks ⟨lvl,env,loc,out⟩ F:=by
 simp only[QP]
 generalize lk n env=v
 cases v <;> try rfl
 rename_i id off
 dsimp only[exc]
 generalize (⟨lvl,env,loc,out⟩:St).sto id=o
 cases o with
 | none=>rfl
 | some ob =>
  cases ob with
  | ar=>cases m <;> rfl
  | bx cells =>
   cases m with
   | some m=>rfl
   | none=>exact Yf
theorem ZoS{id:Zd}{off:Nat}{m:Option Nat}{ks:List Nat}{F:IV->St->Prop}:exc (.ab id off) m ks ⟨lvl,env,loc,out⟩ F=D9 (Zy lvl loc out id) off m ks ⟨lvl,env,loc,out⟩ F:=(rfl)
def Zf6(F:IV->St->Prop)(l:List IV)(st:St):Prop:=F (.ag l) st
theorem ZoT{F:IV->St->Prop}{l:List IV}:Zf6 F l st=F (.ag l) st:=(rfl)
theorem ZoU{ks:List Nat}{l:List IV}{F:IV->St->Prop}:Yo ks (.ag l) st F=Qi ks l st (Zf6 F):=(rfl)
theorem ZoV{ks:List Nat}{t:Tr}{F:IV->St->Prop}:Yo ks (.tr t) st F=F (.tr t) st:=(rfl)
theorem ZoW{ks:List Nat}{es:Ze}{F:IV->St->Prop}:Yo ks (.cs es) st F=JZ (ks.headD 0) (.cs es) st F:=(rfl)
theorem ZoX{ks:List Nat}{id:Zd}{p:Zf}{off len s:Nat}{cap:Option Nat}{F:IV->St->Prop}:Yo ks (.hd id p off len cap s) st F=JZ (ks.headD 0) (.hd id p off len cap s) st F:=(rfl)
theorem ZoY{ks:List Nat}{F:IV->St->Prop}:Yo ks .er st F=F .er st:=(rfl)
theorem ZoZ{ks:List Nat}{f:FuncId}{c:List IV}{F:IV->St->Prop}:Yo ks (.fn f c) st F=(Z9 st.lvl c/\F (.fn f c) st):=(rfl)
theorem Zo0{ks:List Nat}{F:IV->St->Prop}:Yo ks .un st F=F .un st:=(rfl)
def kxc(ks:List Nat)(r:List IV)(F:List IV->St->Prop)(y:IV)(st:St):Prop:=Qi ks r st (D8 y F)
theorem Zo1{ks:List Nat}{r:List IV}{F:List IV->St->Prop}{y:IV}:kxc ks r F y st=Qi ks r st (D8 y F):=(rfl)
theorem Zo2{ks:List Nat}{F:List IV->St->Prop}:Qi ks [] st F=F [] st:=by cases ks <;> rfl
theorem Zo3{ks:List Nat}{x:IV}{r:List IV}{F:List IV->St->Prop}:Qi ks (x::r) st F=JZ (ks.headD 0) x st (kxc ks.tail r F):=(rfl)
theorem Zo4{k:Nat}{t:Tr}{F:IV->St->Prop}:JZ k (.tr t) st F=F (.tr t) st:=(rfl)
theorem Zo5{k:Nat}{F:IV->St->Prop}:JZ (k+1) (.cs []) st F=F (.ow k [] true) st:=(rfl)
theorem Zo6{es:Ze}{F:IV->St->Prop}:JZ 0 (.cs es) st F=F (.tr (.sl es)) st:=(rfl)
theorem Zo7{F:IV->St->Prop}:JZ 1 (.cs []) st F=F (.ow 0 [] true) st:=(rfl)
theorem Zo8{F:IV->St->Prop}:JZ 2 (.cs []) st F=F (.ow 1 [] true) st:=(rfl)
theorem Zo9{F:IV->St->Prop}:JZ 3 (.cs []) st F=F (.ow 2 [] true) st:=(rfl)
theorem Zpa{F:IV->St->Prop}:JZ 4 (.cs []) st F=F (.ow 3 [] true) st:=(rfl)
theorem Zpb{F:IV->St->Prop}:JZ 5 (.cs []) st F=F (.ow 4 [] true) st:=(rfl)
theorem Zpc{F:IV->St->Prop}:JZ 6 (.cs []) st F=F (.ow 5 [] true) st:=(rfl)
theorem Zpd{F:IV->St->Prop}:JZ 7 (.cs []) st F=F (.ow 6 [] true) st:=(rfl)
theorem Zpe{k:Nat}{F:IV->St->Prop}:JZ k .er st F=F .er st:=(rfl)
theorem Zpf{k:Nat}{F:IV->St->Prop}:JZ k .un st F=F .un st:=(rfl)
def exh(o:Option Ob)(k:Nat)(p:Zf)(off len:Nat)(cap:Option Nat)(s:Nat)(st1:St)(F:IV->St->Prop):Prop :=
 match o with
 | some (.ar k' es u hw _)=>p=[]/\s=hw/\(match k with
  | 0=>off+len<=es.length/\F (.tr (.sl (cut es off len))) st1
  | k1+1=>k1=k'/\off=0/\len=es.length/\cap=none/\F (.ow k' es u) st1)
 | _=>False
theorem Zpg{k key:Nat}{p:Zf}{off len s:Nat}{cap:Option Nat}{F:IV->St->Prop}:JZ k (.hd (lvl,key) p off len cap s) ⟨lvl,env,loc,out⟩ F=exh (lkO key loc) k p off len cap s (Zn (lvl,key) ⟨lvl,env,loc,out⟩) F:=by
 unfold JZ
 dsimp only
 rw[if_pos rfl]
 have:(⟨lvl,env,loc,out⟩:St).sto (lvl,key)=lkO key loc:=J2
 rw[this]
 generalize lkO key loc=o
 cases o with
 | none=>rfl
 | some ob=>cases ob <;> cases k <;> rfl
theorem Zph{k':Nat}{es:Ze}{u:Bool}{hw ver:Nat}{p:Zf}{off len s:Nat}{cap:Option Nat}{st1:St}{F:IV->St->Prop}:exh (some (.ar k' es u hw ver)) 0 p off len cap s st1 F=(p=[]/\s=hw/\off+len<=es.length/\F (.tr (.sl (cut es off len))) st1):=(rfl)
theorem Zpi{k k':Nat}{es:Ze}{u:Bool}{hw ver:Nat}{p:Zf}{off len s:Nat}{cap:Option Nat}{st1:St}{F:IV->St->Prop}:exh (some (.ar k' es u hw ver)) (k+1) p off len cap s st1 F=(p=[]/\s=hw/\k=k'/\off=0/\len=es.length/\cap=none/\F (.ow k' es u) st1):=(rfl)
def memB(t:Nat):List Nat->Bool
 | []=>false
 | a::r=>if t=a then true else memB t r
theorem X0{t:Nat}:∀{l:List Nat},memB t l=true↔t∈l
 | []=>by simp [memB]
 | a::r=>by
  simp only[memB,UaF]
  by_cases h:t=a
  ·simp [h]
  ·rw[if_neg h,X0];simp [h]
def keepB(ks:List Nat):List (Nat×IV)->List (Nat×IV)
 | []=>[]
 | (t,x)::r=>if memB t ks=true then (t,x)::keepB ks r else keepB ks r
def keepOB(ks:List Nat):List (Nat×Ob)->List (Nat×Ob)
 | []=>[]
 | (t,x)::r=>if memB t ks=true then (t,x)::keepOB ks r else keepOB ks r
theorem Zb8{ks:List Nat}:∀{e:List (Nat×IV)},Qg ks e=keepB ks e
 | []=>rfl
 | (t,x)::r=>by
  simp only[Qg,keepB,Zb8 (e:=r),X0]
theorem Zb9{ks:List Nat}:∀{e:List (Nat×Ob)},QO ks e=keepOB ks e
 | []=>rfl
 | (t,x)::r=>by
  simp only[QO,keepOB,Zb9 (e:=r),X0]
theorem Zpj{ks js:List Nat}:fgt ks js ⟨lvl,env,loc,out⟩=⟨lvl,keepB ks env,keepOB js loc,out⟩:=by
 simp only[fgt,Zb8,Zb9]
theorem Zpk{ks js:List Nat}:clean ks js ⟨lvl,env,loc,out⟩=(XM lvl js (keepB ks env)/\Qh lvl js (keepOB js loc)):=by
 simp only[clean,Zb8,Zb9]
theorem Zpl{js:List Nat}{k:Nat}{p:Zf}{off len s:Nat}{cap:Option Nat}:JI lvl js (.hd (lvl,k) p off len cap s)=(memB k js=true):=by
 apply propext
 simp only[JI,men,forall_const,X0]
theorem Zpm{js:List Nat}{k off:Nat}:JI lvl js (.ab (lvl,k) off)=(memB k js=true):=by
 apply propext
 simp only[JI,men,forall_const,X0]
theorem Zpn{js:List Nat}{k:Nat}:JI lvl js (.sv (lvl,k))=(memB k js=true):=by
 apply propext
 simp only[JI,men,forall_const,X0]
theorem Zpo{js:List Nat}{k:Nat}{p:Zf}{i f s:Nat}:JI lvl js (.ae (lvl,k) p i f s)=(memB k js=true):=by
 apply propext
 simp only[JI,men,forall_const,X0]
theorem Z2{js:List Nat}{id:Zd}{p:Zf}{off len s:Nat}{cap:Option Nat}(h:id.1≠lvl):JI lvl js (.hd id p off len cap s)=True:=by
 apply propext
 simp only[JI,men,iff_true]
 exact fun hh=>absurd hh h
theorem Zpp{js:List Nat}{t:Tr}:JI lvl js (.tr t)=True:=(rfl)
theorem Zpq{js:List Nat}{es:Ze}:JI lvl js (.cs es)=True:=(rfl)
theorem Zpr{js:List Nat}{l:List IV}:JI lvl js (.ag l)=Vl lvl js l:=by simp only[JI,Vl,men]
theorem Zps{js:List Nat}{l:List IV}:JI lvl js (.tu l)=Vl lvl js l:=by simp only[JI,Vl,men]
theorem Zpt{js:List Nat}{f:FuncId}{l:List IV}:JI lvl js (.fn f l)=Vl lvl js l:=by simp only[JI,Vl,men]
theorem Zpu{js:List Nat}:JI lvl js .un=True:=(rfl)
theorem Zpv{js:List Nat}:JI lvl js .er=True:=(rfl)
theorem Zpw{js:List Nat}{l:List Tr}:JI lvl js (.ta l)=True:=(rfl)
theorem Zpx{js:List Nat}:Vl lvl js []=True:=(rfl)
theorem Zpy{js:List Nat}{x:IV}{r:List IV}:Vl lvl js (x::r)=(JI lvl js x/\Vl lvl js r):=(rfl)
theorem Zpz{js:List Nat}:XM lvl js []=True:=(rfl)
theorem ZpA{js:List Nat}{t:Nat}{x:IV}{r:List (Nat×IV)}:XM lvl js ((t,x)::r)=(JI lvl js x/\XM lvl js r):=(rfl)
theorem ZpB{js:List Nat}:Qh lvl js []=True:=(rfl)
theorem ZpC{js:List Nat}{t:Nat}{x:List IV}{r:List (Nat×Ob)}:Qh lvl js ((t,.bx x)::r)=(Vl lvl js x/\Qh lvl js r):=(rfl)
theorem ZpD{js:List Nat}{t k:Nat}{es:Ze}{u:Bool}{hw ver:Nat}{r:List (Nat×Ob)}:Qh lvl js ((t,.ar k es u hw ver)::r)=Qh lvl js r:=(rfl)
def X1(ks js:List Nat)(J:St->Prop)(Q:Ex->St->Prop):Ex->St->Prop:=fun e s' => match e with | .nrm=>clean ks js s'/\J (fgt ks js s') | e=>Q e s'
theorem ZpE{ks js:List Nat}{J:St->Prop}:X1 ks js J Q .nrm st=(clean ks js st/\J (fgt ks js st)):=(rfl)
theorem ZpF{ks js:List Nat}{J:St->Prop}{i:Nat}:X1 ks js J Q (.ext i) st=Q (.ext i) st:=(rfl)
theorem ZpG{ks js:List Nat}{J:St->Prop}:X1 ks js J Q .ret st=Q .ret st:=(rfl)
theorem ZpH{ks js:List Nat}{c:C2}(I:Nat->St->Prop)(n0:Nat)(h0:clean ks js st/\I n0 (fgt ks js st))(hs:∀ n s,I n s->wp C c s (X1 ks js (fun s' => ∃ m,m<n/\I m s') Q)):wp C (.lp ks js c) st Q:=by
 refine⟨I,⟨h0.1,n0,h0.2⟩,fun n s hI=>?_⟩
 have h:=hs n s hI
 have e:(X1 ks js (fun s' => ∃ m,m<n/\I m s') Q)=fun e s' => match e with | .nrm=>clean ks js s'/\∃ m,m<n/\I m (fgt ks js s') | e=>Q e s':=by
  funext e s';cases e <;> rfl
 rw[e] at h
 exact h
def Zca{α:Type}(N:Nat)(mk:Nat->α->St)(A:Nat->α->Prop)(n:Nat)(s':St):Prop:=∃ m,m<n/\∃ k x,k+m=N/\s'=mk k x/\A k x
theorem ZC{α:Type}{N:Nat}{mk:Nat->α->St}{A:Nat->α->Prop}{k:Nat}{s':St}(y:α)(hk:k<N)(h:s'=mk (k+1) y)(ha:A (k+1) y):Zca N mk A (N-k) s':=⟨N-(k+1),by omega,k+1,y,by omega,h,ha⟩
theorem J3{α:Type}{ks js:List Nat}{c:C2}(N:Nat)(mk:Nat->α->St)(A:Nat->α->Prop)(x0:α)(h0:clean ks js st/\fgt ks js st=mk 0 x0)(hA:A 0 x0)
  (hs:∀ k x,k<=N->A k x->wp C c (mk k x) (X1 ks js (Zca N mk A (N-k)) Q)):wp C (.lp ks js c) st Q:=by
 refine ZpH (fun n s=>∃ k x,k+n=N/\s=mk k x/\A k x) N ⟨h0.1,0,x0,by omega,h0.2,hA⟩ (fun n s ⟨k,x,hk,he,ha⟩=>?_)
 subst he
 have h:=hs k x (by omega) ha
 have hn:N-k=n:=by omega
 rw[hn] at h
 exact h
end
end Go.Fd

namespace Go.Fd
section
variable {C:ZB} {lvl:Nat} {env:List (Nat×IV)} {loc:List (Nat×Ob)} {out:Zc} {d:Option Nat} {K:St->Prop} {st:St}
def st2(v:Option (List IV))(m:Nat)(p:IV)(d:Option Nat)(st:St)(K:St->Prop):Prop :=
 match v with
 | some l=>d=none/\l.length=m /\
  match p with
  | .ab id off =>
   match st.sto id with
   | some (.bx cells)=>off+l.length<=cells.length/\Z9 (id.1+1) l/\K (Zg st id (.bx (JR cells off l)))
   | _=>False
  | .ae id p i f s=>Ya id p i s f l st K
  | _=>False
 | none=>False
theorem ZpI{m:Nat}{p x:X}:Zo C d (.st m p x) ⟨lvl,env,loc,out⟩ K=st2 (cellsOf (xv env x)) m (xv env p) d ⟨lvl,env,loc,out⟩ K:=by
 rw[Jz rfl]
 simp only[ew]
 generalize cellsOf (xv env x)=v
 cases v with
 | none=>simp [st2]
 | some l=>rfl
def stb(o:Option Ob)(id:Zd)(off:Nat)(l:List IV)(st:St)(K:St->Prop):Prop :=
 match o with
 | some (.bx cells)=>off+l.length<=cells.length/\Z9 (id.1+1) l/\K (Zg st id (.bx (JR cells off l)))
 | _=>False
theorem ZpJ{m:Nat}{l:List IV}{id:Zd}{off:Nat}:st2 (some l) m (.ab id off) d ⟨lvl,env,loc,out⟩ K=(d=none/\l.length=m/\stb (Zy lvl loc out id) id off l ⟨lvl,env,loc,out⟩ K):=(rfl)
theorem ZpK{m:Nat}{l:List IV}{id:Zd}{p:Zf}{i f s:Nat}:st2 (some l) m (.ae id p i f s) d st K=(d=none/\l.length=m/\Ya id p i s f l st K):=(rfl)
theorem ZpL{cells l:List IV}{id:Zd}{off:Nat}:stb (some (.bx cells)) id off l st K=(off+l.length<=cells.length/\Z9 (id.1+1) l/\K (Zg st id (.bx (JR cells off l)))):=(rfl)
theorem Jk{cs:List IV}{off:Nat}:JR cs off []=cs:=(rfl)
theorem Jl{cs:List IV}{off:Nat}{x:IV}{r:List IV}:JR cs off (x::r)=JR (cs.set off x) (off+1) r:=(rfl)
theorem ZpM{l:Nat}:Z9 l []=True:=(rfl)
theorem ZpN{l:Nat}{x:IV}{r:List IV}:Z9 l (x::r)=(low l x/\Z9 l r):=(rfl)
theorem ZpO{l:Nat}{t:Tr}:low l (.tr t)=True:=(rfl)
theorem ZpP{l:Nat}{es:Ze}:low l (.cs es)=True:=(rfl)
theorem ZpQ{l k:Nat}{p:Zf}{off len s:Nat}{cap:Option Nat}:low (l+1) (.hd (l,k) p off len cap s)=True:=by
 apply propext;simp [low,men]
theorem ZpR{l k off:Nat}:low (l+1) (.ab (l,k) off)=True:=by
 apply propext;simp [low,men]
theorem ZpS{l:Nat}{c:List IV}:low l (.ag c)=Z9 l c:=by simp only[low,Z9,men]
theorem ZpT{l:Nat}{c:List IV}:low l (.tu c)=Z9 l c:=by simp only[low,Z9,men]
theorem ZpU{l k:Nat}{es:Ze}{u:Bool}:low l (.ow k es u)=True:=(rfl)
theorem ZpV{l:Nat}:low l .un=True:=(rfl)
theorem ZpW{l:Nat}:low l .er=True:=(rfl)
theorem ZpX{l:Nat}{c:List Tr}:low l (.ta c)=True:=(rfl)
def kst(id:Zd)(p:Zf)(i s f:Nat)(r:List IV)(K:St->Prop)(st':St):Prop:=Ya id p i s f r st' K
theorem ZpY{id:Zd}{p:Zf}{i s f:Nat}{r:List IV}:kst id p i s f r K st=Ya id p i s f r st K:=(rfl)
theorem ZpZ{id:Zd}{p:Zf}{i s f:Nat}:Ya id p i s f [] st K=K st:=(rfl)
def sc1(o:Option Ob)(id:Zd)(p:Zf)(i f s:Nat)(x:IV)(st:St)(K:St->Prop):Prop :=
 match o with
 | some (.ar k es u hw ver)=>Jx p s hw ver u/\ZW (getp es p) fun es' => ZW es'[i]? fun e=>ZW e[f]? fun t0 =>
  match x with
  | .tr (.v y)=>isSc t0=true/\K (Zg st id (.ar k (ZJ es p i f (.v y)) u hw ver))
  | .cs []=>p=[]/\K (Zg st id (.ar k (ZJ es [] i f (.sl [])) u hw (ver+1)))
  | .cs zs=>p=[]/\K (Zg st id (.ar k (ZJ es [] i f (.sl zs)) false hw (ver+1)))
  | .tr (.sl zs)=>p=[]/\K (Zg st id (.ar k (ZJ es [] i f (.sl zs)) false hw (ver+1)))
  | .hd id2 [] 0 len none s2=>p=[]/\id2≠id/\id2.1=st.lvl /\
   match st.sto id2 with
   | some (.ar _ zs u2 hw2 _)=>s2=hw2/\len=zs.length/\K (Zg (Zn id2 st) id (.ar k (ZJ es [] i f (.sl zs)) (u&&u2) hw (ver+1)))
   | _=>False
  | _=>False
 | _=>False
theorem Zp0{id:Zd}{p:Zf}{i s f:Nat}{x:IV}{r:List IV}:Ya id p i s f (x::r) ⟨lvl,env,loc,out⟩ K=sc1 (Zy lvl loc out id) id p i f s x ⟨lvl,env,loc,out⟩ (kst id p i s (f+1) r K):=by
 simp only[Ya,QM,sc1]
 rw[show (⟨lvl,env,loc,out⟩:St).sto id=Zy lvl loc out id from rfl]
 generalize Zy lvl loc out id=o
 cases o with
 | none=>rfl
 | some ob =>
  cases ob with
  | bx=>rfl
  | ar k es u hw ver =>
   dsimp only
   rw[<-Yf]
   apply propext
   constructor
   ·rintro⟨es',h1,h2,e,h3,t0,h4,h5⟩
    refine⟨h2,es',h1,?_⟩
    rw[h3]
    simp only[ZW]
    rw[h4]
    exact h5
   ·rintro⟨h2,es',h1,h3⟩
    rw[<-Yf] at h3
    obtain⟨e,h3,h4⟩:=h3
    rw[<-Yf] at h4
    obtain⟨t0,h4,h5⟩:=h4
    exact⟨es',h1,h2,e,h3,t0,h4,h5⟩
def X2(k:Nat)(es:Ze)(u:Bool)(hw ver:Nat)(id:Zd)(p:Zf)(i f:Nat)(x:IV)(st:St)(K:St->Prop)(t0:Tr):Prop :=
  match x with
  | .tr (.v y)=>isSc t0=true/\K (Zg st id (.ar k (ZJ es p i f (.v y)) u hw ver))
  | .cs []=>p=[]/\K (Zg st id (.ar k (ZJ es [] i f (.sl [])) u hw (ver+1)))
  | .cs zs=>p=[]/\K (Zg st id (.ar k (ZJ es [] i f (.sl zs)) false hw (ver+1)))
  | .tr (.sl zs)=>p=[]/\K (Zg st id (.ar k (ZJ es [] i f (.sl zs)) false hw (ver+1)))
  | .hd id2 [] 0 len none s2=>p=[]/\id2≠id/\id2.1=st.lvl /\
   match st.sto id2 with
   | some (.ar _ zs u2 hw2 _)=>s2=hw2/\len=zs.length/\K (Zg (Zn id2 st) id (.ar k (ZJ es [] i f (.sl zs)) (u&&u2) hw (ver+1)))
   | _=>False
  | _=>False
def sc3(k:Nat)(es:Ze)(u:Bool)(hw ver:Nat)(id:Zd)(p:Zf)(i f:Nat)(x:IV)(st:St)(K:St->Prop)(e:List Tr):Prop:=ZW e[f]? (X2 k es u hw ver id p i f x st K)
def sc4(k:Nat)(es:Ze)(u:Bool)(hw ver:Nat)(id:Zd)(p:Zf)(i f:Nat)(x:IV)(st:St)(K:St->Prop)(es':Ze):Prop:=ZW es'[i]? (sc3 k es u hw ver id p i f x st K)
section sc
variable {k:Nat} {es:Ze} {u:Bool} {hw ver:Nat} {id:Zd} {p:Zf} {i f s:Nat} {x:IV}
theorem Zp1:sc1 (some (.ar k es u hw ver)) id p i f s x st K=(Jx p s hw ver u/\ZW (getp es p) (sc4 k es u hw ver id p i f x st K)):=(rfl)
theorem Zp2{e:List Tr}:sc3 k es u hw ver id p i f x st K e=ZW e[f]? (X2 k es u hw ver id p i f x st K):=(rfl)
theorem Zp3{es':Ze}:sc4 k es u hw ver id p i f x st K es'=ZW es'[i]? (sc3 k es u hw ver id p i f x st K):=(rfl)
theorem Zp4{y:Value}{t0:Tr}:X2 k es u hw ver id p i f (.tr (.v y)) st K t0=(isSc t0=true/\K (Zg st id (.ar k (ZJ es p i f (.v y)) u hw ver))):=(rfl)
theorem Zp5{t0:Tr}:X2 k es u hw ver id p i f (.cs []) st K t0=(p=[]/\K (Zg st id (.ar k (ZJ es [] i f (.sl [])) u hw (ver+1)))):=(rfl)
theorem Zp6{zs:Ze}{t0:Tr}:X2 k es u hw ver id p i f (.tr (.sl zs)) st K t0=(p=[]/\K (Zg st id (.ar k (ZJ es [] i f (.sl zs)) false hw (ver+1)))):=(rfl)
def sc5(o:Option Ob)(k:Nat)(es:Ze)(u:Bool)(hw ver:Nat)(id:Zd)(i f len s2:Nat)(st2 st:St)(K:St->Prop):Prop :=
 match o with
 | some (.ar _ zs u2 hw2 _)=>s2=hw2/\len=zs.length/\K (Zg st2 id (.ar k (ZJ es [] i f (.sl zs)) (u&&u2) hw (ver+1)))
 | _=>False
theorem Zp7{key len s2:Nat}{t0:Tr}:X2 k es u hw ver id p i f (.hd (lvl,key) [] 0 len none s2) ⟨lvl,env,loc,out⟩ K t0=(p=[]/\(lvl,key)≠id/\sc5 (lkO key loc) k es u hw ver id i f len s2 (Zn (lvl,key) ⟨lvl,env,loc,out⟩) ⟨lvl,env,loc,out⟩ K):=by
 simp only[X2]
 rw[show (⟨lvl,env,loc,out⟩:St).sto (lvl,key)=lkO key loc from J2]
 generalize lkO key loc=o
 apply propext
 constructor
 ·rintro⟨h1,h2,_,h3⟩
  refine⟨h1,h2,?_⟩
  cases o with
  | none=>exact h3
  | some ob=>cases ob <;> exact h3
 ·rintro⟨h1,h2,h3⟩
  refine⟨h1,h2,trivial,?_⟩
  cases o with
  | none=>exact h3
  | some ob=>cases ob <;> exact h3
theorem Zp8{k2:Nat}{zs:Ze}{u2:Bool}{hw2 ver2 len s2:Nat}{st2:St}:sc5 (some (.ar k2 zs u2 hw2 ver2)) k es u hw ver id i f len s2 st2 st K=(s2=hw2/\len=zs.length/\K (Zg st2 id (.ar k (ZJ es [] i f (.sl zs)) (u&&u2) hw (ver+1)))):=(rfl)
end sc
theorem Zp9{k n:Nat}{z:List Value}{ps:List (Nat×X)}:Zo C d (.bw k n z ps) ⟨lvl,env,loc,out⟩ K=ew C d ⟨lvl,env,loc,out⟩ K (.bw k n z ps):=Jz rfl
def kbw(k lvl:Nat)(d:Option Nat)(K:St->Prop)(ts:List Tr)(u:Bool)(st':St):Prop :=
 K { Zg st' (lvl,keyOf d) (.ar k [ts] u 1 0) with env:=ptd d (.hd (lvl,keyOf d) [] 0 1 none 1) st'.env }
theorem Zqa{k:Nat}{ts:List Tr}{u:Bool}:kbw k lvl d K ts u ⟨lvl,env,loc,out⟩=K ⟨lvl,ptd d (.hd (lvl,keyOf d) [] 0 1 none 1) env,ptO (keyOf d) (.ar k [ts] u 1 0) loc,out⟩:=by
 simp only[kbw,WH]
def bw2(v:Option (List IV))(k n:Nat)(d:Option Nat)(loc:List (Nat×Ob))(lvl:Nat)(st:St)(K:St->Prop):Prop :=
 match v with
 | some l=>n=1/\l.length=k/\freshK (keyOf d) loc 1/\Yn l st (kbw k lvl d K)
 | none=>False
theorem Zqb{k n:Nat}{z:List Value}{x:X}:ew C d ⟨lvl,env,loc,out⟩ K (.bw k n z [(0,x)])=bw2 (cellsOf (xv env x)) k n d loc lvl ⟨lvl,env,loc,out⟩ K:=by
 simp only[ew]
 generalize cellsOf (xv env x)=v
 cases v with
 | none=>simp [bw2]
 | some l=>rfl
theorem Zqc{k n:Nat}{l:List IV}:bw2 (some l) k n d loc lvl st K=(n=1/\l.length=k/\freshK (keyOf d) loc 1/\Yn l st (kbw k lvl d K)):=(rfl)
def kmv(r:List IV)(F:List Tr->Bool->St->Prop)(t:Tr)(a:Bool)(st':St):Prop:=Yn r st' fun ts b st'' => F (t::ts) (a&&b) st''
def kmc(t:Tr)(a:Bool)(F:List Tr->Bool->St->Prop)(ts:List Tr)(b:Bool)(st'':St):Prop:=F (t::ts) (a&&b) st''
section mv
variable {r:List IV} {F:List Tr->Bool->St->Prop} {F1:Tr->Bool->St->Prop}
theorem Zqd{t:Tr}{a:Bool}:kmv r F t a st=Yn r st (kmc t a F):=(rfl)
theorem Zqe{t:Tr}{a:Bool}{ts:List Tr}{b:Bool}:kmc t a F ts b st=F (t::ts) (a&&b) st:=(rfl)
theorem Zqf:Yn [] st F=F [] true st:=(rfl)
theorem Zqg{x:IV}:Yn (x::r) st F=Qe st x (kmv r F):=(rfl)
theorem Zqh{y:Value}:Qe st (.tr (.v y)) F1=F1 (.v y) true st:=(rfl)
theorem Zqi{es:Ze}:Qe st (.tr (.sl es)) F1=F1 (.sl es) false st:=(rfl)
theorem Zqj:Qe st (.cs []) F1=F1 (.sl []) true st:=(rfl)
def mv5(o:Option Ob)(len s2:Nat)(st1:St)(F1:Tr->Bool->St->Prop):Prop :=
 match o with
 | some (.ar _ zs u2 hw2 _)=>s2=hw2/\len=zs.length/\F1 (.sl zs) u2 st1
 | _=>False
theorem Zqk{key len s2:Nat}:Qe ⟨lvl,env,loc,out⟩ (.hd (lvl,key) [] 0 len none s2) F1=mv5 (lkO key loc) len s2 (Zn (lvl,key) ⟨lvl,env,loc,out⟩) F1:=by
 simp only[Qe]
 rw[show (⟨lvl,env,loc,out⟩:St).sto (lvl,key)=lkO key loc from J2]
 generalize lkO key loc=o
 apply propext
 constructor
 ·rintro⟨_,h3⟩
  cases o with
  | none=>exact h3
  | some ob=>cases ob <;> exact h3
 ·intro h3
  refine⟨trivial,?_⟩
  cases o with
  | none=>exact h3
  | some ob=>cases ob <;> exact h3
theorem Zql{k2:Nat}{zs:Ze}{u2:Bool}{hw2 ver2 len s2:Nat}:mv5 (some (.ar k2 zs u2 hw2 ver2)) len s2 st F1=(s2=hw2/\len=zs.length/\F1 (.sl zs) u2 st):=(rfl)
end mv
def UF:IV->Prop
 | .hd _ [] 0 _ none _=>True
 | _=>False
theorem Zqm{id:Zd}{len s:Nat}:UF (.hd id [] 0 len none s)=True:=(rfl)
def XB:List IV->Prop
 | []=>True
 | .tr (.v _)::r=>XB r
 | _=>False
theorem Zqn:XB []=True:=(rfl)
theorem Zqo{y:Value}{r:List IV}:XB (.tr (.v y)::r)=XB r:=(rfl)
def smp(p:IV)(l:Option (List IV)):Prop :=
 match p with
 | .ab .. => True
 | .ae .. => l≠some []/\XB (l.getD [])
 | _=>False
theorem Zqp{id:Zd}{off:Nat}{l:Option (List IV)}:smp (.ab id off) l=True:=(rfl)
theorem Zqq{id:Zd}{p:Zf}{i f s:Nat}{x:IV}{r:List IV}:smp (.ae id p i f s) (some (x::r))=XB (x::r):=by simp [smp]
theorem Zf7{id:Zd}{p:Zf}{i s k:Nat}{u:Bool}{hw ver:Nat}:∀(l:List IV) (f:Nat) (es:Ze) (st0:St) (K:St->Prop),XB l->st0.sto id=some (.ar k es u hw ver)->Ya id p i s f l st0 K->VP p i f l es (fun es' => K (Zg st0 id (.ar k es' u hw ver)))\/l=[]
 | [],f,es,st0,K,_,_,h=>.inr rfl
 | x::r,f,es,st0,K,ha,hs,h=>by
  refine .inl ?_
  simp only[Ya,QM] at h
  rw[hs] at h
  obtain⟨es',hg,hst,e,hi,t0,hf,h⟩:=h
  cases x with
  | tr t =>
   cases t with
   | v y =>
    obtain⟨hsc,h⟩:=h
    simp only[VP]
    refine⟨es',hg,e,hi,t0,hf,hsc,?_⟩
    have hs1:(Zg st0 id (.ar k (ZJ es p i f (.v y)) u hw ver)).sto id=some (.ar k (ZJ es p i f (.v y)) u hw ver):=by rw[JY];unfold Zh;rw[if_pos rfl]
    rcases Zf7 r (f+1) _ _ K ha hs1 h with g | g
    ·simp only[Ds] at g
     exact g
    ·subst g
     exact h
   | sl=>cases ha
  | _=>cases ha
theorem Zqr{m:Nat}{p x:X}:Zo C d (.s0 m p x) ⟨lvl,env,loc,out⟩ K=(smp (xv env p) (cellsOf (xv env x))/\Zo C d (.st m p x) ⟨lvl,env,loc,out⟩ K):=by
 rw[Jz rfl,Jz rfl]
 simp only[ew,Jh]
 generalize cellsOf (xv env x)=v
 generalize xv env p=q
 apply propext
 constructor
 ·rintro⟨h0,h⟩
  split at h <;> try contradiction
  rename_i l
  obtain⟨h1,h⟩:=h
  split at h <;> try contradiction
  ·exact⟨trivial,h0,h1,h⟩
  ·rename_i id p i f s
   split at h <;> try contradiction
   rename_i k es u hw ver hs
   obtain⟨g1,g2,g3⟩:=h
   refine⟨⟨by simpa using g1,?_⟩,h0,h1,ZbA g2 l f es _ K hs g3 (fun e=>absurd e g1)⟩
   have:∀(l:List IV) (f:Nat) (es:Ze) (K:Ze->Prop),VP p i f l es K->XB l:=by
    intro l
    induction l with
    | nil=>intros;trivial
    | cons x r ih =>
     intro f es K h
     simp only[VP] at h
     obtain⟨_,_,_,_,_,_,_,h⟩:=h
     split at h <;> try contradiction
     exact ih _ _ _ h
   exact this _ _ _ _ g3
 ·rintro⟨h3,h0,h⟩
  refine⟨h0,?_⟩
  split at h <;> try contradiction
  rename_i l
  obtain⟨h1,h⟩:=h
  refine⟨h1,?_⟩
  split at h <;> try contradiction
  ·exact h
  ·rename_i id p i f s
   obtain⟨g1,g2⟩:=h3
   cases l with
   | nil=>exact absurd rfl g1
   | cons y r =>
    have h':=h
    simp only[Ya,QM] at h'
    split at h' <;> try contradiction
    rename_i k es u hw ver hs
    refine⟨by simp,h'.choose_spec.2.1,?_⟩
    rcases Zf7 _ _ _ _ K g2 hs h with g | g
    ·exact g
    ·cases g
theorem Zqs{k:Nat}{x y:X}:Zo C d (.a0 k x y) ⟨lvl,env,loc,out⟩ K=(UF (xv env x)/\Zo C d (.ap k 0 x y) ⟨lvl,env,loc,out⟩ K):=by
 rw[Jz rfl,Jz rfl]
 apply propext
 constructor
 ·intro he
  refine⟨?_,ZeL he⟩
  simp only[ew,Jh] at he
  split at he <;> try contradiction
  rename_i hx
  rw[hx];trivial
 ·rintro⟨h1,h⟩
  generalize hq:xv env x=q at h1
  unfold UF at h1
  split at h1 <;> try contradiction
  rename_i id len s
  have go:∀ items:Ze,ScR items->Z6 d k x loc items true ⟨lvl,env,loc,out⟩ K->match Zy lvl loc out id with
   | some (.ar k' es u hw ver)=>k'=k/\s=hw/\len=es.length/\ScR items/\Zs k items/\len+items.length<=bigN /\
     K { Zg ⟨lvl,env,loc,out⟩ id (.ar k (es++items) u (max hw (len+items.length)) ver) with env:=ptd d (.hd id [] 0 (len+items.length) none (max hw (len+items.length))) env }
   | _=>False:=fun items hsc h=>by
   unfold Z6 at h
   obtain⟨g1,h⟩:=h
   simp only[hq] at h
   rw[show (⟨lvl,env,loc,out⟩:St).sto id=Zy lvl loc out id from rfl] at h
   generalize Zy lvl loc out id=o at h ⊢
   cases o with
   | none=>exact h
   | some ob =>
    cases ob with
    | bx=>exact h
    | ar k' es u hw ver =>
     simp only[Uby] at h
     exact⟨h.1,h.2.1,h.2.2.1,hsc,g1,h.2.2.2.1,h.2.2.2.2⟩
  simp only[ew,Jh,YJ] at h ⊢
  rw[hq]
  rw[show (⟨lvl,env,loc,out⟩:St).sto=Zy lvl loc out from rfl] at *
  split at h <;> try contradiction
  ·rename_i zs hy
   simp only[if_true] at h
   have:=go zs h.1 h.2
   rw[hy]
   exact this
  ·rename_i zs hy
   simp only[if_true] at h
   have:=go zs h.1 h.2
   rw[hy]
   exact this
  ·rename_i id2 p2 off2 len2 c2 s2 hy
   simp only[if_true] at h
   rw[hy]
   dsimp only
   unfold Ju at h ⊢
   generalize Zy lvl loc out id2=o3 at h ⊢
   cases o3 with
   | none=>exact h.elim
   | some ob3 =>
    cases ob3 with
    | bx=>exact h.elim
    | ar k3 es3 u3 hw3 ver3 =>
     obtain⟨es',q1,q2,q3,q4,q5⟩:=h
     have:=go _ q4 q5
     split at this <;> try contradiction
     rename_i hs
     show (match Zy lvl loc out id with
      | some (.ar k' es u hw ver)=>k'=k/\s=hw/\len=es.length/\∃ es',getp es3 p2=some es'/\Jx p2 s2 hw3 ver3 u3/\off2+len2<=es'.length/\ScR (cut es' off2 len2)/\Zs k (cut es' off2 len2)/\len+(cut es' off2 len2).length<=bigN /\
        K { Zg ⟨lvl,env,loc,out⟩ id (.ar k (es++cut es' off2 len2) u (max hw (len+(cut es' off2 len2).length)) ver) with env:=ptd d (.hd id [] 0 (len+(cut es' off2 len2).length) none (max hw (len+(cut es' off2 len2).length))) env }
      | _=>False)
     rw[hs]
     exact⟨this.1,this.2.1,this.2.2.1,es',q1,q2,q3,this.2.2.2⟩
  ·exact absurd h.1 (by decide)
def Zaa:IV->Prop
 | .tr (.sl _)=>True
 | .cs _=>True
 | _=>False
theorem Zqt{es:Ze}:Zaa (.tr (.sl es))=True:=(rfl)
theorem Zqu{es:Ze}:Zaa (.cs es)=True:=(rfl)
theorem Zqv{k:Nat}{x y:X}:Zo C d (.a1 k x y) ⟨lvl,env,loc,out⟩ K=(UF (xv env x)/\Zaa (xv env y)/\Zo C d (.ap k 1 x y) ⟨lvl,env,loc,out⟩ K):=by
 rw[Jz rfl,Jz rfl]
 apply propext
 constructor
 ·intro he
  refine⟨?_,?_,ZeM he⟩
  ·simp only[ew,Jh] at he
   split at he <;> try contradiction
   rename_i hx
   rw[hx];trivial
  ·simp only[ew,Jh] at he
   split at he <;> try contradiction
   split at he <;> try contradiction
   have h4:=he.2.2.2
   unfold Wi at h4
   split at h4 <;> try contradiction
   ·rename_i hy;rw[hy];trivial
   ·rename_i hy;rw[hy];trivial
 ·rintro⟨h1,h2,h⟩
  generalize hq:xv env x=q at h1
  unfold UF at h1
  split at h1 <;> try contradiction
  rename_i id len s
  have go:∀ items:Ze,Z6 d k x loc items false ⟨lvl,env,loc,out⟩ K->match Zy lvl loc out id with
   | some (.ar k' es u hw ver)=>k'=k/\s=hw/\len=es.length/\Zs k items/\len+items.length<=bigN /\
     K { Zg ⟨lvl,env,loc,out⟩ id (.ar k (es++items) false (max hw (len+items.length)) ver) with env:=ptd d (.hd id [] 0 (len+items.length) none (max hw (len+items.length))) env }
   | _=>False:=fun items h=>by
   unfold Z6 at h
   obtain⟨g1,h⟩:=h
   simp only[hq] at h
   rw[show (⟨lvl,env,loc,out⟩:St).sto id=Zy lvl loc out id from rfl] at h
   generalize Zy lvl loc out id=o at h ⊢
   cases o with
   | none=>exact h
   | some ob =>
    cases ob with
    | bx=>exact h
    | ar k' es u hw ver =>
     simp only[Bool.and_false] at h
     exact⟨h.1,h.2.1,h.2.2.1,g1,h.2.2.2.1,h.2.2.2.2⟩
  simp only[ew,Jh,Wi] at h ⊢
  rw[hq]
  rw[show (⟨lvl,env,loc,out⟩:St).sto=Zy lvl loc out from rfl] at *
  generalize hy:xv env y=yv at h h2 ⊢
  unfold Zaa at h2
  split at h2 <;> try contradiction
  ·simp only[Nat.reduceEqDiff,if_false,true_and] at h
   exact go _ h
  ·simp only[Nat.reduceEqDiff,if_false,true_and] at h
   exact go _ h
def az1(x n:IV)(d:Option Nat)(k:Nat)(z:List Value)(st:St)(K:St->Prop):Prop :=
 match x with
 | .cs [] =>
  match n with
  | .tr (.v (.int .i64 m))=>0<m/\m<=bigN/\freshK (keyOf d) st.loc 1 /\
    K { Zg st (st.lvl,keyOf d) (.ar k (List.replicate m.toNat (z.map trv)) true m.toNat 0) with env:=ptd d (.hd (st.lvl,keyOf d) [] 0 m.toNat none m.toNat) st.env }
  | _=>False
 | _=>False
theorem Zqw{k:Nat}{z:List Value}{x n:X}:Zo C d (.az k z x n) ⟨lvl,env,loc,out⟩ K=az1 (xv env x) (xv env n) d k z ⟨lvl,env,loc,out⟩ K:=by
 rw[Jz rfl]
 rfl
theorem Zqx{k:Nat}{z:List Value}{m:Int}:az1 (.cs []) (.tr (.v (.int .i64 m))) d k z ⟨lvl,env,loc,out⟩ K=(0<m/\m<=bigN/\freshK (keyOf d) loc 1/\K ⟨lvl,ptd d (.hd (lvl,keyOf d) [] 0 m.toNat none m.toNat) env,ptO (keyOf d) (.ar k (List.replicate m.toNat (z.map trv)) true m.toNat 0) loc,out⟩):=by
 simp only[az1,WH]
def tbx:IV->Prop
 | .ta _=>True
 | _=>False
theorem Zqy{cells:List Tr}:tbx (.ta cells)=True:=(rfl)
theorem Zqz{m:Option Nat}{p:X}:Zo C d (.lt m p) ⟨lvl,env,loc,out⟩ K=(tbx (xv env p)/\Zo C d (.ld m p) ⟨lvl,env,loc,out⟩ K):=by
 cases m <;> (
  rw[JK rfl,JK rfl]
  simp only[ev]
  generalize hx:xv env p=q
  cases q <;> simp [tbx])
def av4(o:Option Ob)(id:Zd)(es:Ze)(hw ver len off2 len2 s2 k:Nat)(d:Option Nat)(st:St)(K:St->Prop):Prop :=
 match o with
 | some (.ar _ es2 false hw2 _)=>s2=hw2/\off2+len2<=es2.length/\Zs k (cut es2 off2 len2)/\len+(cut es2 off2 len2).length<=bigN /\
   K { Zg st id (.ar k (es++cut es2 off2 len2) false (max hw (len+(cut es2 off2 len2).length)) ver) with env:=ptd d (.hd id [] 0 (len+(cut es2 off2 len2).length) none (max hw (len+(cut es2 off2 len2).length))) st.env }
 | _=>False
def av3(y:IV)(id:Zd)(es:Ze)(hw ver len k:Nat)(d:Option Nat)(st:St)(K:St->Prop):Prop :=
 match y with
 | .hd id2 [] off2 len2 _ s2=>av4 (st.sto id2) id es hw ver len off2 len2 s2 k d st K
 | _=>False
def av2(o:Option Ob)(y:IV)(id:Zd)(len s k:Nat)(d:Option Nat)(st:St)(K:St->Prop):Prop :=
 match o with
 | some (.ar k' es _ hw ver)=>k'=k/\s=hw/\len=es.length/\av3 y id es hw ver len k d st K
 | _=>False
def av1(x y:IV)(k:Nat)(d:Option Nat)(st:St)(K:St->Prop):Prop :=
 match x with
 | .hd id [] 0 len none s=>av2 (st.sto id) y id len s k d st K
 | _=>False
theorem ZqA{k:Nat}{x y:X}:Zo C d (.a2 k x y) ⟨lvl,env,loc,out⟩ K=av1 (xv env x) (xv env y) k d ⟨lvl,env,loc,out⟩ K:=by
 rw[Jz rfl]
 rfl
theorem ZqB{id:Zd}{len s k:Nat}{y:IV}:av1 (.hd id [] 0 len none s) y k d ⟨lvl,env,loc,out⟩ K=av2 (Zy lvl loc out id) y id len s k d ⟨lvl,env,loc,out⟩ K:=(rfl)
theorem ZqC{k' hw ver len s k:Nat}{es:Ze}{u:Bool}{y:IV}{id:Zd}:av2 (some (.ar k' es u hw ver)) y id len s k d st K=(k'=k/\s=hw/\len=es.length/\av3 y id es hw ver len k d st K):=(rfl)
theorem ZqD{id id2:Zd}{es:Ze}{hw ver len k off2 len2 s2:Nat}{c2:Option Nat}:av3 (.hd id2 [] off2 len2 c2 s2) id es hw ver len k d ⟨lvl,env,loc,out⟩ K=av4 (Zy lvl loc out id2) id es hw ver len off2 len2 s2 k d ⟨lvl,env,loc,out⟩ K:=(rfl)
theorem ZqE{key:Nat}{es es2:Ze}{k2 hw ver len off2 len2 s2 k hw2 ver2:Nat}:av4 (some (.ar k2 es2 false hw2 ver2)) (lvl,key) es hw ver len off2 len2 s2 k d ⟨lvl,env,loc,out⟩ K=(s2=hw2/\off2+len2<=es2.length/\Zs k (cut es2 off2 len2)/\len+(cut es2 off2 len2).length<=bigN /\
   K ⟨lvl,ptd d (.hd (lvl,key) [] 0 (len+(cut es2 off2 len2).length) none (max hw (len+(cut es2 off2 len2).length))) env,ptO key (.ar k (es++cut es2 off2 len2) false (max hw (len+(cut es2 off2 len2).length)) ver) loc,out⟩):=by
 simp only[av4,WH]
def abx:IV->Prop
 | .ab .. => True
 | _=>False
theorem ZqF{id:Zd}{off:Nat}:abx (.ab id off)=True:=(rfl)
theorem ZqG{m:Option Nat}{p:X}:Zo C d (.lb m p none) ⟨lvl,env,loc,out⟩ K=(abx (xv env p)/\Zo C d (.ld m p) ⟨lvl,env,loc,out⟩ K):=by
 cases m <;> (
  rw[JK rfl,JK rfl]
  simp only[ev,Y3]
  generalize hx:xv env p=q
  cases q <;> simp [abx])
theorem ZqH{l i j:Nat}{a b:Nat}:Y2 (.ab (l,i) a) (.ab (l,j) b)=((i=j)=False):=by
 simp [Y2]
theorem ZqI{m:Option Nat}{p:X}{q:Nat}:Zo C d (.lb m p (some q)) ⟨lvl,env,loc,out⟩ K=(Y2 (xv env p) (xv env (.t q))/\Zo C d (.ld m p) ⟨lvl,env,loc,out⟩ K):=by
 cases m <;> (
  rw[JK rfl,JK rfl]
  simp only[ev,Y3]
  generalize hx:xv env p=q
  generalize hy:xv env (.t _)=y
  cases q <;> cases y <;> simp [Y2])
def VE:IV->Prop
 | .tr (.sl _)=>True
 | .cs _=>True
 | _=>False
theorem ZqJ{es:Ze}:VE (.tr (.sl es))=True:=(rfl)
theorem ZqK{es:Ze}:VE (.cs es)=True:=(rfl)
theorem ZqL{k:Nat}{x:X}{lo hi mx:Option X}:Zo C d (.sy k x lo hi mx) ⟨lvl,env,loc,out⟩ K=(VE (xv env x)/\Zo C d (.sx k x lo hi mx) ⟨lvl,env,loc,out⟩ K):=by
 rw[JK rfl,JK rfl]
 simp only[ev]
 generalize hx:xv env x=q
 cases q with
 | tr t =>
  cases t with
  | v=>simp [VE]
  | sl es=>simp only[VE,true_and]
 | cs es=>simp only[VE,true_and]
 | _=>simp only[VE,false_and]
def Qt(L:Zc)(k:Nat):IV->Prop
 | .tr (.sl _)=>True
 | .cs _=>True
 | .hd id [] _ _ _ _=>Jy L id [] k
 | _=>False
theorem ZqM{L:Zc}{k:Nat}{es:Ze}:Qt L k (.tr (.sl es))=True:=(rfl)
theorem ZqN{L:Zc}{k:Nat}{es:Ze}:Qt L k (.cs es)=True:=(rfl)
theorem ZqO{L:Zc}{k:Nat}{id:Zd}{off len s:Nat}{cap:Option Nat}:Qt L k (.hd id [] off len cap s)=Jy L id [] k:=(rfl)
def Zf8(m:Nat):Option Ob->Prop
 | some (.ar k _ _ _ _)=>k=m
 | _=>False
theorem ZqP{m k hw ver:Nat}{es:Ze}{u:Bool}:Zf8 m (some (.ar k es u hw ver))=(k=m):=(rfl)
theorem ZqQ{key m:Nat}:Jy (Zy lvl loc out) (lvl,key) [] m=Zf8 m (lkO key loc):=by
 unfold Jy
 rw[J2]
 cases lkO key loc with
 | none=>rfl
 | some ob=>cases ob <;> rfl
theorem ZqR{k:Nat}{x:X}{lo hi mx:Option X}:Zo C d (.sw k x lo hi mx) ⟨lvl,env,loc,out⟩ K=(Qt (Zy lvl loc out) k (xv env x)/\Zo C d (.sx k x lo hi mx) ⟨lvl,env,loc,out⟩ K):=by
 rw[JK rfl,JK rfl]
 simp only[ev]
 generalize xv env x=q
 cases q with
 | tr t =>
  cases t with
  | v=>simp [Qt]
  | sl es=>simp only[Qt,true_and]
 | cs es=>simp only[Qt,true_and]
 | hd id p off len cap s =>
  cases p with
  | nil =>
   simp only[Qt]
   exact propext ⟨fun⟨hw,h⟩=>⟨hw,Q1 (fun a h=>Q1 (fun b h=>⟨h.1,h.2.1,Q1 (fun m g=>⟨g.1,g.2.1,hw,g.2.2⟩) h.2.2⟩) h) h⟩,fun⟨hw,h⟩=>⟨hw,Q1 (fun a h=>Q1 (fun b h=>⟨h.1,h.2.1,Q1 (fun m g=>⟨g.1,g.2.1,g.2.2.2⟩) h.2.2⟩) h) h⟩⟩
  | cons c r=>simp [Qt]
 | _=>simp [Qt]
theorem ZqS{k:Nat}{x i:X}:Zo C d (.it k x i) ⟨lvl,env,loc,out⟩ K=(VE (xv env x)/\Zo C d (.ia k x i) ⟨lvl,env,loc,out⟩ K):=by
 rw[JK rfl,JK rfl]
 simp only[ev]
 generalize xv env x=q
 generalize xv env i=qi
 cases q with
 | tr t =>
  cases t with
  | v=>simp only[VE,false_and];split <;> simp
  | sl es=>simp only[VE,true_and]
 | cs es=>simp only[VE,true_and]
 | _=>simp only[VE,false_and];split <;> simp
def UG(v:IV)(d:Option Nat)(k:Nat)(loc0:List (Nat×Ob))(items:Ze)(ui:Bool)(st1:St)(K:St->Prop):Prop :=
 Zs k items /\
 match v with
 | .cs zs=>(zs=[]\/items≠[])/\zs.length+items.length<=bigN/\Zs k zs/\freshK (keyOf d) loc0 1/\(zs=[]\/ui=false\/ScR zs) /\
  K { Zg st1 (st1.lvl,keyOf d) (.ar k (zs++items) ui (zs.length+items.length) 0) with env:=ptd d (.hd (st1.lvl,keyOf d) [] 0 (zs.length+items.length) none (zs.length+items.length)) st1.env }
 | .hd id [] 0 len none s =>
  match st1.sto id with
  | some (.ar k' es u hw ver)=>k'=k/\s=hw/\len=es.length/\len+items.length<=bigN /\
   K { Zg st1 id (.ar k (es++items) (u&&ui) (max hw (len+items.length)) ver) with env:=ptd d (.hd id [] 0 (len+items.length) none (max hw (len+items.length))) st1.env }
  | _=>False
 | _=>False
theorem ZqT{k:Nat}{x:X}{loc0:List (Nat×Ob)}{items:Ze}{ui:Bool}:Z6 d k x loc0 items ui ⟨lvl,env,loc,out⟩ K=UG (xv env x) d k loc0 items ui ⟨lvl,env,loc,out⟩ K:=(rfl)
theorem ZqU{k:Nat}{loc0:List (Nat×Ob)}{items zs:Ze}{ui:Bool}:UG (.cs zs) d k loc0 items ui ⟨lvl,env,loc,out⟩ K=(Zs k items/\(zs=[]\/items≠[])/\zs.length+items.length<=bigN/\Zs k zs/\freshK (keyOf d) loc0 1/\(zs=[]\/ui=false\/ScR zs) /\
  K ⟨lvl,ptd d (.hd (lvl,keyOf d) [] 0 (zs.length+items.length) none (zs.length+items.length)) env,ptO (keyOf d) (.ar k (zs++items) ui (zs.length+items.length) 0) loc,out⟩):=by
 simp only[UG,WH]
def aph(o:Option Ob)(d:Option Nat)(k:Nat)(id:Zd)(len s:Nat)(items:Ze)(ui:Bool)(st1:St)(K:St->Prop):Prop :=
 match o with
 | some (.ar k' es u hw ver)=>k'=k/\s=hw/\len=es.length/\len+items.length<=bigN /\
   K { Zg st1 id (.ar k (es++items) (u&&ui) (max hw (len+items.length)) ver) with env:=ptd d (.hd id [] 0 (len+items.length) none (max hw (len+items.length))) st1.env }
 | _=>False
theorem ZqV{k key len s:Nat}{loc0:List (Nat×Ob)}{items:Ze}{ui:Bool}:UG (.hd (lvl,key) [] 0 len none s) d k loc0 items ui ⟨lvl,env,loc,out⟩ K=(Zs k items/\aph (lkO key loc) d k (lvl,key) len s items ui ⟨lvl,env,loc,out⟩ K):=by
 simp only[UG]
 rw[show (⟨lvl,env,loc,out⟩:St).sto (lvl,key)=lkO key loc from J2]
 rfl
theorem ZqW{k k' key len s:Nat}{items es:Ze}{u ui:Bool}{hw ver:Nat}:aph (some (.ar k' es u hw ver)) d k (lvl,key) len s items ui ⟨lvl,env,loc,out⟩ K=(k'=k/\s=hw/\len=es.length/\len+items.length<=bigN /\
   K ⟨lvl,ptd d (.hd (lvl,key) [] 0 (len+items.length) none (max hw (len+items.length))) env,ptO key (.ar k (es++items) (u&&ui) (max hw (len+items.length)) ver) loc,out⟩):=by
 simp only[aph,WH]
def VF(C:ZB)(d:Option Nat)(k md:Nat)(x:X)(y:IV)(st:St)(K:St->Prop):Prop :=
 match y with
 | .tr (.sl es)=>if md=0 then ScR es/\Z6 d k x st.loc es true st K else md=1/\Z6 d k x st.loc es false st K
 | .cs es=>if md=0 then ScR es/\Z6 d k x st.loc es true st K else md=1/\Z6 d k x st.loc es false st K
 | .hd id2 p2 off2 len2 c2 s2 =>
   if md=2 then
    p2=[]/\off2=0/\c2=none/\id2.1=st.lvl /\
    match st.sto id2 with
    | some (.ar _ zs u2 hw2 _)=>s2=hw2/\len2=zs.length/\Z6 d k x st.loc zs u2 (Zn id2 st) K
    | _=>False
   else if md=0 then
    Ju st.sto id2 p2 s2 fun es _ _=>off2+len2<=es.length/\ScR (cut es off2 len2)/\Z6 d k x st.loc (cut es off2 len2) true st K
   else md=1/\p2=[] /\
    match st.sto id2 with
    | some (.ar k2 es _ hw2 ver2)=>s2=hw2/\off2+len2<=es.length/\Z6 d k x st.loc (cut es off2 len2) false (Zg st id2 (.ar k2 es false hw2 ver2)) K
    | _=>False
 | .sv id2=>md=2/\id2.1=st.lvl /\
   match st.sto id2 with
   | some (.bx l)=>l.length=k/\Yn l st fun ts u st' => Z6 d k x st.loc [ts] u (Zn id2 st') K
   | _=>False
 | _=>False
theorem ZqX{k md:Nat}{x y:X}:Zo C d (.ap k md x y) ⟨lvl,env,loc,out⟩ K=VF C d k md x (xv env y) ⟨lvl,env,loc,out⟩ K:=by
 rw[Jz rfl]
 rfl
theorem ZqY{k:Nat}{x y:X}:Zo C d (.a4 k x y) ⟨lvl,env,loc,out⟩ K=(Qf lvl (keyOf d) (Zy lvl loc out) (xv env x) (xv env y)/\Zo C d (.ap k 2 x y) ⟨lvl,env,loc,out⟩ K):=by
 rw[Jz rfl,Jz rfl]
 apply propext
 constructor
 ·intro h
  simp only[ew] at h
  exact⟨h.1,ZeN h.2⟩
 ·rintro⟨h1,h2⟩
  have h0:=h1
  unfold Qf at h1
  split at h1 <;> try contradiction
  split at h1 <;> try contradiction
  rename_i hy
  simp only[ew,hy] at h2
  simp only[ew]
  refine⟨h0,?_⟩
  unfold QN
  simp only[hy]
  exact h2.2
theorem ZqZ{i j kd off len s:Nat}{p:Zf}{cap:Option Nat}{L:Zc}:Qf lvl kd L (.hd (lvl,i) p off len cap s) (.sv (lvl,j))=(i<kd/\j<kd/\((i=j)=False)/\Wj lvl kd (lvl,i) (L (lvl,j))):=by
 simp [Qf]
theorem Zq0{i r kd off len s:Nat}{p:Zf}{cap:Option Nat}:Wj lvl kd (lvl,i) (some (.bx [.hd (lvl,r) p off len cap s]))=(r<kd/\((i=r)=False)):=by
 simp [Wj]
section ap
variable {k:Nat} {x:X}
theorem Zq1{es:Ze}:VF C d k 0 x (.tr (.sl es)) ⟨lvl,env,loc,out⟩ K=(ScR es/\Z6 d k x loc es true ⟨lvl,env,loc,out⟩ K):=(rfl)
theorem Zq2{es:Ze}:VF C d k 1 x (.tr (.sl es)) ⟨lvl,env,loc,out⟩ K=Z6 d k x loc es false ⟨lvl,env,loc,out⟩ K:=by simp [VF]
theorem Zq3{es:Ze}:VF C d k 0 x (.cs es) ⟨lvl,env,loc,out⟩ K=(ScR es/\Z6 d k x loc es true ⟨lvl,env,loc,out⟩ K):=(rfl)
theorem Zq4{es:Ze}:VF C d k 1 x (.cs es) ⟨lvl,env,loc,out⟩ K=Z6 d k x loc es false ⟨lvl,env,loc,out⟩ K:=by simp [VF]
def kap(d:Option Nat)(k:Nat)(x:X)(off2 len2:Nat)(st:St)(K:St->Prop)(es:Ze)(_u:Bool)(_v:Nat):Prop:=off2+len2<=es.length/\ScR (cut es off2 len2)/\Z6 d k x st.loc (cut es off2 len2) true st K
theorem Zq5{off2 len2:Nat}{es:Ze}{u:Bool}{v:Nat}:kap d k x off2 len2 ⟨lvl,env,loc,out⟩ K es u v=(off2+len2<=es.length/\ScR (cut es off2 len2)/\Z6 d k x loc (cut es off2 len2) true ⟨lvl,env,loc,out⟩ K):=(rfl)
theorem Zq6{id2:Zd}{p2:Zf}{off2 len2 s2:Nat}{c2:Option Nat}:VF C d k 0 x (.hd id2 p2 off2 len2 c2 s2) ⟨lvl,env,loc,out⟩ K=Va (Zy lvl loc out id2) p2 s2 (kap d k x off2 len2 ⟨lvl,env,loc,out⟩ K):=by
 rw[<-Xz]
 rfl
def ap5(o:Option Ob)(d:Option Nat)(k:Nat)(x:X)(len2 s2:Nat)(loc0:List (Nat×Ob))(st1:St)(K:St->Prop):Prop :=
 match o with
 | some (.ar _ zs u2 hw2 _)=>s2=hw2/\len2=zs.length/\Z6 d k x loc0 zs u2 st1 K
 | _=>False
theorem Zq7{key:Nat}{p2:Zf}{off2 len2 s2:Nat}{c2:Option Nat}:VF C d k 2 x (.hd (lvl,key) p2 off2 len2 c2 s2) ⟨lvl,env,loc,out⟩ K=(p2=[]/\off2=0/\c2=none/\ap5 (lkO key loc) d k x len2 s2 loc (Zn (lvl,key) ⟨lvl,env,loc,out⟩) K):=by
 simp only[VF,if_true]
 rw[show (⟨lvl,env,loc,out⟩:St).sto (lvl,key)=lkO key loc from J2]
 generalize lkO key loc=o
 apply propext
 constructor
 ·rintro⟨h1,h2,h3,_,h5⟩
  refine⟨h1,h2,h3,?_⟩
  cases o with
  | none=>exact h5
  | some ob=>cases ob <;> exact h5
 ·rintro⟨h1,h2,h3,h5⟩
  refine⟨h1,h2,h3,trivial,?_⟩
  cases o with
  | none=>exact h5
  | some ob=>cases ob <;> exact h5
theorem Zq8{k2:Nat}{zs:Ze}{u2:Bool}{hw2 ver2 len2 s2:Nat}{loc0:List (Nat×Ob)}{st1:St}:ap5 (some (.ar k2 zs u2 hw2 ver2)) d k x len2 s2 loc0 st1 K=(s2=hw2/\len2=zs.length/\Z6 d k x loc0 zs u2 st1 K):=(rfl)
def Zcb(d:Option Nat)(k:Nat)(x:X)(loc0:List (Nat×Ob))(id2:Zd)(K:St->Prop)(ts:List Tr)(u:Bool)(st':St):Prop:=Z6 d k x loc0 [ts] u (Zn id2 st') K
theorem Zq9{loc0:List (Nat×Ob)}{id2:Zd}{ts:List Tr}{u:Bool}:Zcb d k x loc0 id2 K ts u st=Z6 d k x loc0 [ts] u (Zn id2 st) K:=(rfl)
def aps(o:Option Ob)(d:Option Nat)(k:Nat)(x:X)(loc0:List (Nat×Ob))(id2:Zd)(st1:St)(K:St->Prop):Prop :=
 match o with
 | some (.bx l)=>l.length=k/\Yn l st1 (Zcb d k x loc0 id2 K)
 | _=>False
theorem Zra{l:List IV}{loc0:List (Nat×Ob)}{id2:Zd}{st1:St}:aps (some (.bx l)) d k x loc0 id2 st1 K=(l.length=k/\Yn l st1 (Zcb d k x loc0 id2 K)):=(rfl)
theorem Zrb{key:Nat}:VF C d k 2 x (.sv (lvl,key)) ⟨lvl,env,loc,out⟩ K=aps (lkO key loc) d k x loc (lvl,key) ⟨lvl,env,loc,out⟩ K:=by
 simp only[VF]
 rw[show (⟨lvl,env,loc,out⟩:St).sto (lvl,key)=lkO key loc from J2]
 generalize lkO key loc=o
 apply propext
 constructor
 ·rintro⟨_,_,h⟩
  cases o with
  | none=>exact h
  | some ob=>cases ob <;> exact h
 ·intro h
  refine⟨trivial,trivial,?_⟩
  cases o with
  | none=>exact h
  | some ob=>cases ob <;> exact h
end ap
theorem Zcc{L:Zc}{F:List IV->Prop}:∀{l:List Tr},ZQ L (l.map .tr) F=F (l.map .tr)
 | []=>Zb7
 | t::r=>by rw[UaH,ZfZ,Zcc,ZfV]
theorem Zab{Pd:Zd->Prop}:∀{l:List Tr},Za Pd (l.map .tr)=True
 | []=>rfl
 | t::r=>by simp only[UaH,Za,men,Zab,and_self]
def nlf(v:IV)(neg:Bool)(lvl:Nat)(env:List (Nat×IV))(loc:List (Nat×Ob))(out:Zc)(d:Option Nat)(K:St->Prop):Prop :=
 match v with
 | .tr (.sl es)=>K ⟨lvl,ptd d (iB neg) env,loc,out⟩/\(es=[]->K ⟨lvl,ptd d (iB !neg) env,loc,out⟩)
 | .cs es=>K ⟨lvl,ptd d (iB neg) env,loc,out⟩/\(es=[]->K ⟨lvl,ptd d (iB !neg) env,loc,out⟩)
 | _=>False
theorem Zrc{C:ZB}{d:Option Nat}{neg:Bool}{x:X}{lvl:Nat}{env:List (Nat×IV)}{loc:List (Nat×Ob)}{out:Zc}{K:St->Prop}:Zo C d (.nl neg x) ⟨lvl,env,loc,out⟩ K=nlf (xv env x) neg lvl env loc out d K:=by
 rw[Jz rfl]
 rfl
theorem Zrd{neg:Bool}{es:Ze}{d:Option Nat}{lvl:Nat}{env:List (Nat×IV)}{loc:List (Nat×Ob)}{out:Zc}{K:St->Prop}:nlf (.tr (.sl es)) neg lvl env loc out d K=(K ⟨lvl,ptd d (iB neg) env,loc,out⟩/\(es=[]->K ⟨lvl,ptd d (iB !neg) env,loc,out⟩)):=(rfl)
theorem Zre{neg:Bool}{es:Ze}{d:Option Nat}{lvl:Nat}{env:List (Nat×IV)}{loc:List (Nat×Ob)}{out:Zc}{K:St->Prop}:nlf (.cs es) neg lvl env loc out d K=(K ⟨lvl,ptd d (iB neg) env,loc,out⟩/\(es=[]->K ⟨lvl,ptd d (iB !neg) env,loc,out⟩)):=(rfl)
section row
variable {C:ZB} {d:Option Nat} {x y hi:X} {lvl:Nat} {env:List (Nat×IV)} {loc:List (Nat×Ob)} {out:Zc} {K:St->Prop} {st:St}
def Yq(d:Option Nat)(x:IV)(st:St)(K:St->Prop):Prop:=K { st with env:=ptd d x st.env }
theorem Zrf{v:IV}:Yq d v ⟨lvl,env,loc,out⟩ K=K ⟨lvl,ptd d v env,loc,out⟩:=(rfl)
theorem Zac{v:IV}{id:Zd}{ob:Ob}:Yq d v (Zg st id ob) K=K { Zg st id ob with env:=ptd d v st.env }:=by
 unfold Yq
 rw[Xo]
def cpf(v:IV)(lvl:Nat)(env:List (Nat×IV))(loc:List (Nat×Ob))(out:Zc)(d:Option Nat)(K:St->Prop):Prop :=
 match v with
 | .cs es=>K ⟨lvl,ptd d (iI es.length) env,loc,out⟩
 | _=>False
theorem Zrg:Zo C d (.cp x) ⟨lvl,env,loc,out⟩ K=cpf (xv env x) lvl env loc out d K:=by
 rw[Jz rfl]
 rfl
theorem Zrh{es:Ze}:cpf (.cs es) lvl env loc out d K=K ⟨lvl,ptd d (iI es.length) env,loc,out⟩:=(rfl)
def shg(o:Option Ob)(id:Zd)(m:Int)(len s k:Nat)(d:Option Nat)(st:St)(K:St->Prop):Prop :=
 match o with
 | some (.ar k2 es u hw ver)=>k2=k/\s=hw/\0<=m/\m.toNat<=len/\len<=es.length/\Yq d (.hd id [] 0 m.toNat none hw) (Zg st id (.ar k2 (es.take m.toNat) u hw (ver+1))) K
 | _=>False
def UH(v hv:IV)(k:Nat)(d:Option Nat)(st:St)(K:St->Prop):Prop :=
 match v with
 | .cs es =>
  match hv with
  | .tr (.v (.int _ m))=>m=es.length/\Zs k es/\Yq d (.cs es) st K
  | _=>False
 | .hd id p off len cap s =>
  match hv with
  | .tr (.v (.int _ m))=>p=[]/\off=0/\cap=none/\shg (st.sto id) id m len s k d st K
  | _=>False
 | _=>False
theorem Zri{k:Nat}:Zo C d (.sh k x hi) ⟨lvl,env,loc,out⟩ K=UH (xv env x) (xv env hi) k d ⟨lvl,env,loc,out⟩ K:=by
 rw[Jz rfl]
 simp only[ew]
 generalize xv env x=v
 cases v <;> try rfl
 rename_i id p off len cap s
 generalize xv env hi=hv
 cases hv <;> try rfl
 rename_i t
 cases t <;> try rfl
 rename_i q
 cases q <;> try rfl
 simp only[UH,shg]
 generalize (⟨lvl,env,loc,out⟩:St).sto id=o
 cases o with
 | none=>simp
 | some ob =>
  cases ob with
  | bx=>simp
  | ar k2 es u hw ver=>simp only[Zac]
theorem Zrj{id:Zd}{len s k:Nat}{kk:IntKind}{m:Int}:UH (.hd id [] 0 len none s) (.tr (.v (.int kk m))) k d ⟨lvl,env,loc,out⟩ K=shg (Zy lvl loc out id) id m len s k d ⟨lvl,env,loc,out⟩ K:=by
 simp only[UH,true_and]
 rfl
theorem Zrk{es:Ze}{k:Nat}{kk:IntKind}{m:Int}:UH (.cs es) (.tr (.v (.int kk m))) k d ⟨lvl,env,loc,out⟩ K=(m=es.length/\Zs k es/\Yq d (.cs es) ⟨lvl,env,loc,out⟩ K):=(rfl)
theorem Zrl{id:Zd}{len s k k2 hw ver:Nat}{es:Ze}{u:Bool}{m:Int}:shg (some (.ar k2 es u hw ver)) id m len s k d st K=(k2=k/\s=hw/\0<=m/\m.toNat<=len/\len<=es.length/\Yq d (.hd id [] 0 m.toNat none hw) (Zg st id (.ar k2 (es.take m.toNat) u hw (ver+1))) K):=(rfl)
def fzg(o:Option Ob)(len s:Nat)(d:Option Nat)(st1:St)(K:St->Prop):Prop :=
 match o with
 | some (.ar _ zs _ hw _)=>s=hw/\len=zs.length/\Yq d (.tr (.sl zs)) st1 K
 | _=>False
def fzf(v:IV)(d:Option Nat)(st:St)(K:St->Prop):Prop :=
 match v with
 | .hd id [] 0 len none s=>id.1=st.lvl/\fzg (st.sto id) len s d (Zn id st) K
 | _=>False
theorem Zrm:Zo C d (.fz x) ⟨lvl,env,loc,out⟩ K=fzf (xv env x) d ⟨lvl,env,loc,out⟩ K:=by
 rw[Jz rfl]
 simp only[ew]
 generalize xv env x=v
 unfold fzf
 split
 ·rename_i id len s
  simp only[fzg]
  generalize (⟨lvl,env,loc,out⟩:St).sto id=o
  cases o with
  | none=>rfl
  | some ob=>cases ob <;> rfl
 ·rename_i hv
  split
  ·exact(hv _ _ _ rfl).elim
  ·rfl
theorem Zrn{key len s:Nat}:fzf (.hd (lvl,key) [] 0 len none s) d ⟨lvl,env,loc,out⟩ K=fzg (lkO key loc) len s d (Zn (lvl,key) ⟨lvl,env,loc,out⟩) K:=by
 simp only[fzf,true_and]
 rw[show (⟨lvl,env,loc,out⟩:St).sto (lvl,key)=lkO key loc from J2]
theorem Zro{len s k hw ver:Nat}{zs:Ze}{u:Bool}:fzg (some (.ar k zs u hw ver)) len s d st K=(s=hw/\len=zs.length/\Yq d (.tr (.sl zs)) st K):=(rfl)
def drp(o:Option Ob)(id:Zd)(st:St):St :=
 match o with
 | none=>st
 | some _=>Zn id st
theorem Zrp{id:Zd}:drp none id st=st:=(rfl)
theorem Zrq{ob:Ob}{id:Zd}:drp (some ob) id st=Zn id st:=(rfl)
def rkg(o:Option Ob)(len s:Nat)(id0:Zd)(d:Option Nat)(st1:St)(K:St->Prop):Prop :=
 match o with
 | some (.ar k zs u hw ver)=>s=hw/\len=zs.length/\Yq d (.hd id0 [] 0 len none s) (Zg st1 id0 (.ar k zs u hw ver)) K
 | _=>False
def rkf(v:IV)(d:Option Nat)(st:St)(K:St->Prop):Prop :=
 match v with
 | .hd id [] 0 len none s=>id.1=st.lvl/\(st.lvl,keyOf d)≠id/\rkg (st.sto id) len s (st.lvl,keyOf d) d (Zn id (Qd (st.lvl,keyOf d) st)) K
 | _=>False
theorem Zrr:Zo C d (.rk x) ⟨lvl,env,loc,out⟩ K=rkf (xv env x) d ⟨lvl,env,loc,out⟩ K:=by
 rw[Jz rfl]
 simp only[ew]
 generalize xv env x=v
 unfold rkf
 split
 ·rename_i id len s
  simp only[rkg]
  generalize (⟨lvl,env,loc,out⟩:St).sto id=o
  cases o with
  | none=>rfl
  | some ob =>
   cases ob with
   | bx=>rfl
   | ar k2 es u hw ver=>simp only[Zac]
 ·rename_i hv
  split
  ·exact(hv _ _ _ rfl).elim
  ·rfl
theorem Zrs{key len s:Nat}{t:Nat}:rkf (.hd (lvl,key) [] 0 len none s) (some t) ⟨lvl,env,loc,out⟩ K=(t*32≠key/\rkg (lkO key loc) len s (lvl,t*32) (some t) (Zn (lvl,key) (drp (lkO (t*32) loc) (lvl,t*32) ⟨lvl,env,loc,out⟩)) K):=by
 simp only[rkf,true_and,Qd,keyOf]
 rw[show (⟨lvl,env,loc,out⟩:St).sto (lvl,key)=lkO key loc from J2,show (⟨lvl,env,loc,out⟩:St).sto (lvl,t*32)=lkO (t*32) loc from J2]
 congr 1
 simp
theorem Zrt{key:Nat}{p x:X}:Zo C d (.gv key p x) ⟨lvl,env,loc,out⟩ K=(d=none/\W4 (xv env p) (xv env x) key ⟨lvl,env,loc,out⟩ K):=by
 rw[Jz rfl]
 simp only[ew]
theorem Zru{id:Zd}{off key key2 len s:Nat}:W4 (.ab id off) (.hd (lvl,key2) [] 0 len none s) key ⟨lvl,env,loc,out⟩ K=(id.1<lvl/\Zy lvl loc out (id.1,key)=none/\U5 (Zy lvl loc out id) (lkO key2 loc) id off key len s (lvl,key2) ⟨lvl,env,loc,out⟩ K):=by
 simp only[W4,true_and]
 rw[show (⟨lvl,env,loc,out⟩:St).sto (lvl,key2)=lkO key2 loc from J2]
 rfl
theorem Zrv{cells:List IV}{k:Nat}{zs:Ze}{u:Bool}{hw ver:Nat}{id id2:Zd}{off key len s:Nat}:U5 (some (.bx cells)) (some (.ar k zs u hw ver)) id off key len s id2 st K=(off+1<=cells.length/\s=hw/\len=zs.length/\K (Zg (Zg (Zn id2 st) (id.1,key) (.ar k zs u hw ver)) id (.bx (JR cells off [.hd (id.1,key) [] 0 len none s])))):=(rfl)
theorem Zrw{len s k hw ver:Nat}{zs:Ze}{u:Bool}{id0:Zd}:rkg (some (.ar k zs u hw ver)) len s id0 d st K=(s=hw/\len=zs.length/\Yq d (.hd id0 [] 0 len none s) (Zg st id0 (.ar k zs u hw ver)) K):=(rfl)
theorem Zrx{K:List IV->St->Prop}:QL [] st K=K [] st:=(rfl)
theorem Zry{x:X}{r:List X}{K:List IV->St->Prop}:QL (x::r) st K=Wh (xv st.env x) st fun t st1=>QL r st1 fun ts st2=>K (.ta t::ts) st2:=(rfl)
def Zad(o:Option (List Tr×Bool))(F:List Tr->Prop)(H:Prop):Prop :=
 match o with
 | some (ts,_)=>F ts
 | none=>H
def Zcd(o:Option Ob)(F:List Tr->Prop)(H:List IV->Prop):Prop :=
 match o with
 | some (.bx cells)=>Zad (totrs cells) F (H cells)
 | _=>False
theorem Zrz{ts:List Tr}{K:List Tr->St->Prop}:Wh (.ta ts) st K=K ts st:=(rfl)
theorem ZrA{key:Nat}{K:List Tr->St->Prop}:Wh (.ab (lvl,key) 0) ⟨lvl,env,loc,out⟩ K=Zcd (lkO key loc) (fun ts=>K ts (Zn (lvl,key) ⟨lvl,env,loc,out⟩)) (fun cells=>Ym cells ⟨lvl,env,loc,out⟩ fun ts st1=>K ts (Zn (lvl,key) st1)):=by
 simp only[Wh,true_and]
 rw[show (⟨lvl,env,loc,out⟩:St).sto (lvl,key)=lkO key loc from J2]
 generalize lkO key loc=o
 cases o with
 | none=>rfl
 | some ob =>
  cases ob with
  | ar=>rfl
  | bx cells =>
   simp only[Zcd]
   generalize totrs cells=q
   cases q <;> rfl
theorem ZrB{cells:List IV}{F:List Tr->Prop}{H:List IV->Prop}:Zcd (some (.bx cells)) F H=Zad (totrs cells) F (H cells):=(rfl)
theorem ZrC{ts:List Tr}{q:Bool}{F:List Tr->Prop}{H:Prop}:Zad (some (ts,q)) F H=F ts:=(rfl)
theorem ZrD{F:List Tr->Prop}{H:Prop}:Zad none F H=H:=(rfl)
theorem ZrE{id:Zd}{p:Zf}{off len s:Nat}{cap:Option Nat}{r:List IV}:totrs (.hd id p off len cap s::r)=none:=(rfl)
theorem ZrF{f:Nat}{cs:List X}:Zo C d (.mz f cs) ⟨lvl,env,loc,out⟩ K=QL cs ⟨lvl,env,loc,out⟩ fun l st1=>Yq d (.fn f l) st1 K:=by
 rw[Jz rfl]
 rfl
theorem ZrG{K:List Tr->St->Prop}:Ym [] st K=K [] st:=(rfl)
theorem ZrH{x:IV}{r:List IV}{K:List Tr->St->Prop}:Ym (x::r) st K=Xg x st fun t st1=>Ym r st1 fun ts st2=>K (t::ts) st2:=(rfl)
def Zf9(o:Option Ob)(len s:Nat)(F:Ze->Prop):Prop :=
 match o with
 | some (.ar _ zs _ hw _)=>s=hw/\len=zs.length/\F zs
 | _=>False
theorem ZrI{t:Tr}{K:Tr->St->Prop}:Xg (.tr t) st K=K t st:=(rfl)
theorem ZrJ{es:Ze}{K:Tr->St->Prop}:Xg (.cs es) st K=K (.sl es) st:=(rfl)
theorem ZrK{key len s:Nat}{K:Tr->St->Prop}:Xg (.hd (lvl,key) [] 0 len none s) ⟨lvl,env,loc,out⟩ K=Zf9 (lkO key loc) len s fun zs=>K (.sl zs) (Zn (lvl,key) ⟨lvl,env,loc,out⟩):=by
 simp only[Xg,true_and]
 rw[show (⟨lvl,env,loc,out⟩:St).sto (lvl,key)=lkO key loc from J2]
 generalize lkO key loc=o
 cases o with
 | none=>rfl
 | some ob=>cases ob <;> rfl
theorem ZrL{k len s hw ver:Nat}{zs:Ze}{u:Bool}{F:Ze->Prop}:Zf9 (some (.ar k zs u hw ver)) len s F=(s=hw/\len=zs.length/\F zs):=(rfl)
def lzg(o:Option Ob)(off m:Nat)(d:Option Nat)(st:St)(K:St->Prop):Prop :=
 match o with
 | some (.bx cells)=>off+m<=cells.length/\Ym ((cells.drop off).take m) st fun ts st1=>Yq d (.ag (ts.map .tr)) st1 K
 | _=>False
def lzf(v:IV)(m:Nat)(d:Option Nat)(st:St)(K:St->Prop):Prop :=
 match v with
 | .ab id off=>lzg (st.sto id) off m d st K
 | _=>False
theorem ZrM{m:Nat}:Zo C d (.lz m x) ⟨lvl,env,loc,out⟩ K=lzf (xv env x) m d ⟨lvl,env,loc,out⟩ K:=by
 rw[Jz rfl]
 simp only[ew]
 generalize xv env x=v
 cases v <;> rfl
theorem ZrN{key off m:Nat}:lzf (.ab (lvl,key) off) m d ⟨lvl,env,loc,out⟩ K=lzg (lkO key loc) off m d ⟨lvl,env,loc,out⟩ K:=by
 simp only[lzf]
 rw[show (⟨lvl,env,loc,out⟩:St).sto (lvl,key)=lkO key loc from J2]
theorem ZrO{cells:List IV}{off m:Nat}:lzg (some (.bx cells)) off m d st K=(off+m<=cells.length/\Ym ((cells.drop off).take m) st fun ts st1=>Yq d (.ag (ts.map .tr)) st1 K):=(rfl)
def clg(o:Option Ob)(id:Zd)(off len s k:Nat)(d:Option Nat)(st:St)(K:St->Prop):Prop :=
 match o with
 | some (.ar k2 es u hw ver)=>k2=k/\s=hw/\off+len=es.length/\Yq d (.tu []) (Zg st id (.ar k2 (es.take off) u hw (ver+1))) K
 | _=>False
def clf(v:IV)(k:Nat)(d:Option Nat)(st:St)(K:St->Prop):Prop :=
 match v with
 | .hd id p off len _ s=>p=[]/\clg (st.sto id) id off len s k d st K
 | _=>False
theorem ZrP{k:Nat}{z:List Value}:Zo C d (.cl k z x) ⟨lvl,env,loc,out⟩ K=clf (xv env x) k d ⟨lvl,env,loc,out⟩ K:=by
 rw[Jz rfl]
 simp only[ew]
 generalize xv env x=v
 cases v <;> try rfl
 rename_i id p off len cap s
 simp only[clf,clg]
 generalize (⟨lvl,env,loc,out⟩:St).sto id=o
 cases o with
 | none=>simp
 | some ob =>
  cases ob with
  | bx=>simp
  | ar k2 es u hw ver=>simp only[Zac]
theorem ZrQ{id:Zd}{off len s k:Nat}{cap:Option Nat}:clf (.hd id [] off len cap s) k d ⟨lvl,env,loc,out⟩ K=clg (Zy lvl loc out id) id off len s k d ⟨lvl,env,loc,out⟩ K:=by
 simp only[clf,true_and]
 rfl
theorem ZrR{id:Zd}{off len s k k2 hw ver:Nat}{es:Ze}{u:Bool}:clg (some (.ar k2 es u hw ver)) id off len s k d st K=(k2=k/\s=hw/\off+len=es.length/\Yq d (.tu []) (Zg st id (.ar k2 (es.take off) u hw (ver+1))) K):=(rfl)
def srk(off len:Nat)(F:Ze->Prop)(es:Ze)(_u:Bool)(_v:Nat):Prop:=off+len<=es.length/\F (cut es off len)
theorem ZrS{off len:Nat}{F:Ze->Prop}{es:Ze}{u:Bool}{v:Nat}:srk off len F es u v=(off+len<=es.length/\F (cut es off len)):=(rfl)
theorem ZrT{zs:Ze}{F:Ze->Prop}:VO st (.tr (.sl zs)) F=F zs:=(rfl)
theorem ZrU{zs:Ze}{F:Ze->Prop}:VO st (.cs zs) F=F zs:=(rfl)
theorem ZrV{id:Zd}{p:Zf}{off len s:Nat}{cap:Option Nat}{F:Ze->Prop}:VO ⟨lvl,env,loc,out⟩ (.hd id p off len cap s) F=Va (Zy lvl loc out id) p s (srk off len F):=by
 rw[<-Xz]
 rfl
def UI(zs:Ze)(k:Nat)(d:Option Nat)(st:St)(K:St->Prop)(items:Ze):Prop :=
 items≠[]/\ScR items/\Zs k zs/\Zs k items/\zs.length+items.length<=bigN/\K ⟨st.lvl,ptd d (.tr (.sl (zs++items))) st.env,st.loc,st.out⟩
theorem ZrW{zs items:Ze}{k:Nat}:UI zs k d ⟨lvl,env,loc,out⟩ K items=(items≠[]/\ScR items/\Zs k zs/\Zs k items/\zs.length+items.length<=bigN/\K ⟨lvl,ptd d (.tr (.sl (zs++items))) env,loc,out⟩):=(rfl)
def a3f(vx vy:IV)(k:Nat)(d:Option Nat)(st:St)(K:St->Prop):Prop :=
 match vx with
 | .cs zs=>VO st vy (UI zs k d st K)
 | _=>False
theorem ZrX{zs:Ze}{vy:IV}{k:Nat}:a3f (.cs zs) vy k d st K=VO st vy (UI zs k d st K):=(rfl)
theorem ZrY{k:Nat}{x y:X}:Zo C d (.a3 k x y) ⟨lvl,env,loc,out⟩ K=a3f (xv env x) (xv env y) k d ⟨lvl,env,loc,out⟩ K:=by
 rw[JK rfl]
 simp only[ev]
 generalize xv env x=vx
 cases vx <;> try rfl
 rename_i zs
 have e:∀ items:Ze,(items≠[]/\ScR items/\Zs k zs/\Zs k items/\zs.length+items.length<=bigN/\Zx (fun mk obs=>freshK (keyOf d) loc (obs lvl (keyOf d)).length/\K ⟨lvl,ptd d (mk lvl (keyOf d)) env,addO (keyOf d) (obs lvl (keyOf d)) loc,out⟩) (.tr (.sl (zs++items))))=UI zs k d ⟨lvl,env,loc,out⟩ K items:=fun items=>by
  simp [UI,Zx,freshK,addO]
 simp only[e]
 rfl
theorem ZrZ{k:Nat}{x y:X}:Zo C d (.c0 k x y) ⟨lvl,env,loc,out⟩ K=Zo C d (.cy k x y) ⟨lvl,env,loc,out⟩ K:=by
 rw[Jz rfl,Jz rfl]
 exact propext ⟨ZeW,Zkw⟩
def UJ(es:Ze)(u:Bool)(hw ver:Nat)(id:Zd)(off len k:Nat)(d:Option Nat)(st:St)(K:St->Prop)(zs:Ze):Prop :=
 ScR zs/\Zs k zs/\Yq d (iI (min zs.length len:Nat)) (Zg st id (.ar k (es.take off++zs.take len++es.drop (off+min zs.length len)) u hw (ver+1))) K
theorem Zr0{es:Ze}{u:Bool}{hw ver:Nat}{id:Zd}{off len k:Nat}{zs:Ze}:UJ es u hw ver id off len k d st K zs=(ScR zs/\Zs k zs/\Yq d (iI (min zs.length len:Nat)) (Zg st id (.ar k (es.take off++zs.take len++es.drop (off+min zs.length len)) u hw (ver+1))) K):=(rfl)
def cyg(o:Option Ob)(id:Zd)(off len s k:Nat)(v:IV)(d:Option Nat)(st:St)(K:St->Prop):Prop :=
 match o with
 | some (.ar k2 es u hw ver)=>k2=k/\s=hw/\off+len<=es.length/\ScR es/\VO st v (UJ es u hw ver id off len k d st K)
 | _=>False
def cyf(x v:IV)(k:Nat)(d:Option Nat)(st:St)(K:St->Prop):Prop :=
 match x with
 | .hd id p off len _ s=>p=[]/\cyg (st.sto id) id off len s k v d st K
 | _=>False
theorem Zr1{k:Nat}:Zo C d (.cy k x y) ⟨lvl,env,loc,out⟩ K=cyf (xv env x) (xv env y) k d ⟨lvl,env,loc,out⟩ K:=by
 rw[Jz rfl]
 simp only[ew]
 generalize xv env x=v
 cases v <;> try rfl
 rename_i id p off len cap s
 simp only[cyf,cyg]
 generalize (⟨lvl,env,loc,out⟩:St).sto id=o
 cases o with
 | none=>simp
 | some ob =>
  cases ob with
  | bx=>simp
  | ar k2 es u hw ver =>
   dsimp only
   by_cases hk:k2=k
   ·subst hk
    have:(fun zs=>ScR zs/\Zs k2 zs/\K { Zg ⟨lvl,env,loc,out⟩ id (.ar k2 (es.take off++zs.take len++es.drop (off+min zs.length len)) u hw (ver+1)) with env:=ptd d (iI (min zs.length len:Nat)) env })=UJ es u hw ver id off len k2 d ⟨lvl,env,loc,out⟩ K:=by
     funext zs
     simp only[UJ,Zac]
    rw[this]
   ·simp [hk]
theorem Zr2{id:Zd}{off len s k:Nat}{cap:Option Nat}{v:IV}:cyf (.hd id [] off len cap s) v k d ⟨lvl,env,loc,out⟩ K=cyg (Zy lvl loc out id) id off len s k v d ⟨lvl,env,loc,out⟩ K:=by
 simp only[cyf,true_and]
 rfl
theorem Zr3{id:Zd}{off len s k k2 hw ver:Nat}{es:Ze}{u:Bool}{v:IV}:cyg (some (.ar k2 es u hw ver)) id off len s k v d st K=(k2=k/\s=hw/\off+len<=es.length/\ScR es/\VO st v (UJ es u hw ver id off len k d st K)):=(rfl)
end row
theorem Zr4{α:Type}{F:α->Prop}:ZW none F=False:=(rfl)
end
abbrev tv(n:Int):Tr:=.v (.int .i64 n)
abbrev ts(s:ByteArray):Tr:=.v (.string s)
abbrev rI(l:List Int):Ze:=l.map fun n=>[tv n]
abbrev tI(l:List Int):IV:=.tr (.sl (rI l))
abbrev rS(l:List ByteArray):Ze:=l.map fun n=>[ts n]
abbrev tS(l:List ByteArray):IV:=.tr (.sl (rS l))
theorem Zl(n:Int):JO .i64 n=(-9223372036854775808<=n/\n<=9223372036854775807):=by
 simp [JO,IntKind.min,IntKind.max,IntKind.signed,IntKind.bits]
theorem Zce{α:Type}{k:Nat}(f:α->List Tr)(h:∀ x,(f x).length=k)(l:List α):Zs k (l.map f):=by
 intro e he
 obtain⟨x,_,rfl⟩:=UaL.1 he
 exact h x
end Go.Fd

namespace Go.Fd
def In(w:World)(b:Nat):Prop:=b<w.heap.size
def Zcf(w:World)(cs:List Value)(ts:List Tr):Prop:=∀(j:Nat) (v:Value) (t:Tr),cs[j]? = some v->ts[j]? = some t->Rds w (In w) v t
def YY(P:Program)(t:TypeId){α:Type}(c:α->List Tr)(Q:α->Prop):Prop :=
 ∀(H:Type) (enc:TypeId×Value->H) (w:World) (sp:Nat->Bool) (hd:Bool) (fuel:Nat) (cs:List Value) (x:DataW H×List MemPlace),
  DataW.trod enc P w 0 sp hd fuel t cs=some x->∃ y,Q y/\Zcf w cs (c y)
theorem Zae{w:World}{v:Value}{t:Tr}(h:Rds w (In w) v t):Zcf w [v] [t]:=fun j v' t' h1 h2=>by
 match j with
 | 0=>simp at h1 h2;subst h1;subst h2;exact h
 | j+1=>simp at h1
theorem Zr5{P:Program}{t:TypeId}(ht:P.underlying t=some (.int .i64)):YY P t (fun n:Int=>[tv n]) (JO .i64):=by
 intro H enc w sp hd fuel cs x h
 obtain⟨n,rfl,_,hw⟩:=DataW.trod_int ht h
 exact⟨n,by simpa [Lit.wf,JO] using hw,Zae (.v _ rfl)⟩
theorem Zr6{P:Program}{t:TypeId}(ht:P.underlying t=some .string):YY P t (fun n:ByteArray=>[ts n]) (fun n=>n.size<=9223372036854775807):=by
 intro H enc w sp hd fuel cs x h
 obtain⟨n,rfl,_,hw⟩:=DataW.trod_string ht h
 exact⟨n,hw,Zae (.v _ rfl)⟩
theorem Zr7{w:World}{a:Addr}{v:Value}(h:w.cell? a=some v):a.block<w.heap.size:=by
 unfold World.cell? at h
 cases hh:w.heap[a.block]? with
 | none=>rw[hh] at h;cases h
 | some o=>exact(UaA.1 hh).1
theorem Zr8{α:Type}(n:Nat)(R:Nat->α->Prop)(h:∀ i,i<n->∃ y,R i y):∃ l:List α,l.length=n/\∀ i y,l[i]? = some y->R i y:=by
 induction n with
 | zero=>exact⟨[],rfl,fun i y h=>by simp at h⟩
 | succ n ih =>
  obtain⟨l,hl,hr⟩:=ih (fun i hi=>h i (by omega))
  obtain⟨y,hy⟩:=h n (by omega)
  refine⟨l++[y],by simp [hl],fun i z hz=>?_⟩
  by_cases hi:i<n
  ·rw[Uap (by omega)] at hz;exact hr i z hz
  ·have hlt:=(Uac.1 hz).1
   simp only[Uan,List.length_singleton] at hlt
   have:i=n:=by omega
   subst this
   rw[Uao (by omega),hl,Ubw] at hz
   simp at hz
   exact hz ▸ hy
theorem Zr9{P:Program}{t e:TypeId}{k:Nat}{α:Type}{c:α->List Tr}{Q:α->Prop}(ht:P.underlying t=some (.slice e))(hk:P.cellsOf e=k+1)(hc:∀ x,(c x).length=k+1)
  (he:YY P e c Q):YY P t (fun l:List α=>[.sl (l.map c)]) (fun l=>l.length<=9223372036854775807/\∀ x∈l,Q x):=by
 intro H enc w sp hd fuel cs x h
 rcases DataW.trod_slice ht h with ⟨rfl,_⟩ | ⟨a,len,cap,elems,rest,n,_,rfl,_,_,hl,hm,hlen,hel,_,_⟩
 ·exact⟨[],⟨by simp,by simp⟩,Zae (.nil none 0)⟩
 ·have each:∀ i,i<len->∃ y,Q y/\∀ j t,(c y)[j]? = some t->∃ v,w.cell? (a.add (i*(k+1)+j))=some v/\Rds w (In w) v t:=fun i hi=>by
   have h1:=hel i hi
   rw[hk] at h1
   obtain⟨z,hz⟩:∃ z,elems[i]? = some z:=⟨elems[i]'(by omega),Uaf _⟩
   rw[hz,Option.bind_eq_some_iff] at h1
   obtain⟨row,hrow,hx⟩:=h1
   obtain⟨y,hy,hr⟩:=he H enc w sp hd n row z hx
   obtain⟨_,hrl,hg⟩:=World.cells?_some hrow
   refine⟨y,hy,fun j t hj=>?_⟩
   have hjk:j<k+1:=by rw[<-hc y];exact(Uac.1 hj).1
   have hv:row[j]? = some (row[j]'(by omega)):=Uaf _
   have:=hg j hjk
   rw[hv] at this
   have e2:(a.add (i*(k+1))).add j=a.add (i*(k+1)+j):=by
    unfold Addr.add
    by_cases h0:i*(k+1)=0
    ·simp [h0]
    ·by_cases h1:j=0
     ·simp [h1,h0]
     ·have h2:¬ (i*(k+1)+j=0):=by omega
      simp only[if_neg h0,if_neg h1,if_neg h2,Addr.mk.injEq,and_true,true_and]
      omega
   rw[e2] at this
   exact⟨_,this,hr j _ t hv hj⟩
  obtain⟨l,hll,hlr⟩:=Zr8 len _ each
  refine⟨l,⟨?_,fun y hy=>?_⟩,Zae ?_⟩
  ·rw[hll];exact UaV hl hm
  ·obtain⟨i,hi⟩:=Ua5 hy
   exact(hlr i y hi).1
  ·by_cases h0:len=0
   ·have:l=[]:=Uar (by omega)
    subst this;subst h0
    exact .nil _ _
   ·obtain⟨y0,hy0⟩:∃ y0,l[0]? = some y0:=⟨l[0]'(by omega),Uaf _⟩
    obtain⟨t0,ht0⟩:∃ t0,(c y0)[0]? = some t0:=⟨(c y0)[0]'(by rw[hc];omega),Uaf _⟩
    obtain⟨v0,hv0,_⟩:=(hlr 0 y0 hy0).2 0 t0 ht0
    obtain⟨b,o,s⟩:=a
    have hs:s=none:=by simpa [Addr.add] using World.cell?_spot hv0
    subst hs
    have hb:b<w.heap.size:=by simpa [Addr.add] using Zr7 hv0
    have hel2:∀ i e j t,(l.map c)[i]? = some e->e[j]? = some t->∃ v,w.cell? ⟨b,o+i*(k+1)+j,none⟩=some v/\Rds w (In w) v t:=fun i e j t h1 h2=>by
     rw[Uax,UaK] at h1
     obtain⟨y,hy,rfl⟩:=h1
     obtain⟨v,hv,hr⟩:=(hlr i y hy).2 j t h2
     refine⟨v,?_,hr⟩
     rw[<-hv]
     congr 1
     unfold Addr.add
     by_cases h0:i*(k+1)+j=0
     ·have:o+i*(k+1)+j=o:=by omega
      rw[if_pos h0,this]
     ·rw[if_neg h0]
      have:o+i*(k+1)+j=o+(i*(k+1)+j):=by omega
      simp only[this]
    have hlm:(l.map c).length=len:=by simpa using hll
    have:=Rds.sl (w:=w) (A:=In w) b o cap (k+1) (l.map c) (fun i j=>(w.cell? ⟨b,o+i*(k+1)+j,none⟩).getD .nilFunc) hb
     (fun e he=>by simp only[UaL] at he;obtain⟨y,_,rfl⟩:=he;exact hc y) (by omega)
     (fun i e j t h1 h2=>by obtain⟨v,hv,_⟩:=hel2 i e j t h1 h2;rw[hv];rfl)
     (fun i e j t h1 h2=>by obtain⟨v,hv,hr⟩:=hel2 i e j t h1 h2;rw[hv];exact hr)
    rw[hlm] at this
    exact this
def UK(P:Program)(o:Nat)(l:List (Nat×TypeId)){α:Type}(c:α->List Tr)(Q:α->Prop):Prop :=
 ∀(H:Type) (enc:TypeId×Value->H) (w:World) (sp:Nat->Bool) (hd:Bool) (fuel:Nat) (cs:List Value),
  (∀ p∈l,∃ x,DataW.trod enc P w 0 sp hd fuel p.2 ((cs.drop p.1).take (P.cellsOf p.2))=some x)->∃ y,Q y/\Zcf w (cs.drop o) (c y)
theorem Zsa{P:Program}{o:Nat}:UK P o [] (fun _:Unit=>[]) (fun _=>True):=fun H enc w sp hd fuel cs _=>⟨(),trivial,fun j v t _ h=>by simp at h⟩
theorem Zcg{P:Program}{o k:Nat}{t:TypeId}{l:List (Nat×TypeId)}{α β:Type}{c:α->List Tr}{Q:α->Prop}{c2:β->List Tr}{Q2:β->Prop}
  (hk:P.cellsOf t=k) (hc:∀ x,(c x).length=k) (h1:YY P t c Q) (h2:UK P (o+k) l c2 Q2) :
  UK P o ((o,t)::l) (fun p:α×β=>c p.1++c2 p.2) (fun p=>Q p.1/\Q2 p.2):=fun H enc w sp hd fuel cs h=>by
 obtain⟨x,hx⟩:=h (o,t) (by simp)
 obtain⟨y,hy,hr⟩:=h1 _ _ _ _ _ _ _ _ hx
 obtain⟨y2,hy2,hr2⟩:=h2 H enc w sp hd fuel cs (fun p hp=>h p (by simp [hp]))
 refine⟨(y,y2),⟨hy,hy2⟩,fun j v t' hv ht=>?_⟩
 by_cases hj:j<k
 ·rw[Uap (by rw[hc];exact hj)] at ht
  refine hr j v t' ?_ ht
  rw[hk,List.getElem?_take_of_lt hj]
  exact hv
 ·rw[Uao (by rw[hc];omega),hc] at ht
  refine hr2 (j-k) v t' ?_ ht
  rw[UaG] at hv ⊢
  rw[<-hv]
  congr 1
  omega
theorem Zsb{P:Program}{t:TypeId}{fs:Array Field}{α:Type}{c:α->List Tr}{Q:α->Prop}(ht:P.underlying t=some (.struct fs))(h:UK P 0 (fs.toList.map fun f=>(f.offset,f.type)) c Q):YY P t c Q:=by
 intro H enc w sp hd fuel cs x hx
 obtain⟨xs,n,_,_,_,hl,hf⟩:=DataW.trod_struct ht hx
 have:=h H enc w sp hd n cs (fun p hp=>by
  simp only[UaL] at hp
  obtain⟨f,hf1,rfl⟩:=hp
  obtain⟨i,hi⟩:=Ua5 hf1
  have hi':fs[i]? = some f:=by simpa using hi
  have hlt:i<xs.length:=by rw[hl];exact(UaA.1 hi').1
  exact⟨_,(hf i f hi').trans (Uaf hlt)⟩)
 simpa using this
theorem Zsc{P:Program}{t:TypeId}{α β:Type}{c:α->List Tr}{Q:α->Prop}{c2:β->List Tr}{Q2:β->Prop}(g:α->β)(hg:∀ x,c2 (g x)=c x)(hq:∀ x,Q x->Q2 (g x))(h:YY P t c Q):YY P t c2 Q2:=by
 intro H enc w sp hd fuel cs x hx
 obtain⟨y,hy,hr⟩:=h H enc w sp hd fuel cs x hx
 exact⟨g y,hq y hy,by rw[hg];exact hr⟩
theorem Zsd{P:Program}{t:TypeId}{α β:Type}{c:α->List Tr}{Q:α->Prop}{c2:β->List Tr}{Q2:β->Prop}(h:YY P t c Q)(g:α->β)(hg:∀ x,c2 (g x)=c x)(hq:∀ x,Q x->Q2 (g x)):YY P t c2 Q2:=Zsc g hg hq h
end Go.Fd

namespace Go.Fd
variable [Tabs]
open Go.RowKit
def G0:Gh:=fun _ _=>none
def S0:Zc:=fun _=>none
theorem Av0{w:World}{b:Nat}(h:In w b):Av G0 S0 w b:=⟨h,fun id ob hs=>by cases hs⟩
theorem Zse{P:Program}{f:FuncId}{args:List IV}{b:Bool}{w:World}{vs:List Value}(h:Sem P f 0 args S0 (iB b) S0)(hv:Zk G0 S0 w args vs)(hg:Tabs.good w) :
  Calls P f vs.toArray w fun e w' => e = .returned (.bool b)/\Below w.heap.size w w':=by
 obtain⟨_,_,h⟩:=h
 refine(h (fun id ob hs=>by cases hs) G0 w vs ⟨fun id ob hs=>(nomatch hs),fun id ob id2 ob2 b2 hs=>(nomatch hs),fun id cells hs=>(nomatch hs)⟩ hv ⟨w,hg,Uag _,fun b hb=>⟨⟨hb,fun id ob hs=>by cases hs⟩,rfl⟩⟩).mono ?_
 rintro e w' ⟨v,G',rfl,_,hr,_,hf⟩
 have hr':Rds w' (Av G' (ZM S0 0 0 (impv true 0 0 0 (iB b)).2) w') v (.v (.bool b)):=hr
 cases hr' with
 | v x hx =>
  exact⟨rfl,hf.os,hf.tape,hf.output,hf.size,fun k hk=>hf.old k hk (fun id ob hs=>by cases hs)⟩
theorem Zsf{P:Program}{w:World}{r:Reach}{base:Nat}{t e:TypeId}{v:Value}(ht:P.underlying t=some (.slice e))(h:Value.okWide P w r base t v):v.cells.toList=[v]:=by
 unfold Value.okWide at h
 rw[ht] at h
 simp only[Cell.okWide,ht,Cell.ok] at h
 cases v <;> first | rfl | exact absurd h (by simp)
section
variable {H:Type} {enc:TypeId×Value->H} {P:Program} {w:World} {t:TypeId} {v:Value} {d:DataW H} {p:List MemPlace} {α:Type} {c:α->List Tr} {Q:α->Prop} {sp:Nat->Bool} {hd:Bool} {base:Nat}
theorem Zsg{e:TypeId}{g:α->Tr}(hr:YY P t (fun x=>[g x]) Q)(ht:P.underlying t=some (.slice e))(hok:Value.okWide P w .any base t v)(h:DataW.Trod enc P w 0 sp hd t v d p) :
  ∃ y,Q y/\VR G0 S0 w (.tr (g y)) v:=by
 obtain⟨n,hn⟩:=h
 rw[Zsf ht hok] at hn
 obtain⟨y,hy,hrow⟩:=hr H enc w sp hd n _ _ hn
 refine⟨y,hy,?_⟩
 simp only[VR]
 exact Rds.mono (fun b=>Av0) (fun b _=>rfl) (hrow 0 v _ rfl rfl)
end
theorem Zsh{H:Type}{enc:TypeId×Value->H}{P:Program}{f:Func}{s:ChangeSpec}{apart:Bool}{W W':World}{args:Array Value}{v:Value}{ds gs:List (DataW H)}{before pa pv:List MemPlace}
  (hW:DataW.Whole enc P f.params.toList s.vars apart W args.toList ds gs before) (hb:Below W.heap.size W W')
  (hres:DataW.TrodAll enc P W' W.heap.size (fun _=>false) false f.resultTypes.toList (v.resultList f.resultTypes.size) (s.fn H (ds++gs)).results [])
  (hargs:DataW.TrodAll enc P W' 0 (fun b=>decide (b<W.heap.size)) true f.params.toList args.toList (s.fn H (ds++gs)).args pa)
  (hvars:DataW.TrodVars enc P W' (fun b=>decide (b<W.heap.size)) s.vars (s.fn H (ds++gs)).vars pv) :
  s.post enc P f apart true false false W args v W' :=
 ⟨ds,gs,before,[],pa,pv,hW,hres,hargs,hvars,hb.frame _,fun h=>by cases h⟩
end Go.Fd

namespace Go.Fd
variable [Tabs]
open Go.RowKit
theorem Zsi{w w':World}(h:Below w.heap.size w w'):Ext w w':=⟨h.size,h.block,h.os,h.tape,h.output⟩
theorem X3{G:Gh}{S:Zc}{w:World}:∀{xs vs:List Value},Zk G S w (xs.map fun v=>.tr (.v v)) vs->vs=xs
 | [],vs,h=>by simpa [Zk] using h
 | x::r,vs,h=>by
  simp only[UaH,Zk] at h
  obtain⟨v,vr,rfl,h1,h2⟩:=h
  rw[X3 h2]
  have h1':Rds w (Av G S w) v (.v x):=h1
  cases h1'
  rfl
theorem Zch{G:Gh}{S:Zc}{w:World}:∀{xs:List Value},(∀ x∈xs,Ji x=true)->Zk G S w (xs.map fun v=>.tr (.v v)) xs
 | [],_=>by simp [Zk]
 | x::r,h=>by
  simp only[UaH,Zk]
  exact⟨x,r,rfl,.v x (h x (by simp)),Zch fun y hy=>h y (by simp [hy])⟩
theorem UL{P:Program}{f:FuncId}{lvl:Nat}{S:Zc}{args:List IV}{r:IV}(hc:Uh P f)(hi:impv true lvl 0 0 r=(r,[]))(hlow:low lvl r)
  (h:(∀ id ob,S id=some ob->id.1<lvl)->∀ G w vs,SOk G S w->Zk G S w args vs->Fix G S w->Calls P f vs.toArray w fun e w' => ∃ v,e = .returned v/\VR G S w' r v/\Below w.heap.size w w'):Sem P f lvl args S r S:=by
 refine⟨hlow,hc,fun hS G w vs hok hv hfx=>?_⟩
 refine(h hS G w vs hok hv hfx).mono ?_
 rintro e w' ⟨v,rfl,hr,hb⟩
 rw[hi]
 have e:Ext w w':=Zsi hb
 exact⟨v,G,rfl,hok.ext e,hr,hS,Frm.of_ext e⟩
theorem Zci{P:Program}{f:FuncId}{lvl:Nat}{S:Zc}{args:List IV}{r:IV}(hc:Uh P f)(hi:impv true lvl 0 0 r=(r,[]))(hlow:low lvl r)
  (h:(∀ id ob,S id=some ob->id.1<lvl)->∀ G w vs,SOk G S w->Zk G S w args vs->Calls P f vs.toArray w fun e w' => ∃ v,e = .returned v/\VR G S w' r v/\Below w.heap.size w w'):Sem P f lvl args S r S :=
 UL hc hi hlow fun hS G w vs hok hv _=>h hS G w vs hok hv
theorem Zga{P:Program}{f:FuncId}{lvl:Nat}{S:Zc}{xs:List Value}{y:Value}(hc:Uh P f)(hy:Ji y=true)
  (h:∀ w,Calls P f xs.toArray w fun e w' => e = .returned y/\Below w.heap.size w w'):Sem P f lvl (xs.map fun v=>.tr (.v v)) S (.tr (.v y)) S:=by
 refine Zci hc rfl trivial fun _ G w vs _ hv=>?_
 rw[X3 hv]
 exact(h w).mono fun e w' ⟨h1,h2⟩=>⟨y,h1,.v y hy,h2⟩
end Go.Fd

namespace Go.Fd
def WJ:List (Nat×IV)->List (Nat×IV)->List (Nat×IV)
 | [],env=>env
 | (t,x)::r,env=>WJ r (pt t x env)
def WK:List (Nat×Ob)->List (Nat×Ob)->List (Nat×Ob)
 | [],loc=>loc
 | (t,x)::r,loc=>WK r (ptO t x loc)
def UM(ce:List (Nat×IV))(co:List (Nat×Ob))(s:St):St:=⟨s.lvl,WJ ce s.env,WK co s.loc,s.out⟩
section
variable {C:ZB} {lvl:Nat} {env:List (Nat×IV)} {loc:List (Nat×Ob)} {out:Zc} {st:St} {Q:Ex->St->Prop}
theorem Zsj{ce:List (Nat×IV)}{co:List (Nat×Ob)}:UM ce co ⟨lvl,env,loc,out⟩=⟨lvl,WJ ce env,WK co loc,out⟩:=(rfl)
theorem Zsk:WJ [] env=env:=(rfl)
theorem Zsl{t:Nat}{x:IV}{r:List (Nat×IV)}:WJ ((t,x)::r) env=WJ r (pt t x env):=(rfl)
theorem Zsm:WK [] loc=loc:=(rfl)
theorem Zsn{t:Nat}{x:Ob}{r:List (Nat×Ob)}:WK ((t,x)::r) loc=WK r (ptO t x loc):=(rfl)
theorem Z7{α:Type}{ks js:List Nat}{c:C2}(N:Nat)(ce:Nat->α->List (Nat×IV))(co:Nat->α->List (Nat×Ob))(A:Nat->α->Prop)(x0:α)
  (h1:clean ks js st) (h0:fgt ks js st=UM (ce 0 x0) (co 0 x0) (fgt ks js st)) (hA:A 0 x0)
  (hs:∀ k x,k<=N->A k x->wp C c (UM (ce k x) (co k x) (fgt ks js st)) (X1 ks js (Zca N (fun k x=>UM (ce k x) (co k x) (fgt ks js st)) A (N-k)) Q)):wp C (.lp ks js c) st Q :=
 J3 N (fun k x=>UM (ce k x) (co k x) (fgt ks js st)) A x0 ⟨h1,h0⟩ hA hs
end
section
variable {L:Zc} {F:List IV->Prop} {r:List IV}
def Zgb(L:Zc)(r:List IV)(F:List IV->Prop)(y:IV):Prop:=ZQ L r (Vb y F)
theorem Zso{y:IV}:Zgb L r F y=ZQ L r (Vb y F):=(rfl)
theorem Zsp{id:Zd}{off:Nat}:ZQ L (.ab id off::r) F=QK (L id) L off (Zgb L r F):=by simp only[ZQ,ZU];rfl
def kta(F:IV->Prop)(ts:List Tr):Prop:=F (.ta ts)
theorem Zsq{F:IV->Prop}{ts:List Tr}:kta F ts=F (.ta ts):=(rfl)
theorem Zsr{cells:List IV}{off:Nat}{F:IV->Prop}:QK (some (.bx cells)) L off F=J8 L (cells.drop off) (kta F):=(rfl)
def kct(t:Tr)(F:List Tr->Prop)(ts:List Tr):Prop:=F (t::ts)
theorem Zss{t:Tr}{F:List Tr->Prop}{ts:List Tr}:kct t F ts=F (t::ts):=(rfl)
def Zgc(L:Zc)(r:List IV)(F:List Tr->Prop)(t:Tr):Prop:=J8 L r (kct t F)
theorem Zst{F:List Tr->Prop}{t:Tr}:Zgc L r F t=J8 L r (kct t F):=(rfl)
theorem Zsu{F:List Tr->Prop}:J8 L [] F=F []:=(rfl)
theorem Zsv{x:IV}{F:List Tr->Prop}:J8 L (x::r) F=Y1 L x (Zgc L r F):=(rfl)
theorem Zsw{t:Tr}{F:Tr->Prop}:Y1 L (.tr t) F=F t:=(rfl)
theorem Zsx{es:Ze}{F:Tr->Prop}:Y1 L (.cs es) F=F (.sl es):=(rfl)
def Zgd(off len:Nat)(F:Tr->Prop)(es:Ze)(_u:Bool)(_v:Nat):Prop:=off+len<=es.length/\F (.sl (cut es off len))
theorem Zsy{off len:Nat}{F:Tr->Prop}{es:Ze}{u:Bool}{v:Nat}:Zgd off len F es u v=(off+len<=es.length/\F (.sl (cut es off len))):=(rfl)
theorem Zsz{id:Zd}{p:Zf}{off len s:Nat}{cap:Option Nat}{F:Tr->Prop}:Y1 L (.hd id p off len cap s) F=Va (L id) p s (Zgd off len F):=by rw[<-Xz];rfl
end
theorem ZsA{α:Type}{x:α}:List.replicate 1 x=[x]:=(rfl)
theorem ZsB{e:List Tr}:cut [e] 0 1=[e]:=(rfl)
theorem ZsC{l:List Tr}:ScR [l]=(l.all isSc=true):=by
 apply propext
 constructor
 ·intro h
  exact UaZ.2 fun t ht=>h l (by simp) t ht
 ·intro h e he t ht
  simp only[UaP] at he
  subst he
  exact UaZ.1 h t ht
theorem ZsD{k:Nat}{l:List Tr}:Zs k [l]=(l.length=k):=by
 apply propext
 constructor
 ·intro h;exact h l (by simp)
 ·intro h e he
  simp only[UaP] at he
  rw[he,h]
theorem ZsE{j:Nat}:max j (j+1)=j+1:=by omega
theorem ZsF{j:Nat}:(j<j+1)=True:=by simp
end Go.Fd

namespace Go.Fd
open Go.RowKit Go.ChangeShapes Go.ChangeMaps Go.WideMaps
section
variable {H:Type} {enc:TypeId×Value->H} {P:Program} {w:World} {t:TypeId} {v:Value} {d:DataW H} {p:List MemPlace} {sp:Nat->Bool} {hd:Bool} {base:Nat}
theorem ZsG(ht:P.underlying t=some .string)(hok:Value.okWide P w .any base t v)(h:DataW.Trod enc P w 0 sp hd t v d p):∃ s:ByteArray,s.size<=9223372036854775807/\VR G0 S0 w (iS s) v:=by
 obtain⟨s,rfl,_,_,hs⟩:=open_string ht hok h
 refine⟨s,?_,.v _ rfl⟩
 unfold maxLen at hs
 omega
end
end Go.Fd

namespace Go.Fd
set_option linter.defProp false in
def EV0:=(Uaa (Uaa (Uaa (Uaa (Uaa @Zls @Zlt) (Uaa @Zlu (Uaa @Zlv @Zlw))) (Uaa (Uaa @Zlx @Zly) (Uaa @Zlz (Uaa @ZlA @ZlB)))) (Uaa (Uaa (Uaa @ZlC @ZlD) (Uaa @ZlE (Uaa @ZlF @ZlG))) (Uaa (Uaa @ZlH @ZlI) (Uaa @ZlJ (Uaa @ZlK @ZlL))))) (Uaa (Uaa (Uaa (Uaa @ZlM @ZlN) (Uaa @ZlO (Uaa @ZlP @ZlQ))) (Uaa (Uaa @ZlR @ZlS) (Uaa @ZlT (Uaa @ZlU @ZlV)))) (Uaa (Uaa (Uaa @ZlW @ZlX) (Uaa @ZlY (Uaa @ZlZ @Zl0))) (Uaa (Uaa @Zl1 @Zl2) (Uaa @Zl3 (Uaa @Zl4 @Zl5))))))
set_option linter.defProp false in
def EV1:=(Uaa (Uaa (Uaa (Uaa (Uaa @Zl6 @Zl7) (Uaa @Zl8 (Uaa @Zl9 @Zma))) (Uaa (Uaa @Zmb @Zmc) (Uaa @Zmd (Uaa @Zme @Zmf)))) (Uaa (Uaa (Uaa @Zmg @Zmh) (Uaa @Zmi (Uaa @Zmj @Zmk))) (Uaa (Uaa @Zml @Zmm) (Uaa @Zmn (Uaa @Zmo @Zmp))))) (Uaa (Uaa (Uaa (Uaa @Zmq @Zmr) (Uaa @Zms (Uaa @Zmt @Zmu))) (Uaa (Uaa @Zmv @Zmw) (Uaa @Zmx (Uaa @Zmy @Zmz)))) (Uaa (Uaa (Uaa @ZmA @ZmB) (Uaa @ZmC (Uaa @ZmD @ZmE))) (Uaa (Uaa @ZmF @ZmG) (Uaa @ZmH (Uaa @ZmI @ZmJ))))))
set_option linter.defProp false in
def EV2:=(Uaa (Uaa (Uaa (Uaa (Uaa @ZmK @ZmL) (Uaa @ZmM (Uaa @ZmN @ZmO))) (Uaa (Uaa @ZmP @ZmQ) (Uaa @ZmR (Uaa @ZmS @ZmT)))) (Uaa (Uaa (Uaa @ZmU @ZmV) (Uaa @ZmW (Uaa @ZmX @ZmY))) (Uaa (Uaa @ZmZ @Zm0) (Uaa @Zm1 (Uaa @Zm2 @Zm3))))) (Uaa (Uaa (Uaa (Uaa @Zm4 @Zm5) (Uaa @Zm6 (Uaa @Zm7 @Zm8))) (Uaa (Uaa @Zm9 @Zna) (Uaa @Znb (Uaa @Znc @Znd)))) (Uaa (Uaa (Uaa @Zne @Znf) (Uaa @Zng (Uaa @Znh @Zni))) (Uaa (Uaa @Znj @Znk) (Uaa @Znl (Uaa @Znm @Znn))))))
set_option linter.defProp false in
def EV3:=(Uaa (Uaa (Uaa (Uaa (Uaa @Zno @Znp) (Uaa @Znq (Uaa @Znr @Zns))) (Uaa (Uaa @Znt @Znu) (Uaa @Znv (Uaa @Znw @Znx)))) (Uaa (Uaa (Uaa @Zny @Znz) (Uaa @ZnA (Uaa @ZnB @ZnC))) (Uaa (Uaa @ZnD @ZnE) (Uaa @J2 (Uaa @WH @ZnF))))) (Uaa (Uaa (Uaa (Uaa @ZnG @Qs) (Uaa @ZnH (Uaa @ZnI @ZnJ))) (Uaa (Uaa @ZnK @ZnL) (Uaa @ZnM (Uaa @ZnN @ZnO)))) (Uaa (Uaa (Uaa @ZnP @ZnQ) (Uaa @ZnR (Uaa @ZnS @ZnT))) (Uaa (Uaa @ZnU @ZnV) (Uaa @ZnW (Uaa @ZnX @ZnY))))))
set_option linter.defProp false in
def EV4:=(Uaa (Uaa (Uaa (Uaa (Uaa @ZnZ @Zn0) (Uaa @Zn1 (Uaa @Zn2 @Zn3))) (Uaa (Uaa @Zn4 @Zn5) (Uaa @Zn6 (Uaa @Zn7 @Zn8)))) (Uaa (Uaa (Uaa @Zn9 @Zoa) (Uaa @Zob (Uaa @Zoc @Zod))) (Uaa (Uaa @Zoe @Zof) (Uaa @Zog (Uaa @Zoh @Zoi))))) (Uaa (Uaa (Uaa (Uaa @Zoj @ZfV) (Uaa @Zok (Uaa @Zol @Zom))) (Uaa (Uaa @Zb7 @ZfZ) (Uaa @Zon (Uaa @Zoo @Zop)))) (Uaa (Uaa (Uaa @Zf0 @Zoq) (Uaa @Zor (Uaa @Zos @Zot))) (Uaa (Uaa @Zou @Zov) (Uaa @Zow (Uaa @Zox @Zoy))))))
set_option linter.defProp false in
def EV5:=(Uaa (Uaa (Uaa (Uaa (Uaa @Zoz @ZoA) (Uaa @ZoB (Uaa @ZoC @ZoD))) (Uaa (Uaa @ZoE @ZoF) (Uaa @ZoG (Uaa @ZoH @ZoI)))) (Uaa (Uaa (Uaa @ZoJ @ZoK) (Uaa @ZoL (Uaa @ZoM @ZoN))) (Uaa (Uaa @ZoO @ZoP) (Uaa @ZoQ (Uaa @ZoR @ZoS))))) (Uaa (Uaa (Uaa (Uaa @ZoT @ZoU) (Uaa @ZoV (Uaa @ZoW @ZoX))) (Uaa (Uaa @ZoY @ZoZ) (Uaa @Zo0 (Uaa @Zo1 @Zo2)))) (Uaa (Uaa (Uaa @Zo3 @Zo4) (Uaa @Zo5 (Uaa @Zo6 @Zo7))) (Uaa (Uaa @Zo8 @Zo9) (Uaa @Zpa (Uaa @Zpb @Zpc))))))
set_option linter.defProp false in
def EV6:=(Uaa (Uaa (Uaa (Uaa (Uaa @Zpd @Zpe) (Uaa @Zpf (Uaa @Zpg @Zph))) (Uaa (Uaa @Zpi @Zpj) (Uaa @Zpk (Uaa @Zpl @Zpm)))) (Uaa (Uaa (Uaa @Zpn @Zpo) (Uaa @Zpp (Uaa @Zpq @Zpr))) (Uaa (Uaa @Zps @Zpt) (Uaa @Zpu (Uaa @Zpv @Zpw))))) (Uaa (Uaa (Uaa (Uaa @Zpx @Zpy) (Uaa @Zpz (Uaa @ZpA @ZpB))) (Uaa (Uaa @ZpC @ZpD) (Uaa @ZpE (Uaa @ZpF @ZpG)))) (Uaa (Uaa (Uaa @ZpI @ZpJ) (Uaa @ZpK (Uaa @ZpL @Jk))) (Uaa (Uaa @Jl @ZpM) (Uaa @ZpN (Uaa @ZpO @ZpP))))))
set_option linter.defProp false in
def EV7:=(Uaa (Uaa (Uaa (Uaa (Uaa @ZpQ @ZpR) (Uaa @ZpS (Uaa @ZpT @ZpU))) (Uaa (Uaa @ZpV @ZpW) (Uaa @ZpX (Uaa @ZpY @ZpZ)))) (Uaa (Uaa (Uaa @Zp0 @Zp1) (Uaa @Zp2 (Uaa @Zp3 @Zp4))) (Uaa (Uaa @Zp5 @Zp6) (Uaa @Zp7 (Uaa @Zp8 @Zp9))))) (Uaa (Uaa (Uaa (Uaa @Zqa @Zqb) (Uaa @Zqc (Uaa @Zqd @Zqe))) (Uaa (Uaa @Zqf @Zqg) (Uaa @Zqh (Uaa @Zqi @Zqj)))) (Uaa (Uaa (Uaa @Zqk @Zql) (Uaa @Zqm (Uaa @Zqn @Zqo))) (Uaa (Uaa @Zqp @Zqq) (Uaa @Zqr (Uaa @Zqs @Zqt))))))
set_option linter.defProp false in
def EV8:=(Uaa (Uaa (Uaa (Uaa (Uaa @Zqu @Zqv) (Uaa @Zqw (Uaa @Zqx @Zqy))) (Uaa (Uaa @Zqz @ZqA) (Uaa @ZqB (Uaa @ZqC @ZqD)))) (Uaa (Uaa (Uaa @ZqE @ZqF) (Uaa @ZqG (Uaa @ZqH @ZqI))) (Uaa (Uaa @ZqJ @ZqK) (Uaa @ZqL (Uaa @ZqM @ZqN))))) (Uaa (Uaa (Uaa (Uaa @ZqO @ZqP) (Uaa @ZqQ (Uaa @ZqR @ZqS))) (Uaa (Uaa @ZqT @ZqU) (Uaa @ZqV (Uaa @ZqW @ZqX)))) (Uaa (Uaa (Uaa @ZqY @ZqZ) (Uaa @Zq0 (Uaa @Zq1 @Zq2))) (Uaa (Uaa @Zq3 @Zq4) (Uaa @Zq5 (Uaa @Zq6 @Zq7))))))
set_option linter.defProp false in
def EV9:=(Uaa (Uaa (Uaa (Uaa (Uaa @Zq8 @Zq9) (Uaa @Zra (Uaa @Zrb @Zcc))) (Uaa (Uaa @Zab @Zrc) (Uaa @Zrd (Uaa @Zre @Zrf)))) (Uaa (Uaa (Uaa @Zrg @Zrh) (Uaa @Zri (Uaa @Zrj @Zrk))) (Uaa (Uaa @Zrl @Zrm) (Uaa @Zrn (Uaa @Zro @Zrp))))) (Uaa (Uaa (Uaa (Uaa @Zrq @Zrr) (Uaa @Zrs (Uaa @Zrt @Zru))) (Uaa (Uaa @Zrv @Zrw) (Uaa @Zrx (Uaa @Zry @Zrz)))) (Uaa (Uaa (Uaa @ZrA @ZrB) (Uaa @ZrC (Uaa @ZrD @ZrE))) (Uaa (Uaa @ZrF @ZrG) (Uaa @ZrH (Uaa @ZrI @ZrJ))))))
set_option linter.defProp false in
def ZsH:=(Uaa (Uaa (Uaa (Uaa (Uaa @ZrK @ZrL) (Uaa @ZrM (Uaa @ZrN @ZrO))) (Uaa (Uaa @ZrP @ZrQ) (Uaa @ZrR (Uaa @ZrS @ZrT)))) (Uaa (Uaa (Uaa @ZrU @ZrV) (Uaa @ZrW (Uaa @ZrX @ZrY))) (Uaa (Uaa @ZrZ @Zr0) (Uaa @Zr1 (Uaa @Zr2 @Zr3))))) (Uaa (Uaa (Uaa (Uaa @Zr4 @Zsj) (Uaa @Zsk (Uaa @Zsl @Zsm))) (Uaa (Uaa @Zsn @Zso) (Uaa @Zsp (Uaa @Zsq @Zsr)))) (Uaa (Uaa (Uaa @Zss @Zst) (Uaa @Zsu (Uaa @Zsv @Zsw))) (Uaa (Uaa @Zsx @Zsy) (Uaa @Zsz (Uaa @ZsA @ZsB))))))
set_option linter.defProp false in
def ZsI:=(Uaa (Uaa (Uaa (Uaa (Uaa @ZsC @ZsD) (Uaa @ZsE (Uaa @ZsF @bigN.eq_1))) (Uaa (Uaa @fpart.eq_1 @fpart.eq_2) (Uaa @okp.eq_1 (Uaa @okp.eq_2 @zfill.eq_1)))) (Uaa (Uaa (Uaa @zfill.eq_2 @zobs.eq_1) (Uaa @ptd.eq_1 (Uaa @ptd.eq_2 @keyOf.eq_1))) (Uaa (Uaa @keyOf.eq_2 @freshK.eq_1) (Uaa @freshK.eq_2 (Uaa @lk.eq_1 @lk.eq_2))))) (Uaa (Uaa (Uaa (Uaa @pt.eq_1 @pt.eq_2) (Uaa @lkO.eq_1 (Uaa @lkO.eq_2 @ptO.eq_1))) (Uaa (Uaa @ptO.eq_2 @addO.eq_1) (Uaa @addO.eq_2 (Uaa @xv.eq_1 @xv.eq_2)))) (Uaa (Uaa (Uaa @xv.eq_3 @kv.eq_1) (Uaa @kv.eq_2 (Uaa @kc.eq_1 @kc.eq_2))) (Uaa (Uaa @params.eq_1 @params.eq_2) (Uaa @trv.eq_1 (Uaa @trv.eq_2 @List.length_cons.{0}))))))
set_option linter.defProp false in
def ZsJ:=(Uaa (Uaa (Uaa (Uaa (Uaa @List.length_nil.{0} @Option.getD_some.{0}) (Uaa @Option.getD_none.{0} (Uaa @true_and @and_true))) (Uaa (Uaa @decide_eq_true_eq @decide_true) (Uaa @decide_false (Uaa @Option.map_some.{0,0} @Option.map_none.{0,0})))) (Uaa (Uaa (Uaa @Option.isSome_some.{0} @Option.isSome_none.{0}) (Uaa @Option.isNone_some.{0} (Uaa @Option.isNone_none.{0} @UaH.{0,0}))) (Uaa (Uaa @UaT.{0,0} @List.cons_append.{0}) (Uaa @List.nil_append.{0} (Uaa @List.getElem?_cons_zero.{0} @List.getElem?_cons_succ.{0}))))) (Uaa (Uaa (Uaa (Uaa @UbV.{0} @Ubi.{0}) (Uaa @List.take_succ_cons.{0} (Uaa @List.take_zero.{0} @List.headD_cons.{0}))) (Uaa (Uaa @List.headD_nil.{0} @List.tail_cons.{0}) (Uaa @List.tail_nil.{0} (Uaa @noSh.eq_1 @noSh.eq_2)))) (Uaa (Uaa (Uaa @noSh.eq_3 @noSh.eq_4) (Uaa @noSh.eq_5 (Uaa @noSh.eq_6 @noSh.eq_7))) (Uaa (Uaa @noSh.eq_8 @noShs.eq_1) (Uaa @noShs.eq_2 (Uaa @isSc.eq_1 @isSc.eq_2))))))
set_option linter.defProp false in
def ZsK:=(Uaa (Uaa (Uaa (Uaa (Uaa @impv.eq_1 @impv.eq_2) (Uaa @impv.eq_3 (Uaa @impv.eq_4 @impvs.eq_1))) (Uaa (Uaa @impvs.eq_2 @impc.eq_1) (Uaa @impc.eq_2 (Uaa @memB.eq_1 @memB.eq_2)))) (Uaa (Uaa (Uaa @keepB.eq_1 @keepB.eq_2) (Uaa @keepOB.eq_1 (Uaa @keepOB.eq_2 @or_true))) (Uaa (Uaa @true_or @or_false) (Uaa @false_or (Uaa @Ua2 @Bool.true_eq_false))))) (Uaa (Uaa (Uaa (Uaa @if_true.{1} @if_false.{1}) (Uaa @Bool.not_true (Uaa @Bool.not_false @scrE.eq_1))) (Uaa (Uaa @scrE.eq_2 @scrL.eq_1) (Uaa @scrL.eq_2 (Uaa @scr.eq_1 @scr.eq_2)))) (Uaa (Uaa (Uaa @scr.eq_3 @scr.eq_4) (Uaa @scr.eq_5 (Uaa @scr.eq_6 @scr.eq_7))) (Uaa (Uaa @scr.eq_8 @scrs.eq_1) (Uaa @scrs.eq_2 (Uaa @scrOb.eq_1 @scrOb.eq_2))))))
set_option linter.defProp false in
def ZsL:=(Uaa (Uaa (Uaa (Uaa (Uaa @rmO.eq_1 @rmO.eq_2) (Uaa @Int.toNat_natCast (Uaa @Int.toNat_zero @Int.toNat_one))) (Uaa (Uaa @List.all_cons.{0} @List.all_nil.{0}) (Uaa @isCell.eq_1 (Uaa @isCell.eq_2 @isCell.eq_3)))) (Uaa (Uaa (Uaa @isCell.eq_4 @isCell.eq_5) (Uaa @isCell.eq_6 (Uaa @Uby @Bool.true_and))) (Uaa (Uaa @Bool.and_self @cellsOf.eq_1) (Uaa @cellsOf.eq_2 (Uaa @totr.eq_1 @totr.eq_2))))) (Uaa (Uaa (Uaa (Uaa @totr.eq_3 @totr.eq_4) (Uaa @totr.eq_5 (Uaa @totrs.eq_1 @totrs.eq_2))) (Uaa (Uaa @tocs.eq_1 @getp.eq_1) (Uaa @getp.eq_2 (Uaa @cvt.eq_1 @cvt.eq_2)))) (Uaa (Uaa (Uaa @cvts.eq_1 @cvts.eq_2) (Uaa @Uay (Uaa @Nat.add_zero @List.set_cons_zero.{0}))) (Uaa (Uaa @List.set_cons_succ.{0} @Uaw) (Uaa @Bool.not_eq_false' (Uaa @Ua8 @Uag))))))
set_option linter.defProp false in
def ZsM:=(Uaa (Uaa (Uaa @UbJ.{0,0} @ne_eq.{1}) (Uaa @not_false_eq_true (Uaa @not_true_eq_false @Uab.{0,0}))) (Uaa (Uaa @UbS.{0} (Uaa @List.replicate_zero.{0} @and_false)) (Uaa @false_and (Uaa @and_self @Int.cast_ofNat_Int))))
set_option linter.defProp false in
def Zb:=(Uaa (Uaa (Uaa (Uaa EV0 EV1) (Uaa EV2 EV3)) (Uaa (Uaa EV4 EV5) (Uaa EV6 EV7))) (Uaa (Uaa (Uaa EV8 EV9) (Uaa ZsH ZsI)) (Uaa (Uaa ZsJ ZsK) (Uaa ZsL ZsM))))
abbrev oo(d:Nat)(x:O):OP:=⟨some d,none,x⟩
abbrev Jf(x:O):OP:=⟨none,none,x⟩
abbrev og(d j:Nat)(w:Bool)(x:O):OP:=⟨some d,some (j,w),x⟩
abbrev om(d:Nat)(x:X):OP:=⟨some d,none,.mv x none⟩
abbrev rg(l:List OP):C2:=.rg none l
abbrev i6(n:Int):X:=.k (.int .i64 n)
open Go.Proofs.Tryz renaming prog->UbY
def Zcj(P:Program)(w:World):Prop:=Go.Lib.TabIs P w "internal/strconv.uint64pow10" .u64 Go.Lib.pow10Tab/\(∃ m,w.cell? ⟨0,0,none⟩=some (.int .i64 m))/\(∃ t p,w.var? P "strconv.ErrSyntax" = some #[.iface t p])/\∃ t p,w.var? P "strconv.ErrRange" = some #[.iface t p]
instance tabsP:Tabs:=⟨Zcj UbY⟩
set_option maxRecDepth 10000
theorem Zu{c:Prop}[Decidable c]{p q:Prop}(h1:c->p)(h2:¬ c->q):if c then p else q:=by
 split
 ·exact h1 ‹_›
 ·exact h2 ‹_›
def Vc{α:Type}(f:α->Int->Int):List α->Int->Int
 | [],l=>l
 | x::r,l=>if f x l<0 then -1 else Vc f r (f x l)
def Qu{α:Type}(f:α->Int->Int)(a:List α)(left:Int):Int:=if left-a.length<0 then -1 else Vc f a (left-a.length)
def Zck(k:Nat)(m:Option Nat)(fid:FuncId):F2 :=
 { nt:=27,res:=[.t 4 [0]],body:=(.sq (.rg none [⟨some 4,none,.mv (.k (.int .i64 0)) none⟩]) (.sq (.rg none [⟨some 6,none,.mv (.t 1) none⟩,
   ⟨some 7,none,.mv (.t 0) none⟩,
   ⟨some 8,none,.ln (.t 7)⟩,
   ⟨some 9,none,.bi .sub 0 (.t 6) (.t 8)⟩,
   ⟨some 1,none,.mv (.t 9) none⟩]) (.sq (.sq (.rg none [⟨some 10,none,.mv (.t 1) none⟩,
    ⟨some 11,none,.bi .lss 0 (.t 10) (.k (.int .i64 0))⟩]) (.cd (.t 11) (.sq (.rg none [⟨some 4,none,.mv (.k (.int .i64 (-1))) none⟩]) (.rt)) (.sk))) (.sq (.sq (.rg none [⟨some 5,none,.mv (.k (.int .i64 0)) none⟩]) (.bl 0 (.lp [0,1,5] [] (.sq (.sq (.rg none [⟨some 12,none,.mv (.t 5) none⟩,
     ⟨some 13,none,.mv (.t 0) none⟩,
     ⟨some 14,none,.ln (.t 13)⟩,
     ⟨some 15,none,.bi .lss 0 (.t 12) (.t 14)⟩]) (.cd (.t 15) (.sk) (.ex 0))) (.sq (.bl 1 (.sq (.rg none [⟨some 18,none,.mv (.t 0) none⟩,
      ⟨some 19,none,.mv (.t 5) none⟩,
      ⟨some 20,none,.ia k (.t 18) (.t 19)⟩,
      ⟨some 21,none,.ld m (.t 20)⟩,
      ⟨some 22,none,.mv (.t 1) none⟩,
      ⟨some 23,none,.ca .pure false (.f fid) [.t 21,.t 22]⟩,
      ⟨some 1,none,.mv (.t 23) none⟩]) (.sq (.rg none [⟨some 24,none,.mv (.t 1) none⟩,
      ⟨some 25,none,.bi .lss 0 (.t 24) (.k (.int .i64 0))⟩]) (.cd (.t 25) (.sq (.rg none [⟨some 4,none,.mv (.k (.int .i64 (-1))) none⟩]) (.rt)) (.sk))))) (.rg none [⟨some 16,none,.mv (.t 5) none⟩,
    ⟨some 17,none,.bi .add 0 (.t 16) (.k (.int .i64 1))⟩,
    ⟨some 5,none,.mv (.t 17) none⟩])))))) (.sq (.rg none [⟨some 26,none,.mv (.t 1) none⟩,
   ⟨some 4,none,.mv (.t 26) none⟩]) (.rt)))))) }
theorem ZsN{P:Program}{fid fe:FuncId}{k:Nat}(hc:Zv P fid (Zck k (some k) fe)=true){α:Type}(c:α->List Tr)(f:α->Int->Int)(hk:∀ x,(c x).length=k)(a:List α)(left:Int)(h:a.length<=9223372036854775807)(h0:0<=left)(h1:left<=1048576)
  (hf:∀ x∈a,∀ l:Int,0<=l->l<=1048576->f x l<=l/\∀ lvl S,Sem P fe lvl [.ag ((c x).map .tr),iI l] S (iI (f x l)) S) (lvl:Nat) (S:Zc) :
  Sem P fid lvl [.tr (.sl (a.map c)),iI left] S (iI (Qu f a left)) S:=by
 refine ZA hc trivial ?_
 simp only[Zck,Uab,Zb,seval,Za,men]
 refine⟨by rw[Zl];omega,?_⟩
 unfold Qu
 split
 ·rfl
 ·rename_i hlt
  generalize hr:Vc f a (left-a.length)=total
  refine J3 (α:=Int) a.length (fun j l=>⟨lvl,[(0,.tr (.sl (a.map c))),(1,iI l),(5,iI j)],[],S⟩) (fun j l=>0<=l/\l<=1048576/\Vc f (a.drop j) l=total) (left-a.length) ⟨by simp only[Zb,seval,Za,men],by (simp only[Zb,seval,Za,men]) <;> rfl⟩ ⟨by omega,by omega,hr⟩ ?_
  intro j l hj ⟨hl0,hl1,hl⟩
  simp only[Uab,Zb,seval,Za,men]
  split
  ·rename_i hlt
   have hja:j<a.length:=by omega
   have ga:(a.map c)[j]? = some (c a[j]):=by simp [hja]
   have hkk:=hk a[j]
   have htk:(c a[j]).take k=c a[j]:=Uas (by omega)
   rw[Ua3 hja] at hl
   obtain⟨hle,hsem⟩:=hf a[j] (Ual hja) l hl0 hl1
   simp only[ga,hkk,htk,Ua8,Uag,Zb,seval,Za,men]
   refine Zi hsem ?_
   simp only[Zb,seval,Za,men]
   split
   ·rename_i hneg
    simp only[Vc,if_pos hneg] at hl
    rw[hl]
   ·rename_i hneg
    simp only[Vc,if_neg hneg] at hl
    refine⟨by rw[Zl];omega,ZC (f a[j] l) hja rfl ⟨by omega,by omega,hl⟩⟩
  ·rename_i hge
   have:j=a.length:=by omega
   subst this
   simp only[Ubr,Vc] at hl
   rw[hl]
def X4(k:Nat)(m:Option Nat)(fid:FuncId):F2 :=
 { nt:=27,res:=[.t 4 [0]],body:=(.sq (.rg none [⟨some 4,none,.mv (.k (.bool false)) none⟩]) (.sq (.sq (.rg none [⟨some 6,none,.mv (.t 0) none⟩,
    ⟨some 7,none,.ln (.t 6)⟩,
    ⟨some 8,none,.mv (.t 1) none⟩,
    ⟨some 9,none,.ln (.t 8)⟩,
    ⟨some 10,none,.bi .neq 0 (.t 7) (.t 9)⟩]) (.cd (.t 10) (.sq (.rg none [⟨some 4,none,.mv (.k (.bool false)) none⟩]) (.rt)) (.sk))) (.sq (.sq (.rg none [⟨some 5,none,.mv (.k (.int .i64 0)) none⟩]) (.bl 0 (.lp [0,1,5] [] (.sq (.sq (.rg none [⟨some 11,none,.mv (.t 5) none⟩,
     ⟨some 12,none,.mv (.t 0) none⟩,
     ⟨some 13,none,.ln (.t 12)⟩,
     ⟨some 14,none,.bi .lss 0 (.t 11) (.t 13)⟩]) (.cd (.t 14) (.sk) (.ex 0))) (.sq (.bl 1 (.sq (.rg (some 0) [⟨some 17,none,.mv (.t 0) none⟩,
      ⟨some 18,none,.mv (.t 5) none⟩,
      ⟨some 19,none,.ia k (.t 17) (.t 18)⟩,
      ⟨some 20,none,.ld m (.t 19)⟩,
      ⟨some 21,none,.mv (.t 1) none⟩,
      ⟨some 22,none,.mv (.t 5) none⟩,
      ⟨some 23,none,.ia k (.t 21) (.t 22)⟩,
      ⟨some 24,none,.ld m (.t 23)⟩,
      ⟨some 25,none,.ca .pure false (.f fid) [.t 20,.t 24]⟩,
      ⟨some 26,none,.nt (.t 25)⟩]) (.cd (.t 26) (.sq (.rg none [⟨some 4,none,.mv (.k (.bool false)) none⟩]) (.rt)) (.sk)))) (.rg none [⟨some 15,none,.mv (.t 5) none⟩,
    ⟨some 16,none,.bi .add 0 (.t 15) (.k (.int .i64 1))⟩,
    ⟨some 5,none,.mv (.t 16) none⟩])))))) (.sq (.rg none [⟨some 4,none,.mv (.k (.bool true)) none⟩]) (.rt))))) }
theorem Zcl{α:Type}{a b:List α}{j:Nat}(ha:j<a.length)(hb:j<b.length)(h:a[j]≠b[j]):a≠b:=by
 intro e;subst e;exact h rfl
theorem Zcm{α:Type}{a b:List α}(hl:a.length=b.length)(h:a.take a.length=b.take a.length):a=b:=by
 rw[UaC,hl,UaC] at h;exact h
theorem Zcn{α:Type}{a b:List α}{j:Nat}(ha:j<a.length)(hb:j<b.length)(h:a.take j=b.take j)(e:a[j]=b[j]):a.take (j+1)=b.take (j+1):=by
 rw[Uah ha,Uah hb,h,e]
theorem Zge{P:Program}{fid fe:FuncId}{k:Nat}(hc:Zv P fid (X4 k (some k) fe)=true){α:Type}[DecidableEq α](c:α->List Tr)(hk:∀ x,(c x).length=k)(a b:List α)(ha:a.length<=9223372036854775807)
  (hf:∀ x∈a,∀ y∈b,∀ lvl S,Sem P fe lvl [.ag ((c x).map .tr),.ag ((c y).map .tr)] S (iB (decide (x=y))) S) (lvl:Nat) (S:Zc) :
  Sem P fid lvl [.tr (.sl (a.map c)),.tr (.sl (b.map c))] S (iB (decide (a=b))) S:=by
 refine ZA hc trivial ?_
 simp only[X4,Uab,Zb,seval,Za,men]
 split
 ·rename_i h
  have:¬ a=b:=fun e=>h (by rw[e])
  simp [this]
 ·rename_i h
  have hlen:a.length=b.length:=by omega
  refine J3 (α:=Unit) a.length (fun j _=>⟨lvl,[(0,.tr (.sl (a.map c))),(1,.tr (.sl (b.map c))),(5,iI j)],[],S⟩) (fun j _=>a.take j=b.take j) () ⟨by simp only[Zb,seval,Za,men],by (simp only[Zb,seval,Za,men]) <;> rfl⟩ rfl ?_
  intro j _ hj hA
  simp only[Uab,Zb,seval,Za,men]
  split
  ·rename_i hlt
   have hja:j<a.length:=by omega
   have hjb:j<b.length:=by omega
   have ga:(a.map c)[j]? = some (c a[j]):=by simp [hja]
   have gb:(b.map c)[j]? = some (c b[j]):=by simp [hjb]
   have hka:=hk a[j]
   have hkb:=hk b[j]
   have hta:(c a[j]).take k=c a[j]:=Uas (by omega)
   have htb:(c b[j]).take k=c b[j]:=Uas (by omega)
   have hsem:=hf a[j] (Ual hja) b[j] (Ual hjb)
   simp only[ga,gb,hka,hkb,hta,htb,Ua8,Uag,Zb,seval,Za,men]
   refine Zi hsem ?_
   simp only[Uaw,Zb,seval,Za,men]
   split
   ·rename_i hne
    have:¬ a=b:=Zcl hja hjb (by simpa using hne)
    simp [this]
   ·rename_i he
    refine⟨by rw[Zl];omega,ZC () hja rfl (Zcn hja hjb hA (by simpa using he))⟩
  ·rename_i hge
   have:j=a.length:=by omega
   subst this
   have:a=b:=Zcm hlen hA
   simp [this]
def Zco:F2 :=
 { nt:=26,res:=[.t 4 [0]],body:=(.sq (.rg none [⟨some 4,none,.mv (.k (.bool false)) none⟩]) (.sq (.sq (.rg none [⟨some 6,none,.mv (.t 0) none⟩,
    ⟨some 7,none,.ln (.t 6)⟩,
    ⟨some 8,none,.mv (.t 1) none⟩,
    ⟨some 9,none,.ln (.t 8)⟩,
    ⟨some 10,none,.bi .neq 0 (.t 7) (.t 9)⟩]) (.cd (.t 10) (.sq (.rg none [⟨some 4,none,.mv (.k (.bool false)) none⟩]) (.rt)) (.sk))) (.sq (.sq (.rg none [⟨some 5,none,.mv (.k (.int .i64 0)) none⟩]) (.bl 0 (.lp [0,1,5] [] (.sq (.sq (.rg none [⟨some 11,none,.mv (.t 5) none⟩,
     ⟨some 12,none,.mv (.t 0) none⟩,
     ⟨some 13,none,.ln (.t 12)⟩,
     ⟨some 14,none,.bi .lss 0 (.t 11) (.t 13)⟩]) (.cd (.t 14) (.sk) (.ex 0))) (.sq (.bl 1 (.sq (.rg (some 0) [⟨some 17,none,.mv (.t 0) none⟩,
      ⟨some 18,none,.mv (.t 5) none⟩,
      ⟨some 19,none,.ia 1 (.t 17) (.t 18)⟩,
      ⟨some 20,none,.ld none (.t 19)⟩,
      ⟨some 21,none,.mv (.t 1) none⟩,
      ⟨some 22,none,.mv (.t 5) none⟩,
      ⟨some 23,none,.ia 1 (.t 21) (.t 22)⟩,
      ⟨some 24,none,.ld none (.t 23)⟩,
      ⟨some 25,none,.bi .neq 0 (.t 20) (.t 24)⟩]) (.cd (.t 25) (.sq (.rg none [⟨some 4,none,.mv (.k (.bool false)) none⟩]) (.rt)) (.sk)))) (.rg none [⟨some 15,none,.mv (.t 5) none⟩,
    ⟨some 16,none,.bi .add 0 (.t 15) (.k (.int .i64 1))⟩,
    ⟨some 5,none,.mv (.t 16) none⟩])))))) (.sq (.rg none [⟨some 4,none,.mv (.k (.bool true)) none⟩]) (.rt))))) }
theorem ZsO{P:Program}{fid:FuncId}(hc:Zv P fid Zco=true)(a b:List Int)(ha:a.length<=9223372036854775807)(lvl:Nat)(S:Zc):Sem P fid lvl [tI a,tI b] S (iB (decide (a=b))) S:=by
 refine ZA hc trivial ?_
 simp only[Zco,Uab,Zb,seval,Za,men]
 split
 ·rename_i h
  have:¬ a=b:=fun e=>h (by rw[e])
  simp [this]
 ·rename_i h
  have hlen:a.length=b.length:=by omega
  refine J3 (α:=Unit) a.length (fun j _=>⟨lvl,[(0,tI a),(1,tI b),(5,iI j)],[],S⟩) (fun j _=>a.take j=b.take j) () ⟨by simp only[Zb,seval,Za,men],by (simp only[Zb,seval,Za,men]) <;> rfl⟩ rfl ?_
  intro j _ hj hA
  simp only[Uab,Zb,seval,Za,men]
  split
  ·rename_i hlt
   have hja:j<a.length:=by omega
   have hjb:j<b.length:=by omega
   have ga:(rI a)[j]? = some [tv a[j]]:=by simp [hja]
   have gb:(rI b)[j]? = some [tv b[j]]:=by simp [hjb]
   simp only[ga,gb,Ua8,Uag,Zb,seval,Za,men]
   split
   ·rename_i hne
    have:¬ a=b:=Zcl hja hjb (by simpa using hne)
    simp [this]
   ·rename_i he
    refine⟨by rw[Zl];omega,ZC () hja rfl (Zcn hja hjb hA (by simpa using he))⟩
  ·rename_i hge
   have:j=a.length:=by omega
   subst this
   have:a=b:=Zcm hlen hA
   simp [this]
def Vd{α:Type}(c:α->List Tr)(z:List Tr)(a:List α)(j:Nat):Ze:=(a.take j).map c++List.replicate (a.length-j) z
theorem ZsP{α:Type}(c:α->List Tr)(z:List Tr)(a:List α):Vd c z a 0=List.replicate a.length z:=by simp [Vd]
theorem ZsQ{α:Type}(c:α->List Tr)(z:List Tr)(a:List α):Vd c z a a.length=a.map c:=by simp [Vd]
theorem ZsR{α:Type}{c:α->List Tr}{z:List Tr}{a:List α}{j:Nat}(h:j<=a.length):(Vd c z a j).length=a.length:=by
 simp [Vd];omega
theorem ZsS{α:Type}{c:α->List Tr}{z:List Tr}{a:List α}{j:Nat}(h:j<a.length):(Vd c z a j)[j]? = some z:=by
 unfold Vd
 have h1:((a.take j).map c).length=j:=by rw[Uab,Uak];omega
 rw[Uao (by omega),h1,Ubw,Ubx]
 rw[if_pos (by omega)]
theorem ZsT{α:Type}{c:α->List Tr}{z e:List Tr}{a:List α}{j:Nat}(h:j<a.length)(he:e=c a[j]):(Vd c z a j).set j e=Vd c z a (j+1):=by
 subst he
 unfold Vd
 have h1:((a.take j).map c).length=j:=by simp;omega
 rw[UbR _ _ (by omega),h1,Ubw,show a.length-j=(a.length-(j+1))+1 from by omega,List.replicate_succ,List.set_cons_zero,Uah h,Uaz]
 simp
theorem ZsU{P:Program}{fid fe:FuncId}(hc:Zv P fid (X4 1 none fe)=true){α:Type}[DecidableEq α](t:α->Tr)(a b:List α)(ha:a.length<=9223372036854775807)
  (hf:∀ x∈a,∀ y∈b,∀ lvl S,Sem P fe lvl [.tr (t x),.tr (t y)] S (iB (decide (x=y))) S) (lvl:Nat) (S:Zc) :
  Sem P fid lvl [.tr (.sl (a.map fun x=>[t x])),.tr (.sl (b.map fun x=>[t x]))] S (iB (decide (a=b))) S:=by
 refine ZA hc trivial ?_
 simp only[X4,Uab,Zb,seval,Za,men]
 split
 ·rename_i h
  have:¬ a=b:=fun e=>h (by rw[e])
  simp [this]
 ·rename_i h
  have hlen:a.length=b.length:=by omega
  refine J3 (α:=Unit) a.length (fun j _=>⟨lvl,[(0,.tr (.sl (a.map fun x=>[t x]))),(1,.tr (.sl (b.map fun x=>[t x]))),(5,iI j)],[],S⟩) (fun j _=>a.take j=b.take j) () ⟨by simp only[Zb,seval,Za,men],by (simp only[Zb,seval,Za,men]) <;> rfl⟩ rfl ?_
  intro j _ hj hA
  simp only[Uab,Zb,seval,Za,men]
  split
  ·rename_i hlt
   have hja:j<a.length:=by omega
   have hjb:j<b.length:=by omega
   have ga:(a.map fun x=>[t x])[j]? = some [t a[j]]:=by simp [hja]
   have gb:(b.map fun x=>[t x])[j]? = some [t b[j]]:=by simp [hjb]
   have hsem:=hf a[j] (Ual hja) b[j] (Ual hjb)
   simp only[ga,gb,Ua8,Uag,Zb,seval,Za,men]
   refine Zi hsem ?_
   simp only[Uaw,Zb,seval,Za,men]
   split
   ·rename_i hne
    have:¬ a=b:=Zcl hja hjb (by simpa using hne)
    simp [this]
   ·rename_i he
    refine⟨by rw[Zl];omega,ZC () hja rfl (Zcn hja hjb hA (by simpa using he))⟩
  ·rename_i hge
   have:j=a.length:=by omega
   subst this
   have:a=b:=Zcm hlen hA
   simp [this]
end Go.Fd

namespace Go.Fd
variable [Tabs]
def Jc:Ze->Zf->Ze->Ze
 | _,[],r=>r
 | es,(a,b)::p,r =>
  match es[a]? with
  | some e =>
   match e[b]? with
   | some (.sl es')=>es.set a (e.set b (.sl (Jc es' p r)))
   | _=>es
  | none=>es
theorem Zcp{es es':Ze}{a b:Nat}{p:Zf}{e:List Tr}(h1:es[a]? = some e)(h2:e[b]? = some (.sl es')):getp es ((a,b)::p)=getp es' p:=by
 simp only[getp,h1,h2]
theorem Qv{es es':Ze}{a b:Nat}{p:Zf}{e:List Tr}{r:Ze}(h1:es[a]? = some e)(h2:e[b]? = some (.sl es')):Jc es ((a,b)::p) r=es.set a (e.set b (.sl (Jc es' p r))):=by
 simp only[Jc,h1,h2]
theorem ZsV{es es':Ze}{a b i f:Nat}{p:Zf}{e:List Tr}{t:Tr}(h1:es[a]? = some e)(h2:e[b]? = some (.sl es')):ZJ es ((a,b)::p) i f t=es.set a (e.set b (.sl (ZJ es' p i f t))):=by
 simp only[ZJ,h1,h2]
theorem WL{es r0:Ze}{a b:Nat}{p:Zf}(h:getp es ((a,b)::p)=some r0):∃ e es',es[a]? = some e/\e[b]? = some (.sl es')/\getp es' p=some r0:=by
 simp only[getp] at h
 cases h1:es[a]? with
 | none=>rw[h1] at h;cases h
 | some e =>
  rw[h1] at h
  cases h2:e[b]? with
  | none=>simp only[h2] at h;cases h
  | some t =>
   simp only[h2] at h
   cases t with
   | v x=>cases h
   | sl es' => exact⟨e,es',rfl,h2,h⟩
theorem WM{α:Type}{l:List α}{a:Nat}{x y:α}(h:l[a]? = some x):(l.set a y)[a]? = some y:=by
 rw[UbB];exact(Uac.1 h).1
theorem WN{r:Ze}:∀{p:Zf} {es r0:Ze},getp es p=some r0->getp (Jc es p r) p=some r
 | [],_,_,_=>rfl
 | (a,b)::p,es,r0,h=>by
  obtain⟨e,es',h1,h2,h3⟩:=WL h
  rw[Qv h1 h2,Zcp (WM h1) (WM h2)]
  exact WN h3
theorem Zgf{r s:Ze}:∀{p:Zf} {es r0:Ze},getp es p=some r0->Jc (Jc es p r) p s=Jc es p s
 | [],_,_,_=>rfl
 | (a,b)::p,es,r0,h=>by
  obtain⟨e,es',h1,h2,h3⟩:=WL h
  rw[Qv h1 h2,Qv h1 h2,Qv (WM h1) (WM h2),Zgf h3,UbE,UbE]
theorem Zgg{r:Ze}{i f:Nat}{t:Tr}{e0:List Tr}(hi:r[i]? = some e0):∀{p:Zf} {es r0:Ze},getp es p=some r0->ZJ (Jc es p r) p i f t=Jc es p (r.set i (e0.set f t))
 | [],es,_,_=>by simp only[Jc,ZJ,hi]
 | (a,b)::p,es,r0,h=>by
  obtain⟨e,es',h1,h2,h3⟩:=WL h
  rw[Qv h1 h2,Qv h1 h2,ZsV (WM h1) (WM h2),Zgg hi h3,UbE,UbE]
theorem Zgh{q:Zf}:∀{p:Zf} {es r0:Ze},getp es p=some r0->getp es (p++q)=getp r0 q
 | [],es,r0,h=>by simp only[getp,Uam] at h;subst h;rfl
 | (a,b)::p,es,r0,h=>by
  obtain⟨e,es',h1,h2,h3⟩:=WL h
  rw[List.cons_append,Zcp h1 h2]
  exact Zgh h3
theorem Zgi{q:Zf}{z:Ze}:∀{p:Zf} {es r0:Ze},getp es p=some r0->Jc es (p++q) z=Jc es p (Jc r0 q z)
 | [],es,r0,h=>by simp only[getp,Uam] at h;subst h;rfl
 | (a,b)::p,es,r0,h=>by
  obtain⟨e,es',h1,h2,h3⟩:=WL h
  rw[List.cons_append,Qv h1 h2,Qv h1 h2,Zgi h3]
theorem Zcq{α:Type}{l:List α}{a:Nat}{x:α}(h:l[a]? = some x):l.set a x=l:=by
 obtain⟨h1,h2⟩:=Uac.1 h
 rw[<-h2,List.set_getElem_self]
theorem Zgj:∀{p:Zf} {es r:Ze},getp es p=some r->Jc es p r=es
 | [],es,r,h=>by simp only[getp,Uam] at h;subst h;rfl
 | (a,b)::p,es,r,h=>by
  obtain⟨e,es',h1,h2,h3⟩:=WL h
  rw[Qv h1 h2,Zgj h3,Zcq h2,Zcq h1]
theorem Q9{S:Zc}{id:Zd}{a b:Ob}:Zh (Zh S id a) id b=Zh S id b:=by
 funext i
 unfold Zh
 split <;> rfl
theorem Zgk{S:Zc}{id:Zd}{a:Ob}(h:S id=some a):Zh S id a=S:=by
 funext i
 unfold Zh
 split
 ·rename_i e;rw[e,h]
 ·rfl
theorem Zcr{lvl:Nat}{loc:List (Nat×Ob)}{S:Zc}{id:Zd}{o:Ob}(h:id.1≠lvl):Zy lvl loc (Zh S id o)=Zh (Zy lvl loc S) id o:=by
 funext i
 by_cases e:i=id
 ·subst e
  rw[V2 h]
  unfold Zh
  rw[if_pos rfl,if_pos rfl]
 ·unfold Zh Zy
  simp only[if_neg e]
section mark
variable {α:Type} (m:α->Int->α) (n:α->Nat)
def mL:List α->Int->List α
 | [],_=>[]
 | x::r,k=>m x k::mL r (k+n x)
def nL:List α->Nat
 | []=>0
 | x::r=>n x+nL r
theorem JF:∀(a:List α) (k:Int),(mL m n a k).length=a.length
 | [],_=>rfl
 | x::r,k=>by simp only[mL,List.length_cons,JF r]
theorem Zcs:∀(a b:List α),nL n (a++b)=nL n a+nL n b
 | [],b=>by simp [nL]
 | x::r,b=>by simp only[List.cons_append,nL,Zcs r b];omega
theorem Zgl:∀(a b:List α) (k:Int),mL m n (a++b) k=mL m n a k++mL m n b (k+nL n a)
 | [],b,k=>by simp [mL,nL]
 | x::r,b,k=>by
  simp only[List.cons_append,mL,nL,Zgl r b]
  rw[show k+(n x:Int)+(nL n r:Int)=k+((n x+nL n r:Nat):Int) from by omega]
def kJ(a:List α)(k:Int)(j:Nat):Int:=k+nL n (a.take j)
def lJ(a:List α)(k:Int)(j:Nat):List α:=mL m n (a.take j) k++a.drop j
theorem X5{a:List α}{k:Int}:kJ n a k 0=k:=by simp [kJ,nL]
theorem Zaf{a:List α}{k:Int}:lJ m n a k 0=a:=by simp [lJ,mL]
theorem X6{a:List α}{k:Int}:kJ n a k a.length=k+nL n a:=by simp [kJ]
theorem Zag{a:List α}{k:Int}:lJ m n a k a.length=mL m n a k:=by simp [lJ]
theorem Ve{a:List α}{k:Int}{j:Nat}(h:j<a.length):kJ n a k (j+1)=kJ n a k j+n a[j]:=by
 unfold kJ
 rw[Uah h,Zcs]
 simp only[nL]
 omega
theorem X7{a:List α}{k:Int}{j:Nat}:kJ n a k j<=k+nL n a:=by
 have:nL n a=nL n (a.take j)+nL n (a.drop j):=by rw[<-Zcs,Ubl]
 unfold kJ
 omega
theorem X8{a:List α}{k:Int}{j:Nat}:k<=kJ n a k j:=by unfold kJ;omega
theorem ZsW{a:List α}{k:Int}{j:Nat}:(lJ m n a k j).length=a.length:=by
 unfold lJ
 rw[Uan,JF,Uak,Ubh]
 omega
theorem ZsX{a:List α}{k:Int}{j:Nat}(h:j<a.length):(lJ m n a k j)[j]? = some a[j]:=by
 unfold lJ
 have h1:(mL m n (a.take j) k).length=j:=by rw[JF,Uak];omega
 rw[Uao (by omega),h1,Ubw,UaG,Nat.add_zero,Uaf h]
theorem ZsY{a:List α}{k:Int}{j:Nat}(h:j<a.length):(lJ m n a k j).set j (m a[j] (kJ n a k j))=lJ m n a k (j+1):=by
 unfold lJ
 have h1:(mL m n (a.take j) k).length=j:=by rw[JF,Uak];omega
 rw[UbR _ _ (by omega),h1,Ubw,Ua3 h,List.set_cons_zero,Uah h,Zgl]
 simp only[mL,kJ,Uaq,List.cons_append,List.nil_append]
theorem Zah(c:α->List Tr){a:List α}{k:Int}{j:Nat}(h:j<a.length):∃ R:Ze,j<R.length/\(lJ m n a k j).map c=R.set j (c a[j])/\(lJ m n a k (j+1)).map c=R.set j (c (m a[j] (kJ n a k j))):=by
 refine⟨(lJ m n a k j).map c,by rw[Uab,ZsW];exact h,?_,?_⟩
 ·refine(Zcq ?_).symm
  rw[Uax,ZsX m n h];rfl
 ·rw[<-ZsY m n h,List.map_set]
end mark
theorem Qw{R:Ze}{j:Nat}(h:j<R.length)(e:List Tr):(R.set j e)[j]? = some e:=UbB h
theorem Xa{es r0:Ze}{p:Zf}{R:Ze}{j:Nat}(hv:getp es p=some r0)(h:j<R.length)(e:List Tr)(f:Nat)(t:Tr):ZJ (Jc es p (R.set j e)) p j f t=Jc es p (R.set j (e.set f t)):=by
 rw[Zgg (Qw h e) hv,UbE]
def MarkS(P:Program)(fid:FuncId){α:Type}(c:α->List Tr)(m:α->Int->α)(n:α->Nat)(B:α->Prop):Prop :=
 ∀(a:List α) (k:Int) (lvl:Nat) (S:Zc) (id:Zd) (p:Zf) (es r0:Ze) (kk hw ver st:Nat) (cap:Option Nat),id.1<lvl->getp es p=some r0->Jx p st hw ver true->0<=k->k+nL n a<=4611686018427387904 ->
  a.length<=4294967296->(∀ x∈a,B x)->Sem P fid lvl [.hd id p 0 a.length cap st,iI k] (Zh S id (.ar kk (Jc es p (a.map c)) true hw ver)) (iI (k+nL n a)) (Zh S id (.ar kk (Jc es p ((mL m n a k).map c)) true hw ver))
theorem MarkS.nested{P:Program}{fid:FuncId}{α:Type}{c:α->List Tr}{m:α->Int->α}{n:α->Nat}{B:α->Prop}(hm:MarkS P fid c m n B){a:List α}{k:Int}{lvl:Nat}{S:Zc}{id:Zd}{p:Zf}{es r0:Ze}{kk hw ver j f:Nat}{R:Ze}{e:List Tr}
  (hid:id.1<lvl) (hv:getp es p=some r0) (h0:0<=k) (h1:k+nL n a<=4611686018427387904) (hl:a.length<=4294967296) (hB:∀ x∈a,B x) (hj:j<R.length) (he:e[f]? = some (.sl (a.map c))) :
  Sem P fid lvl [.hd id (p++[(j,f)]) 0 a.length none ver,iI k] (Zh S id (.ar kk (Jc es p (R.set j e)) true hw ver)) (iI (k+nL n a)) (Zh S id (.ar kk (Jc es p (R.set j (e.set f (.sl ((mL m n a k).map c))))) true hw ver)):=by
 have hR:(R.set j e)[j]? = some e:=by rw[UbB hj]
 have g1:getp (Jc es p (R.set j e)) p=some (R.set j e):=WN hv
 have g2:getp (Jc es p (R.set j e)) (p++[(j,f)])=some (a.map c):=by
  rw[Zgh g1,Zcp hR he];rfl
 have:=hm a k lvl S id (p++[(j,f)]) (Jc es p (R.set j e)) _ kk hw ver ver none hid g2 (by cases p <;> exact⟨rfl,rfl⟩) h0 h1 hl hB
 rw[Zgj g2,Zgi g1,Zgf hv,Qv hR he] at this
 simp only[Jc,UbE] at this
 exact this
theorem ZsZ{P:Program}{fid:FuncId}{α:Type}{c:α->List Tr}{m:α->Int->α}{n:α->Nat}{B:α->Prop}(hm:MarkS P fid c m n B){a:List α}{k:Int}{lvl len:Nat}{S:Zc}{id:Zd}{p:Zf}{es r0:Ze}{kk hw ver j f:Nat}{R:Ze}{e:List Tr}{env:List (Nat×IV)}{loc:List (Nat×Ob)}{d:Option Nat}{K:St->Prop}
  (hid:id.1<lvl) (hv:getp es p=some r0) (h0:0<=k) (h1:k+nL n a<=4611686018427387904) (hl:a.length<=4294967296) (hB:∀ x∈a,B x) (hj:j<R.length) (he:e[f]? = some (.sl (a.map c))) (hlen:len=a.length)
  (hk:K ⟨lvl,ptd d (iI (k+nL n a)) env,loc,Zh S id (.ar kk (Jc es p (R.set j (e.set f (.sl ((mL m n a k).map c))))) true hw ver)⟩) :
  XZ (Sem P) fid true lvl env loc (Zh S id (.ar kk (Jc es p (R.set j e)) true hw ver)) d K [.hd id (p++[(j,f)]) 0 len none ver,iI k]:=by
 subst hlen
 have hne:id.1≠lvl:=by omega
 refine D0 (r:=iI (k+nL n a)) loc (Zh S id (.ar kk (Jc es p (R.set j (e.set f (.sl ((mL m n a k).map c))))) true hw ver)) ?_ ?_ ⟨?_,hk⟩
 ·intro i hi
  have:i≠id:=fun e=>hne (by rw[<-e];exact hi)
  unfold Zh
  rw[if_neg this,if_neg this]
 ·rw[Zcr hne,Zcr hne]
  exact hm.nested (UbC hid) hv h0 h1 hl hB hj he
 ·trivial
theorem WO{lvl key:Nat}{loc:List (Nat×Ob)}{out:Zc}{o:Ob}:Zy lvl (ptO key o loc) out=Zh (Zy lvl loc out) (lvl,key) o:=by
 funext i
 unfold Zy Zh
 by_cases h:i.1=lvl
 ·rw[if_pos h,Uc]
  by_cases h2:i.2=key
  ·have:i=(lvl,key):=by obtain⟨a,b⟩:=i;simp only at h h2;rw[h,h2]
   rw[if_pos h2,if_pos this]
  ·have:¬ i=(lvl,key):=fun e=>h2 (by rw[e])
   rw[if_neg h2,if_neg this]
   exact(if_pos h).symm
 ·have:¬ i=(lvl,key):=fun e=>h (by rw[e])
  rw[if_neg h,if_neg this]
  exact(if_neg h).symm
theorem UN{P:Program}{fid:FuncId}{α:Type}{c:α->List Tr}{m:α->Int->α}{n:α->Nat}{B:α->Prop}(hm:MarkS P fid c m n B){a:List α}{k:Int}{lvl:Nat}{out:Zc}{id:Zd}{kk hw ver:Nat}{cap:Option Nat}{env:List (Nat×IV)}{loc:List (Nat×Ob)}{d:Option Nat}{K:St->Prop}
  (hid:id.1<lvl) (hS:out id=some (.ar kk (a.map c) true hw ver)) (h0:0<=k) (h1:k+nL n a<=4611686018427387904) (hl:a.length<=4294967296) (hB:∀ x∈a,B x)
  (hk:K ⟨lvl,ptd d (iI (k+nL n a)) env,loc,Zh out id (.ar kk ((mL m n a k).map c) true hw ver)⟩) :
  XZ (Sem P) fid true lvl env loc out d K [.hd id [] 0 a.length cap hw,iI k]:=by
 have hne:id.1≠lvl:=by omega
 refine D0 (r:=iI (k+nL n a)) loc (Zh out id (.ar kk ((mL m n a k).map c) true hw ver)) ?_ ?_ ⟨?_,hk⟩
 ·intro i hi
  have:i≠id:=fun e=>hne (by rw[<-e];exact hi)
  unfold Zh
  rw[if_neg this]
 ·rw[Zcr hne]
  have e:Zy lvl loc out=Zh (Zy lvl loc out) id (.ar kk (Jc (a.map c) [] (a.map c)) true hw ver):=(Zgk (by rw[V2 hne];exact hS)).symm
  have:=hm a k (lvl+1) (Zy lvl loc out) id [] (a.map c) (a.map c) kk hw ver hw cap (UbC hid) rfl rfl h0 h1 hl hB
  rw[<-e] at this
  exact this
 ·trivial
theorem Zs0{P:Program}{fid:FuncId}{α:Type}{c:α->List Tr}{m:α->Int->α}{n:α->Nat}{B:α->Prop}(hm:MarkS P fid c m n B){a:List α}{k:Int}{lvl key:Nat}{out:Zc}{kk hw ver:Nat}{cap:Option Nat}{env:List (Nat×IV)}{loc:List (Nat×Ob)}{d:Option Nat}{K:St->Prop}
  (hS:lkO key loc=some (.ar kk (a.map c) true hw ver)) (h0:0<=k) (h1:k+nL n a<=4611686018427387904) (hl:a.length<=4294967296) (hB:∀ x∈a,B x)
  (hk:K ⟨lvl,ptd d (iI (k+nL n a)) env,ptO key (.ar kk ((mL m n a k).map c) true hw ver) loc,out⟩) :
  XZ (Sem P) fid true lvl env loc out d K [.hd (lvl,key) [] 0 a.length cap hw,iI k]:=by
 refine D0 (r:=iI (k+nL n a)) (ptO key (.ar kk ((mL m n a k).map c) true hw ver) loc) out (fun _ _=>rfl) ?_ ⟨?_,hk⟩
 ·rw[WO]
  have e:Zy lvl loc out=Zh (Zy lvl loc out) (lvl,key) (.ar kk (Jc (a.map c) [] (a.map c)) true hw ver):=(Zgk (by unfold Zy;rw[if_pos rfl];exact hS)).symm
  have:=hm a k (lvl+1) (Zy lvl loc out) (lvl,key) [] (a.map c) (a.map c) kk hw ver hw cap (UaX _) rfl rfl h0 h1 hl hB
  rw[<-e] at this
  exact this
 ·trivial
end Go.Fd

namespace Go.Fd
def V4(l:Int)(g:Int->Int):Int:=if l<0 then -1 else g l
def Zq(c:Int)(s:Int->Int)(q:Nat):Prop:=∀ l:Int,0<=l->l<=1048576->s l<=l/\(0<=s l->(q:Int)<=c+256*(l-s l))
theorem Zs1:Zq 0 (fun l=>l) 0:=fun l _ _=>⟨Ubv _,fun _=>by simp only;omega⟩
theorem Zs2{c e:Int}{s g:Int->Int}{q r:Nat}(hc:0<=c)(he:0<=e)(hs:Zq c s q)(hg:Zq e g r):Zq (c+e) (fun l=>V4 (s l) g) (q+r):=fun l h0 h1=>by
 have a:=hs l h0 h1
 by_cases h:s l<0
 ·simp only[V4,if_pos h]
  exact⟨by omega,fun h=>by omega⟩
 ·simp only[V4,if_neg h]
  have b:=hg (s l) (by omega) (by omega)
  refine⟨by omega,fun h2=>?_⟩
  have:=a.2 (by omega)
  have:=b.2 h2
  omega
theorem Zs3(n:Nat):Zq 0 (fun l=>l-n) 0:=fun l h0 h1=>⟨by simp only;omega,fun h=>by simp only at h ⊢;omega⟩
theorem Zgm{α:Type}{f:α->Int->Int}{n:α->Nat}(hf:∀ x,Zq 256 (f x) (n x)):∀(a:List α),Zq (256*a.length) (fun l=>Vc f a l) (nL n a)
 | []=>fun l _ _=>⟨Ubv l,fun _=>by simp only[Vc,nL,List.length_nil];omega⟩
 | x::r=>fun l h0 h1=>by
  simp only[Vc,nL,List.length_cons]
  have a:=hf x l h0 h1
  split
  ·exact⟨by omega,fun h=>by omega⟩
  ·have b:=Zgm hf r (f x l) (by omega) (by omega)
   simp only at b
   refine⟨by omega,fun h=>?_⟩
   have:=a.2 (by omega)
   have:=b.2 h
   omega
theorem Zs4{α:Type}{f:α->Int->Int}{n:α->Nat}(hf:∀ x,Zq 256 (f x) (n x))(a:List α):Zq 0 (fun l=>Qu f a l) (nL n a):=fun l h0 h1=>by
 simp only[Qu]
 split
 ·exact⟨by omega,fun h=>by omega⟩
 ·have b:=Zgm hf a (l-a.length) (by omega) (by omega)
  simp only at b
  refine⟨by omega,fun h=>?_⟩
  have:=b.2 h
  omega
theorem Zgn{c e:Int}{s:Int->Int}{q r:Nat}(h:Zq c s q)(hq:(r:Int)+c<=q+e):Zq e s r:=fun l h0 h1=>by
 have a:=h l h0 h1
 refine⟨a.1,fun h2=>?_⟩
 have:=a.2 h2
 omega
set_option maxRecDepth 10000
def ZE(x:(Int×Int)):List Tr:=[tv x.1,tv x.2]
structure TControl where
 name:ByteArray
 ports:Int
 kind_:Int
 deriving DecidableEq
def Zp(x:TControl):List Tr:=[ts x.name,tv x.ports,tv x.kind_]
theorem Zct(x:TControl):(Zp x).length=3:=rfl
def Zai(x:TControl):IV:=.ag [iS x.name,iI x.ports,iI x.kind_]
def JU(n:Nat)(x:TControl):Prop:=x.name.size<=n
def Zgo(x:TControl):Prop:=JO .i64 x.ports/\JO .i64 x.kind_
def VG(x:TControl)(l:Int):Int:=V4 (l-x.name.size) fun l=>l
structure TSorting where
 tops:(List Int)
 nest:(List (List Int))
 sorts:(List (List Int))
 most:(List Int)
 apart:(List (Int×Int))
 deriving DecidableEq
def Zw(x:TSorting):List Tr:=[.sl (rI x.tops),.sl (x.nest.map (fun l=>[Tr.sl (rI l)])),.sl (x.sorts.map (fun l=>[Tr.sl (rI l)])),.sl (rI x.most),.sl (x.apart.map ZE)]
def Jm(x:TSorting):IV:=.ag [.ow 1 (rI x.tops) true,.ow 1 (x.nest.map (fun l=>[Tr.sl (rI l)])) true,.ow 1 (x.sorts.map (fun l=>[Tr.sl (rI l)])) true,.ow 1 (rI x.most) true,.ow 2 (x.apart.map ZE) true]
def YC(n:Nat)(x:TSorting):Prop:=x.tops.length<=n/\x.nest.length<=n/\(∀ y∈x.nest,y.length<=n)/\x.sorts.length<=n/\(∀ y∈x.sorts,y.length<=n)/\x.most.length<=n/\x.apart.length<=n
abbrev Zgp:FuncId:=3
abbrev Zcu:FuncId:=4
abbrev Zcv:FuncId:=5
abbrev WP:FuncId:=6
abbrev Zaj:FuncId:=7
abbrev UO:FuncId:=8
abbrev Zcw:FuncId:=9
abbrev Zcx:FuncId:=10
abbrev Zak:FuncId:=11
abbrev Zal:FuncId:=12
abbrev Zcy:FuncId:=13
abbrev Zcz:FuncId:=14
abbrev Zam:FuncId:=15
abbrev Zan:FuncId:=16
abbrev X9:FuncId:=17
abbrev ZcA:FuncId:=18
abbrev Zao:FuncId:=19
abbrev ZcB:FuncId:=20
abbrev ZcC:FuncId:=21
abbrev ZcD:FuncId:=22
abbrev ZcE:FuncId:=23
abbrev Zgq:FuncId:=24
abbrev Zap:FuncId:=25
abbrev Zaq:FuncId:=26
abbrev WQ:FuncId:=27
abbrev ZcF:FuncId:=28
abbrev ZcG:FuncId:=29
abbrev UP:FuncId:=30
abbrev ZcH:FuncId:=31
abbrev ZcI:FuncId:=32
abbrev UQ:FuncId:=33
abbrev Zar:FuncId:=34
abbrev ZcJ:FuncId:=35
abbrev ZcK:FuncId:=36
abbrev ZcL:FuncId:=37
abbrev UR:FuncId:=38
abbrev Zas:FuncId:=39
abbrev ZcM:FuncId:=40
abbrev US:FuncId:=41
abbrev Zat:FuncId:=42
abbrev ZcN:FuncId:=43
abbrev ZcO:FuncId:=44
abbrev V5:FuncId:=45
abbrev ZcP:FuncId:=46
abbrev WR:FuncId:=47
abbrev Zau:FuncId:=48
abbrev ZcQ:FuncId:=49
abbrev ZcR:FuncId:=50
abbrev ZcS:FuncId:=51
abbrev Zav:FuncId:=52
abbrev Vt:FuncId:=53
abbrev ZcT:FuncId:=54
abbrev VH:FuncId:=56
abbrev ZcU:FuncId:=57
abbrev Zgr:FuncId:=58
abbrev Zaw:FuncId:=59
abbrev ZcV:FuncId:=60
abbrev ZcW:FuncId:=62
abbrev XC:FuncId:=63
abbrev Zax:FuncId:=64
abbrev ZcX:FuncId:=65
abbrev ZcY:FuncId:=66
abbrev ZcZ:FuncId:=67
abbrev Zc0:FuncId:=68
abbrev Zay:FuncId:=69
abbrev Zc1:FuncId:=70
abbrev Zc2:FuncId:=71
abbrev Zc3:FuncId:=72
abbrev Zc4:FuncId:=73
abbrev Zc5:FuncId:=74
abbrev Zgs:FuncId:=78
abbrev Zc6:FuncId:=79
abbrev Zaz:FuncId:=80
abbrev Zc7:FuncId:=84
abbrev Zgt:FuncId:=85
abbrev Zc8:FuncId:=86
abbrev Zc9:FuncId:=110
abbrev Zda:FuncId:=123
abbrev ZaA:FuncId:=134
abbrev qM(d a:Nat):OP:=om d (.t a)
abbrev qL(d a:Nat):OP:=oo d (.ld none (.t a))
abbrev qF(d o a:Nat):OP:=oo d (.fa o (.t a))
abbrev qN(d a:Nat):OP:=oo d (.ln (.t a))
abbrev qS(d k a:Nat):OP:=oo d (.ld (some k) (.t a))
abbrev qE(d i a:Nat):OP:=oo d (.ex i (.t a))
abbrev qI(d k a b:Nat):OP:=oo d (.ia k (.t a) (.t b))
abbrev qB(d:Nat)(o:BinOp)(a b:Nat):OP:=oo d (.bi o 0 (.t a) (.t b))
end Go.Fd
