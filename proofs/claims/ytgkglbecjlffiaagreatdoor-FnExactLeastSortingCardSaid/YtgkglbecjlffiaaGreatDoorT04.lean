/-
  FOUNDATION 45: more rules: loads, parts of slices, calls, results, forgetting. Own work.
-/
import Derived.Test.YtgkglbecjlffiaaGreatDoorT03
import Derived.ChangeArms
import Derived.OpenShut
import Derived.Carry
import Derived.ChangeMaps5
import Derived.ChangeShapes
import Derived.Test.YtgkglbecjlffiaaGreatDoorProg
set_option linter.all false
namespace Go.Fd
section
variable {C:ZD} {lvl:Nat} {env:List (Nat×IV)} {loc:List (Nat×Ob)} {out:Zc} {d:Option Nat} {K:St->Prop} {st:St} {Q:Ex->St->Prop} {F:IV->Prop}
theorem Z8{k:Nat}:Zy lvl loc out (lvl,k)=lkO k loc:=by unfold Zy;rw[if_pos rfl]
theorem ZE{id:Zd}(h:id.1≠lvl):Zy lvl loc out id=out id:=by unfold Zy;rw[if_neg h]
theorem XA{k:Nat}{ob:Ob}:Zg ⟨lvl,env,loc,out⟩ (lvl,k) ob=⟨lvl,env,ptO k ob loc,out⟩:=by unfold Zg;rw[if_pos rfl]
theorem JH{id:Zd}{ob:Ob}(h:id.1≠lvl):Zg ⟨lvl,env,loc,out⟩ id ob=⟨lvl,env,loc,Ze out id ob⟩:=by unfold Zg;rw[if_neg h]
theorem ZoS{id:Zd}:Zp id ⟨lvl,env,loc,out⟩=⟨lvl,scrE id env,scrL id (rmO id.2 loc),out⟩:=(rfl)
theorem ZoT:(⟨lvl,env,loc,out⟩:St).sto=Zy lvl loc out:=(rfl)
theorem Ji{id:Zd}{ob:Ob}{S:Zc}:Ze S id ob id=some ob:=by unfold Ze;rw[if_pos rfl]
def ltr(F:IV->Prop)(t:Tr):Prop:=F (.tr t)
theorem ZoU{t:Tr}:ltr F t=F (.tr t):=(rfl)
def lab(o:Option Ob)(off:Nat)(F:IV->Prop):Prop :=
 match o with
 | some (.bx cells)=>Z6 cells[off]? F
 | _=>False
theorem ZoV{cells:List IV}{off:Nat}:lab (some (.bx cells)) off F=Z6 cells[off]? F:=(rfl)
def lae(id:Zd)(p:Zf)(i f:Nat)(F:IV->Prop)(es:Row)(u:Bool)(ver:Nat):Prop:=Z6 es[i]? fun e=>Z6 e[f]? fun t=>F (cvt id p i f u ver t)
def Zgx(id:Zd)(p:Zf)(i f:Nat)(F:IV->Prop)(u:Bool)(ver:Nat)(e:List Tr):Prop:=Z6 e[f]? fun t=>F (cvt id p i f u ver t)
def Zgy(id:Zd)(p:Zf)(i f:Nat)(F:IV->Prop)(u:Bool)(ver:Nat)(t:Tr):Prop:=F (cvt id p i f u ver t)
theorem ZoW{id:Zd}{p:Zf}{i f:Nat}{es:Row}{u:Bool}{ver:Nat}:lae id p i f F es u ver=Z6 es[i]? (Zgx id p i f F u ver):=(rfl)
theorem ZoX{id:Zd}{p:Zf}{i f:Nat}{e:List Tr}{u:Bool}{ver:Nat}:Zgx id p i f F u ver e=Z6 e[f]? (Zgy id p i f F u ver):=(rfl)
theorem ZoY{id:Zd}{p:Zf}{i f:Nat}{t:Tr}{u:Bool}{ver:Nat}:Zgy id p i f F u ver t=F (cvt id p i f u ver t):=(rfl)
def ZaF(id:Zd)(p:Zf)(i f m:Nat)(F:IV->Prop)(es:Row)(u:Bool)(ver:Nat):Prop:=Z6 es[i]? fun e=>f+m<=e.length/\F (.ag (cvts id p i u ver f ((e.drop f).take m)))
def Zgz(id:Zd)(p:Zf)(i f m:Nat)(F:IV->Prop)(u:Bool)(ver:Nat)(e:List Tr):Prop:=f+m<=e.length/\F (.ag (cvts id p i u ver f ((e.drop f).take m)))
theorem ZoZ{id:Zd}{p:Zf}{i f m:Nat}{es:Row}{u:Bool}{ver:Nat}:ZaF id p i f m F es u ver=Z6 es[i]? (Zgz id p i f m F u ver):=(rfl)
theorem Zo0{id:Zd}{p:Zf}{i f m:Nat}{e:List Tr}{u:Bool}{ver:Nat}:Zgz id p i f m F u ver e=(f+m<=e.length/\F (.ag (cvts id p i u ver f ((e.drop f).take m)))):=(rfl)
def Qe(L:Zc)(m:Option Nat)(x:IV)(F:IV->Prop):Prop :=
 match m,x with
 | none,.ta cells=>Z6 cells[0]? (ltr F)
 | none,.ab id off=>lab (L id) off F
 | none,.ae id p i f st=>Vh (L id) p st (lae id p i f F)
 | some m,.ta cells=>m<=cells.length/\F (.ag ((cells.take m).map .tr))
 | some m,.ab id off =>
  match L id with
  | some (.bx cells)=>off+m<=cells.length/\F (.ag ((cells.drop off).take m))
  | _=>False
 | some m,.ae id p i f st=>Vh (L id) p st (ZaF id p i f m F)
 | _,_=>False
theorem Zo1{m:Option Nat}{p:X}:Zu C d (.ld m p) ⟨lvl,env,loc,out⟩ K=Qe (Zy lvl loc out) m (xv env p) (JT lvl env loc out d K):=by
 refine Yb (o:=.ld m p) (T:=fun F=>Qe (Zy lvl loc out) m (xv env p) F) (by cases m <;> rfl) (fun Kd=>?_)
 cases m with
 | none =>
  simp only[ev]
  generalize xv env p=v
  cases v <;> try rfl
  ·dsimp only[Qe,lab]
   rename_i id off
   generalize Zy lvl loc out id=o
   cases o with
   | none=>rfl
   | some ob =>
    cases ob with
    | bx=>exact Yu
    | ar=>rfl
    | mp=>rfl
  ·dsimp only[Qe]
   rw[<-Xz]
   congr 1
   funext es u ver
   simp only[lae,<-Yu]
  ·exact Yu
 | some m =>
  simp only[ev]
  generalize xv env p=v
  cases v <;> try rfl
  dsimp only[Qe]
  rw[<-Xz]
  congr 1
  funext es u ver
  simp only[ZaF,<-Yu]
theorem Zo2{L:Zc}{cells:List Tr}:Qe L none (.ta cells) F=Z6 cells[0]? (ltr F):=(rfl)
theorem Zo3{L:Zc}{id:Zd}{off:Nat}:Qe L none (.ab id off) F=lab (L id) off F:=(rfl)
theorem Zo4{L:Zc}{id:Zd}{p:Zf}{i f s:Nat}:Qe L none (.ae id p i f s) F=Vh (L id) p s (lae id p i f F):=(rfl)
theorem Zo5{L:Zc}{m:Nat}{cells:List Tr}:Qe L (some m) (.ta cells) F=(m<=cells.length/\F (.ag ((cells.take m).map .tr))):=(rfl)
def ZgA(o:Option Ob)(off m:Nat)(F:IV->Prop):Prop :=
 match o with
 | some (.bx cells)=>off+m<=cells.length/\F (.ag ((cells.drop off).take m))
 | _=>False
theorem Zo6{cells:List IV}{off m:Nat}:ZgA (some (.bx cells)) off m F=(off+m<=cells.length/\F (.ag ((cells.drop off).take m))):=(rfl)
theorem Zo7{L:Zc}{m:Nat}{id:Zd}{off:Nat}:Qe L (some m) (.ab id off) F=ZgA (L id) off m F:=(rfl)
theorem Zo8{L:Zc}{m:Nat}{id:Zd}{p:Zf}{i f s:Nat}:Qe L (some m) (.ae id p i f s) F=Vh (L id) p s (ZaF id p i f m F):=(rfl)
def bn(x:Option IV)(n:Nat)(F:Nat->Prop):Prop :=
 match x with
 | none=>F n
 | some (.tr (.v (.int _ m)))=>0<=m/\F m.toNat
 | _=>False
theorem Zo9{n:Nat}{F:Nat->Prop}:bn none n F=F n:=(rfl)
theorem Zpa{n:Nat}{k:IntKind}{m:Int}{F:Nat->Prop}:bn (some (.tr (.v (.int k m)))) n F=(0<=m/\F m.toNat):=(rfl)
theorem ZgB{ρ:X->IV}{x:Option X}{n:Nat}{F:Nat->Prop}:ZO ρ x n F=bn (x.map ρ) n F:=by
 cases x with
 | none=>rfl
 | some x =>
  simp only[ZO,bn,Option.map_some]
  generalize ρ x=v
  cases v <;> try rfl
  rename_i t
  cases t <;> try rfl
  rename_i y
  cases y <;> rfl
def Wa(k:Nat)(es:Row)(los:Bool)(hi mx:Option IV)(q:Bool)(F:IV->Prop)(a:Nat):Prop:=(los=true->Zw k es)/\bn hi es.length fun b=>a<=b/\b<=es.length/\bn mx b fun m=>m=b/\F (if q then .cs (cut es a (b-a)) else .tr (.sl (cut es a (b-a))))
def ZgC(es:Row)(mx:Option IV)(q:Bool)(F:IV->Prop)(a b:Nat):Prop:=a<=b/\b<=es.length/\bn mx b fun m=>m=b/\F (if q then .cs (cut es a (b-a)) else .tr (.sl (cut es a (b-a))))
def ZgD(es:Row)(q:Bool)(F:IV->Prop)(a b m:Nat):Prop:=m=b/\F (if q then .cs (cut es a (b-a)) else .tr (.sl (cut es a (b-a))))
theorem Zpb{k:Nat}{es:Row}{los q:Bool}{hi mx:Option IV}{a:Nat}:Wa k es los hi mx q F a=((los=true->Zw k es)/\bn hi es.length (ZgC es mx q F a)):=(rfl)
theorem Zpc{es:Row}{q:Bool}{mx:Option IV}{a b:Nat}:ZgC es mx q F a b=(a<=b/\b<=es.length/\bn mx b (ZgD es q F a b)):=(rfl)
theorem Zpd{es:Row}{q:Bool}{a b m:Nat}:ZgD es q F a b m=(m=b/\F (if q=true then .cs (cut es a (b-a)) else .tr (.sl (cut es a (b-a))))):=(rfl)
def sxh(L:Zc)(k:Nat)(id:Zd)(p:Zf)(off len:Nat)(cap:Option Nat)(s:Nat)(hi mx:Option IV)(F:IV->Prop)(a:Nat):Prop :=
 bn hi len fun b=>a<=b/\b<=len/\bn mx b fun m=>b<=m/\m<=len/\Jy L id p k/\F (.hd id p (off+a) (b-a) (if mx.isSome then some (m-a) else cap.map (· - a)) s)
def ZgE(L:Zc)(k:Nat)(id:Zd)(p:Zf)(off len:Nat)(cap:Option Nat)(s:Nat)(mx:Option IV)(F:IV->Prop)(a b:Nat):Prop :=
 a<=b/\b<=len/\bn mx b fun m=>b<=m/\m<=len/\Jy L id p k/\F (.hd id p (off+a) (b-a) (if mx.isSome then some (m-a) else cap.map (· - a)) s)
def ZgF(L:Zc)(k:Nat)(id:Zd)(p:Zf)(off len:Nat)(cap:Option Nat)(s:Nat)(mx:Option IV)(F:IV->Prop)(a b m:Nat):Prop :=
 b<=m/\m<=len/\Jy L id p k/\F (.hd id p (off+a) (b-a) (if mx.isSome then some (m-a) else cap.map (· - a)) s)
theorem Zpe{L:Zc}{k:Nat}{id:Zd}{p:Zf}{off len:Nat}{cap:Option Nat}{s:Nat}{hi mx:Option IV}{a:Nat}:sxh L k id p off len cap s hi mx F a=bn hi len (ZgE L k id p off len cap s mx F a):=(rfl)
theorem Zpf{L:Zc}{k:Nat}{id:Zd}{p:Zf}{off len:Nat}{cap:Option Nat}{s:Nat}{mx:Option IV}{a b:Nat}:ZgE L k id p off len cap s mx F a b=(a<=b/\b<=len/\bn mx b (ZgF L k id p off len cap s mx F a b)):=(rfl)
theorem Zpg{L:Zc}{k:Nat}{id:Zd}{p:Zf}{off len:Nat}{cap:Option Nat}{s:Nat}{mx:Option IV}{a b m:Nat}:ZgF L k id p off len cap s mx F a b m=(b<=m/\m<=len/\Jy L id p k/\F (.hd id p (off+a) (b-a) (if mx.isSome then some (m-a) else cap.map (· - a)) s)):=(rfl)
def XB(L:Zc)(k:Nat)(x:IV)(lo hi mx:Option IV)(F:IV->Prop):Prop :=
 match x with
 | .tr (.sl es)=>bn lo 0 (Wa k es lo.isSome hi mx mx.isSome F)
 | .cs es=>bn lo 0 (Wa k es lo.isSome hi mx (mx.isSome || hi.isNone) F)
 | .hd id p off len cap s=>bn lo 0 (sxh L k id p off len cap s hi mx F)
 | _=>False
theorem ZgG{x:Option IV}{n:Nat}{p:Prop}{F:Nat->Prop}:(p/\bn x n F)=bn x n fun a=>p/\F a:=by
 apply propext
 cases x with
 | none=>rfl
 | some v =>
  cases v <;> try exact⟨fun h=>h.2,fun h=>h.elim⟩
  rename_i t
  cases t <;> try exact⟨fun h=>h.2,fun h=>h.elim⟩
  rename_i y
  cases y <;> first | exact⟨fun h=>h.2,fun h=>h.elim⟩ | exact⟨fun⟨h1,h2,h3⟩=>⟨h2,h1,h3⟩,fun⟨h1,h2,h3⟩=>⟨h2,h1,h3⟩⟩
theorem Zph{k:Nat}{x:X}{lo hi mx:Option X}:Zu C d (.sx k x lo hi mx) ⟨lvl,env,loc,out⟩ K=XB (Zy lvl loc out) k (xv env x) (lo.map (xv env)) (hi.map (xv env)) (mx.map (xv env)) (JT lvl env loc out d K):=by
 refine Yb (o:=.sx k x lo hi mx) (T:=fun F=>XB (Zy lvl loc out) k (xv env x) (lo.map (xv env)) (hi.map (xv env)) (mx.map (xv env)) F) rfl (fun Kd=>?_)
 simp only[ev,ZgB]
 generalize xv env x=v
 cases v <;> try rfl
 ·rename_i t
  cases t <;> try rfl
  dsimp only[XB,Wa]
  rw[ZgG]
  simp only[Option.isSome_map]
  rfl
 ·dsimp only[XB,Wa]
  rw[ZgG]
  simp only[Option.isSome_map,Option.isNone_map]
  rfl
 ·dsimp only[XB]
  congr 1
  funext a
  unfold sxh
  congr 1
  funext b
  simp only[Option.isSome_map]
theorem Zpi{L:Zc}{k:Nat}{es:Row}{lo hi mx:Option IV}:XB L k (.tr (.sl es)) lo hi mx F=bn lo 0 (Wa k es lo.isSome hi mx mx.isSome F):=(rfl)
theorem Zpj{L:Zc}{k:Nat}{es:Row}{lo hi mx:Option IV}:XB L k (.cs es) lo hi mx F=bn lo 0 (Wa k es lo.isSome hi mx (mx.isSome || hi.isNone) F):=(rfl)
theorem Zpk{L:Zc}{k:Nat}{id:Zd}{p:Zf}{off len:Nat}{cap:Option Nat}{s:Nat}{lo hi mx:Option IV}:XB L k (.hd id p off len cap s) lo hi mx F=bn lo 0 (sxh L k id p off len cap s hi mx F):=(rfl)
def sst(s:ByteArray)(hi:Option IV)(F:IV->Prop)(a:Nat):Prop:=bn hi s.size fun b=>a<=b/\b<=s.size/\F (iS (s.extract a b))
def ZgH(s:ByteArray)(F:IV->Prop)(a b:Nat):Prop:=a<=b/\b<=s.size/\F (iS (s.extract a b))
theorem Zpl{s:ByteArray}{hi:Option IV}{a:Nat}:sst s hi F a=bn hi s.size (ZgH s F a):=(rfl)
theorem Zpm{s:ByteArray}{a b:Nat}:ZgH s F a b=(a<=b/\b<=s.size/\F (iS (s.extract a b))):=(rfl)
def ss2(x:IV)(lo hi:Option IV)(F:IV->Prop):Prop :=
 match x with
 | .tr (.v (.string s))=>bn lo 0 (sst s hi F)
 | _=>False
theorem Zpn{x:X}{lo hi:Option X}:Zu C d (.ss x lo hi) ⟨lvl,env,loc,out⟩ K=ss2 (xv env x) (lo.map (xv env)) (hi.map (xv env)) (JT lvl env loc out d K):=by
 refine Yb (o:=.ss x lo hi) (T:=fun F=>ss2 (xv env x) (lo.map (xv env)) (hi.map (xv env)) F) rfl (fun Kd=>?_)
 simp only[ev,ZgB]
 rfl
theorem Zpo{s:ByteArray}{lo hi:Option IV}:ss2 (.tr (.v (.string s))) lo hi F=bn lo 0 (sst s hi F):=(rfl)
def sa2(n:Nat)(x:IV)(F:IV->Prop):Prop :=
 match x with
 | .ta cells=>n<=cells.length/\F (.cs ((cells.take n).map fun c=>[c]))
 | _=>False
theorem Zpp{n:Nat}{x:X}:Zu C d (.sa n x) ⟨lvl,env,loc,out⟩ K=sa2 n (xv env x) (JT lvl env loc out d K):=Yb rfl fun _=>rfl
theorem Zpq{n:Nat}{cells:List Tr}:sa2 n (.ta cells) F=(n<=cells.length/\F (.cs ((cells.take n).map fun c=>[c]))):=(rfl)
def Wb(F:IV->Prop)(l:List UInt8):Prop:=F (iS ⟨l.toArray⟩)
theorem Zpr{l:List UInt8}:Wb F l=F (iS ⟨l.toArray⟩):=(rfl)
def sbh(off len:Nat)(F:IV->Prop)(es:Row)(_u:Bool)(_v:Nat):Prop:=off+len<=es.length/\Z6 (YF (cut es off len)) (Wb F)
theorem Zps{off len:Nat}{es:Row}{u:Bool}{v:Nat}:sbh off len F es u v=(off+len<=es.length/\Z6 (YF (cut es off len)) (Wb F)):=(rfl)
def W2(L:Zc)(x:IV)(F:IV->Prop):Prop :=
 match x with
 | .tr (.sl es)=>Z6 (YF es) (Wb F)
 | .cs es=>Z6 (YF es) (Wb F)
 | .hd id p off len _ st=>Vh (L id) p st (sbh off len F)
 | _=>False
theorem Zpt{x:X}:Zu C d (.sb x) ⟨lvl,env,loc,out⟩ K=W2 (Zy lvl loc out) (xv env x) (JT lvl env loc out d K):=by
 refine Yb (o:=.sb x) (T:=fun F=>W2 (Zy lvl loc out) (xv env x) F) rfl (fun Kd=>?_)
 simp only[ev]
 generalize xv env x=v
 cases v <;> try rfl
 ·rename_i t
  cases t <;> try rfl
  exact Yu
 ·exact Yu
 ·dsimp only[W2]
  rw[<-Xz]
  congr 1
  funext es u ver
  simp only[sbh,<-Yu]
  rfl
theorem Zpu{L:Zc}{es:Row}:W2 L (.tr (.sl es)) F=Z6 (YF es) (Wb F):=(rfl)
theorem Zpv{L:Zc}{es:Row}:W2 L (.cs es) F=Z6 (YF es) (Wb F):=(rfl)
theorem Zpw{L:Zc}{id:Zd}{p:Zf}{off len s:Nat}{cap:Option Nat}:W2 L (.hd id p off len cap s) F=Vh (L id) p s (sbh off len F):=(rfl)
theorem JA{o:O}(h:Jr o=true):Zu C d o st K=ew C d st K o:=by unfold Zu;rw[if_pos h]
def Vi(x:IV)(F:List IV->Prop)(l:List IV):Prop:=F (x::l)
theorem ZgI{x:IV}{F:List IV->Prop}{l:List IV}:Vi x F l=F (x::l):=(rfl)
def ZgJ(L:Zc)(r:List IV)(F:List IV->Prop)(l:List IV):Prop:=ZV L r (Vi (.ag l) F)
theorem Zpx{L:Zc}{r:List IV}{F:List IV->Prop}{l:List IV}:ZgJ L r F l=ZV L r (Vi (.ag l) F):=(rfl)
def ZgK(L:Zc)(f:FuncId)(r:List IV)(F:List IV->Prop)(l:List IV):Prop:=ZV L r (Vi (.fn f l) F)
theorem Zpy{L:Zc}{f:FuncId}{r:List IV}{F:List IV->Prop}{l:List IV}:ZgK L f r F l=ZV L r (Vi (.fn f l) F):=(rfl)
def ZgL(L:Zc)(off len:Nat)(r:List IV)(F:List IV->Prop)(es:Row)(_u:Bool)(_v:Nat):Prop:=off+len<=es.length/\ZV L r (Vi (.tr (.sl (cut es off len))) F)
theorem Zpz{L:Zc}{off len:Nat}{r:List IV}{F:List IV->Prop}{es:Row}{u:Bool}{v:Nat}:ZgL L off len r F es u v=(off+len<=es.length/\ZV L r (Vi (.tr (.sl (cut es off len))) F)):=(rfl)
section sn
variable {L:Zc} {r:List IV} {F:List IV->Prop}
theorem ZcN:ZV L [] F=F []:=by simp only[ZV]
theorem ZgM{t:Tr}:ZV L (.tr t::r) F=ZV L r (Vi (.tr t) F):=by simp only[ZV,Z2];rfl
theorem ZpA{es:Row}:ZV L (.cs es::r) F=ZV L r (Vi (.tr (.sl es)) F):=by simp only[ZV,Z2];rfl
theorem ZpB{l:List IV}:ZV L (.ag l::r) F=ZV L l (ZgJ L r F):=by simp only[ZV,Z2];rfl
theorem ZpC{f:FuncId}{l:List IV}:ZV L (.fn f l::r) F=ZV L l (ZgK L f r F):=by simp only[ZV,Z2];rfl
theorem ZgN{l:List Tr}:ZV L (.ta l::r) F=ZV L r (Vi (.ta l) F):=by simp only[ZV,Z2];rfl
theorem ZpD:ZV L (.er::r) F=ZV L r (Vi .er F):=by simp only[ZV,Z2];rfl
theorem ZpE:ZV L (.un::r) F=ZV L r (Vi .un F):=by simp only[ZV,Z2];rfl
theorem ZpF{id:Zd}{p:Zf}{off len s:Nat}{cap:Option Nat}:ZV L (.hd id p off len cap s::r) F=Vh (L id) p s (ZgL L off len r F):=by simp only[ZV,Z2];rw[<-Xz];rfl
end sn
def kca(C:ZD)(fid:FuncId)(nm:Prop)(imp:Bool)(lvl:Nat)(env:List (Nat×IV))(loc:List (Nat×Ob))(out:Zc)(d:Option Nat)(K:St->Prop)(args:List IV):Prop :=
 ∃ r,(∀ l S,C fid l args S r S)/\(nm\/noSh r)/\freshK (keyOf d) loc (impv imp lvl (keyOf d) 0 r).2.length/\K ⟨lvl,ptd d (impv imp lvl (keyOf d) 0 r).1 env,addO (keyOf d) (impv imp lvl (keyOf d) 0 r).2 loc,out⟩
theorem Zi{fid:FuncId}{nm:Prop}{imp:Bool}{args:List IV}{r:IV}(h:∀ l S,C fid l args S r S)
  (hk:(nm\/noSh r)/\freshK (keyOf d) loc (impv imp lvl (keyOf d) 0 r).2.length/\K ⟨lvl,ptd d (impv imp lvl (keyOf d) 0 r).1 env,addO (keyOf d) (impv imp lvl (keyOf d) 0 r).2 loc,out⟩):kca C fid nm imp lvl env loc out d K args:=⟨r,h,hk⟩
def ca2(C:ZD)(f:IV)(xs:List IV)(imp:Bool)(lvl:Nat)(env:List (Nat×IV))(loc:List (Nat×Ob))(out:Zc)(d:Option Nat)(K:St->Prop):Prop :=
 match f with
 | .fn fid caps=>ZV (Zy lvl loc out) (xs++caps) (kca C fid (Za (fun _=>False) (xs++caps)) imp lvl env loc out d K)
 | _=>False
theorem ZpG{imp:Bool}{f:X}{xs:List X}:Zu C d (.ca .pure imp f xs) ⟨lvl,env,loc,out⟩ K=ca2 C (xv env f) (xs.map (xv env)) imp lvl env loc out d K:=by
 rw[JZ rfl]
 simp only[ev]
 generalize xv env f=v
 cases v <;> rfl
theorem ZpH{fid:FuncId}{caps xs:List IV}{imp:Bool}:ca2 C (.fn fid caps) xs imp lvl env loc out d K=ZV (Zy lvl loc out) (xs++caps) (kca C fid (Za (fun _=>False) (xs++caps)) imp lvl env loc out d K):=(rfl)
def kce(C:ZD)(fid:FuncId)(imp:Bool)(lvl:Nat)(env:List (Nat×IV))(loc:List (Nat×Ob))(out:Zc)(d:Option Nat)(K:St->Prop)(args:List IV):Prop :=
 ∃ r,(∀ l S,Za (WA (Zy lvl loc out) S l) args->C fid l args S r S)/\freshK (keyOf d) loc (impv imp lvl (keyOf d) 0 r).2.length/\K ⟨lvl,ptd d (impv imp lvl (keyOf d) 0 r).1 env,addO (keyOf d) (impv imp lvl (keyOf d) 0 r).2 loc,out⟩
theorem XC{fid:FuncId}{imp:Bool}{args:List IV}{r:IV}(h:∀ l S,Za (WA (Zy lvl loc out) S l) args->C fid l args S r S)
  (hk:freshK (keyOf d) loc (impv imp lvl (keyOf d) 0 r).2.length/\K ⟨lvl,ptd d (impv imp lvl (keyOf d) 0 r).1 env,addO (keyOf d) (impv imp lvl (keyOf d) 0 r).2 loc,out⟩):kce C fid imp lvl env loc out d K args:=⟨r,h,hk⟩
def ZgO(C:ZD)(f:IV)(xs:List IV)(imp:Bool)(lvl:Nat)(env:List (Nat×IV))(loc:List (Nat×Ob))(out:Zc)(d:Option Nat)(K:St->Prop):Prop :=
 match f with
 | .fn fid caps=>kce C fid imp lvl env loc out d K (xs++caps)
 | _=>False
theorem ZpI{imp:Bool}{f:X}{xs:List X}:Zu C d (.ca .see imp f xs) ⟨lvl,env,loc,out⟩ K=ZgO C (xv env f) (xs.map (xv env)) imp lvl env loc out d K:=by
 rw[JZ rfl]
 simp only[ev]
 generalize xv env f=v
 cases v <;> rfl
theorem ZpJ{fid:FuncId}{caps xs:List IV}{imp:Bool}:ZgO C (.fn fid caps) xs imp lvl env loc out d K=kce C fid imp lvl env loc out d K (xs++caps):=(rfl)
def kcs(C:ZD)(fid:FuncId)(imp:Bool)(lvl:Nat)(env:List (Nat×IV))(loc:List (Nat×Ob))(out:Zc)(d:Option Nat)(K:St->Prop)(args:List IV):Prop :=
 ∃ r,C fid (lvl+1) args (Zy lvl loc out) r (Zy lvl loc out)/\freshK (keyOf d) loc (impv imp lvl (keyOf d) 0 r).2.length/\K ⟨lvl,ptd d (impv imp lvl (keyOf d) 0 r).1 env,addO (keyOf d) (impv imp lvl (keyOf d) 0 r).2 loc,out⟩
def ZgP(C:ZD)(f:IV)(xs:List IV)(imp:Bool)(lvl:Nat)(env:List (Nat×IV))(loc:List (Nat×Ob))(out:Zc)(d:Option Nat)(K:St->Prop):Prop :=
 match f with
 | .fn fid caps=>kcs C fid imp lvl env loc out d K (xs.map J2++caps)
 | _=>False
theorem ZpK{imp:Bool}{f:X}{xs:List X}:Zu C d (.ca .same imp f xs) ⟨lvl,env,loc,out⟩ K=ZgP C (xv env f) (xs.map (xv env)) imp lvl env loc out d K:=by
 rw[JA rfl]
 simp only[ew]
 generalize xv env f=v
 cases v <;> rfl
theorem ZpL{fid:FuncId}{caps xs:List IV}{imp:Bool}:ZgP C (.fn fid caps) xs imp lvl env loc out d K=kcs C fid imp lvl env loc out d K (xs.map J2++caps):=(rfl)
def ZgQ(C:ZD)(f:IV)(xs:List IV)(imp:Bool)(lvl:Nat)(env:List (Nat×IV))(loc:List (Nat×Ob))(out:Zc)(d:Option Nat)(K:St->Prop):Prop :=
 match f with
 | .fn fid caps=>kcs C fid imp lvl env loc out d K (xs++caps)
 | _=>False
theorem ZpM{imp:Bool}{f:X}{xs:List X}:Zu C d (.ca .keep imp f xs) ⟨lvl,env,loc,out⟩ K=ZgQ C (xv env f) (xs.map (xv env)) imp lvl env loc out d K:=by
 rw[JA rfl]
 simp only[ew]
 generalize xv env f=v
 cases v <;> rfl
theorem ZpN{fid:FuncId}{caps xs:List IV}{imp:Bool}:ZgQ C (.fn fid caps) xs imp lvl env loc out d K=kcs C fid imp lvl env loc out d K (xs++caps):=(rfl)
def QB(C:ZD)(fid:FuncId)(imp:Bool)(lvl:Nat)(env:List (Nat×IV))(loc:List (Nat×Ob))(out:Zc)(d:Option Nat)(K:St->Prop)(args:List IV):Prop :=
 ∃ r loc' out',(∀ i,i.1=lvl->out' i=out i)/\C fid (lvl+1) args (Zy lvl loc out) r (Zy lvl loc' out')/\freshK (keyOf d) loc' (impv imp lvl (keyOf d) 0 r).2.length/\K ⟨lvl,ptd d (impv imp lvl (keyOf d) 0 r).1 env,addO (keyOf d) (impv imp lvl (keyOf d) 0 r).2 loc',out'⟩
theorem W3{fid:FuncId}{imp:Bool}{args:List IV}{r:IV}(loc':List (Nat×Ob))(out':Zc)(ho:∀ i,i.1=lvl->out' i=out i)(h:C fid (lvl+1) args (Zy lvl loc out) r (Zy lvl loc' out'))
  (hk:freshK (keyOf d) loc' (impv imp lvl (keyOf d) 0 r).2.length/\K ⟨lvl,ptd d (impv imp lvl (keyOf d) 0 r).1 env,addO (keyOf d) (impv imp lvl (keyOf d) 0 r).2 loc',out'⟩):QB C fid imp lvl env loc out d K args:=⟨r,loc',out',ho,h,hk⟩
def ZgR(C:ZD)(f:IV)(xs:List IV)(imp:Bool)(lvl:Nat)(env:List (Nat×IV))(loc:List (Nat×Ob))(out:Zc)(d:Option Nat)(K:St->Prop):Prop :=
 match f with
 | .fn fid caps=>QB C fid imp lvl env loc out d K (xs.map J2++caps)
 | _=>False
theorem ZpO{imp:Bool}{f:X}{xs:List X}:Zu C d (.ca .any imp f xs) ⟨lvl,env,loc,out⟩ K=ZgR C (xv env f) (xs.map (xv env)) imp lvl env loc out d K:=by
 rw[JA rfl]
 simp only[ew]
 generalize xv env f=v
 cases v <;> rfl
theorem ZpP{fid:FuncId}{caps xs:List IV}{imp:Bool}:ZgR C (.fn fid caps) xs imp lvl env loc out d K=QB C fid imp lvl env loc out d K (xs.map J2++caps):=(rfl)
def kfe(K:IV->Zc->Prop)(l:List IV)(st:St):Prop:=match l with | [x]=>K x st.out | xs=>K (.tu xs) st.out
theorem ZpQ{rs:List RS}{K:IV->Zc->Prop}:Jb rs st K=QQ rs st (kfe K):=(rfl)
theorem ZpR{K:IV->Zc->Prop}:kfe K [] ⟨lvl,env,loc,out⟩=K (.tu []) out:=(rfl)
theorem ZpS{K:IV->Zc->Prop}{x:IV}:kfe K [x] ⟨lvl,env,loc,out⟩=K x out:=(rfl)
theorem ZpT{K:IV->Zc->Prop}{x y:IV}{r:List IV}:kfe K (x::y::r) ⟨lvl,env,loc,out⟩=K (.tu (x::y::r)) out:=(rfl)
def kex(rs:List RS)(F:List IV->St->Prop)(x:IV)(st:St):Prop:=QQ rs st fun xs st'' => F (x::xs) st''
def kcx(x:IV)(F:List IV->St->Prop)(l:List IV)(st:St):Prop:=F (x::l) st
theorem ZpU{x:IV}{F:List IV->St->Prop}{l:List IV}:kcx x F l st=F (x::l) st:=(rfl)
theorem ZpV{F:List IV->St->Prop}:QQ [] st F=F [] st:=(rfl)
theorem ZpW{r:RS}{rs:List RS}{F:List IV->St->Prop}:QQ (r::rs) st F=QP r st (kex rs F):=(rfl)
theorem ZpX{rs:List RS}{F:List IV->St->Prop}{x:IV}:kex rs F x st=QQ rs st (kcx x F):=(rfl)
theorem ZpY{n:Nat}{ks:List Nat}{F:IV->St->Prop}:QP (.t n ks) ⟨lvl,env,loc,out⟩ F=Yz ks (lk n env) ⟨lvl,env,loc,out⟩ F:=(rfl)
def exb(o:Option Ob)(off:Nat)(m:Option Nat)(ks:List Nat)(st:St)(F:IV->St->Prop):Prop :=
 match o,m with
 | some (.bx cells),some m=>off+m<=cells.length/\Yz ks (.ag ((cells.drop off).take m)) st F
 | some (.bx cells),none=>Z6 cells[off]? fun x=>isCell x=true/\Yz ks x st F
 | _,_=>False
def ZgS(ks:List Nat)(st:St)(F:IV->St->Prop)(x:IV):Prop:=isCell x=true/\Yz ks x st F
theorem ZpZ{ks:List Nat}{F:IV->St->Prop}{x:IV}:ZgS ks st F x=(isCell x=true/\Yz ks x st F):=(rfl)
theorem Zp0{cells:List IV}{off m:Nat}{ks:List Nat}{F:IV->St->Prop}:exb (some (.bx cells)) off (some m) ks st F=(off+m<=cells.length/\Yz ks (.ag ((cells.drop off).take m)) st F):=(rfl)
theorem Zp1{cells:List IV}{off:Nat}{ks:List Nat}{F:IV->St->Prop}:exb (some (.bx cells)) off none ks st F=Z6 cells[off]? (ZgS ks st F):=(rfl)
def exk(x:IV)(st:St)(F:IV->St->Prop):Prop :=
 match x with
 | .cs es=>F (.cs es) st
 | _=>False
theorem Zp2{n:Nat}{F:IV->St->Prop}:QP (.k n) ⟨lvl,env,loc,out⟩ F=exk (lk n env) ⟨lvl,env,loc,out⟩ F:=(rfl)
theorem Zp3{es:Row}{F:IV->St->Prop}:exk (.cs es) st F=F (.cs es) st:=(rfl)
def exc(v:IV)(m:Option Nat)(ks:List Nat)(st:St)(F:IV->St->Prop):Prop :=
 match v with
 | .ab id off=>exb (st.sto id) off m ks st F
 | _=>False
theorem Zp4{n:Nat}{m:Option Nat}{ks:List Nat}{F:IV->St->Prop}:QP (.c n m ks) ⟨lvl,env,loc,out⟩ F=exc (lk n env) m ks ⟨lvl,env,loc,out⟩ F:=by
 simp only[QP]
 generalize lk n env=v
 cases v <;> try rfl
 rename_i id off
 dsimp only[exc]
 generalize (⟨lvl,env,loc,out⟩:St).sto id=o
 cases o with
 | none=>rfl
 | some ob =>
  cases ob with
  | ar=>cases m <;> rfl
  | mp=>cases m <;> rfl
  | bx cells =>
   cases m with
   | some m=>rfl
   | none=>exact Yu
theorem Zp5{id:Zd}{off:Nat}{m:Option Nat}{ks:List Nat}{F:IV->St->Prop}:exc (.ab id off) m ks ⟨lvl,env,loc,out⟩ F=exb (Zy lvl loc out id) off m ks ⟨lvl,env,loc,out⟩ F:=(rfl)
def ZgT(F:IV->St->Prop)(l:List IV)(st:St):Prop:=F (.ag l) st
theorem Zp6{F:IV->St->Prop}{l:List IV}:ZgT F l st=F (.ag l) st:=(rfl)
theorem Zp7{ks:List Nat}{l:List IV}{F:IV->St->Prop}:Yz ks (.ag l) st F=Qs ks l st (ZgT F):=(rfl)
theorem Zp8{ks:List Nat}{t:Tr}{F:IV->St->Prop}:Yz ks (.tr t) st F=F (.tr t) st:=(rfl)
theorem Zp9{ks:List Nat}{es:Row}{F:IV->St->Prop}:Yz ks (.cs es) st F=J8 (ks.headD 0) (.cs es) st F:=(rfl)
theorem Zqa{ks:List Nat}{id:Zd}{p:Zf}{off len s:Nat}{cap:Option Nat}{F:IV->St->Prop}:Yz ks (.hd id p off len cap s) st F=J8 (ks.headD 0) (.hd id p off len cap s) st F:=(rfl)
theorem Zqb{ks:List Nat}{F:IV->St->Prop}:Yz ks .er st F=F .er st:=(rfl)
theorem Zqc{ks:List Nat}{f:FuncId}{c:List IV}{F:IV->St->Prop}:Yz ks (.fn f c) st F=(Je st.lvl c/\F (.fn f c) st):=(rfl)
theorem Zqd{ks:List Nat}{F:IV->St->Prop}:Yz ks .un st F=F .un st:=(rfl)
def kxc(ks:List Nat)(r:List IV)(F:List IV->St->Prop)(y:IV)(st:St):Prop:=Qs ks r st (kcx y F)
theorem Zqe{ks:List Nat}{r:List IV}{F:List IV->St->Prop}{y:IV}:kxc ks r F y st=Qs ks r st (kcx y F):=(rfl)
theorem Zqf{ks:List Nat}{F:List IV->St->Prop}:Qs ks [] st F=F [] st:=by cases ks <;> rfl
theorem Zqg{ks:List Nat}{x:IV}{r:List IV}{F:List IV->St->Prop}:Qs ks (x::r) st F=J8 (ks.headD 0) x st (kxc ks.tail r F):=(rfl)
theorem Zqh{k:Nat}{t:Tr}{F:IV->St->Prop}:J8 k (.tr t) st F=F (.tr t) st:=(rfl)
theorem Zqi{k:Nat}{F:IV->St->Prop}:J8 (k+1) (.cs []) st F=F (.ow k [] true) st:=(rfl)
theorem Zqj{es:Row}{F:IV->St->Prop}:J8 0 (.cs es) st F=F (.tr (.sl es)) st:=(rfl)
theorem Zqk{F:IV->St->Prop}:J8 1 (.cs []) st F=F (.ow 0 [] true) st:=(rfl)
theorem Zql{F:IV->St->Prop}:J8 2 (.cs []) st F=F (.ow 1 [] true) st:=(rfl)
theorem Zqm{F:IV->St->Prop}:J8 3 (.cs []) st F=F (.ow 2 [] true) st:=(rfl)
theorem Zqn{F:IV->St->Prop}:J8 4 (.cs []) st F=F (.ow 3 [] true) st:=(rfl)
theorem Zqo{F:IV->St->Prop}:J8 5 (.cs []) st F=F (.ow 4 [] true) st:=(rfl)
theorem Zqp{F:IV->St->Prop}:J8 6 (.cs []) st F=F (.ow 5 [] true) st:=(rfl)
theorem Zqq{F:IV->St->Prop}:J8 7 (.cs []) st F=F (.ow 6 [] true) st:=(rfl)
theorem Zqr{k:Nat}{F:IV->St->Prop}:J8 k .er st F=F .er st:=(rfl)
theorem Zqs{k:Nat}{F:IV->St->Prop}:J8 k .un st F=F .un st:=(rfl)
def exh(o:Option Ob)(k:Nat)(p:Zf)(off len:Nat)(cap:Option Nat)(s:Nat)(st1:St)(F:IV->St->Prop):Prop :=
 match o with
 | some (.ar k' es u hw _)=>p=[]/\s=hw/\(match k with
  | 0=>off+len<=es.length/\F (.tr (.sl (cut es off len))) st1
  | k1+1=>k1=k'/\off=0/\len=es.length/\cap=none/\F (.ow k' es u) st1)
 | _=>False
theorem Zqt{k key:Nat}{p:Zf}{off len s:Nat}{cap:Option Nat}{F:IV->St->Prop}:J8 k (.hd (lvl,key) p off len cap s) ⟨lvl,env,loc,out⟩ F=exh (lkO key loc) k p off len cap s (Zp (lvl,key) ⟨lvl,env,loc,out⟩) F:=by
 unfold J8
 dsimp only
 rw[if_pos rfl]
 have:(⟨lvl,env,loc,out⟩:St).sto (lvl,key)=lkO key loc:=Z8
 rw[this]
 generalize lkO key loc=o
 cases o with
 | none=>rfl
 | some ob=>cases ob <;> cases k <;> rfl
theorem Zqu{k':Nat}{es:Row}{u:Bool}{hw ver:Nat}{p:Zf}{off len s:Nat}{cap:Option Nat}{st1:St}{F:IV->St->Prop}:exh (some (.ar k' es u hw ver)) 0 p off len cap s st1 F=(p=[]/\s=hw/\off+len<=es.length/\F (.tr (.sl (cut es off len))) st1):=(rfl)
theorem Zqv{k k':Nat}{es:Row}{u:Bool}{hw ver:Nat}{p:Zf}{off len s:Nat}{cap:Option Nat}{st1:St}{F:IV->St->Prop}:exh (some (.ar k' es u hw ver)) (k+1) p off len cap s st1 F=(p=[]/\s=hw/\k=k'/\off=0/\len=es.length/\cap=none/\F (.ow k' es u) st1):=(rfl)
theorem Yh{k:Nat}{id:Zd}{p:Zf}{off len s:Nat}{cap:Option Nat}{F:IV->St->Prop}(h:id.1≠lvl):J8 k (.hd id p off len cap s) ⟨lvl,env,loc,out⟩ F=F (.hd id p off len cap s) ⟨lvl,env,loc,out⟩:=by
 unfold J8
 dsimp only
 rw[if_neg h]
def memB(t:Nat):List Nat->Bool
 | []=>false
 | a::r=>if t=a then true else memB t r
theorem Wc{t:Nat}:∀{l:List Nat},memB t l=true↔t∈l
 | []=>by simp [memB]
 | a::r=>by
  simp only[memB,UaV]
  by_cases h:t=a
  ·simp [h]
  ·rw[if_neg h,Wc];simp [h]
def keepB(ks:List Nat):List (Nat×IV)->List (Nat×IV)
 | []=>[]
 | (t,x)::r=>if memB t ks=true then (t,x)::keepB ks r else keepB ks r
def keepOB(ks:List Nat):List (Nat×Ob)->List (Nat×Ob)
 | []=>[]
 | (t,x)::r=>if memB t ks=true then (t,x)::keepOB ks r else keepOB ks r
theorem ZcO{ks:List Nat}:∀{e:List (Nat×IV)},Qr ks e=keepB ks e
 | []=>rfl
 | (t,x)::r=>by
  simp only[Qr,keepB,ZcO (e:=r),Wc]
theorem ZcP{ks:List Nat}:∀{e:List (Nat×Ob)},QO ks e=keepOB ks e
 | []=>rfl
 | (t,x)::r=>by
  simp only[QO,keepOB,ZcP (e:=r),Wc]
theorem Zqw{ks js:List Nat}:fgt ks js ⟨lvl,env,loc,out⟩=⟨lvl,keepB ks env,keepOB js loc,out⟩:=by
 simp only[fgt,ZcO,ZcP]
theorem Zqx{ks js:List Nat}:clean ks js ⟨lvl,env,loc,out⟩=(XZ lvl js (keepB ks env)/\VJ lvl js (keepOB js loc)):=by
 simp only[clean,ZcO,ZcP]
theorem Zqy{js:List Nat}{k:Nat}{p:Zf}{off len s:Nat}{cap:Option Nat}:JW lvl js (.hd (lvl,k) p off len cap s)=(memB k js=true):=by
 apply propext
 simp only[JW,men,forall_const,Wc]
theorem Zqz{js:List Nat}{k off:Nat}:JW lvl js (.ab (lvl,k) off)=(memB k js=true):=by
 apply propext
 simp only[JW,men,forall_const,Wc]
theorem ZqA{js:List Nat}{k:Nat}:JW lvl js (.sv (lvl,k))=(memB k js=true):=by
 apply propext
 simp only[JW,men,forall_const,Wc]
theorem ZqB{js:List Nat}{k:Nat}{p:Zf}{i f s:Nat}:JW lvl js (.ae (lvl,k) p i f s)=(memB k js=true):=by
 apply propext
 simp only[JW,men,forall_const,Wc]
theorem ZQ{js:List Nat}{id:Zd}{p:Zf}{off len s:Nat}{cap:Option Nat}(h:id.1≠lvl):JW lvl js (.hd id p off len cap s)=True:=by
 apply propext
 simp only[JW,men,iff_true]
 exact fun hh=>absurd hh h
theorem ZqC{js:List Nat}{t:Tr}:JW lvl js (.tr t)=True:=(rfl)
theorem ZqD{js:List Nat}{es:Row}:JW lvl js (.cs es)=True:=(rfl)
theorem ZqE{js:List Nat}{l:List IV}:JW lvl js (.ag l)=Vs lvl js l:=by simp only[JW,Vs,men]
theorem ZqF{js:List Nat}{l:List IV}:JW lvl js (.tu l)=Vs lvl js l:=by simp only[JW,Vs,men]
theorem ZqG{js:List Nat}{f:FuncId}{l:List IV}:JW lvl js (.fn f l)=Vs lvl js l:=by simp only[JW,Vs,men]
theorem ZqH{js:List Nat}:JW lvl js .un=True:=(rfl)
theorem ZqI{js:List Nat}:JW lvl js .er=True:=(rfl)
theorem ZqJ{js:List Nat}{l:List Tr}:JW lvl js (.ta l)=True:=(rfl)
theorem ZqK{js:List Nat}:Vs lvl js []=True:=(rfl)
theorem ZqL{js:List Nat}{x:IV}{r:List IV}:Vs lvl js (x::r)=(JW lvl js x/\Vs lvl js r):=(rfl)
theorem ZqM{js:List Nat}:XZ lvl js []=True:=(rfl)
theorem ZqN{js:List Nat}{t:Nat}{x:IV}{r:List (Nat×IV)}:XZ lvl js ((t,x)::r)=(JW lvl js x/\XZ lvl js r):=(rfl)
theorem ZqO{js:List Nat}:VJ lvl js []=True:=(rfl)
theorem ZqP{js:List Nat}{t:Nat}{x:List IV}{r:List (Nat×Ob)}:VJ lvl js ((t,.bx x)::r)=(Vs lvl js x/\VJ lvl js r):=(rfl)
theorem ZqQ{js:List Nat}{t k:Nat}{es:Row}{u:Bool}{hw ver:Nat}{r:List (Nat×Ob)}:VJ lvl js ((t,.ar k es u hw ver)::r)=VJ lvl js r:=(rfl)
theorem ZqR{js:List Nat}{t:Nat}{l:List (Int×Int)}{r:List (Nat×Ob)}:VJ lvl js ((t,.mp l)::r)=VJ lvl js r:=(rfl)
def XD(ks js:List Nat)(J:St->Prop)(Q:Ex->St->Prop):Ex->St->Prop:=fun e s' => match e with | .nrm=>clean ks js s'/\J (fgt ks js s') | e=>Q e s'
theorem ZqS{ks js:List Nat}{J:St->Prop}:XD ks js J Q .nrm st=(clean ks js st/\J (fgt ks js st)):=(rfl)
theorem ZqT{ks js:List Nat}{J:St->Prop}{i:Nat}:XD ks js J Q (.ext i) st=Q (.ext i) st:=(rfl)
theorem ZqU{ks js:List Nat}{J:St->Prop}:XD ks js J Q .ret st=Q .ret st:=(rfl)
theorem ZgU{ks js:List Nat}{c:C2}(I:Nat->St->Prop)(n0:Nat)(h0:clean ks js st/\I n0 (fgt ks js st))(hs:∀ n s,I n s->wp C c s (XD ks js (fun s' => ∃ m,m<n/\I m s') Q)):wp C (.lp ks js c) st Q:=by
 refine⟨I,⟨h0.1,n0,h0.2⟩,fun n s hI=>?_⟩
 have h:=hs n s hI
 have e:(XD ks js (fun s' => ∃ m,m<n/\I m s') Q)=fun e s' => match e with | .nrm=>clean ks js s'/\∃ m,m<n/\I m (fgt ks js s') | e=>Q e s':=by
  funext e s';cases e <;> rfl
 rw[e] at h
 exact h
def ZcQ{α:Type}(N:Nat)(mk:Nat->α->St)(A:Nat->α->Prop)(n:Nat)(s':St):Prop:=∃ m,m<n/\∃ k x,k+m=N/\s'=mk k x/\A k x
theorem Zr{α:Type}{N:Nat}{mk:Nat->α->St}{A:Nat->α->Prop}{k:Nat}{s':St}(y:α)(hk:k<N)(h:s'=mk (k+1) y)(ha:A (k+1) y):ZcQ N mk A (N-k) s':=⟨N-(k+1),by omega,k+1,y,by omega,h,ha⟩
theorem Jf{α:Type}{ks js:List Nat}{c:C2}(N:Nat)(mk:Nat->α->St)(A:Nat->α->Prop)(x0:α)(h0:clean ks js st/\fgt ks js st=mk 0 x0)(hA:A 0 x0)
  (hs:∀ k x,k<=N->A k x->wp C c (mk k x) (XD ks js (ZcQ N mk A (N-k)) Q)):wp C (.lp ks js c) st Q:=by
 refine ZgU (fun n s=>∃ k x,k+n=N/\s=mk k x/\A k x) N ⟨h0.1,0,x0,by omega,h0.2,hA⟩ (fun n s ⟨k,x,hk,he,ha⟩=>?_)
 subst he
 have h:=hs k x (by omega) ha
 have hn:N-k=n:=by omega
 rw[hn] at h
 exact h
end
end Go.Fd

namespace Go.Fd
section
variable {C:ZD} {lvl:Nat} {env:List (Nat×IV)} {loc:List (Nat×Ob)} {out:Zc} {d:Option Nat} {K:St->Prop} {st:St}
def st2(v:Option (List IV))(m:Nat)(p:IV)(d:Option Nat)(st:St)(K:St->Prop):Prop :=
 match v with
 | some l=>d=none/\l.length=m /\
  match p with
  | .ab id off =>
   match st.sto id with
   | some (.bx cells)=>off+l.length<=cells.length/\Je (id.1+1) l/\K (Zg st id (.bx (JS cells off l)))
   | _=>False
  | .ae id p i f s=>Yp id p i s f l st K
  | _=>False
 | none=>False
theorem ZqV{m:Nat}{p x:X}:Zu C d (.st m p x) ⟨lvl,env,loc,out⟩ K=st2 (cellsOf (xv env x)) m (xv env p) d ⟨lvl,env,loc,out⟩ K:=by
 rw[JA rfl]
 simp only[ew]
 generalize cellsOf (xv env x)=v
 cases v with
 | none=>simp [st2]
 | some l=>rfl
def stb(o:Option Ob)(id:Zd)(off:Nat)(l:List IV)(st:St)(K:St->Prop):Prop :=
 match o with
 | some (.bx cells)=>off+l.length<=cells.length/\Je (id.1+1) l/\K (Zg st id (.bx (JS cells off l)))
 | _=>False
theorem ZqW{m:Nat}{l:List IV}{id:Zd}{off:Nat}:st2 (some l) m (.ab id off) d ⟨lvl,env,loc,out⟩ K=(d=none/\l.length=m/\stb (Zy lvl loc out id) id off l ⟨lvl,env,loc,out⟩ K):=(rfl)
theorem ZqX{m:Nat}{l:List IV}{id:Zd}{p:Zf}{i f s:Nat}:st2 (some l) m (.ae id p i f s) d st K=(d=none/\l.length=m/\Yp id p i s f l st K):=(rfl)
theorem ZqY{cells l:List IV}{id:Zd}{off:Nat}:stb (some (.bx cells)) id off l st K=(off+l.length<=cells.length/\Je (id.1+1) l/\K (Zg st id (.bx (JS cells off l)))):=(rfl)
theorem QC{cs:List IV}{off:Nat}:JS cs off []=cs:=(rfl)
theorem QD{cs:List IV}{off:Nat}{x:IV}{r:List IV}:JS cs off (x::r)=JS (cs.set off x) (off+1) r:=(rfl)
theorem ZqZ{l:Nat}:Je l []=True:=(rfl)
theorem Zq0{l:Nat}{x:IV}{r:List IV}:Je l (x::r)=(low l x/\Je l r):=(rfl)
theorem Zq1{l:Nat}{t:Tr}:low l (.tr t)=True:=(rfl)
theorem Zq2{l:Nat}{es:Row}:low l (.cs es)=True:=(rfl)
theorem Zq3{l k:Nat}{p:Zf}{off len s:Nat}{cap:Option Nat}:low (l+1) (.hd (l,k) p off len cap s)=True:=by
 apply propext;simp [low,men]
theorem Zq4{l k off:Nat}:low (l+1) (.ab (l,k) off)=True:=by
 apply propext;simp [low,men]
theorem Zq5{l:Nat}{c:List IV}:low l (.ag c)=Je l c:=by simp only[low,Je,men]
theorem Zq6{l:Nat}{c:List IV}:low l (.tu c)=Je l c:=by simp only[low,Je,men]
theorem Zq7{l k:Nat}{es:Row}{u:Bool}:low l (.ow k es u)=True:=(rfl)
theorem Zq8{l:Nat}:low l .un=True:=(rfl)
theorem Zq9{l:Nat}:low l .er=True:=(rfl)
theorem Zra{l:Nat}{c:List Tr}:low l (.ta c)=True:=(rfl)
def kst(id:Zd)(p:Zf)(i s f:Nat)(r:List IV)(K:St->Prop)(st':St):Prop:=Yp id p i s f r st' K
theorem Zrb{id:Zd}{p:Zf}{i s f:Nat}{r:List IV}:kst id p i s f r K st=Yp id p i s f r st K:=(rfl)
theorem Zrc{id:Zd}{p:Zf}{i s f:Nat}:Yp id p i s f [] st K=K st:=(rfl)
def sc1(o:Option Ob)(id:Zd)(p:Zf)(i f s:Nat)(x:IV)(st:St)(K:St->Prop):Prop :=
 match o with
 | some (.ar k es u hw ver)=>JF p s hw ver u/\Z6 (getp es p) fun es' => Z6 es'[i]? fun e=>Z6 e[f]? fun t0 =>
  match x with
  | .tr (.v y)=>isSc t0=true/\K (Zg st id (.ar k (ZG es p i f (.v y)) u hw ver))
  | .cs []=>p=[]/\K (Zg st id (.ar k (ZG es [] i f (.sl [])) u hw (ver+1)))
  | .cs zs=>p=[]/\K (Zg st id (.ar k (ZG es [] i f (.sl zs)) false hw (ver+1)))
  | .tr (.sl zs)=>p=[]/\K (Zg st id (.ar k (ZG es [] i f (.sl zs)) false hw (ver+1)))
  | .hd id2 [] 0 len none s2=>p=[]/\id2≠id/\id2.1=st.lvl /\
   match st.sto id2 with
   | some (.ar _ zs u2 hw2 _)=>s2=hw2/\len=zs.length/\K (Zg (Zp id2 st) id (.ar k (ZG es [] i f (.sl zs)) (u&&u2) hw (ver+1)))
   | _=>False
  | .hd id2 [(a,b)] 0 len none s2=>p=[]/\id2=id/\a=i/\b=f/\u=true/\s2=ver/\WC t0=some len/\K (Zg st id (.ar k es u hw ver))
  | _=>False
 | _=>False
theorem Zrd{id:Zd}{p:Zf}{i s f:Nat}{x:IV}{r:List IV}:Yp id p i s f (x::r) ⟨lvl,env,loc,out⟩ K=sc1 (Zy lvl loc out id) id p i f s x ⟨lvl,env,loc,out⟩ (kst id p i s (f+1) r K):=by
 simp only[Yp,QM,sc1]
 rw[show (⟨lvl,env,loc,out⟩:St).sto id=Zy lvl loc out id from rfl]
 generalize Zy lvl loc out id=o
 cases o with
 | none=>rfl
 | some ob =>
  cases ob with
  | bx=>rfl
  | mp=>rfl
  | ar k es u hw ver =>
   dsimp only
   rw[<-Yu]
   apply propext
   constructor
   ·rintro⟨es',h1,h2,e,h3,t0,h4,h5⟩
    refine⟨h2,es',h1,?_⟩
    rw[h3]
    simp only[Z6]
    rw[h4]
    exact h5
   ·rintro⟨h2,es',h1,h3⟩
    rw[<-Yu] at h3
    obtain⟨e,h3,h4⟩:=h3
    rw[<-Yu] at h4
    obtain⟨t0,h4,h5⟩:=h4
    exact⟨es',h1,h2,e,h3,t0,h4,h5⟩
def XE(k:Nat)(es:Row)(u:Bool)(hw ver:Nat)(id:Zd)(p:Zf)(i f:Nat)(x:IV)(st:St)(K:St->Prop)(t0:Tr):Prop :=
  match x with
  | .tr (.v y)=>isSc t0=true/\K (Zg st id (.ar k (ZG es p i f (.v y)) u hw ver))
  | .cs []=>p=[]/\K (Zg st id (.ar k (ZG es [] i f (.sl [])) u hw (ver+1)))
  | .cs zs=>p=[]/\K (Zg st id (.ar k (ZG es [] i f (.sl zs)) false hw (ver+1)))
  | .tr (.sl zs)=>p=[]/\K (Zg st id (.ar k (ZG es [] i f (.sl zs)) false hw (ver+1)))
  | .hd id2 [] 0 len none s2=>p=[]/\id2≠id/\id2.1=st.lvl /\
   match st.sto id2 with
   | some (.ar _ zs u2 hw2 _)=>s2=hw2/\len=zs.length/\K (Zg (Zp id2 st) id (.ar k (ZG es [] i f (.sl zs)) (u&&u2) hw (ver+1)))
   | _=>False
  | .hd id2 [(a,b)] 0 len none s2=>p=[]/\id2=id/\a=i/\b=f/\u=true/\s2=ver/\WC t0=some len/\K (Zg st id (.ar k es u hw ver))
  | _=>False
def sc3(k:Nat)(es:Row)(u:Bool)(hw ver:Nat)(id:Zd)(p:Zf)(i f:Nat)(x:IV)(st:St)(K:St->Prop)(e:List Tr):Prop:=Z6 e[f]? (XE k es u hw ver id p i f x st K)
def sc4(k:Nat)(es:Row)(u:Bool)(hw ver:Nat)(id:Zd)(p:Zf)(i f:Nat)(x:IV)(st:St)(K:St->Prop)(es':Row):Prop:=Z6 es'[i]? (sc3 k es u hw ver id p i f x st K)
section sc
variable {k:Nat} {es:Row} {u:Bool} {hw ver:Nat} {id:Zd} {p:Zf} {i f s:Nat} {x:IV}
theorem Zre:sc1 (some (.ar k es u hw ver)) id p i f s x st K=(JF p s hw ver u/\Z6 (getp es p) (sc4 k es u hw ver id p i f x st K)):=(rfl)
theorem Zrf{e:List Tr}:sc3 k es u hw ver id p i f x st K e=Z6 e[f]? (XE k es u hw ver id p i f x st K):=(rfl)
theorem Zrg{es':Row}:sc4 k es u hw ver id p i f x st K es'=Z6 es'[i]? (sc3 k es u hw ver id p i f x st K):=(rfl)
theorem Zrh{y:Value}{t0:Tr}:XE k es u hw ver id p i f (.tr (.v y)) st K t0=(isSc t0=true/\K (Zg st id (.ar k (ZG es p i f (.v y)) u hw ver))):=(rfl)
theorem Zri{t0:Tr}:XE k es u hw ver id p i f (.cs []) st K t0=(p=[]/\K (Zg st id (.ar k (ZG es [] i f (.sl [])) u hw (ver+1)))):=(rfl)
theorem Zrj{zs:Row}{t0:Tr}:XE k es u hw ver id p i f (.tr (.sl zs)) st K t0=(p=[]/\K (Zg st id (.ar k (ZG es [] i f (.sl zs)) false hw (ver+1)))):=(rfl)
def sc5(o:Option Ob)(k:Nat)(es:Row)(u:Bool)(hw ver:Nat)(id:Zd)(i f len s2:Nat)(st2 st:St)(K:St->Prop):Prop :=
 match o with
 | some (.ar _ zs u2 hw2 _)=>s2=hw2/\len=zs.length/\K (Zg st2 id (.ar k (ZG es [] i f (.sl zs)) (u&&u2) hw (ver+1)))
 | _=>False
theorem Zrk{key len s2:Nat}{t0:Tr}:XE k es u hw ver id p i f (.hd (lvl,key) [] 0 len none s2) ⟨lvl,env,loc,out⟩ K t0=(p=[]/\(lvl,key)≠id/\sc5 (lkO key loc) k es u hw ver id i f len s2 (Zp (lvl,key) ⟨lvl,env,loc,out⟩) ⟨lvl,env,loc,out⟩ K):=by
 simp only[XE]
 rw[show (⟨lvl,env,loc,out⟩:St).sto (lvl,key)=lkO key loc from Z8]
 generalize lkO key loc=o
 apply propext
 constructor
 ·rintro⟨h1,h2,_,h3⟩
  refine⟨h1,h2,?_⟩
  cases o with
  | none=>exact h3
  | some ob=>cases ob <;> exact h3
 ·rintro⟨h1,h2,h3⟩
  refine⟨h1,h2,trivial,?_⟩
  cases o with
  | none=>exact h3
  | some ob=>cases ob <;> exact h3
theorem Zrl{id2:Zd}{a b len s2:Nat}{t0:Tr}:XE k es u hw ver id p i f (.hd id2 [(a,b)] 0 len none s2) st K t0=(p=[]/\id2=id/\a=i/\b=f/\u=true/\s2=ver/\WC t0=some len/\K (Zg st id (.ar k es u hw ver))):=(rfl)
theorem Zrm{es:Row}:WC (.sl es)=some es.length:=(rfl)
theorem Zrn{k2:Nat}{zs:Row}{u2:Bool}{hw2 ver2 len s2:Nat}{st2:St}:sc5 (some (.ar k2 zs u2 hw2 ver2)) k es u hw ver id i f len s2 st2 st K=(s2=hw2/\len=zs.length/\K (Zg st2 id (.ar k (ZG es [] i f (.sl zs)) (u&&u2) hw (ver+1)))):=(rfl)
end sc
theorem Zro{k n:Nat}{z:List Value}{ps:List (Nat×X)}:Zu C d (.bw k n z ps) ⟨lvl,env,loc,out⟩ K=ew C d ⟨lvl,env,loc,out⟩ K (.bw k n z ps):=JA rfl
def kbw(k lvl:Nat)(d:Option Nat)(K:St->Prop)(ts:List Tr)(u:Bool)(st':St):Prop :=
 K { Zg st' (lvl,keyOf d) (.ar k [ts] u 1 0) with env:=ptd d (.hd (lvl,keyOf d) [] 0 1 none 1) st'.env }
theorem Zrp{k:Nat}{ts:List Tr}{u:Bool}:kbw k lvl d K ts u ⟨lvl,env,loc,out⟩=K ⟨lvl,ptd d (.hd (lvl,keyOf d) [] 0 1 none 1) env,ptO (keyOf d) (.ar k [ts] u 1 0) loc,out⟩:=by
 simp only[kbw,XA]
def bw2(v:Option (List IV))(k n:Nat)(d:Option Nat)(loc:List (Nat×Ob))(lvl:Nat)(st:St)(K:St->Prop):Prop :=
 match v with
 | some l=>n=1/\l.length=k/\freshK (keyOf d) loc 1/\Yy l st (kbw k lvl d K)
 | none=>False
theorem Zrq{k n:Nat}{z:List Value}{x:X}:ew C d ⟨lvl,env,loc,out⟩ K (.bw k n z [(0,x)])=bw2 (cellsOf (xv env x)) k n d loc lvl ⟨lvl,env,loc,out⟩ K:=by
 simp only[ew]
 generalize cellsOf (xv env x)=v
 cases v with
 | none=>simp [bw2]
 | some l=>rfl
theorem Zrr{k n:Nat}{l:List IV}:bw2 (some l) k n d loc lvl st K=(n=1/\l.length=k/\freshK (keyOf d) loc 1/\Yy l st (kbw k lvl d K)):=(rfl)
def kmv(r:List IV)(F:List Tr->Bool->St->Prop)(t:Tr)(a:Bool)(st':St):Prop:=Yy r st' fun ts b st'' => F (t::ts) (a&&b) st''
def kmc(t:Tr)(a:Bool)(F:List Tr->Bool->St->Prop)(ts:List Tr)(b:Bool)(st'':St):Prop:=F (t::ts) (a&&b) st''
section mv
variable {r:List IV} {F:List Tr->Bool->St->Prop} {F1:Tr->Bool->St->Prop}
theorem Zrs{t:Tr}{a:Bool}:kmv r F t a st=Yy r st (kmc t a F):=(rfl)
theorem Zrt{t:Tr}{a:Bool}{ts:List Tr}{b:Bool}:kmc t a F ts b st=F (t::ts) (a&&b) st:=(rfl)
theorem Zru:Yy [] st F=F [] true st:=(rfl)
theorem Zrv{x:IV}:Yy (x::r) st F=Qp st x (kmv r F):=(rfl)
theorem Zrw{y:Value}:Qp st (.tr (.v y)) F1=F1 (.v y) true st:=(rfl)
theorem Zrx{es:Row}:Qp st (.tr (.sl es)) F1=F1 (.sl es) false st:=(rfl)
theorem Zry:Qp st (.cs []) F1=F1 (.sl []) true st:=(rfl)
def mv5(o:Option Ob)(len s2:Nat)(st1:St)(F1:Tr->Bool->St->Prop):Prop :=
 match o with
 | some (.ar _ zs u2 hw2 _)=>s2=hw2/\len=zs.length/\F1 (.sl zs) u2 st1
 | _=>False
theorem Zrz{key len s2:Nat}:Qp ⟨lvl,env,loc,out⟩ (.hd (lvl,key) [] 0 len none s2) F1=mv5 (lkO key loc) len s2 (Zp (lvl,key) ⟨lvl,env,loc,out⟩) F1:=by
 simp only[Qp]
 rw[show (⟨lvl,env,loc,out⟩:St).sto (lvl,key)=lkO key loc from Z8]
 generalize lkO key loc=o
 apply propext
 constructor
 ·rintro⟨_,h3⟩
  cases o with
  | none=>exact h3
  | some ob=>cases ob <;> exact h3
 ·intro h3
  refine⟨trivial,?_⟩
  cases o with
  | none=>exact h3
  | some ob=>cases ob <;> exact h3
theorem ZrA{k2:Nat}{zs:Row}{u2:Bool}{hw2 ver2 len s2:Nat}:mv5 (some (.ar k2 zs u2 hw2 ver2)) len s2 st F1=(s2=hw2/\len=zs.length/\F1 (.sl zs) u2 st):=(rfl)
end mv
def U2:IV->Prop
 | .hd _ [] 0 _ none _=>True
 | _=>False
theorem ZrB{id:Zd}{len s:Nat}:U2 (.hd id [] 0 len none s)=True:=(rfl)
def XF:List IV->Prop
 | []=>True
 | .tr (.v _)::r=>XF r
 | _=>False
theorem ZrC:XF []=True:=(rfl)
theorem ZrD{y:Value}{r:List IV}:XF (.tr (.v y)::r)=XF r:=(rfl)
def smp(p:IV)(l:Option (List IV)):Prop :=
 match p with
 | .ab .. => True
 | .ae .. => l≠some []/\XF (l.getD [])
 | _=>False
theorem ZrE{id:Zd}{off:Nat}{l:Option (List IV)}:smp (.ab id off) l=True:=(rfl)
theorem ZrF{id:Zd}{p:Zf}{i f s:Nat}{x:IV}{r:List IV}:smp (.ae id p i f s) (some (x::r))=XF (x::r):=by simp [smp]
theorem ZgV{id:Zd}{p:Zf}{i s k:Nat}{u:Bool}{hw ver:Nat}:∀(l:List IV) (f:Nat) (es:Row) (st0:St) (K:St->Prop),XF l->st0.sto id=some (.ar k es u hw ver)->Yp id p i s f l st0 K->V1 p i f l es (fun es' => K (Zg st0 id (.ar k es' u hw ver)))\/l=[]
 | [],f,es,st0,K,_,_,h=>.inr rfl
 | x::r,f,es,st0,K,ha,hs,h=>by
  refine .inl ?_
  simp only[Yp,QM] at h
  rw[hs] at h
  obtain⟨es',hg,hst,e,hi,t0,hf,h⟩:=h
  cases x with
  | tr t =>
   cases t with
   | v y =>
    obtain⟨hsc,h⟩:=h
    simp only[V1]
    refine⟨es',hg,e,hi,t0,hf,hsc,?_⟩
    have hs1:(Zg st0 id (.ar k (ZG es p i f (.v y)) u hw ver)).sto id=some (.ar k (ZG es p i f (.v y)) u hw ver):=by rw[Ya];unfold Ze;rw[if_pos rfl]
    rcases ZgV r (f+1) _ _ K ha hs1 h with g | g
    ·simp only[Zah] at g
     exact g
    ·subst g
     exact h
   | sl=>cases ha
  | _=>cases ha
theorem ZrG{m:Nat}{p x:X}:Zu C d (.s0 m p x) ⟨lvl,env,loc,out⟩ K=(smp (xv env p) (cellsOf (xv env x))/\Zu C d (.st m p x) ⟨lvl,env,loc,out⟩ K):=by
 rw[JA rfl,JA rfl]
 simp only[ew,Ju]
 generalize cellsOf (xv env x)=v
 generalize xv env p=q
 apply propext
 constructor
 ·rintro⟨h0,h⟩
  split at h <;> try contradiction
  rename_i l
  obtain⟨h1,h⟩:=h
  split at h <;> try contradiction
  ·exact⟨trivial,h0,h1,h⟩
  ·rename_i id p i f s
   split at h <;> try contradiction
   rename_i k es u hw ver hs
   obtain⟨g1,g2,g3⟩:=h
   refine⟨⟨by simpa using g1,?_⟩,h0,h1,Zch g2 l f es _ K hs g3 (fun e=>absurd e g1)⟩
   have:∀(l:List IV) (f:Nat) (es:Row) (K:Row->Prop),V1 p i f l es K->XF l:=by
    intro l
    induction l with
    | nil=>intros;trivial
    | cons x r ih =>
     intro f es K h
     simp only[V1] at h
     obtain⟨_,_,_,_,_,_,_,h⟩:=h
     split at h <;> try contradiction
     exact ih _ _ _ h
   exact this _ _ _ _ g3
 ·rintro⟨h3,h0,h⟩
  refine⟨h0,?_⟩
  split at h <;> try contradiction
  rename_i l
  obtain⟨h1,h⟩:=h
  refine⟨h1,?_⟩
  split at h <;> try contradiction
  ·exact h
  ·rename_i id p i f s
   obtain⟨g1,g2⟩:=h3
   cases l with
   | nil=>exact absurd rfl g1
   | cons y r =>
    have h':=h
    simp only[Yp,QM] at h'
    split at h' <;> try contradiction
    rename_i k es u hw ver hs
    refine⟨by simp,h'.choose_spec.2.1,?_⟩
    rcases ZgV _ _ _ _ K g2 hs h with g | g
    ·exact g
    ·cases g
theorem ZrH{k:Nat}{x y:X}:Zu C d (.a0 k x y) ⟨lvl,env,loc,out⟩ K=(U2 (xv env x)/\Zu C d (.ap k 0 x y) ⟨lvl,env,loc,out⟩ K):=by
 rw[JA rfl,JA rfl]
 apply propext
 constructor
 ·intro he
  refine⟨?_,Zfq he⟩
  simp only[ew,Ju] at he
  split at he <;> try contradiction
  rename_i hx
  rw[hx];trivial
 ·rintro⟨h1,h⟩
  generalize hq:xv env x=q at h1
  unfold U2 at h1
  split at h1 <;> try contradiction
  rename_i id len s
  have go:∀ items:Row,ScR items->Jg d k x loc items true ⟨lvl,env,loc,out⟩ K->match Zy lvl loc out id with
   | some (.ar k' es u hw ver)=>k'=k/\s=hw/\len=es.length/\ScR items/\Zw k items/\len+items.length<=bigN /\
     K { Zg ⟨lvl,env,loc,out⟩ id (.ar k (es++items) u (max hw (len+items.length)) ver) with env:=ptd d (.hd id [] 0 (len+items.length) none (max hw (len+items.length))) env }
   | _=>False:=fun items hsc h=>by
   unfold Jg at h
   obtain⟨g1,h⟩:=h
   simp only[hq] at h
   rw[show (⟨lvl,env,loc,out⟩:St).sto id=Zy lvl loc out id from rfl] at h
   generalize Zy lvl loc out id=o at h ⊢
   cases o with
   | none=>exact h
   | some ob =>
    cases ob with
    | bx=>exact h
    | mp=>exact h
    | ar k' es u hw ver =>
     simp only[Ubv] at h
     exact⟨h.1,h.2.1,h.2.2.1,hsc,g1,h.2.2.2.1,h.2.2.2.2⟩
  simp only[ew,Ju,YR] at h ⊢
  rw[hq]
  rw[show (⟨lvl,env,loc,out⟩:St).sto=Zy lvl loc out from rfl] at *
  split at h <;> try contradiction
  ·rename_i zs hy
   simp only[if_true] at h
   have:=go zs h.1 h.2
   rw[hy]
   exact this
  ·rename_i zs hy
   simp only[if_true] at h
   have:=go zs h.1 h.2
   rw[hy]
   exact this
  ·rename_i id2 p2 off2 len2 c2 s2 hy
   simp only[if_true] at h
   rw[hy]
   dsimp only
   unfold JG at h ⊢
   generalize Zy lvl loc out id2=o3 at h ⊢
   cases o3 with
   | none=>exact h.elim
   | some ob3 =>
    cases ob3 with
    | bx=>exact h.elim
    | mp=>exact h.elim
    | ar k3 es3 u3 hw3 ver3 =>
     obtain⟨es',q1,q2,q3,q4,q5⟩:=h
     have:=go _ q4 q5
     split at this <;> try contradiction
     rename_i hs
     show (match Zy lvl loc out id with
      | some (.ar k' es u hw ver)=>k'=k/\s=hw/\len=es.length/\∃ es',getp es3 p2=some es'/\JF p2 s2 hw3 ver3 u3/\off2+len2<=es'.length/\ScR (cut es' off2 len2)/\Zw k (cut es' off2 len2)/\len+(cut es' off2 len2).length<=bigN /\
        K { Zg ⟨lvl,env,loc,out⟩ id (.ar k (es++cut es' off2 len2) u (max hw (len+(cut es' off2 len2).length)) ver) with env:=ptd d (.hd id [] 0 (len+(cut es' off2 len2).length) none (max hw (len+(cut es' off2 len2).length))) env }
      | _=>False)
     rw[hs]
     exact⟨this.1,this.2.1,this.2.2.1,es',q1,q2,q3,this.2.2.2⟩
  ·exact absurd h.1 (by decide)
def ZaG:IV->Prop
 | .tr (.sl _)=>True
 | .cs _=>True
 | _=>False
theorem ZrI{es:Row}:ZaG (.tr (.sl es))=True:=(rfl)
theorem ZrJ{es:Row}:ZaG (.cs es)=True:=(rfl)
theorem ZrK{k:Nat}{x y:X}:Zu C d (.a1 k x y) ⟨lvl,env,loc,out⟩ K=(U2 (xv env x)/\ZaG (xv env y)/\Zu C d (.ap k 1 x y) ⟨lvl,env,loc,out⟩ K):=by
 rw[JA rfl,JA rfl]
 apply propext
 constructor
 ·intro he
  refine⟨?_,?_,Zfr he⟩
  ·simp only[ew,Ju] at he
   split at he <;> try contradiction
   rename_i hx
   rw[hx];trivial
  ·simp only[ew,Ju] at he
   split at he <;> try contradiction
   split at he <;> try contradiction
   have h4:=he.2.2.2
   unfold WD at h4
   split at h4 <;> try contradiction
   ·rename_i hy;rw[hy];trivial
   ·rename_i hy;rw[hy];trivial
 ·rintro⟨h1,h2,h⟩
  generalize hq:xv env x=q at h1
  unfold U2 at h1
  split at h1 <;> try contradiction
  rename_i id len s
  have go:∀ items:Row,Jg d k x loc items false ⟨lvl,env,loc,out⟩ K->match Zy lvl loc out id with
   | some (.ar k' es u hw ver)=>k'=k/\s=hw/\len=es.length/\Zw k items/\len+items.length<=bigN /\
     K { Zg ⟨lvl,env,loc,out⟩ id (.ar k (es++items) false (max hw (len+items.length)) ver) with env:=ptd d (.hd id [] 0 (len+items.length) none (max hw (len+items.length))) env }
   | _=>False:=fun items h=>by
   unfold Jg at h
   obtain⟨g1,h⟩:=h
   simp only[hq] at h
   rw[show (⟨lvl,env,loc,out⟩:St).sto id=Zy lvl loc out id from rfl] at h
   generalize Zy lvl loc out id=o at h ⊢
   cases o with
   | none=>exact h
   | some ob =>
    cases ob with
    | bx=>exact h
    | mp=>exact h
    | ar k' es u hw ver =>
     simp only[UbK] at h
     exact⟨h.1,h.2.1,h.2.2.1,g1,h.2.2.2.1,h.2.2.2.2⟩
  simp only[ew,Ju,WD] at h ⊢
  rw[hq]
  rw[show (⟨lvl,env,loc,out⟩:St).sto=Zy lvl loc out from rfl] at *
  generalize hy:xv env y=yv at h h2 ⊢
  unfold ZaG at h2
  split at h2 <;> try contradiction
  ·simp only[Nat.reduceEqDiff,if_false,true_and] at h
   exact go _ h
  ·simp only[Nat.reduceEqDiff,if_false,true_and] at h
   exact go _ h
def az1(x n:IV)(d:Option Nat)(k:Nat)(z:List Value)(st:St)(K:St->Prop):Prop :=
 match x with
 | .cs [] =>
  match n with
  | .tr (.v (.int .i64 m))=>0<m/\m<=bigN/\freshK (keyOf d) st.loc 1 /\
    K { Zg st (st.lvl,keyOf d) (.ar k (List.replicate m.toNat (z.map trv)) true m.toNat 0) with env:=ptd d (.hd (st.lvl,keyOf d) [] 0 m.toNat none m.toNat) st.env }
  | _=>False
 | _=>False
theorem ZrL{k:Nat}{z:List Value}{x n:X}:Zu C d (.az k z x n) ⟨lvl,env,loc,out⟩ K=az1 (xv env x) (xv env n) d k z ⟨lvl,env,loc,out⟩ K:=by
 rw[JA rfl]
 rfl
theorem ZrM{k:Nat}{z:List Value}{m:Int}:az1 (.cs []) (.tr (.v (.int .i64 m))) d k z ⟨lvl,env,loc,out⟩ K=(0<m/\m<=bigN/\freshK (keyOf d) loc 1/\K ⟨lvl,ptd d (.hd (lvl,keyOf d) [] 0 m.toNat none m.toNat) env,ptO (keyOf d) (.ar k (List.replicate m.toNat (z.map trv)) true m.toNat 0) loc,out⟩):=by
 simp only[az1,XA]
def tbx:IV->Prop
 | .ta _=>True
 | _=>False
theorem ZrN{cells:List Tr}:tbx (.ta cells)=True:=(rfl)
theorem ZrO{m:Option Nat}{p:X}:Zu C d (.lt m p) ⟨lvl,env,loc,out⟩ K=(tbx (xv env p)/\Zu C d (.ld m p) ⟨lvl,env,loc,out⟩ K):=by
 cases m <;> (
  rw[JZ rfl,JZ rfl]
  simp only[ev]
  generalize hx:xv env p=q
  cases q <;> simp [tbx])
def av4(o:Option Ob)(id:Zd)(es:Row)(hw ver len off2 len2 s2 k:Nat)(d:Option Nat)(st:St)(K:St->Prop):Prop :=
 match o with
 | some (.ar _ es2 false hw2 _)=>s2=hw2/\off2+len2<=es2.length/\Zw k (cut es2 off2 len2)/\len+(cut es2 off2 len2).length<=bigN /\
   K { Zg st id (.ar k (es++cut es2 off2 len2) false (max hw (len+(cut es2 off2 len2).length)) ver) with env:=ptd d (.hd id [] 0 (len+(cut es2 off2 len2).length) none (max hw (len+(cut es2 off2 len2).length))) st.env }
 | _=>False
def av3(y:IV)(id:Zd)(es:Row)(hw ver len k:Nat)(d:Option Nat)(st:St)(K:St->Prop):Prop :=
 match y with
 | .hd id2 [] off2 len2 _ s2=>av4 (st.sto id2) id es hw ver len off2 len2 s2 k d st K
 | _=>False
def av2(o:Option Ob)(y:IV)(id:Zd)(len s k:Nat)(d:Option Nat)(st:St)(K:St->Prop):Prop :=
 match o with
 | some (.ar k' es _ hw ver)=>k'=k/\s=hw/\len=es.length/\av3 y id es hw ver len k d st K
 | _=>False
def av1(x y:IV)(k:Nat)(d:Option Nat)(st:St)(K:St->Prop):Prop :=
 match x with
 | .hd id [] 0 len none s=>av2 (st.sto id) y id len s k d st K
 | _=>False
theorem ZrP{k:Nat}{x y:X}:Zu C d (.a2 k x y) ⟨lvl,env,loc,out⟩ K=av1 (xv env x) (xv env y) k d ⟨lvl,env,loc,out⟩ K:=by
 rw[JA rfl]
 rfl
theorem ZrQ{id:Zd}{len s k:Nat}{y:IV}:av1 (.hd id [] 0 len none s) y k d ⟨lvl,env,loc,out⟩ K=av2 (Zy lvl loc out id) y id len s k d ⟨lvl,env,loc,out⟩ K:=(rfl)
theorem ZrR{k' hw ver len s k:Nat}{es:Row}{u:Bool}{y:IV}{id:Zd}:av2 (some (.ar k' es u hw ver)) y id len s k d st K=(k'=k/\s=hw/\len=es.length/\av3 y id es hw ver len k d st K):=(rfl)
theorem ZrS{id id2:Zd}{es:Row}{hw ver len k off2 len2 s2:Nat}{c2:Option Nat}:av3 (.hd id2 [] off2 len2 c2 s2) id es hw ver len k d ⟨lvl,env,loc,out⟩ K=av4 (Zy lvl loc out id2) id es hw ver len off2 len2 s2 k d ⟨lvl,env,loc,out⟩ K:=(rfl)
theorem ZrT{key:Nat}{es es2:Row}{k2 hw ver len off2 len2 s2 k hw2 ver2:Nat}:av4 (some (.ar k2 es2 false hw2 ver2)) (lvl,key) es hw ver len off2 len2 s2 k d ⟨lvl,env,loc,out⟩ K=(s2=hw2/\off2+len2<=es2.length/\Zw k (cut es2 off2 len2)/\len+(cut es2 off2 len2).length<=bigN /\
   K ⟨lvl,ptd d (.hd (lvl,key) [] 0 (len+(cut es2 off2 len2).length) none (max hw (len+(cut es2 off2 len2).length))) env,ptO key (.ar k (es++cut es2 off2 len2) false (max hw (len+(cut es2 off2 len2).length)) ver) loc,out⟩):=by
 simp only[av4,XA]
def abx:IV->Prop
 | .ab .. => True
 | _=>False
theorem ZrU{id:Zd}{off:Nat}:abx (.ab id off)=True:=(rfl)
theorem ZrV{m:Option Nat}{p:X}:Zu C d (.lb m p none) ⟨lvl,env,loc,out⟩ K=(abx (xv env p)/\Zu C d (.ld m p) ⟨lvl,env,loc,out⟩ K):=by
 cases m <;> (
  rw[JZ rfl,JZ rfl]
  simp only[ev,Vb]
  generalize hx:xv env p=q
  cases q <;> simp [abx])
theorem ZrW{l i j:Nat}{a b:Nat}:Va (.ab (l,i) a) (.ab (l,j) b)=((i=j)=False):=by
 simp [Va]
theorem ZrX{m:Option Nat}{p:X}{q:Nat}:Zu C d (.lb m p (some q)) ⟨lvl,env,loc,out⟩ K=(Va (xv env p) (xv env (.t q))/\Zu C d (.ld m p) ⟨lvl,env,loc,out⟩ K):=by
 cases m <;> (
  rw[JZ rfl,JZ rfl]
  simp only[ev,Vb]
  generalize hx:xv env p=q
  generalize hy:xv env (.t _)=y
  cases q <;> cases y <;> simp [Va])
def VP:IV->Prop
 | .tr (.sl _)=>True
 | .cs _=>True
 | _=>False
theorem ZrY{es:Row}:VP (.tr (.sl es))=True:=(rfl)
theorem ZrZ{es:Row}:VP (.cs es)=True:=(rfl)
theorem Zr0{k:Nat}{x:X}{lo hi mx:Option X}:Zu C d (.sy k x lo hi mx) ⟨lvl,env,loc,out⟩ K=(VP (xv env x)/\Zu C d (.sx k x lo hi mx) ⟨lvl,env,loc,out⟩ K):=by
 rw[JZ rfl,JZ rfl]
 simp only[ev]
 generalize hx:xv env x=q
 cases q with
 | tr t =>
  cases t with
  | v=>simp [VP]
  | sl es=>simp only[VP,true_and]
 | cs es=>simp only[VP,true_and]
 | _=>simp only[VP,false_and]
def QE(L:Zc)(k:Nat):IV->Prop
 | .tr (.sl _)=>True
 | .cs _=>True
 | .hd id [] _ _ _ _=>Jy L id [] k
 | _=>False
theorem Zr1{L:Zc}{k:Nat}{es:Row}:QE L k (.tr (.sl es))=True:=(rfl)
theorem Zr2{L:Zc}{k:Nat}{es:Row}:QE L k (.cs es)=True:=(rfl)
theorem Zr3{L:Zc}{k:Nat}{id:Zd}{off len s:Nat}{cap:Option Nat}:QE L k (.hd id [] off len cap s)=Jy L id [] k:=(rfl)
def ZgW(m:Nat):Option Ob->Prop
 | some (.ar k _ _ _ _)=>k=m
 | _=>False
theorem Zr4{m k hw ver:Nat}{es:Row}{u:Bool}:ZgW m (some (.ar k es u hw ver))=(k=m):=(rfl)
theorem Zr5{key m:Nat}:Jy (Zy lvl loc out) (lvl,key) [] m=ZgW m (lkO key loc):=by
 unfold Jy
 rw[Z8]
 cases lkO key loc with
 | none=>rfl
 | some ob=>cases ob <;> rfl
theorem Zr6{k:Nat}{x:X}{lo hi mx:Option X}:Zu C d (.sw k x lo hi mx) ⟨lvl,env,loc,out⟩ K=(QE (Zy lvl loc out) k (xv env x)/\Zu C d (.sx k x lo hi mx) ⟨lvl,env,loc,out⟩ K):=by
 rw[JZ rfl,JZ rfl]
 simp only[ev]
 generalize xv env x=q
 cases q with
 | tr t =>
  cases t with
  | v=>simp [QE]
  | sl es=>simp only[QE,true_and]
 | cs es=>simp only[QE,true_and]
 | hd id p off len cap s =>
  cases p with
  | nil =>
   simp only[QE]
   exact propext ⟨fun⟨hw,h⟩=>⟨hw,Q1 (fun a h=>Q1 (fun b h=>⟨h.1,h.2.1,Q1 (fun m g=>⟨g.1,g.2.1,hw,g.2.2⟩) h.2.2⟩) h) h⟩,fun⟨hw,h⟩=>⟨hw,Q1 (fun a h=>Q1 (fun b h=>⟨h.1,h.2.1,Q1 (fun m g=>⟨g.1,g.2.1,g.2.2.2⟩) h.2.2⟩) h) h⟩⟩
  | cons c r=>simp [QE]
 | _=>simp [QE]
theorem Zr7{k:Nat}{x i:X}:Zu C d (.it k x i) ⟨lvl,env,loc,out⟩ K=(VP (xv env x)/\Zu C d (.ia k x i) ⟨lvl,env,loc,out⟩ K):=by
 rw[JZ rfl,JZ rfl]
 simp only[ev]
 generalize xv env x=q
 generalize xv env i=qi
 cases q with
 | tr t =>
  cases t with
  | v=>simp only[VP,false_and];split <;> simp
  | sl es=>simp only[VP,true_and]
 | cs es=>simp only[VP,true_and]
 | _=>simp only[VP,false_and];split <;> simp
def U3(v:IV)(d:Option Nat)(k:Nat)(loc0:List (Nat×Ob))(items:Row)(ui:Bool)(st1:St)(K:St->Prop):Prop :=
 Zw k items /\
 match v with
 | .cs zs=>(zs=[]\/items≠[])/\zs.length+items.length<=bigN/\Zw k zs/\freshK (keyOf d) loc0 1/\(zs=[]\/ui=false\/ScR zs) /\
  K { Zg st1 (st1.lvl,keyOf d) (.ar k (zs++items) ui (zs.length+items.length) 0) with env:=ptd d (.hd (st1.lvl,keyOf d) [] 0 (zs.length+items.length) none (zs.length+items.length)) st1.env }
 | .hd id [] 0 len none s =>
  match st1.sto id with
  | some (.ar k' es u hw ver)=>k'=k/\s=hw/\len=es.length/\len+items.length<=bigN /\
   K { Zg st1 id (.ar k (es++items) (u&&ui) (max hw (len+items.length)) ver) with env:=ptd d (.hd id [] 0 (len+items.length) none (max hw (len+items.length))) st1.env }
  | _=>False
 | _=>False
theorem Zr8{k:Nat}{x:X}{loc0:List (Nat×Ob)}{items:Row}{ui:Bool}:Jg d k x loc0 items ui ⟨lvl,env,loc,out⟩ K=U3 (xv env x) d k loc0 items ui ⟨lvl,env,loc,out⟩ K:=(rfl)
theorem Zr9{k:Nat}{loc0:List (Nat×Ob)}{items zs:Row}{ui:Bool}:U3 (.cs zs) d k loc0 items ui ⟨lvl,env,loc,out⟩ K=(Zw k items/\(zs=[]\/items≠[])/\zs.length+items.length<=bigN/\Zw k zs/\freshK (keyOf d) loc0 1/\(zs=[]\/ui=false\/ScR zs) /\
  K ⟨lvl,ptd d (.hd (lvl,keyOf d) [] 0 (zs.length+items.length) none (zs.length+items.length)) env,ptO (keyOf d) (.ar k (zs++items) ui (zs.length+items.length) 0) loc,out⟩):=by
 simp only[U3,XA]
def aph(o:Option Ob)(d:Option Nat)(k:Nat)(id:Zd)(len s:Nat)(items:Row)(ui:Bool)(st1:St)(K:St->Prop):Prop :=
 match o with
 | some (.ar k' es u hw ver)=>k'=k/\s=hw/\len=es.length/\len+items.length<=bigN /\
   K { Zg st1 id (.ar k (es++items) (u&&ui) (max hw (len+items.length)) ver) with env:=ptd d (.hd id [] 0 (len+items.length) none (max hw (len+items.length))) st1.env }
 | _=>False
theorem Zsa{k key len s:Nat}{loc0:List (Nat×Ob)}{items:Row}{ui:Bool}:U3 (.hd (lvl,key) [] 0 len none s) d k loc0 items ui ⟨lvl,env,loc,out⟩ K=(Zw k items/\aph (lkO key loc) d k (lvl,key) len s items ui ⟨lvl,env,loc,out⟩ K):=by
 simp only[U3]
 rw[show (⟨lvl,env,loc,out⟩:St).sto (lvl,key)=lkO key loc from Z8]
 rfl
theorem Zsb{k k' key len s:Nat}{items es:Row}{u ui:Bool}{hw ver:Nat}:aph (some (.ar k' es u hw ver)) d k (lvl,key) len s items ui ⟨lvl,env,loc,out⟩ K=(k'=k/\s=hw/\len=es.length/\len+items.length<=bigN /\
   K ⟨lvl,ptd d (.hd (lvl,key) [] 0 (len+items.length) none (max hw (len+items.length))) env,ptO key (.ar k (es++items) (u&&ui) (max hw (len+items.length)) ver) loc,out⟩):=by
 simp only[aph,XA]
def Vj(C:ZD)(d:Option Nat)(k md:Nat)(x:X)(y:IV)(st:St)(K:St->Prop):Prop :=
 match y with
 | .tr (.sl es)=>if md=0 then ScR es/\Jg d k x st.loc es true st K else md=1/\Jg d k x st.loc es false st K
 | .cs es=>if md=0 then ScR es/\Jg d k x st.loc es true st K else md=1/\Jg d k x st.loc es false st K
 | .hd id2 p2 off2 len2 c2 s2 =>
   if md=2 then
    p2=[]/\off2=0/\c2=none/\id2.1=st.lvl /\
    match st.sto id2 with
    | some (.ar _ zs u2 hw2 _)=>s2=hw2/\len2=zs.length/\Jg d k x st.loc zs u2 (Zp id2 st) K
    | _=>False
   else if md=0 then
    JG st.sto id2 p2 s2 fun es _ _=>off2+len2<=es.length/\ScR (cut es off2 len2)/\Jg d k x st.loc (cut es off2 len2) true st K
   else md=1/\p2=[] /\
    match st.sto id2 with
    | some (.ar k2 es _ hw2 ver2)=>s2=hw2/\off2+len2<=es.length/\Jg d k x st.loc (cut es off2 len2) false (Zg st id2 (.ar k2 es false hw2 ver2)) K
    | _=>False
 | .sv id2=>md=2/\id2.1=st.lvl /\
   match st.sto id2 with
   | some (.bx l)=>l.length=k/\Yy l st fun ts u st' => Jg d k x st.loc [ts] u (Zp id2 st') K
   | _=>False
 | _=>False
theorem Zsc{k md:Nat}{x y:X}:Zu C d (.ap k md x y) ⟨lvl,env,loc,out⟩ K=Vj C d k md x (xv env y) ⟨lvl,env,loc,out⟩ K:=by
 rw[JA rfl]
 rfl
theorem Zsd{k:Nat}{x y:X}:Zu C d (.a4 k x y) ⟨lvl,env,loc,out⟩ K=(Qq lvl (keyOf d) (Zy lvl loc out) (xv env x) (xv env y)/\Zu C d (.ap k 2 x y) ⟨lvl,env,loc,out⟩ K):=by
 rw[JA rfl,JA rfl]
 apply propext
 constructor
 ·intro h
  simp only[ew] at h
  exact⟨h.1,Zfs h.2⟩
 ·rintro⟨h1,h2⟩
  have h0:=h1
  unfold Qq at h1
  split at h1 <;> try contradiction
  split at h1 <;> try contradiction
  rename_i hy
  simp only[ew,hy] at h2
  simp only[ew]
  refine⟨h0,?_⟩
  unfold QN
  simp only[hy]
  exact h2.2
theorem Zse{i j kd off len s:Nat}{p:Zf}{cap:Option Nat}{L:Zc}:Qq lvl kd L (.hd (lvl,i) p off len cap s) (.sv (lvl,j))=(i<kd/\j<kd/\((i=j)=False)/\WE lvl kd (lvl,i) (L (lvl,j))):=by
 simp [Qq]
theorem Zsf{i r kd off len s:Nat}{p:Zf}{cap:Option Nat}:WE lvl kd (lvl,i) (some (.bx [.hd (lvl,r) p off len cap s]))=(r<kd/\((i=r)=False)):=by
 simp [WE]
section ap
variable {k:Nat} {x:X}
theorem Zsg{es:Row}:Vj C d k 0 x (.tr (.sl es)) ⟨lvl,env,loc,out⟩ K=(ScR es/\Jg d k x loc es true ⟨lvl,env,loc,out⟩ K):=(rfl)
theorem Zsh{es:Row}:Vj C d k 1 x (.tr (.sl es)) ⟨lvl,env,loc,out⟩ K=Jg d k x loc es false ⟨lvl,env,loc,out⟩ K:=by simp [Vj]
theorem Zsi{es:Row}:Vj C d k 0 x (.cs es) ⟨lvl,env,loc,out⟩ K=(ScR es/\Jg d k x loc es true ⟨lvl,env,loc,out⟩ K):=(rfl)
theorem Zsj{es:Row}:Vj C d k 1 x (.cs es) ⟨lvl,env,loc,out⟩ K=Jg d k x loc es false ⟨lvl,env,loc,out⟩ K:=by simp [Vj]
def kap(d:Option Nat)(k:Nat)(x:X)(off2 len2:Nat)(st:St)(K:St->Prop)(es:Row)(_u:Bool)(_v:Nat):Prop:=off2+len2<=es.length/\ScR (cut es off2 len2)/\Jg d k x st.loc (cut es off2 len2) true st K
theorem Zsk{off2 len2:Nat}{es:Row}{u:Bool}{v:Nat}:kap d k x off2 len2 ⟨lvl,env,loc,out⟩ K es u v=(off2+len2<=es.length/\ScR (cut es off2 len2)/\Jg d k x loc (cut es off2 len2) true ⟨lvl,env,loc,out⟩ K):=(rfl)
theorem Zsl{id2:Zd}{p2:Zf}{off2 len2 s2:Nat}{c2:Option Nat}:Vj C d k 0 x (.hd id2 p2 off2 len2 c2 s2) ⟨lvl,env,loc,out⟩ K=Vh (Zy lvl loc out id2) p2 s2 (kap d k x off2 len2 ⟨lvl,env,loc,out⟩ K):=by
 rw[<-Xz]
 rfl
def ap5(o:Option Ob)(d:Option Nat)(k:Nat)(x:X)(len2 s2:Nat)(loc0:List (Nat×Ob))(st1:St)(K:St->Prop):Prop :=
 match o with
 | some (.ar _ zs u2 hw2 _)=>s2=hw2/\len2=zs.length/\Jg d k x loc0 zs u2 st1 K
 | _=>False
theorem Zsm{key:Nat}{p2:Zf}{off2 len2 s2:Nat}{c2:Option Nat}:Vj C d k 2 x (.hd (lvl,key) p2 off2 len2 c2 s2) ⟨lvl,env,loc,out⟩ K=(p2=[]/\off2=0/\c2=none/\ap5 (lkO key loc) d k x len2 s2 loc (Zp (lvl,key) ⟨lvl,env,loc,out⟩) K):=by
 simp only[Vj,if_true]
 rw[show (⟨lvl,env,loc,out⟩:St).sto (lvl,key)=lkO key loc from Z8]
 generalize lkO key loc=o
 apply propext
 constructor
 ·rintro⟨h1,h2,h3,_,h5⟩
  refine⟨h1,h2,h3,?_⟩
  cases o with
  | none=>exact h5
  | some ob=>cases ob <;> exact h5
 ·rintro⟨h1,h2,h3,h5⟩
  refine⟨h1,h2,h3,trivial,?_⟩
  cases o with
  | none=>exact h5
  | some ob=>cases ob <;> exact h5
theorem Zsn{k2:Nat}{zs:Row}{u2:Bool}{hw2 ver2 len2 s2:Nat}{loc0:List (Nat×Ob)}{st1:St}:ap5 (some (.ar k2 zs u2 hw2 ver2)) d k x len2 s2 loc0 st1 K=(s2=hw2/\len2=zs.length/\Jg d k x loc0 zs u2 st1 K):=(rfl)
def ZcR(d:Option Nat)(k:Nat)(x:X)(loc0:List (Nat×Ob))(id2:Zd)(K:St->Prop)(ts:List Tr)(u:Bool)(st':St):Prop:=Jg d k x loc0 [ts] u (Zp id2 st') K
theorem Zso{loc0:List (Nat×Ob)}{id2:Zd}{ts:List Tr}{u:Bool}:ZcR d k x loc0 id2 K ts u st=Jg d k x loc0 [ts] u (Zp id2 st) K:=(rfl)
def aps(o:Option Ob)(d:Option Nat)(k:Nat)(x:X)(loc0:List (Nat×Ob))(id2:Zd)(st1:St)(K:St->Prop):Prop :=
 match o with
 | some (.bx l)=>l.length=k/\Yy l st1 (ZcR d k x loc0 id2 K)
 | _=>False
theorem Zsp{l:List IV}{loc0:List (Nat×Ob)}{id2:Zd}{st1:St}:aps (some (.bx l)) d k x loc0 id2 st1 K=(l.length=k/\Yy l st1 (ZcR d k x loc0 id2 K)):=(rfl)
theorem Zsq{key:Nat}:Vj C d k 2 x (.sv (lvl,key)) ⟨lvl,env,loc,out⟩ K=aps (lkO key loc) d k x loc (lvl,key) ⟨lvl,env,loc,out⟩ K:=by
 simp only[Vj]
 rw[show (⟨lvl,env,loc,out⟩:St).sto (lvl,key)=lkO key loc from Z8]
 generalize lkO key loc=o
 apply propext
 constructor
 ·rintro⟨_,_,h⟩
  cases o with
  | none=>exact h
  | some ob=>cases ob <;> exact h
 ·intro h
  refine⟨trivial,trivial,?_⟩
  cases o with
  | none=>exact h
  | some ob=>cases ob <;> exact h
end ap
theorem ZcS{L:Zc}{F:List IV->Prop}:∀{l:List Tr},ZV L (l.map .tr) F=F (l.map .tr)
 | []=>ZcN
 | t::r=>by rw[UaB,ZgM,ZcS,ZgI]
theorem ZaH{Pd:Zd->Prop}:∀{l:List Tr},Za Pd (l.map .tr)=True
 | []=>rfl
 | t::r=>by simp only[UaB,Za,men,ZaH,and_self]
def nlf(v:IV)(neg:Bool)(lvl:Nat)(env:List (Nat×IV))(loc:List (Nat×Ob))(out:Zc)(d:Option Nat)(K:St->Prop):Prop :=
 match v with
 | .tr (.sl es)=>K ⟨lvl,ptd d (iB neg) env,loc,out⟩/\(es=[]->K ⟨lvl,ptd d (iB !neg) env,loc,out⟩)
 | .cs es=>K ⟨lvl,ptd d (iB neg) env,loc,out⟩/\(es=[]->K ⟨lvl,ptd d (iB !neg) env,loc,out⟩)
 | _=>False
theorem Zsr{C:ZD}{d:Option Nat}{neg:Bool}{x:X}{lvl:Nat}{env:List (Nat×IV)}{loc:List (Nat×Ob)}{out:Zc}{K:St->Prop}:Zu C d (.nl neg x) ⟨lvl,env,loc,out⟩ K=nlf (xv env x) neg lvl env loc out d K:=by
 rw[JA rfl]
 rfl
theorem Zss{neg:Bool}{es:Row}{d:Option Nat}{lvl:Nat}{env:List (Nat×IV)}{loc:List (Nat×Ob)}{out:Zc}{K:St->Prop}:nlf (.tr (.sl es)) neg lvl env loc out d K=(K ⟨lvl,ptd d (iB neg) env,loc,out⟩/\(es=[]->K ⟨lvl,ptd d (iB !neg) env,loc,out⟩)):=(rfl)
theorem Zst{neg:Bool}{es:Row}{d:Option Nat}{lvl:Nat}{env:List (Nat×IV)}{loc:List (Nat×Ob)}{out:Zc}{K:St->Prop}:nlf (.cs es) neg lvl env loc out d K=(K ⟨lvl,ptd d (iB neg) env,loc,out⟩/\(es=[]->K ⟨lvl,ptd d (iB !neg) env,loc,out⟩)):=(rfl)
section row
variable {C:ZD} {d:Option Nat} {x y hi:X} {lvl:Nat} {env:List (Nat×IV)} {loc:List (Nat×Ob)} {out:Zc} {K:St->Prop} {st:St}
def Yc(d:Option Nat)(x:IV)(st:St)(K:St->Prop):Prop:=K { st with env:=ptd d x st.env }
theorem Zsu{v:IV}:Yc d v ⟨lvl,env,loc,out⟩ K=K ⟨lvl,ptd d v env,loc,out⟩:=(rfl)
theorem W4{v:IV}{id:Zd}{ob:Ob}:Yc d v (Zg st id ob) K=K { Zg st id ob with env:=ptd d v st.env }:=by
 unfold Yc
 rw[Xp]
def cpf(v:IV)(lvl:Nat)(env:List (Nat×IV))(loc:List (Nat×Ob))(out:Zc)(d:Option Nat)(K:St->Prop):Prop :=
 match v with
 | .cs es=>K ⟨lvl,ptd d (iI es.length) env,loc,out⟩
 | _=>False
theorem Zsv:Zu C d (.cp x) ⟨lvl,env,loc,out⟩ K=cpf (xv env x) lvl env loc out d K:=by
 rw[JA rfl]
 rfl
theorem Zsw{es:Row}:cpf (.cs es) lvl env loc out d K=K ⟨lvl,ptd d (iI es.length) env,loc,out⟩:=(rfl)
def shg(o:Option Ob)(id:Zd)(m:Int)(len s k:Nat)(d:Option Nat)(st:St)(K:St->Prop):Prop :=
 match o with
 | some (.ar k2 es u hw ver)=>k2=k/\s=hw/\0<=m/\m.toNat<=len/\len<=es.length/\Yc d (.hd id [] 0 m.toNat none hw) (Zg st id (.ar k2 (es.take m.toNat) u hw (ver+1))) K
 | _=>False
def U4(v hv:IV)(k:Nat)(d:Option Nat)(st:St)(K:St->Prop):Prop :=
 match v with
 | .cs es =>
  match hv with
  | .tr (.v (.int _ m))=>m=es.length/\Zw k es/\Yc d (.cs es) st K
  | _=>False
 | .hd id p off len cap s =>
  match hv with
  | .tr (.v (.int _ m))=>p=[]/\off=0/\cap=none/\shg (st.sto id) id m len s k d st K
  | _=>False
 | _=>False
theorem Zsx{k:Nat}:Zu C d (.sh k x hi) ⟨lvl,env,loc,out⟩ K=U4 (xv env x) (xv env hi) k d ⟨lvl,env,loc,out⟩ K:=by
 rw[JA rfl]
 simp only[ew]
 generalize xv env x=v
 cases v <;> try rfl
 rename_i id p off len cap s
 generalize xv env hi=hv
 cases hv <;> try rfl
 rename_i t
 cases t <;> try rfl
 rename_i q
 cases q <;> try rfl
 simp only[U4,shg]
 generalize (⟨lvl,env,loc,out⟩:St).sto id=o
 cases o with
 | none=>simp
 | some ob =>
  cases ob with
  | bx=>simp
  | mp=>simp
  | ar k2 es u hw ver=>simp only[W4]
theorem Zsy{id:Zd}{len s k:Nat}{kk:IntKind}{m:Int}:U4 (.hd id [] 0 len none s) (.tr (.v (.int kk m))) k d ⟨lvl,env,loc,out⟩ K=shg (Zy lvl loc out id) id m len s k d ⟨lvl,env,loc,out⟩ K:=by
 simp only[U4,true_and]
 rfl
theorem Zsz{es:Row}{k:Nat}{kk:IntKind}{m:Int}:U4 (.cs es) (.tr (.v (.int kk m))) k d ⟨lvl,env,loc,out⟩ K=(m=es.length/\Zw k es/\Yc d (.cs es) ⟨lvl,env,loc,out⟩ K):=(rfl)
theorem ZsA{id:Zd}{len s k k2 hw ver:Nat}{es:Row}{u:Bool}{m:Int}:shg (some (.ar k2 es u hw ver)) id m len s k d st K=(k2=k/\s=hw/\0<=m/\m.toNat<=len/\len<=es.length/\Yc d (.hd id [] 0 m.toNat none hw) (Zg st id (.ar k2 (es.take m.toNat) u hw (ver+1))) K):=(rfl)
def fzg(o:Option Ob)(len s:Nat)(d:Option Nat)(st1:St)(K:St->Prop):Prop :=
 match o with
 | some (.ar _ zs _ hw _)=>s=hw/\len=zs.length/\Yc d (.tr (.sl zs)) st1 K
 | _=>False
def fzf(v:IV)(d:Option Nat)(st:St)(K:St->Prop):Prop :=
 match v with
 | .hd id [] 0 len none s=>id.1=st.lvl/\fzg (st.sto id) len s d (Zp id st) K
 | _=>False
theorem ZsB:Zu C d (.fz x) ⟨lvl,env,loc,out⟩ K=fzf (xv env x) d ⟨lvl,env,loc,out⟩ K:=by
 rw[JA rfl]
 simp only[ew]
 generalize xv env x=v
 unfold fzf
 split
 ·rename_i id len s
  simp only[fzg]
  generalize (⟨lvl,env,loc,out⟩:St).sto id=o
  cases o with
  | none=>rfl
  | some ob=>cases ob <;> rfl
 ·rename_i hv
  split
  ·exact(hv _ _ _ rfl).elim
  ·rfl
theorem ZsC{key len s:Nat}:fzf (.hd (lvl,key) [] 0 len none s) d ⟨lvl,env,loc,out⟩ K=fzg (lkO key loc) len s d (Zp (lvl,key) ⟨lvl,env,loc,out⟩) K:=by
 simp only[fzf,true_and]
 rw[show (⟨lvl,env,loc,out⟩:St).sto (lvl,key)=lkO key loc from Z8]
theorem ZsD{len s k hw ver:Nat}{zs:Row}{u:Bool}:fzg (some (.ar k zs u hw ver)) len s d st K=(s=hw/\len=zs.length/\Yc d (.tr (.sl zs)) st K):=(rfl)
def drp(o:Option Ob)(id:Zd)(st:St):St :=
 match o with
 | none=>st
 | some _=>Zp id st
theorem ZsE{id:Zd}:drp none id st=st:=(rfl)
theorem ZsF{ob:Ob}{id:Zd}:drp (some ob) id st=Zp id st:=(rfl)
def rkg(o:Option Ob)(len s:Nat)(id0:Zd)(d:Option Nat)(st1:St)(K:St->Prop):Prop :=
 match o with
 | some (.ar k zs u hw ver)=>s=hw/\len=zs.length/\Yc d (.hd id0 [] 0 len none s) (Zg st1 id0 (.ar k zs u hw ver)) K
 | _=>False
def rkf(v:IV)(d:Option Nat)(st:St)(K:St->Prop):Prop :=
 match v with
 | .hd id [] 0 len none s=>id.1=st.lvl/\(st.lvl,keyOf d)≠id/\rkg (st.sto id) len s (st.lvl,keyOf d) d (Zp id (Y0 (st.lvl,keyOf d) st)) K
 | _=>False
theorem ZsG:Zu C d (.rk x) ⟨lvl,env,loc,out⟩ K=rkf (xv env x) d ⟨lvl,env,loc,out⟩ K:=by
 rw[JA rfl]
 simp only[ew]
 generalize xv env x=v
 unfold rkf
 split
 ·rename_i id len s
  simp only[rkg]
  generalize (⟨lvl,env,loc,out⟩:St).sto id=o
  cases o with
  | none=>rfl
  | some ob =>
   cases ob with
   | bx=>rfl
   | mp=>rfl
   | ar k2 es u hw ver=>simp only[W4]
 ·rename_i hv
  split
  ·exact(hv _ _ _ rfl).elim
  ·rfl
theorem ZsH{key len s:Nat}{t:Nat}:rkf (.hd (lvl,key) [] 0 len none s) (some t) ⟨lvl,env,loc,out⟩ K=(t*32≠key/\rkg (lkO key loc) len s (lvl,t*32) (some t) (Zp (lvl,key) (drp (lkO (t*32) loc) (lvl,t*32) ⟨lvl,env,loc,out⟩)) K):=by
 simp only[rkf,true_and,Y0,keyOf]
 rw[show (⟨lvl,env,loc,out⟩:St).sto (lvl,key)=lkO key loc from Z8,show (⟨lvl,env,loc,out⟩:St).sto (lvl,t*32)=lkO (t*32) loc from Z8]
 congr 1
 simp
theorem ZsI:Zu C d .mk ⟨lvl,env,loc,out⟩ K=(freshK (keyOf d) loc 1/\Yc d (.sv (lvl,keyOf d)) (Zg ⟨lvl,env,loc,out⟩ (lvl,keyOf d) (.mp [])) K):=by
 rw[JA rfl,W4]
 rfl
def U5(o:Option Ob)(F:List (Int×Int)->Prop):Prop :=
 match o with
 | some (.mp l)=>F l
 | _=>False
theorem ZsJ{l:List (Int×Int)}{F:List (Int×Int)->Prop}:U5 (some (.mp l)) F=F l:=(rfl)
def mpv(v:IV)(F:Int->Prop):Prop :=
 match v with
 | .tr (.v (.int .i64 a))=>F a
 | _=>False
theorem ZsK{a:Int}{F:Int->Prop}:mpv (iI a) F=F a:=(rfl)
def muk(kv xv:IV)(id:Zd)(st:St)(K:St->Prop)(l:List (Int×Int)):Prop:=mpv kv fun a=>mpv xv fun b=>K (Zg st id (.mp (VZ a b l)))
theorem ZsL{a b:Int}{id:Zd}{l:List (Int×Int)}:muk (iI a) (iI b) id st K l=K (Zg st id (.mp (VZ a b l))):=(rfl)
def muh(m kv xv:IV)(st:St)(K:St->Prop):Prop :=
 match m with
 | .sv id=>U5 (st.sto id) (muk kv xv id st K)
 | _=>False
theorem ZsM{id:Zd}{kv xv:IV}:muh (.sv id) kv xv ⟨lvl,env,loc,out⟩ K=U5 (Zy lvl loc out id) (muk kv xv id ⟨lvl,env,loc,out⟩ K):=(rfl)
theorem ZsN{m k:X}:Zu C d (.mu m k x) ⟨lvl,env,loc,out⟩ K=(d=none/\muh (xv env m) (xv env k) (xv env x) ⟨lvl,env,loc,out⟩ K):=by
 rw[JA rfl]
 simp only[ew,muf,muh]
 congr 1
def mlk(kv:IV)(d:Option Nat)(st:St)(K:St->Prop)(l:List (Int×Int)):Prop:=mpv kv fun a=>Yc d (.tu [iI ((Vr a l).getD 0),iB (Vr a l).isSome]) st K
theorem ZsO{a:Int}{l:List (Int×Int)}:mlk (iI a) d st K l=Yc d (.tu [iI ((Vr a l).getD 0),iB (Vr a l).isSome]) st K:=(rfl)
def mlh(m kv:IV)(d:Option Nat)(st:St)(K:St->Prop):Prop :=
 match m with
 | .sv id=>U5 (st.sto id) (mlk kv d st K)
 | _=>False
theorem ZsP{id:Zd}{kv:IV}:mlh (.sv id) kv d ⟨lvl,env,loc,out⟩ K=U5 (Zy lvl loc out id) (mlk kv d ⟨lvl,env,loc,out⟩ K):=(rfl)
theorem ZsQ{m k:X}:Zu C d (.ml m k) ⟨lvl,env,loc,out⟩ K=mlh (xv env m) (xv env k) d ⟨lvl,env,loc,out⟩ K:=by
 rw[JA rfl]
 simp only[ew,mlf,mlh]
 generalize xv env m=vm
 cases vm <;> rfl
def skg(o:Option Ob)(n len s:Nat)(id0:Zd)(st1:St)(K:St->Prop):Prop :=
 match o with
 | some (.ar k zs u hw ver)=>s=hw/\len=zs.length/\Yc (some n) (.hd id0 [] 0 len none s) (Zg st1 id0 (.ar k zs u hw ver)) K
 | _=>False
theorem ZsR{n len s k hw ver:Nat}{zs:Row}{u:Bool}{id0:Zd}:skg (some (.ar k zs u hw ver)) n len s id0 st K=(s=hw/\len=zs.length/\Yc (some n) (.hd id0 [] 0 len none s) (Zg st id0 (.ar k zs u hw ver)) K):=(rfl)
def skf(v:IV)(n key:Nat)(st:St)(K:St->Prop):Prop :=
 match v with
 | .hd id [] 0 len none s=>id.1=st.lvl/\if id.2=key then K st else skg (st.sto id) n len s (st.lvl,key) (Zp id (Y0 (st.lvl,key) st)) K
 | _=>False
theorem ZsS{n key key2 len s:Nat}:skf (.hd (lvl,key2) [] 0 len none s) n key ⟨lvl,env,loc,out⟩ K=if key2=key then K ⟨lvl,env,loc,out⟩ else skg (lkO key2 loc) n len s (lvl,key) (Zp (lvl,key2) (drp (lkO key loc) (lvl,key) ⟨lvl,env,loc,out⟩)) K:=by
 simp only[skf,true_and,Y0]
 rw[show (⟨lvl,env,loc,out⟩:St).sto (lvl,key)=lkO key loc from Z8,show (⟨lvl,env,loc,out⟩:St).sto (lvl,key2)=lkO key2 loc from Z8]
 rfl
def ZcT(o:Option Ob)(l:List IV)(id:Zd)(off:Nat)(st:St)(K:St->Prop):Prop :=
 match o with
 | some (.bx cells)=>off+l.length<=cells.length/\Je (id.1+1) l/\K (Zg st id (.bx (JS cells off l)))
 | _=>False
theorem ZsT{cells l:List IV}{id:Zd}{off:Nat}:ZcT (some (.bx cells)) l id off st K=(off+l.length<=cells.length/\Je (id.1+1) l/\K (Zg st id (.bx (JS cells off l)))):=(rfl)
def ZgX(c:Option (List IV))(p:IV)(st:St)(K:St->Prop):Prop :=
 match c with
 | some l=>l.length=1 /\
  match p with
  | .ab id off=>ZcT (st.sto id) l id off st K
  | _=>False
 | none=>False
theorem ZsU{l:List IV}{id:Zd}{off:Nat}:ZgX (some l) (.ab id off) ⟨lvl,env,loc,out⟩ K=(l.length=1/\ZcT (Zy lvl loc out id) l id off ⟨lvl,env,loc,out⟩ K):=(rfl)
def ZgY(p:X)(n:Nat)(K:St->Prop)(st:St):Prop:=DN p (.t n) K st
theorem ZsV{p:X}{n:Nat}:ZgY p n K ⟨lvl,env,loc,out⟩=ZgX (cellsOf (lk n env)) (xv env p) ⟨lvl,env,loc,out⟩ K:=(rfl)
theorem ZsW{key n:Nat}{p:X}:Zu C d (.sk key p n) ⟨lvl,env,loc,out⟩ K=(d=none/\skf (lk n env) n key ⟨lvl,env,loc,out⟩ (ZgY p n K)):=by
 rw[JA rfl]
 simp only[ew,rkk]
 congr 1
 generalize lk n env=v
 unfold skf
 split
 ·rename_i id len s
  dsimp only
  congr 1
  split
  ·rfl
  ·simp only[skg]
   generalize (⟨lvl,env,loc,out⟩:St).sto id=o
   cases o with
   | none=>rfl
   | some ob =>
    cases ob with
    | bx=>rfl
    | mp=>rfl
    | ar k2 es u hw ver=>simp only[W4];rfl
 ·rename_i hv
  split
  ·exact(hv _ _ _ rfl).elim
  ·rfl
theorem ZsX{key:Nat}{p x:X}:Zu C d (.gv key p x) ⟨lvl,env,loc,out⟩ K=(d=none/\Us (xv env p) (xv env x) key ⟨lvl,env,loc,out⟩ K):=by
 rw[JA rfl]
 simp only[ew]
theorem ZsY{id:Zd}{off key key2 len s:Nat}:Us (.ab id off) (.hd (lvl,key2) [] 0 len none s) key ⟨lvl,env,loc,out⟩ K=(id.1<lvl/\Zy lvl loc out (id.1,key)=none/\DM (Zy lvl loc out id) (lkO key2 loc) id off key len s (lvl,key2) ⟨lvl,env,loc,out⟩ K):=by
 simp only[Us,true_and]
 rw[show (⟨lvl,env,loc,out⟩:St).sto (lvl,key2)=lkO key2 loc from Z8]
 rfl
theorem ZsZ{cells:List IV}{k:Nat}{zs:Row}{u:Bool}{hw ver:Nat}{id id2:Zd}{off key len s:Nat}:DM (some (.bx cells)) (some (.ar k zs u hw ver)) id off key len s id2 st K=(off+1<=cells.length/\s=hw/\len=zs.length/\K (Zg (Zg (Zp id2 st) (id.1,key) (.ar k zs u hw ver)) id (.bx (JS cells off [.hd (id.1,key) [] 0 len none s])))):=(rfl)
theorem Zs0{len s k hw ver:Nat}{zs:Row}{u:Bool}{id0:Zd}:rkg (some (.ar k zs u hw ver)) len s id0 d st K=(s=hw/\len=zs.length/\Yc d (.hd id0 [] 0 len none s) (Zg st id0 (.ar k zs u hw ver)) K):=(rfl)
theorem Zs1{K:List IV->St->Prop}:QL [] st K=K [] st:=(rfl)
theorem Zs2{x:X}{r:List X}{K:List IV->St->Prop}:QL (x::r) st K=WB (xv st.env x) st fun t st1=>QL r st1 fun ts st2=>K (.ta t::ts) st2:=(rfl)
def ZaI(o:Option (List Tr×Bool))(F:List Tr->Prop)(H:Prop):Prop :=
 match o with
 | some (ts,_)=>F ts
 | none=>H
def ZcU(o:Option Ob)(F:List Tr->Prop)(H:List IV->Prop):Prop :=
 match o with
 | some (.bx cells)=>ZaI (totrs cells) F (H cells)
 | _=>False
theorem Zs3{ts:List Tr}{K:List Tr->St->Prop}:WB (.ta ts) st K=K ts st:=(rfl)
theorem Zs4{key:Nat}{K:List Tr->St->Prop}:WB (.ab (lvl,key) 0) ⟨lvl,env,loc,out⟩ K=ZcU (lkO key loc) (fun ts=>K ts (Zp (lvl,key) ⟨lvl,env,loc,out⟩)) (fun cells=>Yx cells ⟨lvl,env,loc,out⟩ fun ts st1=>K ts (Zp (lvl,key) st1)):=by
 simp only[WB,true_and]
 rw[show (⟨lvl,env,loc,out⟩:St).sto (lvl,key)=lkO key loc from Z8]
 generalize lkO key loc=o
 cases o with
 | none=>rfl
 | some ob =>
  cases ob with
  | ar=>rfl
  | mp=>rfl
  | bx cells =>
   simp only[ZcU]
   generalize totrs cells=q
   cases q <;> rfl
theorem Zs5{cells:List IV}{F:List Tr->Prop}{H:List IV->Prop}:ZcU (some (.bx cells)) F H=ZaI (totrs cells) F (H cells):=(rfl)
theorem Zs6{ts:List Tr}{q:Bool}{F:List Tr->Prop}{H:Prop}:ZaI (some (ts,q)) F H=F ts:=(rfl)
theorem Zs7{F:List Tr->Prop}{H:Prop}:ZaI none F H=H:=(rfl)
theorem Zs8{id:Zd}{p:Zf}{off len s:Nat}{cap:Option Nat}{r:List IV}:totrs (.hd id p off len cap s::r)=none:=(rfl)
theorem Zs9{f:Nat}{cs:List X}:Zu C d (.mz f cs) ⟨lvl,env,loc,out⟩ K=QL cs ⟨lvl,env,loc,out⟩ fun l st1=>Yc d (.fn f l) st1 K:=by
 rw[JA rfl]
 rfl
theorem Zta{K:List Tr->St->Prop}:Yx [] st K=K [] st:=(rfl)
theorem Ztb{x:IV}{r:List IV}{K:List Tr->St->Prop}:Yx (x::r) st K=Xh x st fun t st1=>Yx r st1 fun ts st2=>K (t::ts) st2:=(rfl)
def ZgZ(o:Option Ob)(len s:Nat)(F:Row->Prop):Prop :=
 match o with
 | some (.ar _ zs _ hw _)=>s=hw/\len=zs.length/\F zs
 | _=>False
theorem Ztc{t:Tr}{K:Tr->St->Prop}:Xh (.tr t) st K=K t st:=(rfl)
theorem Ztd{es:Row}{K:Tr->St->Prop}:Xh (.cs es) st K=K (.sl es) st:=(rfl)
theorem Zte{key len s:Nat}{K:Tr->St->Prop}:Xh (.hd (lvl,key) [] 0 len none s) ⟨lvl,env,loc,out⟩ K=ZgZ (lkO key loc) len s fun zs=>K (.sl zs) (Zp (lvl,key) ⟨lvl,env,loc,out⟩):=by
 simp only[Xh,true_and]
 rw[show (⟨lvl,env,loc,out⟩:St).sto (lvl,key)=lkO key loc from Z8]
 generalize lkO key loc=o
 cases o with
 | none=>rfl
 | some ob=>cases ob <;> rfl
theorem Ztf{k len s hw ver:Nat}{zs:Row}{u:Bool}{F:Row->Prop}:ZgZ (some (.ar k zs u hw ver)) len s F=(s=hw/\len=zs.length/\F zs):=(rfl)
def lzg(o:Option Ob)(off m:Nat)(d:Option Nat)(st:St)(K:St->Prop):Prop :=
 match o with
 | some (.bx cells)=>off+m<=cells.length/\Yx ((cells.drop off).take m) st fun ts st1=>Yc d (.ag (ts.map .tr)) st1 K
 | _=>False
def lzf(v:IV)(m:Nat)(d:Option Nat)(st:St)(K:St->Prop):Prop :=
 match v with
 | .ab id off=>lzg (st.sto id) off m d st K
 | _=>False
theorem Ztg{m:Nat}:Zu C d (.lz m x) ⟨lvl,env,loc,out⟩ K=lzf (xv env x) m d ⟨lvl,env,loc,out⟩ K:=by
 rw[JA rfl]
 simp only[ew]
 generalize xv env x=v
 cases v <;> rfl
theorem Zth{key off m:Nat}:lzf (.ab (lvl,key) off) m d ⟨lvl,env,loc,out⟩ K=lzg (lkO key loc) off m d ⟨lvl,env,loc,out⟩ K:=by
 simp only[lzf]
 rw[show (⟨lvl,env,loc,out⟩:St).sto (lvl,key)=lkO key loc from Z8]
theorem Zti{cells:List IV}{off m:Nat}:lzg (some (.bx cells)) off m d st K=(off+m<=cells.length/\Yx ((cells.drop off).take m) st fun ts st1=>Yc d (.ag (ts.map .tr)) st1 K):=(rfl)
def clg(o:Option Ob)(id:Zd)(off len s k:Nat)(d:Option Nat)(st:St)(K:St->Prop):Prop :=
 match o with
 | some (.ar k2 es u hw ver)=>k2=k/\s=hw/\off+len=es.length/\Yc d (.tu []) (Zg st id (.ar k2 (es.take off) u hw (ver+1))) K
 | _=>False
def clf(v:IV)(k:Nat)(d:Option Nat)(st:St)(K:St->Prop):Prop :=
 match v with
 | .hd id p off len _ s=>p=[]/\clg (st.sto id) id off len s k d st K
 | _=>False
theorem Ztj{k:Nat}{z:List Value}:Zu C d (.cl k z x) ⟨lvl,env,loc,out⟩ K=clf (xv env x) k d ⟨lvl,env,loc,out⟩ K:=by
 rw[JA rfl]
 simp only[ew]
 generalize xv env x=v
 cases v <;> try rfl
 rename_i id p off len cap s
 simp only[clf,clg]
 generalize (⟨lvl,env,loc,out⟩:St).sto id=o
 cases o with
 | none=>simp
 | some ob =>
  cases ob with
  | bx=>simp
  | mp=>simp
  | ar k2 es u hw ver=>simp only[W4]
theorem Ztk{id:Zd}{off len s k:Nat}{cap:Option Nat}:clf (.hd id [] off len cap s) k d ⟨lvl,env,loc,out⟩ K=clg (Zy lvl loc out id) id off len s k d ⟨lvl,env,loc,out⟩ K:=by
 simp only[clf,true_and]
 rfl
theorem Ztl{id:Zd}{off len s k k2 hw ver:Nat}{es:Row}{u:Bool}:clg (some (.ar k2 es u hw ver)) id off len s k d st K=(k2=k/\s=hw/\off+len=es.length/\Yc d (.tu []) (Zg st id (.ar k2 (es.take off) u hw (ver+1))) K):=(rfl)
def srk(off len:Nat)(F:Row->Prop)(es:Row)(_u:Bool)(_v:Nat):Prop:=off+len<=es.length/\F (cut es off len)
theorem Ztm{off len:Nat}{F:Row->Prop}{es:Row}{u:Bool}{v:Nat}:srk off len F es u v=(off+len<=es.length/\F (cut es off len)):=(rfl)
theorem Ztn{zs:Row}{F:Row->Prop}:V0 st (.tr (.sl zs)) F=F zs:=(rfl)
theorem Zto{zs:Row}{F:Row->Prop}:V0 st (.cs zs) F=F zs:=(rfl)
theorem Ztp{id:Zd}{p:Zf}{off len s:Nat}{cap:Option Nat}{F:Row->Prop}:V0 ⟨lvl,env,loc,out⟩ (.hd id p off len cap s) F=Vh (Zy lvl loc out id) p s (srk off len F):=by
 rw[<-Xz]
 rfl
def U6(zs:Row)(k:Nat)(d:Option Nat)(st:St)(K:St->Prop)(items:Row):Prop :=
 items≠[]/\ScR items/\Zw k zs/\Zw k items/\zs.length+items.length<=bigN/\K ⟨st.lvl,ptd d (.tr (.sl (zs++items))) st.env,st.loc,st.out⟩
theorem Ztq{zs items:Row}{k:Nat}:U6 zs k d ⟨lvl,env,loc,out⟩ K items=(items≠[]/\ScR items/\Zw k zs/\Zw k items/\zs.length+items.length<=bigN/\K ⟨lvl,ptd d (.tr (.sl (zs++items))) env,loc,out⟩):=(rfl)
def a3f(vx vy:IV)(k:Nat)(d:Option Nat)(st:St)(K:St->Prop):Prop :=
 match vx with
 | .cs zs=>V0 st vy (U6 zs k d st K)
 | _=>False
theorem Ztr{zs:Row}{vy:IV}{k:Nat}:a3f (.cs zs) vy k d st K=V0 st vy (U6 zs k d st K):=(rfl)
theorem Zts{k:Nat}{x y:X}:Zu C d (.a3 k x y) ⟨lvl,env,loc,out⟩ K=a3f (xv env x) (xv env y) k d ⟨lvl,env,loc,out⟩ K:=by
 rw[JZ rfl]
 simp only[ev]
 generalize xv env x=vx
 cases vx <;> try rfl
 rename_i zs
 have e:∀ items:Row,(items≠[]/\ScR items/\Zw k zs/\Zw k items/\zs.length+items.length<=bigN/\ZC (fun mk obs=>freshK (keyOf d) loc (obs lvl (keyOf d)).length/\K ⟨lvl,ptd d (mk lvl (keyOf d)) env,addO (keyOf d) (obs lvl (keyOf d)) loc,out⟩) (.tr (.sl (zs++items))))=U6 zs k d ⟨lvl,env,loc,out⟩ K items:=fun items=>by
  simp [U6,ZC,freshK,addO]
 simp only[e]
 rfl
theorem Ztt{k:Nat}{x y:X}:Zu C d (.c0 k x y) ⟨lvl,env,loc,out⟩ K=Zu C d (.cy k x y) ⟨lvl,env,loc,out⟩ K:=by
 rw[JA rfl,JA rfl]
 exact propext ⟨ZfC,ZlD⟩
def U7(es:Row)(u:Bool)(hw ver:Nat)(id:Zd)(off len k:Nat)(d:Option Nat)(st:St)(K:St->Prop)(zs:Row):Prop :=
 ScR zs/\Zw k zs/\Yc d (iI (min zs.length len:Nat)) (Zg st id (.ar k (es.take off++zs.take len++es.drop (off+min zs.length len)) u hw (ver+1))) K
theorem Ztu{es:Row}{u:Bool}{hw ver:Nat}{id:Zd}{off len k:Nat}{zs:Row}:U7 es u hw ver id off len k d st K zs=(ScR zs/\Zw k zs/\Yc d (iI (min zs.length len:Nat)) (Zg st id (.ar k (es.take off++zs.take len++es.drop (off+min zs.length len)) u hw (ver+1))) K):=(rfl)
def cyg(o:Option Ob)(id:Zd)(off len s k:Nat)(v:IV)(d:Option Nat)(st:St)(K:St->Prop):Prop :=
 match o with
 | some (.ar k2 es u hw ver)=>k2=k/\s=hw/\off+len<=es.length/\ScR es/\V0 st v (U7 es u hw ver id off len k d st K)
 | _=>False
def cyf(x v:IV)(k:Nat)(d:Option Nat)(st:St)(K:St->Prop):Prop :=
 match x with
 | .hd id p off len _ s=>p=[]/\cyg (st.sto id) id off len s k v d st K
 | _=>False
theorem Ztv{k:Nat}:Zu C d (.cy k x y) ⟨lvl,env,loc,out⟩ K=cyf (xv env x) (xv env y) k d ⟨lvl,env,loc,out⟩ K:=by
 rw[JA rfl]
 simp only[ew]
 generalize xv env x=v
 cases v <;> try rfl
 rename_i id p off len cap s
 simp only[cyf,cyg]
 generalize (⟨lvl,env,loc,out⟩:St).sto id=o
 cases o with
 | none=>simp
 | some ob =>
  cases ob with
  | bx=>simp
  | mp=>simp
  | ar k2 es u hw ver =>
   dsimp only
   by_cases hk:k2=k
   ·subst hk
    have:(fun zs=>ScR zs/\Zw k2 zs/\K { Zg ⟨lvl,env,loc,out⟩ id (.ar k2 (es.take off++zs.take len++es.drop (off+min zs.length len)) u hw (ver+1)) with env:=ptd d (iI (min zs.length len:Nat)) env })=U7 es u hw ver id off len k2 d ⟨lvl,env,loc,out⟩ K:=by
     funext zs
     simp only[U7,W4]
    rw[this]
   ·simp [hk]
theorem Ztw{id:Zd}{off len s k:Nat}{cap:Option Nat}{v:IV}:cyf (.hd id [] off len cap s) v k d ⟨lvl,env,loc,out⟩ K=cyg (Zy lvl loc out id) id off len s k v d ⟨lvl,env,loc,out⟩ K:=by
 simp only[cyf,true_and]
 rfl
theorem Ztx{id:Zd}{off len s k k2 hw ver:Nat}{es:Row}{u:Bool}{v:IV}:cyg (some (.ar k2 es u hw ver)) id off len s k v d st K=(k2=k/\s=hw/\off+len<=es.length/\ScR es/\V0 st v (U7 es u hw ver id off len k d st K)):=(rfl)
end row
theorem Zty{α:Type}{F:α->Prop}:Z6 none F=False:=(rfl)
end
abbrev tv(n:Int):Tr:=.v (.int .i64 n)
abbrev tb(b:Bool):Tr:=.v (.bool b)
abbrev ts(s:ByteArray):Tr:=.v (.string s)
abbrev rI(l:List Int):Row:=l.map fun n=>[tv n]
abbrev tI(l:List Int):IV:=.tr (.sl (rI l))
abbrev rS(l:List ByteArray):Row:=l.map fun n=>[ts n]
abbrev tS(l:List ByteArray):IV:=.tr (.sl (rS l))
theorem Zh(n:Int):Jq .i64 n=(-9223372036854775808<=n/\n<=9223372036854775807):=by
 simp [Jq,IntKind.min,IntKind.max,IntKind.signed,IntKind.bits]
theorem ZcV{α:Type}{k:Nat}(f:α->List Tr)(h:∀ x,(f x).length=k)(l:List α):Zw k (l.map f):=by
 intro e he
 obtain⟨x,_,rfl⟩:=UaP.1 he
 exact h x
end Go.Fd

namespace Go.Fd
def In(w:World)(b:Nat):Prop:=b<w.heap.size
def ZcW(w:World)(cs:List Value)(ts:List Tr):Prop:=∀(j:Nat) (v:Value) (t:Tr),cs[j]? = some v->ts[j]? = some t->Rds w (In w) v t
def J4(P:Program)(t:TypeId){α:Type}(c:α->List Tr)(Q:α->Prop):Prop :=
 ∀(H:Type) (enc:TypeId×Value->H) (w:World) (sp:Nat->Bool) (hd:Bool) (fuel:Nat) (cs:List Value) (x:DataW H×List MemPlace),
  DataW.trod enc P w 0 sp hd fuel t cs=some x->∃ y,Q y/\ZcW w cs (c y)
theorem ZaJ{w:World}{v:Value}{t:Tr}(h:Rds w (In w) v t):ZcW w [v] [t]:=fun j v' t' h1 h2=>by
 match j with
 | 0=>simp at h1 h2;subst h1;subst h2;exact h
 | j+1=>simp at h1
theorem Ztz{P:Program}{t:TypeId}(ht:P.underlying t=some (.int .i64)):J4 P t (fun n:Int=>[tv n]) (Jq .i64):=by
 intro H enc w sp hd fuel cs x h
 obtain⟨n,rfl,_,hw⟩:=DataW.trod_int ht h
 exact⟨n,by simpa [Lit.wf,Jq] using hw,ZaJ (.v _ rfl)⟩
theorem ZtA{P:Program}{t:TypeId}(ht:P.underlying t=some .string):J4 P t (fun n:ByteArray=>[ts n]) (fun n=>n.size<=9223372036854775807):=by
 intro H enc w sp hd fuel cs x h
 obtain⟨n,rfl,_,hw⟩:=DataW.trod_string ht h
 exact⟨n,hw,ZaJ (.v _ rfl)⟩
theorem ZtB{w:World}{a:Addr}{v:Value}(h:w.cell? a=some v):a.block<w.heap.size:=by
 unfold World.cell? at h
 cases hh:w.heap[a.block]? with
 | none=>rw[hh] at h;cases h
 | some o=>exact(Uaw.1 hh).1
theorem ZtC{α:Type}(n:Nat)(R:Nat->α->Prop)(h:∀ i,i<n->∃ y,R i y):∃ l:List α,l.length=n/\∀ i y,l[i]? = some y->R i y:=by
 induction n with
 | zero=>exact⟨[],rfl,fun i y h=>by simp at h⟩
 | succ n ih =>
  obtain⟨l,hl,hr⟩:=ih (fun i hi=>h i (by omega))
  obtain⟨y,hy⟩:=h n (by omega)
  refine⟨l++[y],by simp [hl],fun i z hz=>?_⟩
  by_cases hi:i<n
  ·rw[Uaq (by omega)] at hz;exact hr i z hz
  ·have hlt:=(Uac.1 hz).1
   simp only[Uam,List.length_singleton] at hlt
   have:i=n:=by omega
   subst this
   rw[Uao (by omega),hl,Ubm] at hz
   simp at hz
   exact hz ▸ hy
theorem Wd{P:Program}{t e:TypeId}{k:Nat}{α:Type}{c:α->List Tr}{Q:α->Prop}(ht:P.underlying t=some (.slice e))(hk:P.cellsOf e=k+1)(hc:∀ x,(c x).length=k+1)
  (he:J4 P e c Q):J4 P t (fun l:List α=>[.sl (l.map c)]) (fun l=>l.length<=9223372036854775807/\∀ x∈l,Q x):=by
 intro H enc w sp hd fuel cs x h
 rcases DataW.trod_slice ht h with ⟨rfl,_⟩ | ⟨a,len,cap,elems,rest,n,_,rfl,_,_,hl,hm,hlen,hel,_,_⟩
 ·exact⟨[],⟨by simp,by simp⟩,ZaJ (.nil none 0)⟩
 ·have each:∀ i,i<len->∃ y,Q y/\∀ j t,(c y)[j]? = some t->∃ v,w.cell? (a.add (i*(k+1)+j))=some v/\Rds w (In w) v t:=fun i hi=>by
   have h1:=hel i hi
   rw[hk] at h1
   obtain⟨z,hz⟩:∃ z,elems[i]? = some z:=⟨elems[i]'(by omega),Uaf _⟩
   rw[hz,Option.bind_eq_some_iff] at h1
   obtain⟨row,hrow,hx⟩:=h1
   obtain⟨y,hy,hr⟩:=he H enc w sp hd n row z hx
   obtain⟨_,hrl,hg⟩:=World.cells?_some hrow
   refine⟨y,hy,fun j t hj=>?_⟩
   have hjk:j<k+1:=by rw[<-hc y];exact(Uac.1 hj).1
   have hv:row[j]? = some (row[j]'(by omega)):=Uaf _
   have:=hg j hjk
   rw[hv] at this
   have e2:(a.add (i*(k+1))).add j=a.add (i*(k+1)+j):=by
    unfold Addr.add
    by_cases h0:i*(k+1)=0
    ·simp [h0]
    ·by_cases h1:j=0
     ·simp [h1,h0]
     ·have h2:¬ (i*(k+1)+j=0):=by omega
      simp only[if_neg h0,if_neg h1,if_neg h2,Addr.mk.injEq,and_true,true_and]
      omega
   rw[e2] at this
   exact⟨_,this,hr j _ t hv hj⟩
  obtain⟨l,hll,hlr⟩:=ZtC len _ each
  refine⟨l,⟨?_,fun y hy=>?_⟩,ZaJ ?_⟩
  ·rw[hll];exact UaA hl hm
  ·obtain⟨i,hi⟩:=Ubi hy
   exact(hlr i y hi).1
  ·by_cases h0:len=0
   ·have:l=[]:=Uau (by omega)
    subst this;subst h0
    exact .nil _ _
   ·obtain⟨y0,hy0⟩:∃ y0,l[0]? = some y0:=⟨l[0]'(by omega),Uaf _⟩
    obtain⟨t0,ht0⟩:∃ t0,(c y0)[0]? = some t0:=⟨(c y0)[0]'(by rw[hc];omega),Uaf _⟩
    obtain⟨v0,hv0,_⟩:=(hlr 0 y0 hy0).2 0 t0 ht0
    obtain⟨b,o,s⟩:=a
    have hs:s=none:=by simpa [Addr.add] using World.cell?_spot hv0
    subst hs
    have hb:b<w.heap.size:=by simpa [Addr.add] using ZtB hv0
    have hel2:∀ i e j t,(l.map c)[i]? = some e->e[j]? = some t->∃ v,w.cell? ⟨b,o+i*(k+1)+j,none⟩=some v/\Rds w (In w) v t:=fun i e j t h1 h2=>by
     rw[Uan,UaF] at h1
     obtain⟨y,hy,rfl⟩:=h1
     obtain⟨v,hv,hr⟩:=(hlr i y hy).2 j t h2
     refine⟨v,?_,hr⟩
     rw[<-hv]
     congr 1
     unfold Addr.add
     by_cases h0:i*(k+1)+j=0
     ·have:o+i*(k+1)+j=o:=by omega
      rw[if_pos h0,this]
     ·rw[if_neg h0]
      have:o+i*(k+1)+j=o+(i*(k+1)+j):=by omega
      simp only[this]
    have hlm:(l.map c).length=len:=by simpa using hll
    have:=Rds.sl (w:=w) (A:=In w) b o cap (k+1) (l.map c) (fun i j=>(w.cell? ⟨b,o+i*(k+1)+j,none⟩).getD .nilFunc) hb
     (fun e he=>by simp only[UaP] at he;obtain⟨y,_,rfl⟩:=he;exact hc y) (by omega)
     (fun i e j t h1 h2=>by obtain⟨v,hv,_⟩:=hel2 i e j t h1 h2;rw[hv];rfl)
     (fun i e j t h1 h2=>by obtain⟨v,hv,hr⟩:=hel2 i e j t h1 h2;rw[hv];exact hr)
    rw[hlm] at this
    exact this
def XG(P:Program)(o:Nat)(l:List (Nat×TypeId)){α:Type}(c:α->List Tr)(Q:α->Prop):Prop :=
 ∀(H:Type) (enc:TypeId×Value->H) (w:World) (sp:Nat->Bool) (hd:Bool) (fuel:Nat) (cs:List Value),
  (∀ p∈l,∃ x,DataW.trod enc P w 0 sp hd fuel p.2 ((cs.drop p.1).take (P.cellsOf p.2))=some x)->∃ y,Q y/\ZcW w (cs.drop o) (c y)
theorem ZaK{P:Program}{o:Nat}:XG P o [] (fun _:Unit=>[]) (fun _=>True):=fun H enc w sp hd fuel cs _=>⟨(),trivial,fun j v t _ h=>by simp at h⟩
theorem Vk{P:Program}{o k:Nat}{t:TypeId}{l:List (Nat×TypeId)}{α β:Type}{c:α->List Tr}{Q:α->Prop}{c2:β->List Tr}{Q2:β->Prop}
  (hk:P.cellsOf t=k) (hc:∀ x,(c x).length=k) (h1:J4 P t c Q) (h2:XG P (o+k) l c2 Q2) :
  XG P o ((o,t)::l) (fun p:α×β=>c p.1++c2 p.2) (fun p=>Q p.1/\Q2 p.2):=fun H enc w sp hd fuel cs h=>by
 obtain⟨x,hx⟩:=h (o,t) (by simp)
 obtain⟨y,hy,hr⟩:=h1 _ _ _ _ _ _ _ _ hx
 obtain⟨y2,hy2,hr2⟩:=h2 H enc w sp hd fuel cs (fun p hp=>h p (by simp [hp]))
 refine⟨(y,y2),⟨hy,hy2⟩,fun j v t' hv ht=>?_⟩
 by_cases hj:j<k
 ·rw[Uaq (by rw[hc];exact hj)] at ht
  refine hr j v t' ?_ ht
  rw[hk,List.getElem?_take_of_lt hj]
  exact hv
 ·rw[Uao (by rw[hc];omega),hc] at ht
  refine hr2 (j-k) v t' ?_ ht
  rw[UaH] at hv ⊢
  rw[<-hv]
  congr 1
  omega
theorem ZaL{P:Program}{t:TypeId}{fs:Array Field}{α:Type}{c:α->List Tr}{Q:α->Prop}(ht:P.underlying t=some (.struct fs))(h:XG P 0 (fs.toList.map fun f=>(f.offset,f.type)) c Q):J4 P t c Q:=by
 intro H enc w sp hd fuel cs x hx
 obtain⟨xs,n,_,_,_,hl,hf⟩:=DataW.trod_struct ht hx
 have:=h H enc w sp hd n cs (fun p hp=>by
  simp only[UaP] at hp
  obtain⟨f,hf1,rfl⟩:=hp
  obtain⟨i,hi⟩:=Ubi hf1
  have hi':fs[i]? = some f:=by simpa using hi
  have hlt:i<xs.length:=by rw[hl];exact(Uaw.1 hi').1
  exact⟨_,(hf i f hi').trans (Uaf hlt)⟩)
 simpa using this
theorem ZtD{P:Program}{t:TypeId}{α β:Type}{c:α->List Tr}{Q:α->Prop}{c2:β->List Tr}{Q2:β->Prop}(g:α->β)(hg:∀ x,c2 (g x)=c x)(hq:∀ x,Q x->Q2 (g x))(h:J4 P t c Q):J4 P t c2 Q2:=by
 intro H enc w sp hd fuel cs x hx
 obtain⟨y,hy,hr⟩:=h H enc w sp hd fuel cs x hx
 exact⟨g y,hq y hy,by rw[hg];exact hr⟩
theorem ZaM{P:Program}{t:TypeId}{α β:Type}{c:α->List Tr}{Q:α->Prop}{c2:β->List Tr}{Q2:β->Prop}(h:J4 P t c Q)(g:α->β)(hg:∀ x,c2 (g x)=c x)(hq:∀ x,Q x->Q2 (g x)):J4 P t c2 Q2:=ZtD g hg hq h
end Go.Fd

namespace Go.Fd
variable [Tabs]
open Go.RowKit
def G0:Gh:=fun _ _=>none
def S0:Zc:=fun _=>none
theorem Av0{w:World}{b:Nat}(h:In w b):Av G0 S0 w b:=⟨h,fun id ob hs=>by cases hs⟩
theorem ZtE{P:Program}{f:FuncId}{args:List IV}{b:Bool}{w:World}{vs:List Value}(h:Sem P f 0 args S0 (iB b) S0)(hv:Zn G0 S0 w args vs)(hg:Tabs.good w) :
  Calls P f vs.toArray w fun e w' => e = .returned (.bool b)/\Below w.heap.size w w':=by
 obtain⟨_,_,h⟩:=h
 refine(h (fun id ob hs=>by cases hs) G0 w vs ⟨fun id ob hs=>(nomatch hs),fun id ob id2 ob2 b2 hs=>(nomatch hs),fun id cells hs=>(nomatch hs)⟩ hv ⟨w,hg,Uag _,fun b hb=>⟨⟨hb,fun id ob hs=>by cases hs⟩,rfl⟩⟩).mono ?_
 rintro e w' ⟨v,G',rfl,_,hr,_,hf⟩
 have hr':Rds w' (Av G' (ZP S0 0 0 (impv true 0 0 0 (iB b)).2) w') v (.v (.bool b)):=hr
 cases hr' with
 | v x hx =>
  exact⟨rfl,hf.os,hf.tape,hf.output,hf.size,fun k hk=>hf.old k hk (fun id ob hs=>by cases hs)⟩
theorem ZtF{P:Program}{w:World}{r:Reach}{base:Nat}{t e:TypeId}{v:Value}(ht:P.underlying t=some (.slice e))(h:Value.okWide P w r base t v):v.cells.toList=[v]:=by
 unfold Value.okWide at h
 rw[ht] at h
 simp only[Cell.okWide,ht,Cell.ok] at h
 cases v <;> first | rfl | exact absurd h (by simp)
section
variable {H:Type} {enc:TypeId×Value->H} {P:Program} {w:World} {t:TypeId} {v:Value} {d:DataW H} {p:List MemPlace} {α:Type} {c:α->List Tr} {Q:α->Prop} {sp:Nat->Bool} {hd:Bool} {base:Nat}
theorem ZcX{e:TypeId}{g:α->Tr}(hr:J4 P t (fun x=>[g x]) Q)(ht:P.underlying t=some (.slice e))(hok:Value.okWide P w .any base t v)(h:DataW.Trod enc P w 0 sp hd t v d p) :
  ∃ y,Q y/\VR G0 S0 w (.tr (g y)) v:=by
 obtain⟨n,hn⟩:=h
 rw[ZtF ht hok] at hn
 obtain⟨y,hy,hrow⟩:=hr H enc w sp hd n _ _ hn
 refine⟨y,hy,?_⟩
 simp only[VR]
 exact Rds.mono (fun b=>Av0) (fun b _=>rfl) (hrow 0 v _ rfl rfl)
end
theorem ZtG{H:Type}{enc:TypeId×Value->H}{P:Program}{f:Func}{s:ChangeSpec}{apart:Bool}{W W':World}{args:Array Value}{v:Value}{ds gs:List (DataW H)}{before pa pv:List MemPlace}
  (hW:DataW.Whole enc P f.params.toList s.vars apart W args.toList ds gs before) (hb:Below W.heap.size W W')
  (hres:DataW.TrodAll enc P W' W.heap.size (fun _=>false) false f.resultTypes.toList (v.resultList f.resultTypes.size) (s.fn H (ds++gs)).results [])
  (hargs:DataW.TrodAll enc P W' 0 (fun b=>decide (b<W.heap.size)) true f.params.toList args.toList (s.fn H (ds++gs)).args pa)
  (hvars:DataW.TrodVars enc P W' (fun b=>decide (b<W.heap.size)) s.vars (s.fn H (ds++gs)).vars pv) :
  s.post enc P f apart true false false W args v W' :=
 ⟨ds,gs,before,[],pa,pv,hW,hres,hargs,hvars,hb.frame _,fun h=>by cases h⟩
end Go.Fd

namespace Go.Fd
variable [Tabs]
open Go.RowKit
theorem ZtH{w w':World}(h:Below w.heap.size w w'):Ext w w':=⟨h.size,h.block,h.os,h.tape,h.output⟩
theorem Zg0{G:Gh}{S:Zc}{w:World}:∀{xs vs:List Value},Zn G S w (xs.map fun v=>.tr (.v v)) vs->vs=xs
 | [],vs,h=>by simpa [Zn] using h
 | x::r,vs,h=>by
  simp only[UaB,Zn] at h
  obtain⟨v,vr,rfl,h1,h2⟩:=h
  rw[Zg0 h2]
  have h1':Rds w (Av G S w) v (.v x):=h1
  cases h1'
  rfl
theorem ZtI{P:Program}{f:FuncId}{lvl:Nat}{S:Zc}{args:List IV}{r:IV}(hc:UE P f)(hi:impv true lvl 0 0 r=(r,[]))(hlow:low lvl r)
  (h:(∀ id ob,S id=some ob->id.1<lvl)->∀ G w vs,SOk G S w->Zn G S w args vs->Fix G S w->Calls P f vs.toArray w fun e w' => ∃ v,e = .returned v/\VR G S w' r v/\Below w.heap.size w w'):Sem P f lvl args S r S:=by
 refine⟨hlow,hc,fun hS G w vs hok hv hfx=>?_⟩
 refine(h hS G w vs hok hv hfx).mono ?_
 rintro e w' ⟨v,rfl,hr,hb⟩
 rw[hi]
 have e:Ext w w':=ZtH hb
 exact⟨v,G,rfl,hok.ext e,hr,hS,Frm.of_ext e⟩
theorem ZtJ{P:Program}{f:FuncId}{lvl:Nat}{S:Zc}{args:List IV}{r:IV}(hc:UE P f)(hi:impv true lvl 0 0 r=(r,[]))(hlow:low lvl r)
  (h:(∀ id ob,S id=some ob->id.1<lvl)->∀ G w vs,SOk G S w->Zn G S w args vs->Calls P f vs.toArray w fun e w' => ∃ v,e = .returned v/\VR G S w' r v/\Below w.heap.size w w'):Sem P f lvl args S r S :=
 ZtI hc hi hlow fun hS G w vs hok hv _=>h hS G w vs hok hv
theorem ZtK{P:Program}{f:FuncId}{lvl:Nat}{S:Zc}{xs:List Value}{y:Value}(hc:UE P f)(hy:Jx y=true)
  (h:∀ w,Calls P f xs.toArray w fun e w' => e = .returned y/\Below w.heap.size w w'):Sem P f lvl (xs.map fun v=>.tr (.v v)) S (.tr (.v y)) S:=by
 refine ZtJ hc rfl trivial fun _ G w vs _ hv=>?_
 rw[Zg0 hv]
 exact(h w).mono fun e w' ⟨h1,h2⟩=>⟨y,h1,.v y hy,h2⟩
end Go.Fd

namespace Go.Fd
def W5:List (Nat×IV)->List (Nat×IV)->List (Nat×IV)
 | [],env=>env
 | (t,x)::r,env=>W5 r (pt t x env)
def W6:List (Nat×Ob)->List (Nat×Ob)->List (Nat×Ob)
 | [],loc=>loc
 | (t,x)::r,loc=>W6 r (ptO t x loc)
def Qf(ce:List (Nat×IV))(co:List (Nat×Ob))(s:St):St:=⟨s.lvl,W5 ce s.env,W6 co s.loc,s.out⟩
section
variable {C:ZD} {lvl:Nat} {env:List (Nat×IV)} {loc:List (Nat×Ob)} {out:Zc} {st:St} {Q:Ex->St->Prop}
theorem ZtL{ce:List (Nat×IV)}{co:List (Nat×Ob)}:Qf ce co ⟨lvl,env,loc,out⟩=⟨lvl,W5 ce env,W6 co loc,out⟩:=(rfl)
theorem ZtM:W5 [] env=env:=(rfl)
theorem ZtN{t:Nat}{x:IV}{r:List (Nat×IV)}:W5 ((t,x)::r) env=W5 r (pt t x env):=(rfl)
theorem ZtO:W6 [] loc=loc:=(rfl)
theorem ZtP{t:Nat}{x:Ob}{r:List (Nat×Ob)}:W6 ((t,x)::r) loc=W6 r (ptO t x loc):=(rfl)
theorem Ja{α:Type}{ks js:List Nat}{c:C2}(N:Nat)(ce:Nat->α->List (Nat×IV))(co:Nat->α->List (Nat×Ob))(A:Nat->α->Prop)(x0:α)
  (h1:clean ks js st) (h0:fgt ks js st=Qf (ce 0 x0) (co 0 x0) (fgt ks js st)) (hA:A 0 x0)
  (hs:∀ k x,k<=N->A k x->wp C c (Qf (ce k x) (co k x) (fgt ks js st)) (XD ks js (ZcQ N (fun k x=>Qf (ce k x) (co k x) (fgt ks js st)) A (N-k)) Q)):wp C (.lp ks js c) st Q :=
 Jf N (fun k x=>Qf (ce k x) (co k x) (fgt ks js st)) A x0 ⟨h1,h0⟩ hA hs
theorem ZtQ{α:Type}{ks js:List Nat}{c:C2}(M:α->Nat)(ce:α->List (Nat×IV))(co:α->List (Nat×Ob))(A:α->Prop)(x0:α)
  (h1:clean ks js st) (h0:fgt ks js st=Qf (ce x0) (co x0) (fgt ks js st)) (hA:A x0)
  (hs:∀ x,A x->wp C c (Qf (ce x) (co x) (fgt ks js st)) (XD ks js (fun s' => ∃ y,M y<M x/\s'=Qf (ce y) (co y) (fgt ks js st)/\A y) Q)):wp C (.lp ks js c) st Q:=by
 refine ZgU (fun n s=>∃ x,M x=n/\s=Qf (ce x) (co x) (fgt ks js st)/\A x) (M x0) ⟨h1,x0,rfl,h0,hA⟩ (fun n s ⟨x,hn,he,ha⟩=>?_)
 subst he
 have h:=hs x ha
 refine(?_:_->_) h
 intro h
 have e:(fun s' => ∃ y,M y<M x/\s'=Qf (ce y) (co y) (fgt ks js st)/\A y)=fun s' => ∃ m,m<n/\∃ x,M x=m/\s'=Qf (ce x) (co x) (fgt ks js st)/\A x:=by
  funext s'
  apply propext
  constructor
  ·rintro⟨y,h1,h2,h3⟩;exact⟨M y,by omega,y,rfl,h2,h3⟩
  ·rintro⟨m,h1,y,h2,h3,h4⟩;exact⟨y,by omega,h3,h4⟩
 rw[e] at h
 exact h
end
section
variable {L:Zc} {F:List IV->Prop} {r:List IV}
def Zg1(L:Zc)(r:List IV)(F:List IV->Prop)(y:IV):Prop:=ZV L r (Vi y F)
theorem ZtR{y:IV}:Zg1 L r F y=ZV L r (Vi y F):=(rfl)
theorem ZtS{id:Zd}{off:Nat}:ZV L (.ab id off::r) F=Qn (L id) L off (Zg1 L r F):=by simp only[ZV,Z2];rfl
def kta(F:IV->Prop)(ts:List Tr):Prop:=F (.ta ts)
theorem ZtT{F:IV->Prop}{ts:List Tr}:kta F ts=F (.ta ts):=(rfl)
theorem ZtU{cells:List IV}{off:Nat}{F:IV->Prop}:Qn (some (.bx cells)) L off F=Yn L (cells.drop off) (kta F):=(rfl)
def kct(t:Tr)(F:List Tr->Prop)(ts:List Tr):Prop:=F (t::ts)
theorem ZtV{t:Tr}{F:List Tr->Prop}{ts:List Tr}:kct t F ts=F (t::ts):=(rfl)
def Zg2(L:Zc)(r:List IV)(F:List Tr->Prop)(t:Tr):Prop:=Yn L r (kct t F)
theorem ZtW{F:List Tr->Prop}{t:Tr}:Zg2 L r F t=Yn L r (kct t F):=(rfl)
theorem ZtX{F:List Tr->Prop}:Yn L [] F=F []:=(rfl)
theorem ZtY{x:IV}{F:List Tr->Prop}:Yn L (x::r) F=Y9 L x (Zg2 L r F):=(rfl)
theorem ZtZ{t:Tr}{F:Tr->Prop}:Y9 L (.tr t) F=F t:=(rfl)
theorem Zt0{es:Row}{F:Tr->Prop}:Y9 L (.cs es) F=F (.sl es):=(rfl)
def Zg3(off len:Nat)(F:Tr->Prop)(es:Row)(_u:Bool)(_v:Nat):Prop:=off+len<=es.length/\F (.sl (cut es off len))
theorem Zt1{off len:Nat}{F:Tr->Prop}{es:Row}{u:Bool}{v:Nat}:Zg3 off len F es u v=(off+len<=es.length/\F (.sl (cut es off len))):=(rfl)
theorem Zt2{id:Zd}{p:Zf}{off len s:Nat}{cap:Option Nat}{F:Tr->Prop}:Y9 L (.hd id p off len cap s) F=Vh (L id) p s (Zg3 off len F):=by rw[<-Xz];rfl
end
theorem Zt3{α:Type}{x:α}:List.replicate 1 x=[x]:=(rfl)
theorem Zt4{e:List Tr}:cut [e] 0 1=[e]:=(rfl)
theorem Zt5{l:List Tr}:ScR [l]=(l.all isSc=true):=by
 apply propext
 constructor
 ·intro h
  exact Ua7.2 fun t ht=>h l (by simp) t ht
 ·intro h e he t ht
  simp only[UaT] at he
  subst he
  exact Ua7.1 h t ht
theorem Zt6{k:Nat}{l:List Tr}:Zw k [l]=(l.length=k):=by
 apply propext
 constructor
 ·intro h;exact h l (by simp)
 ·intro h e he
  simp only[UaT] at he
  rw[he,h]
theorem Zt7{j:Nat}:max j (j+1)=j+1:=by omega
theorem Zt8{j:Nat}:(j<j+1)=True:=by simp
end Go.Fd

namespace Go.Fd
open Go.RowKit Go.ChangeShapes Go.ChangeMaps Go.WideMaps
section
variable {H:Type} {enc:TypeId×Value->H} {P:Program} {w:World} {t:TypeId} {v:Value} {d:DataW H} {p:List MemPlace} {sp:Nat->Bool} {hd:Bool} {base:Nat}
theorem Zt9(ht:P.underlying t=some (.int .i64))(hok:Value.okWide P w .any base t v)(h:DataW.Trod enc P w 0 sp hd t v d p):∃ n:Int,Jq .i64 n/\VR G0 S0 w (iI n) v:=by
 obtain⟨n,rfl,_,_,hw⟩:=open_int ht hok h
 refine⟨n,?_,.v _ rfl⟩
 simp only[Lit.wf,decide_eq_true_eq,Uad] at hw
 exact hw
end
end Go.Fd

namespace Go.Fd
set_option linter.defProp false in
def EV0:=(Uaa (Uaa (Uaa (Uaa (Uaa @ZmF @ZmG) (Uaa @ZmH (Uaa @ZmI @ZmJ))) (Uaa (Uaa @ZmK @ZmL) (Uaa @ZmM (Uaa @ZmN @ZmO)))) (Uaa (Uaa (Uaa @ZmP @ZmQ) (Uaa @ZmR (Uaa @ZmS @ZmT))) (Uaa (Uaa @ZmU @ZmV) (Uaa @ZmW (Uaa @ZmX @ZmY))))) (Uaa (Uaa (Uaa (Uaa @ZmZ @Zm0) (Uaa @Zm1 (Uaa @Zm2 @Zm3))) (Uaa (Uaa @Zm4 @Zm5) (Uaa @Zm6 (Uaa @Zm7 @Zm8)))) (Uaa (Uaa (Uaa @Zm9 @Zna) (Uaa @Znb (Uaa @Znc @Znd))) (Uaa (Uaa @Zne @Znf) (Uaa @Zng (Uaa @Znh @Zni))))))
set_option linter.defProp false in
def EV1:=(Uaa (Uaa (Uaa (Uaa (Uaa @Znj @Znk) (Uaa @Znl (Uaa @Znm @Znn))) (Uaa (Uaa @Zno @Znp) (Uaa @Znq (Uaa @Znr @Zns)))) (Uaa (Uaa (Uaa @Znt @Znu) (Uaa @Znv (Uaa @Znw @Znx))) (Uaa (Uaa @Zny @Znz) (Uaa @ZnA (Uaa @ZnB @ZnC))))) (Uaa (Uaa (Uaa (Uaa @ZnD @ZnE) (Uaa @ZnF (Uaa @ZnG @ZnH))) (Uaa (Uaa @ZnI @ZnJ) (Uaa @ZnK (Uaa @ZnL @ZnM)))) (Uaa (Uaa (Uaa @ZnN @ZnO) (Uaa @ZnP (Uaa @ZnQ @ZnR))) (Uaa (Uaa @ZnS @ZnT) (Uaa @ZnU (Uaa @ZnV @ZnW))))))
set_option linter.defProp false in
def EV2:=(Uaa (Uaa (Uaa (Uaa (Uaa @ZnX @ZnY) (Uaa @ZnZ (Uaa @Zn0 @Zn1))) (Uaa (Uaa @Zn2 @Zn3) (Uaa @Zn4 (Uaa @Zn5 @Zn6)))) (Uaa (Uaa (Uaa @Zn7 @Zn8) (Uaa @Zn9 (Uaa @Zoa @Zob))) (Uaa (Uaa @Zoc @Zod) (Uaa @Zoe (Uaa @Zof @Zog))))) (Uaa (Uaa (Uaa (Uaa @Zoh @Zoi) (Uaa @Zoj (Uaa @Zok @Zol))) (Uaa (Uaa @Zom @Zon) (Uaa @Zoo (Uaa @Zop @Zoq)))) (Uaa (Uaa (Uaa @Zor @Zos) (Uaa @Zot (Uaa @Zou @Zov))) (Uaa (Uaa @Zow @Zox) (Uaa @Zoy (Uaa @Zoz @ZoA))))))
set_option linter.defProp false in
def EV3:=(Uaa (Uaa (Uaa (Uaa (Uaa @ZoB @ZoC) (Uaa @ZoD (Uaa @ZoE @ZoF))) (Uaa (Uaa @ZoG @ZoH) (Uaa @ZoI (Uaa @ZoJ @ZoK)))) (Uaa (Uaa (Uaa @ZoL @ZoM) (Uaa @ZoN (Uaa @ZoO @ZoP))) (Uaa (Uaa @ZoQ @ZoR) (Uaa @Z8 (Uaa @XA @ZoS))))) (Uaa (Uaa (Uaa (Uaa @ZoT @Ji) (Uaa @ZoU (Uaa @ZoV @ZoW))) (Uaa (Uaa @ZoX @ZoY) (Uaa @ZoZ (Uaa @Zo0 @Zo1)))) (Uaa (Uaa (Uaa @Zo2 @Zo3) (Uaa @Zo4 (Uaa @Zo5 @Zo6))) (Uaa (Uaa @Zo7 @Zo8) (Uaa @Zo9 (Uaa @Zpa @Zpb))))))
set_option linter.defProp false in
def EV4:=(Uaa (Uaa (Uaa (Uaa (Uaa @Zpc @Zpd) (Uaa @Zpe (Uaa @Zpf @Zpg))) (Uaa (Uaa @Zph @Zpi) (Uaa @Zpj (Uaa @Zpk @Zpl)))) (Uaa (Uaa (Uaa @Zpm @Zpn) (Uaa @Zpo (Uaa @Zpp @Zpq))) (Uaa (Uaa @Zpr @Zps) (Uaa @Zpt (Uaa @Zpu @Zpv))))) (Uaa (Uaa (Uaa (Uaa @Zpw @ZgI) (Uaa @Zpx (Uaa @Zpy @Zpz))) (Uaa (Uaa @ZcN @ZgM) (Uaa @ZpA (Uaa @ZpB @ZpC)))) (Uaa (Uaa (Uaa @ZgN @ZpD) (Uaa @ZpE (Uaa @ZpF @ZpG))) (Uaa (Uaa @ZpH @ZpI) (Uaa @ZpJ (Uaa @ZpK @ZpL))))))
set_option linter.defProp false in
def EV5:=(Uaa (Uaa (Uaa (Uaa (Uaa @ZpM @ZpN) (Uaa @ZpO (Uaa @ZpP @ZpQ))) (Uaa (Uaa @ZpR @ZpS) (Uaa @ZpT (Uaa @ZpU @ZpV)))) (Uaa (Uaa (Uaa @ZpW @ZpX) (Uaa @ZpY (Uaa @ZpZ @Zp0))) (Uaa (Uaa @Zp1 @Zp2) (Uaa @Zp3 (Uaa @Zp4 @Zp5))))) (Uaa (Uaa (Uaa (Uaa @Zp6 @Zp7) (Uaa @Zp8 (Uaa @Zp9 @Zqa))) (Uaa (Uaa @Zqb @Zqc) (Uaa @Zqd (Uaa @Zqe @Zqf)))) (Uaa (Uaa (Uaa @Zqg @Zqh) (Uaa @Zqi (Uaa @Zqj @Zqk))) (Uaa (Uaa @Zql @Zqm) (Uaa @Zqn (Uaa @Zqo @Zqp))))))
set_option linter.defProp false in
def EV6:=(Uaa (Uaa (Uaa (Uaa (Uaa @Zqq @Zqr) (Uaa @Zqs (Uaa @Zqt @Zqu))) (Uaa (Uaa @Zqv @Zqw) (Uaa @Zqx (Uaa @Zqy @Zqz)))) (Uaa (Uaa (Uaa @ZqA @ZqB) (Uaa @ZqC (Uaa @ZqD @ZqE))) (Uaa (Uaa @ZqF @ZqG) (Uaa @ZqH (Uaa @ZqI @ZqJ))))) (Uaa (Uaa (Uaa (Uaa @ZqK @ZqL) (Uaa @ZqM (Uaa @ZqN @ZqO))) (Uaa (Uaa @ZqP @ZqQ) (Uaa @ZqR (Uaa @ZqS @ZqT)))) (Uaa (Uaa (Uaa @ZqU @ZqV) (Uaa @ZqW (Uaa @ZqX @ZqY))) (Uaa (Uaa @QC @QD) (Uaa @ZqZ (Uaa @Zq0 @Zq1))))))
set_option linter.defProp false in
def EV7:=(Uaa (Uaa (Uaa (Uaa (Uaa @Zq2 @Zq3) (Uaa @Zq4 (Uaa @Zq5 @Zq6))) (Uaa (Uaa @Zq7 @Zq8) (Uaa @Zq9 (Uaa @Zra @Zrb)))) (Uaa (Uaa (Uaa @Zrc @Zrd) (Uaa @Zre (Uaa @Zrf @Zrg))) (Uaa (Uaa @Zrh @Zri) (Uaa @Zrj (Uaa @Zrk @Zrl))))) (Uaa (Uaa (Uaa (Uaa @Zrm @Zrn) (Uaa @Zro (Uaa @Zrp @Zrq))) (Uaa (Uaa @Zrr @Zrs) (Uaa @Zrt (Uaa @Zru @Zrv)))) (Uaa (Uaa (Uaa @Zrw @Zrx) (Uaa @Zry (Uaa @Zrz @ZrA))) (Uaa (Uaa @ZrB @ZrC) (Uaa @ZrD (Uaa @ZrE @ZrF))))))
set_option linter.defProp false in
def EV8:=(Uaa (Uaa (Uaa (Uaa (Uaa @ZrG @ZrH) (Uaa @ZrI (Uaa @ZrJ @ZrK))) (Uaa (Uaa @ZrL @ZrM) (Uaa @ZrN (Uaa @ZrO @ZrP)))) (Uaa (Uaa (Uaa @ZrQ @ZrR) (Uaa @ZrS (Uaa @ZrT @ZrU))) (Uaa (Uaa @ZrV @ZrW) (Uaa @ZrX (Uaa @ZrY @ZrZ))))) (Uaa (Uaa (Uaa (Uaa @Zr0 @Zr1) (Uaa @Zr2 (Uaa @Zr3 @Zr4))) (Uaa (Uaa @Zr5 @Zr6) (Uaa @Zr7 (Uaa @Zr8 @Zr9)))) (Uaa (Uaa (Uaa @Zsa @Zsb) (Uaa @Zsc (Uaa @Zsd @Zse))) (Uaa (Uaa @Zsf @Zsg) (Uaa @Zsh (Uaa @Zsi @Zsj))))))
set_option linter.defProp false in
def EV9:=(Uaa (Uaa (Uaa (Uaa (Uaa @Zsk @Zsl) (Uaa @Zsm (Uaa @Zsn @Zso))) (Uaa (Uaa @Zsp @Zsq) (Uaa @ZcS (Uaa @ZaH @Zsr)))) (Uaa (Uaa (Uaa @Zss @Zst) (Uaa @Zsu (Uaa @Zsv @Zsw))) (Uaa (Uaa @Zsx @Zsy) (Uaa @Zsz (Uaa @ZsA @ZsB))))) (Uaa (Uaa (Uaa (Uaa @ZsC @ZsD) (Uaa @ZsE (Uaa @ZsF @ZsG))) (Uaa (Uaa @ZsH @ZsI) (Uaa @ZsJ (Uaa @ZsK @ZsL)))) (Uaa (Uaa (Uaa @ZsM @ZsN) (Uaa @ZsO (Uaa @ZsP @ZsQ))) (Uaa (Uaa @ZsR @ZsS) (Uaa @ZsT (Uaa @ZsU @ZsV))))))
set_option linter.defProp false in
def Zua:=(Uaa (Uaa (Uaa (Uaa (Uaa @ZsW @ZsX) (Uaa @ZsY (Uaa @ZsZ @Zs0))) (Uaa (Uaa @Zs1 @Zs2) (Uaa @Zs3 (Uaa @Zs4 @Zs5)))) (Uaa (Uaa (Uaa @Zs6 @Zs7) (Uaa @Zs8 (Uaa @Zs9 @Zta))) (Uaa (Uaa @Ztb @Ztc) (Uaa @Ztd (Uaa @Zte @Ztf))))) (Uaa (Uaa (Uaa (Uaa @Ztg @Zth) (Uaa @Zti (Uaa @Ztj @Ztk))) (Uaa (Uaa @Ztl @Ztm) (Uaa @Ztn (Uaa @Zto @Ztp)))) (Uaa (Uaa (Uaa @Ztq @Ztr) (Uaa @Zts (Uaa @Ztt @Ztu))) (Uaa (Uaa @Ztv @Ztw) (Uaa @Ztx (Uaa @Zty @ZtL))))))
set_option linter.defProp false in
def Zub:=(Uaa (Uaa (Uaa (Uaa (Uaa @ZtM @ZtN) (Uaa @ZtO (Uaa @ZtP @ZtR))) (Uaa (Uaa @ZtS @ZtT) (Uaa @ZtU (Uaa @ZtV @ZtW)))) (Uaa (Uaa (Uaa @ZtX @ZtY) (Uaa @ZtZ (Uaa @Zt0 @Zt1))) (Uaa (Uaa @Zt2 @Zt3) (Uaa @Zt4 (Uaa @Zt5 @Zt6))))) (Uaa (Uaa (Uaa (Uaa @Zt7 @Zt8) (Uaa @bigN.eq_1 (Uaa @fpart.eq_1 @fpart.eq_2))) (Uaa (Uaa @okp.eq_1 @okp.eq_2) (Uaa @zfill.eq_1 (Uaa @zfill.eq_2 @zobs.eq_1)))) (Uaa (Uaa (Uaa @ptd.eq_1 @ptd.eq_2) (Uaa @keyOf.eq_1 (Uaa @keyOf.eq_2 @freshK.eq_1))) (Uaa (Uaa @freshK.eq_2 @lk.eq_1) (Uaa @lk.eq_2 (Uaa @pt.eq_1 @pt.eq_2))))))
set_option linter.defProp false in
def Zuc:=(Uaa (Uaa (Uaa (Uaa (Uaa @lkO.eq_1 @lkO.eq_2) (Uaa @ptO.eq_1 (Uaa @ptO.eq_2 @addO.eq_1))) (Uaa (Uaa @addO.eq_2 @xv.eq_1) (Uaa @xv.eq_2 (Uaa @xv.eq_3 @kv.eq_1)))) (Uaa (Uaa (Uaa @kv.eq_2 @kc.eq_1) (Uaa @kc.eq_2 (Uaa @params.eq_1 @params.eq_2))) (Uaa (Uaa @trv.eq_1 @trv.eq_2) (Uaa @List.length_cons.{0} (Uaa @List.length_nil.{0} @Option.getD_some.{0}))))) (Uaa (Uaa (Uaa (Uaa @Option.getD_none.{0} @true_and) (Uaa @and_true (Uaa @decide_eq_true_eq @decide_true))) (Uaa (Uaa @decide_false @Option.map_some.{0,0}) (Uaa @Option.map_none.{0,0} (Uaa @Option.isSome_some.{0} @Option.isSome_none.{0})))) (Uaa (Uaa (Uaa @Option.isNone_some.{0} @Option.isNone_none.{0}) (Uaa @UaB.{0,0} (Uaa @UaX.{0,0} @List.cons_append.{0}))) (Uaa (Uaa @List.nil_append.{0} @List.getElem?_cons_zero.{0}) (Uaa @List.getElem?_cons_succ.{0} (Uaa @List.drop_succ_cons.{0} @Uby.{0}))))))
set_option linter.defProp false in
def Zud:=(Uaa (Uaa (Uaa (Uaa (Uaa @List.take_succ_cons.{0} @List.take_zero.{0}) (Uaa @List.headD_cons.{0} (Uaa @List.headD_nil.{0} @List.tail_cons.{0}))) (Uaa (Uaa @List.tail_nil.{0} @noSh.eq_1) (Uaa @noSh.eq_2 (Uaa @noSh.eq_3 @noSh.eq_4)))) (Uaa (Uaa (Uaa @noSh.eq_5 @noSh.eq_6) (Uaa @noSh.eq_7 (Uaa @noSh.eq_8 @noShs.eq_1))) (Uaa (Uaa @noShs.eq_2 @isSc.eq_1) (Uaa @isSc.eq_2 (Uaa @impv.eq_1 @impv.eq_2))))) (Uaa (Uaa (Uaa (Uaa @impv.eq_3 @impv.eq_4) (Uaa @impvs.eq_1 (Uaa @impvs.eq_2 @impc.eq_1))) (Uaa (Uaa @impc.eq_2 @memB.eq_1) (Uaa @memB.eq_2 (Uaa @keepB.eq_1 @keepB.eq_2)))) (Uaa (Uaa (Uaa @keepOB.eq_1 @keepOB.eq_2) (Uaa @or_true (Uaa @true_or @or_false))) (Uaa (Uaa @false_or @UaZ) (Uaa @Bool.true_eq_false (Uaa @if_true.{1} @if_false.{1}))))))
set_option linter.defProp false in
def Zue:=(Uaa (Uaa (Uaa (Uaa (Uaa @UbN @Bool.not_false) (Uaa @scrE.eq_1 (Uaa @scrE.eq_2 @scrL.eq_1))) (Uaa (Uaa @scrL.eq_2 @scr.eq_1) (Uaa @scr.eq_2 (Uaa @scr.eq_3 @scr.eq_4)))) (Uaa (Uaa (Uaa @scr.eq_5 @scr.eq_6) (Uaa @scr.eq_7 (Uaa @scr.eq_8 @scrs.eq_1))) (Uaa (Uaa @scrs.eq_2 @scrOb.eq_1) (Uaa @scrOb.eq_2 (Uaa @rmO.eq_1 @rmO.eq_2))))) (Uaa (Uaa (Uaa (Uaa @Int.toNat_natCast @Int.toNat_zero) (Uaa @Int.toNat_one (Uaa @List.all_cons.{0} @List.all_nil.{0}))) (Uaa (Uaa @isCell.eq_1 @isCell.eq_2) (Uaa @isCell.eq_3 (Uaa @isCell.eq_4 @isCell.eq_5)))) (Uaa (Uaa (Uaa @isCell.eq_6 @Ubv) (Uaa @Bool.true_and (Uaa @Bool.and_self @cellsOf.eq_1))) (Uaa (Uaa @cellsOf.eq_2 @totr.eq_1) (Uaa @totr.eq_2 (Uaa @totr.eq_3 @totr.eq_4))))))
set_option linter.defProp false in
def Zuf:=(Uaa (Uaa (Uaa (Uaa @totr.eq_5 (Uaa @totrs.eq_1 @totrs.eq_2)) (Uaa (Uaa @tocs.eq_1 @getp.eq_1) (Uaa @getp.eq_2 @cvt.eq_1))) (Uaa (Uaa @cvt.eq_2 (Uaa @cvts.eq_1 @cvts.eq_2)) (Uaa (Uaa @Uap @Nat.add_zero) (Uaa @List.set_cons_zero.{0} @List.set_cons_succ.{0})))) (Uaa (Uaa (Uaa @Uar (Uaa @Bool.not_eq_false' @Uah)) (Uaa (Uaa @Uag @Ua0.{0,0}) (Uaa @ne_eq.{1} @not_false_eq_true))) (Uaa (Uaa (Uaa @not_true_eq_false @Uab.{0,0}) (Uaa @Ua2.{0} @List.replicate_zero.{0})) (Uaa (Uaa @and_false @false_and) (Uaa @and_self @Int.cast_ofNat_Int)))))
set_option linter.defProp false in
def Zb:=(Uaa (Uaa (Uaa (Uaa EV0 EV1) (Uaa EV2 EV3)) (Uaa (Uaa EV4 EV5) (Uaa EV6 EV7))) (Uaa (Uaa (Uaa EV8 EV9) (Uaa Zua Zub)) (Uaa (Uaa Zuc Zud) (Uaa Zue Zuf))))
abbrev oo(d:Nat)(x:O):OP:=⟨some d,none,x⟩
abbrev ZI(x:O):OP:=⟨none,none,x⟩
abbrev og(d j:Nat)(w:Bool)(x:O):OP:=⟨some d,some (j,w),x⟩
abbrev om(d:Nat)(x:X):OP:=⟨some d,none,.mv x none⟩
abbrev rg(l:List OP):C2:=.rg none l
abbrev i6(n:Int):X:=.k (.int .i64 n)
set_option maxRecDepth 10000
theorem Zl{c:Prop}[Decidable c]{p q:Prop}(h1:c->p)(h2:¬ c->q):if c then p else q:=by
 split
 ·exact h1 ‹_›
 ·exact h2 ‹_›
def Yf(n:Nat)(left:Int):Int:=if left-n<0 then -1 else left-n
def J5{α:Type}(f:α->Int->Int):List α->Int->Int
 | [],l=>l
 | x::r,l=>if f x l<0 then -1 else J5 f r (f x l)
def Jn{α:Type}(f:α->Int->Int)(a:List α)(left:Int):Int:=if left-a.length<0 then -1 else J5 f a (left-a.length)
def sz0:F2 :=
 { nt:=12,res:=[.t 4 [0]],body:=(.sq (.rg none [⟨some 4,none,.mv (.k (.int .i64 0)) none⟩]) (.sq (.rg none [⟨some 5,none,.mv (.t 1) none⟩,
   ⟨some 6,none,.mv (.t 0) none⟩,
   ⟨some 7,none,.ln (.t 6)⟩,
   ⟨some 8,none,.bi .sub 0 (.t 5) (.t 7)⟩,
   ⟨some 1,none,.mv (.t 8) none⟩]) (.sq (.sq (.rg none [⟨some 9,none,.mv (.t 1) none⟩,
    ⟨some 10,none,.bi .lss 0 (.t 9) (.k (.int .i64 0))⟩]) (.cd (.t 10) (.sq (.rg none [⟨some 4,none,.mv (.k (.int .i64 (-1))) none⟩]) (.rt)) (.sk))) (.sq (.rg none [⟨some 11,none,.mv (.t 1) none⟩,
   ⟨some 4,none,.mv (.t 11) none⟩]) (.rt))))) }
theorem Zug{P:Program}{fid:FuncId}(hc:Zo P fid sz0=true)(es:Row)(left:Int)(h:es.length<=9223372036854775807)(h0:0<=left)(h1:left<=1048576)(lvl:Nat)(S:Zc) :
  Sem P fid lvl [.tr (.sl es),iI left] S (iI (Yf es.length left)) S:=by
 refine Zv hc trivial ?_
 simp only[sz0,Zb,seval,Za,men]
 refine⟨by rw[Zh];omega,?_⟩
 unfold Yf
 split <;> rfl
def Q8(k:Nat)(m:Option Nat)(fid:FuncId):F2 :=
 { nt:=27,res:=[.t 4 [0]],body:=(.sq (.rg none [⟨some 4,none,.mv (.k (.int .i64 0)) none⟩]) (.sq (.rg none [⟨some 6,none,.mv (.t 1) none⟩,
   ⟨some 7,none,.mv (.t 0) none⟩,
   ⟨some 8,none,.ln (.t 7)⟩,
   ⟨some 9,none,.bi .sub 0 (.t 6) (.t 8)⟩,
   ⟨some 1,none,.mv (.t 9) none⟩]) (.sq (.sq (.rg none [⟨some 10,none,.mv (.t 1) none⟩,
    ⟨some 11,none,.bi .lss 0 (.t 10) (.k (.int .i64 0))⟩]) (.cd (.t 11) (.sq (.rg none [⟨some 4,none,.mv (.k (.int .i64 (-1))) none⟩]) (.rt)) (.sk))) (.sq (.sq (.rg none [⟨some 5,none,.mv (.k (.int .i64 0)) none⟩]) (.bl 0 (.lp [0,1,5] [] (.sq (.sq (.rg none [⟨some 12,none,.mv (.t 5) none⟩,
     ⟨some 13,none,.mv (.t 0) none⟩,
     ⟨some 14,none,.ln (.t 13)⟩,
     ⟨some 15,none,.bi .lss 0 (.t 12) (.t 14)⟩]) (.cd (.t 15) (.sk) (.ex 0))) (.sq (.bl 1 (.sq (.rg none [⟨some 18,none,.mv (.t 0) none⟩,
      ⟨some 19,none,.mv (.t 5) none⟩,
      ⟨some 20,none,.ia k (.t 18) (.t 19)⟩,
      ⟨some 21,none,.ld m (.t 20)⟩,
      ⟨some 22,none,.mv (.t 1) none⟩,
      ⟨some 23,none,.ca .pure false (.f fid) [.t 21,.t 22]⟩,
      ⟨some 1,none,.mv (.t 23) none⟩]) (.sq (.rg none [⟨some 24,none,.mv (.t 1) none⟩,
      ⟨some 25,none,.bi .lss 0 (.t 24) (.k (.int .i64 0))⟩]) (.cd (.t 25) (.sq (.rg none [⟨some 4,none,.mv (.k (.int .i64 (-1))) none⟩]) (.rt)) (.sk))))) (.rg none [⟨some 16,none,.mv (.t 5) none⟩,
    ⟨some 17,none,.bi .add 0 (.t 16) (.k (.int .i64 1))⟩,
    ⟨some 5,none,.mv (.t 17) none⟩])))))) (.sq (.rg none [⟨some 26,none,.mv (.t 1) none⟩,
   ⟨some 4,none,.mv (.t 26) none⟩]) (.rt)))))) }
theorem ZaN{P:Program}{fid fe:FuncId}{k:Nat}(hc:Zo P fid (Q8 k (some k) fe)=true){α:Type}(c:α->List Tr)(f:α->Int->Int)(hk:∀ x,(c x).length=k)(a:List α)(left:Int)(h:a.length<=9223372036854775807)(h0:0<=left)(h1:left<=1048576)
  (hf:∀ x∈a,∀ l:Int,0<=l->l<=1048576->f x l<=l/\∀ lvl S,Sem P fe lvl [.ag ((c x).map .tr),iI l] S (iI (f x l)) S) (lvl:Nat) (S:Zc) :
  Sem P fid lvl [.tr (.sl (a.map c)),iI left] S (iI (Jn f a left)) S:=by
 refine Zv hc trivial ?_
 simp only[Q8,Uab,Zb,seval,Za,men]
 refine⟨by rw[Zh];omega,?_⟩
 unfold Jn
 split
 ·rfl
 ·rename_i hlt
  generalize hr:J5 f a (left-a.length)=total
  refine Jf (α:=Int) a.length (fun j l=>⟨lvl,[(0,.tr (.sl (a.map c))),(1,iI l),(5,iI j)],[],S⟩) (fun j l=>0<=l/\l<=1048576/\J5 f (a.drop j) l=total) (left-a.length) ⟨by simp only[Zb,seval,Za,men],by (simp only[Zb,seval,Za,men]) <;> rfl⟩ ⟨by omega,by omega,hr⟩ ?_
  intro j l hj ⟨hl0,hl1,hl⟩
  simp only[Uab,Zb,seval,Za,men]
  split
  ·rename_i hlt
   have hja:j<a.length:=by omega
   have ga:(a.map c)[j]? = some (c a[j]):=by simp [hja]
   have hkk:=hk a[j]
   have htk:(c a[j]).take k=c a[j]:=UaL (by omega)
   rw[UaW hja] at hl
   obtain⟨hle,hsem⟩:=hf a[j] (Ual hja) l hl0 hl1
   simp only[ga,hkk,htk,Uah,Uag,Zb,seval,Za,men]
   refine Zi hsem ?_
   simp only[Zb,seval,Za,men]
   split
   ·rename_i hneg
    simp only[J5,if_pos hneg] at hl
    rw[hl]
   ·rename_i hneg
    simp only[J5,if_neg hneg] at hl
    refine⟨by rw[Zh];omega,Zr (f a[j] l) hja rfl ⟨by omega,by omega,hl⟩⟩
  ·rename_i hge
   have:j=a.length:=by omega
   subst this
   simp only[Ubr,J5] at hl
   rw[hl]
def ZcY:F2 :=
 { nt:=28,res:=[.t 4 [0]],body:=(.sq (.rg none [⟨some 4,none,.mv (.k (.int .i64 0)) none⟩]) (.sq (.rg none [⟨some 6,none,.mv (.t 1) none⟩,
   ⟨some 7,none,.mv (.t 0) none⟩,
   ⟨some 8,none,.ln (.t 7)⟩,
   ⟨some 9,none,.bi .sub 0 (.t 6) (.t 8)⟩,
   ⟨some 1,none,.mv (.t 9) none⟩]) (.sq (.sq (.rg none [⟨some 10,none,.mv (.t 1) none⟩,
    ⟨some 11,none,.bi .lss 0 (.t 10) (.k (.int .i64 0))⟩]) (.cd (.t 11) (.sq (.rg none [⟨some 4,none,.mv (.k (.int .i64 (-1))) none⟩]) (.rt)) (.sk))) (.sq (.sq (.rg none [⟨some 5,none,.mv (.k (.int .i64 0)) none⟩]) (.bl 0 (.lp [0,1,5] [] (.sq (.sq (.rg none [⟨some 12,none,.mv (.t 5) none⟩,
     ⟨some 13,none,.mv (.t 0) none⟩,
     ⟨some 14,none,.ln (.t 13)⟩,
     ⟨some 15,none,.bi .lss 0 (.t 12) (.t 14)⟩]) (.cd (.t 15) (.sk) (.ex 0))) (.sq (.bl 1 (.sq (.rg none [⟨some 18,none,.mv (.t 1) none⟩,
      ⟨some 19,none,.mv (.t 0) none⟩,
      ⟨some 20,none,.mv (.t 5) none⟩,
      ⟨some 21,none,.ia 1 (.t 19) (.t 20)⟩,
      ⟨some 22,none,.ld none (.t 21)⟩,
      ⟨some 23,none,.lg (.t 22)⟩,
      ⟨some 24,none,.bi .sub 0 (.t 18) (.t 23)⟩,
      ⟨some 1,none,.mv (.t 24) none⟩]) (.sq (.rg none [⟨some 25,none,.mv (.t 1) none⟩,
      ⟨some 26,none,.bi .lss 0 (.t 25) (.k (.int .i64 0))⟩]) (.cd (.t 26) (.sq (.rg none [⟨some 4,none,.mv (.k (.int .i64 (-1))) none⟩]) (.rt)) (.sk))))) (.rg none [⟨some 16,none,.mv (.t 5) none⟩,
    ⟨some 17,none,.bi .add 0 (.t 16) (.k (.int .i64 1))⟩,
    ⟨some 5,none,.mv (.t 17) none⟩])))))) (.sq (.rg none [⟨some 27,none,.mv (.t 1) none⟩,
   ⟨some 4,none,.mv (.t 27) none⟩]) (.rt)))))) }
theorem Zuh{P:Program}{fid:FuncId}(hc:Zo P fid ZcY=true)(a:List ByteArray)(left:Int)(h:a.length<=9223372036854775807)(h0:0<=left)(h1:left<=1048576)
  (hf:∀ x∈a,x.size<=9223372036854775807) (lvl:Nat) (S:Zc) :
  Sem P fid lvl [tS a,iI left] S (iI (Jn (fun x l=>l-x.size) a left)) S:=by
 refine Zv hc trivial ?_
 simp only[ZcY,Uab,Zb,seval,Za,men]
 refine⟨by rw[Zh];omega,?_⟩
 unfold Jn
 split
 ·rfl
 ·rename_i hlt
  generalize hr:J5 (fun(x:ByteArray) l=>l-x.size) a (left-a.length)=total
  refine Jf (α:=Int) a.length (fun j l=>⟨lvl,[(0,tS a),(1,iI l),(5,iI j)],[],S⟩) (fun j l=>0<=l/\l<=1048576/\J5 (fun(x:ByteArray) l=>l-x.size) (a.drop j) l=total) (left-a.length) ⟨by simp only[Zb,seval,Za,men],by (simp only[Zb,seval,Za,men]) <;> rfl⟩ ⟨by omega,by omega,hr⟩ ?_
  intro j l hj ⟨hl0,hl1,hl⟩
  simp only[Uab,Zb,seval,Za,men]
  split
  ·rename_i hlt
   have hja:j<a.length:=by omega
   have ga:(rS a)[j]? = some [ts a[j]]:=by simp [hja]
   rw[UaW hja] at hl
   have hs:=hf a[j] (Ual hja)
   simp only[ga,Uah,Uag,Zb,seval,Za,men]
   refine⟨by rw[Zh];omega,?_⟩
   split
   ·rename_i hneg
    simp only[J5,if_pos hneg] at hl
    rw[hl]
   ·rename_i hneg
    simp only[J5,if_neg hneg] at hl
    refine⟨by rw[Zh];omega,Zr (l-a[j].size) hja rfl ⟨by omega,by omega,hl⟩⟩
  ·rename_i hge
   have:j=a.length:=by omega
   subst this
   simp only[Ubr,J5] at hl
   rw[hl]
def QF(k:Nat)(m:Option Nat)(fid:FuncId):F2 :=
 { nt:=27,res:=[.t 4 [0]],body:=(.sq (.rg none [⟨some 4,none,.mv (.k (.bool false)) none⟩]) (.sq (.sq (.rg none [⟨some 6,none,.mv (.t 0) none⟩,
    ⟨some 7,none,.ln (.t 6)⟩,
    ⟨some 8,none,.mv (.t 1) none⟩,
    ⟨some 9,none,.ln (.t 8)⟩,
    ⟨some 10,none,.bi .neq 0 (.t 7) (.t 9)⟩]) (.cd (.t 10) (.sq (.rg none [⟨some 4,none,.mv (.k (.bool false)) none⟩]) (.rt)) (.sk))) (.sq (.sq (.rg none [⟨some 5,none,.mv (.k (.int .i64 0)) none⟩]) (.bl 0 (.lp [0,1,5] [] (.sq (.sq (.rg none [⟨some 11,none,.mv (.t 5) none⟩,
     ⟨some 12,none,.mv (.t 0) none⟩,
     ⟨some 13,none,.ln (.t 12)⟩,
     ⟨some 14,none,.bi .lss 0 (.t 11) (.t 13)⟩]) (.cd (.t 14) (.sk) (.ex 0))) (.sq (.bl 1 (.sq (.rg (some 0) [⟨some 17,none,.mv (.t 0) none⟩,
      ⟨some 18,none,.mv (.t 5) none⟩,
      ⟨some 19,none,.ia k (.t 17) (.t 18)⟩,
      ⟨some 20,none,.ld m (.t 19)⟩,
      ⟨some 21,none,.mv (.t 1) none⟩,
      ⟨some 22,none,.mv (.t 5) none⟩,
      ⟨some 23,none,.ia k (.t 21) (.t 22)⟩,
      ⟨some 24,none,.ld m (.t 23)⟩,
      ⟨some 25,none,.ca .pure false (.f fid) [.t 20,.t 24]⟩,
      ⟨some 26,none,.nt (.t 25)⟩]) (.cd (.t 26) (.sq (.rg none [⟨some 4,none,.mv (.k (.bool false)) none⟩]) (.rt)) (.sk)))) (.rg none [⟨some 15,none,.mv (.t 5) none⟩,
    ⟨some 16,none,.bi .add 0 (.t 15) (.k (.int .i64 1))⟩,
    ⟨some 5,none,.mv (.t 16) none⟩])))))) (.sq (.rg none [⟨some 4,none,.mv (.k (.bool true)) none⟩]) (.rt))))) }
theorem ZaO{α:Type}{a b:List α}{j:Nat}(ha:j<a.length)(hb:j<b.length)(h:a[j]≠b[j]):a≠b:=by
 intro e;subst e;exact h rfl
theorem ZaP{α:Type}{a b:List α}(hl:a.length=b.length)(h:a.take a.length=b.take a.length):a=b:=by
 rw[Uaz,hl,Uaz] at h;exact h
theorem ZaQ{α:Type}{a b:List α}{j:Nat}(ha:j<a.length)(hb:j<b.length)(h:a.take j=b.take j)(e:a[j]=b[j]):a.take (j+1)=b.take (j+1):=by
 rw[Uaj ha,Uaj hb,h,e]
theorem U8{P:Program}{fid fe:FuncId}{k:Nat}(hc:Zo P fid (QF k (some k) fe)=true){α:Type}[DecidableEq α](c:α->List Tr)(hk:∀ x,(c x).length=k)(a b:List α)(ha:a.length<=9223372036854775807)
  (hf:∀ x∈a,∀ y∈b,∀ lvl S,Sem P fe lvl [.ag ((c x).map .tr),.ag ((c y).map .tr)] S (iB (decide (x=y))) S) (lvl:Nat) (S:Zc) :
  Sem P fid lvl [.tr (.sl (a.map c)),.tr (.sl (b.map c))] S (iB (decide (a=b))) S:=by
 refine Zv hc trivial ?_
 simp only[QF,Uab,Zb,seval,Za,men]
 split
 ·rename_i h
  have:¬ a=b:=fun e=>h (by rw[e])
  simp [this]
 ·rename_i h
  have hlen:a.length=b.length:=by omega
  refine Jf (α:=Unit) a.length (fun j _=>⟨lvl,[(0,.tr (.sl (a.map c))),(1,.tr (.sl (b.map c))),(5,iI j)],[],S⟩) (fun j _=>a.take j=b.take j) () ⟨by simp only[Zb,seval,Za,men],by (simp only[Zb,seval,Za,men]) <;> rfl⟩ rfl ?_
  intro j _ hj hA
  simp only[Uab,Zb,seval,Za,men]
  split
  ·rename_i hlt
   have hja:j<a.length:=by omega
   have hjb:j<b.length:=by omega
   have ga:(a.map c)[j]? = some (c a[j]):=by simp [hja]
   have gb:(b.map c)[j]? = some (c b[j]):=by simp [hjb]
   have hka:=hk a[j]
   have hkb:=hk b[j]
   have hta:(c a[j]).take k=c a[j]:=UaL (by omega)
   have htb:(c b[j]).take k=c b[j]:=UaL (by omega)
   have hsem:=hf a[j] (Ual hja) b[j] (Ual hjb)
   simp only[ga,gb,hka,hkb,hta,htb,Uah,Uag,Zb,seval,Za,men]
   refine Zi hsem ?_
   simp only[Uar,Zb,seval,Za,men]
   split
   ·rename_i hne
    have:¬ a=b:=ZaO hja hjb (by simpa using hne)
    simp [this]
   ·rename_i he
    refine⟨by rw[Zh];omega,Zr () hja rfl (ZaQ hja hjb hA (by simpa using he))⟩
  ·rename_i hge
   have:j=a.length:=by omega
   subst this
   have:a=b:=ZaP hlen hA
   simp [this]
def W7:F2 :=
 { nt:=26,res:=[.t 4 [0]],body:=(.sq (.rg none [⟨some 4,none,.mv (.k (.bool false)) none⟩]) (.sq (.sq (.rg none [⟨some 6,none,.mv (.t 0) none⟩,
    ⟨some 7,none,.ln (.t 6)⟩,
    ⟨some 8,none,.mv (.t 1) none⟩,
    ⟨some 9,none,.ln (.t 8)⟩,
    ⟨some 10,none,.bi .neq 0 (.t 7) (.t 9)⟩]) (.cd (.t 10) (.sq (.rg none [⟨some 4,none,.mv (.k (.bool false)) none⟩]) (.rt)) (.sk))) (.sq (.sq (.rg none [⟨some 5,none,.mv (.k (.int .i64 0)) none⟩]) (.bl 0 (.lp [0,1,5] [] (.sq (.sq (.rg none [⟨some 11,none,.mv (.t 5) none⟩,
     ⟨some 12,none,.mv (.t 0) none⟩,
     ⟨some 13,none,.ln (.t 12)⟩,
     ⟨some 14,none,.bi .lss 0 (.t 11) (.t 13)⟩]) (.cd (.t 14) (.sk) (.ex 0))) (.sq (.bl 1 (.sq (.rg (some 0) [⟨some 17,none,.mv (.t 0) none⟩,
      ⟨some 18,none,.mv (.t 5) none⟩,
      ⟨some 19,none,.ia 1 (.t 17) (.t 18)⟩,
      ⟨some 20,none,.ld none (.t 19)⟩,
      ⟨some 21,none,.mv (.t 1) none⟩,
      ⟨some 22,none,.mv (.t 5) none⟩,
      ⟨some 23,none,.ia 1 (.t 21) (.t 22)⟩,
      ⟨some 24,none,.ld none (.t 23)⟩,
      ⟨some 25,none,.bi .neq 0 (.t 20) (.t 24)⟩]) (.cd (.t 25) (.sq (.rg none [⟨some 4,none,.mv (.k (.bool false)) none⟩]) (.rt)) (.sk)))) (.rg none [⟨some 15,none,.mv (.t 5) none⟩,
    ⟨some 16,none,.bi .add 0 (.t 15) (.k (.int .i64 1))⟩,
    ⟨some 5,none,.mv (.t 16) none⟩])))))) (.sq (.rg none [⟨some 4,none,.mv (.k (.bool true)) none⟩]) (.rt))))) }
theorem Zui{P:Program}{fid:FuncId}(hc:Zo P fid W7=true)(a b:List Int)(ha:a.length<=9223372036854775807)(lvl:Nat)(S:Zc):Sem P fid lvl [tI a,tI b] S (iB (decide (a=b))) S:=by
 refine Zv hc trivial ?_
 simp only[W7,Uab,Zb,seval,Za,men]
 split
 ·rename_i h
  have:¬ a=b:=fun e=>h (by rw[e])
  simp [this]
 ·rename_i h
  have hlen:a.length=b.length:=by omega
  refine Jf (α:=Unit) a.length (fun j _=>⟨lvl,[(0,tI a),(1,tI b),(5,iI j)],[],S⟩) (fun j _=>a.take j=b.take j) () ⟨by simp only[Zb,seval,Za,men],by (simp only[Zb,seval,Za,men]) <;> rfl⟩ rfl ?_
  intro j _ hj hA
  simp only[Uab,Zb,seval,Za,men]
  split
  ·rename_i hlt
   have hja:j<a.length:=by omega
   have hjb:j<b.length:=by omega
   have ga:(rI a)[j]? = some [tv a[j]]:=by simp [hja]
   have gb:(rI b)[j]? = some [tv b[j]]:=by simp [hjb]
   simp only[ga,gb,Uah,Uag,Zb,seval,Za,men]
   split
   ·rename_i hne
    have:¬ a=b:=ZaO hja hjb (by simpa using hne)
    simp [this]
   ·rename_i he
    refine⟨by rw[Zh];omega,Zr () hja rfl (ZaQ hja hjb hA (by simpa using he))⟩
  ·rename_i hge
   have:j=a.length:=by omega
   subst this
   have:a=b:=ZaP hlen hA
   simp [this]
theorem Zuj{P:Program}{fid:FuncId}(hc:Zo P fid W7=true)(a b:List ByteArray)(ha:a.length<=9223372036854775807)(lvl:Nat)(S:Zc):Sem P fid lvl [tS a,tS b] S (iB (decide (a=b))) S:=by
 refine Zv hc trivial ?_
 simp only[W7,Uab,Zb,seval,Za,men]
 split
 ·rename_i h
  have:¬ a=b:=fun e=>h (by rw[e])
  simp [this]
 ·rename_i h
  have hlen:a.length=b.length:=by omega
  refine Jf (α:=Unit) a.length (fun j _=>⟨lvl,[(0,tS a),(1,tS b),(5,iI j)],[],S⟩) (fun j _=>a.take j=b.take j) () ⟨by simp only[Zb,seval,Za,men],by (simp only[Zb,seval,Za,men]) <;> rfl⟩ rfl ?_
  intro j _ hj hA
  simp only[Uab,Zb,seval,Za,men]
  split
  ·rename_i hlt
   have hja:j<a.length:=by omega
   have hjb:j<b.length:=by omega
   have ga:(rS a)[j]? = some [ts a[j]]:=by simp [hja]
   have gb:(rS b)[j]? = some [ts b[j]]:=by simp [hjb]
   simp only[ga,gb,Uah,Uag,Zb,seval,Za,men]
   split
   ·rename_i hne
    have:¬ a=b:=ZaO hja hjb (by simpa using hne)
    simp [this]
   ·rename_i he
    refine⟨by rw[Zh];omega,Zr () hja rfl (ZaQ hja hjb hA (by simpa using he))⟩
  ·rename_i hge
   have:j=a.length:=by omega
   subst this
   have:a=b:=ZaP hlen hA
   simp [this]
def JI{α:Type}(c:α->List Tr)(z:List Tr)(a:List α)(j:Nat):Row:=(a.take j).map c++List.replicate (a.length-j) z
theorem We{α:Type}(c:α->List Tr)(z:List Tr)(a:List α):JI c z a 0=List.replicate a.length z:=by simp [JI]
theorem Wf{α:Type}(c:α->List Tr)(z:List Tr)(a:List α):JI c z a a.length=a.map c:=by simp [JI]
theorem U9{α:Type}{c:α->List Tr}{z:List Tr}{a:List α}{j:Nat}(h:j<=a.length):(JI c z a j).length=a.length:=by
 simp [JI];omega
theorem Wg{α:Type}{c:α->List Tr}{z:List Tr}{a:List α}{j:Nat}(h:j<a.length):(JI c z a j)[j]? = some z:=by
 unfold JI
 have h1:((a.take j).map c).length=j:=by rw[Uab,Uas];omega
 rw[Uao (by omega),h1,Ubm,Ubu]
 rw[if_pos (by omega)]
theorem Wh{α:Type}{c:α->List Tr}{z e:List Tr}{a:List α}{j:Nat}(h:j<a.length)(he:e=c a[j]):(JI c z a j).set j e=JI c z a (j+1):=by
 subst he
 unfold JI
 have h1:((a.take j).map c).length=j:=by simp;omega
 rw[List.set_append_right _ _ (by omega),h1,Ubm,show a.length-j=(a.length-(j+1))+1 from by omega,List.replicate_succ,List.set_cons_zero,Uaj h,UaS]
 simp
def W8(z:Value):F2 :=
 { nt:=22,res:=[.t 2 [2]],body:=(.sq (.rg none [⟨some 2,none,.mv (.k (.slice none 0 0)) none⟩]) (.sq (.rg none [⟨some 5,none,.mv (.t 0) none⟩,
   ⟨some 6,none,.ln (.t 5)⟩,
   ⟨some 7,none,.ms 1 [z] (.t 6)⟩,
   ⟨some 3,none,.mv (.t 7) none⟩]) (.sq (.sq (.rg none [⟨some 4,none,.mv (.k (.int .i64 0)) none⟩]) (.bl 0 (.lp [0,3,4] [224] (.sq (.sq (.rg none [⟨some 8,none,.mv (.t 4) none⟩,
     ⟨some 9,none,.mv (.t 0) none⟩,
     ⟨some 10,none,.ln (.t 9)⟩,
     ⟨some 11,none,.bi .lss 0 (.t 8) (.t 10)⟩]) (.cd (.t 11) (.sk) (.ex 0))) (.sq (.bl 1 (.rg none [⟨some 14,none,.mv (.t 3) none⟩,
     ⟨some 15,none,.mv (.t 4) none⟩,
     ⟨some 16,none,.mv (.t 0) none⟩,
     ⟨some 17,none,.mv (.t 4) none⟩,
     ⟨some 18,none,.ia 1 (.t 16) (.t 17)⟩,
     ⟨some 19,none,.ld none (.t 18)⟩,
     ⟨some 20,none,.ia 1 (.t 14) (.t 15)⟩,
     ⟨none,none,.st 1 (.t 20) (.t 19)⟩])) (.rg none [⟨some 12,none,.mv (.t 4) none⟩,
    ⟨some 13,none,.bi .add 0 (.t 12) (.k (.int .i64 1))⟩,
    ⟨some 4,none,.mv (.t 13) none⟩])))))) (.sq (.rg none [⟨some 21,none,.mv (.t 3) none⟩,
   ⟨some 2,none,.mv (.t 21) none⟩]) (.rt))))) }
theorem Zuk{P:Program}{fid:FuncId}(hc:Zo P fid (W8 (.int .i64 0))=true)(a:List Int)(ha:a.length<=4294967296)(lvl:Nat)(S:Zc):Sem P fid lvl [tI a] S (.ow 1 (rI a) true) S:=by
 refine Zv hc trivial ?_
 simp only[W8,Uab,bigN,Uah,Zb,seval,Za,men]
 refine⟨by omega,?_⟩
 refine Jf (α:=Unit) a.length (fun j _=>⟨lvl,[(0,tI a),(3,.hd (lvl,224) [] 0 a.length none a.length),(4,iI j)],[(224,.ar 1 (JI (fun n=>[tv n]) [tv 0] a j) true a.length 0)],S⟩) (fun _ _=>True) () ⟨by simp only[Zb,seval,Za,men],by (simp only[We,Zb,seval,Za,men]) <;> rfl⟩ trivial ?_
 intro j _ hj _
 simp only[Uab,Zb,seval,Za,men]
 split
 ·rename_i hlt
  have hja:j<a.length:=by omega
  have ga:(rI a)[j]? = some [tv a[j]]:=by simp [hja]
  have gz:(JI (fun n=>[tv n]) [tv 0] a j)[j]? = some [tv 0]:=Wg hja
  simp only[ga,gz,Uah,Uag,hja,ZG,List.set_cons_zero,XA,Zb,seval,Za,men]
  refine⟨by rw[Zh];omega,Zr () hja ?_ trivial⟩
  rw[Wh hja rfl]
  rfl
 ·rename_i hge
  have:j=a.length:=by omega
  subst this
  rw[Wf]
  simp
theorem Zul{P:Program}{fid:FuncId}(hc:Zo P fid (W8 (.string ⟨#[]⟩))=true)(a:List ByteArray)(ha:a.length<=4294967296)(lvl:Nat)(S:Zc):Sem P fid lvl [tS a] S (.ow 1 (rS a) true) S:=by
 refine Zv hc trivial ?_
 simp only[W8,Uab,bigN,Uah,Zb,seval,Za,men]
 refine⟨by omega,?_⟩
 refine Jf (α:=Unit) a.length (fun j _=>⟨lvl,[(0,tS a),(3,.hd (lvl,224) [] 0 a.length none a.length),(4,iI j)],[(224,.ar 1 (JI (fun n=>[ts n]) [ts ⟨#[]⟩] a j) true a.length 0)],S⟩) (fun _ _=>True) () ⟨by simp only[Zb,seval,Za,men],by (simp only[We,Zb,seval,Za,men]) <;> rfl⟩ trivial ?_
 intro j _ hj _
 simp only[Uab,Zb,seval,Za,men]
 split
 ·rename_i hlt
  have hja:j<a.length:=by omega
  have ga:(rS a)[j]? = some [ts a[j]]:=by simp [hja]
  have gz:(JI (fun n=>[ts n]) [ts ⟨#[]⟩] a j)[j]? = some [ts ⟨#[]⟩]:=Wg hja
  simp only[ga,gz,Uah,Uag,hja,ZG,List.set_cons_zero,XA,Zb,seval,Za,men]
  refine⟨by rw[Zh];omega,Zr () hja ?_ trivial⟩
  rw[Wh hja rfl]
  rfl
 ·rename_i hge
  have:j=a.length:=by omega
  subst this
  rw[Wf]
  simp
theorem Zum{P:Program}{fid fe:FuncId}(hc:Zo P fid (Q8 1 none fe)=true){α:Type}(t:α->Tr)(f:α->Int->Int)(a:List α)(left:Int)(h:a.length<=9223372036854775807)(h0:0<=left)(h1:left<=1048576)
  (hf:∀ x∈a,∀ l:Int,0<=l->l<=1048576->f x l<=l/\∀ lvl S,Sem P fe lvl [.tr (t x),iI l] S (iI (f x l)) S) (lvl:Nat) (S:Zc) :
  Sem P fid lvl [.tr (.sl (a.map fun x=>[t x])),iI left] S (iI (Jn f a left)) S:=by
 refine Zv hc trivial ?_
 simp only[Q8,Uab,Zb,seval,Za,men]
 refine⟨by rw[Zh];omega,?_⟩
 unfold Jn
 split
 ·rfl
 ·rename_i hlt
  generalize hr:J5 f a (left-a.length)=total
  refine Jf (α:=Int) a.length (fun j l=>⟨lvl,[(0,.tr (.sl (a.map fun x=>[t x]))),(1,iI l),(5,iI j)],[],S⟩) (fun j l=>0<=l/\l<=1048576/\J5 f (a.drop j) l=total) (left-a.length) ⟨by simp only[Zb,seval,Za,men],by (simp only[Zb,seval,Za,men]) <;> rfl⟩ ⟨by omega,by omega,hr⟩ ?_
  intro j l hj ⟨hl0,hl1,hl⟩
  simp only[Uab,Zb,seval,Za,men]
  split
  ·rename_i hlt
   have hja:j<a.length:=by omega
   have ga:(a.map fun x=>[t x])[j]? = some [t a[j]]:=by simp [hja]
   rw[UaW hja] at hl
   obtain⟨hle,hsem⟩:=hf a[j] (Ual hja) l hl0 hl1
   simp only[ga,Uah,Uag,Zb,seval,Za,men]
   refine Zi hsem ?_
   simp only[Zb,seval,Za,men]
   split
   ·rename_i hneg
    simp only[J5,if_pos hneg] at hl
    rw[hl]
   ·rename_i hneg
    simp only[J5,if_neg hneg] at hl
    refine⟨by rw[Zh];omega,Zr (f a[j] l) hja rfl ⟨by omega,by omega,hl⟩⟩
  ·rename_i hge
   have:j=a.length:=by omega
   subst this
   simp only[Ubr,J5] at hl
   rw[hl]
theorem Zun{P:Program}{fid fe:FuncId}(hc:Zo P fid (QF 1 none fe)=true){α:Type}[DecidableEq α](t:α->Tr)(a b:List α)(ha:a.length<=9223372036854775807)
  (hf:∀ x∈a,∀ y∈b,∀ lvl S,Sem P fe lvl [.tr (t x),.tr (t y)] S (iB (decide (x=y))) S) (lvl:Nat) (S:Zc) :
  Sem P fid lvl [.tr (.sl (a.map fun x=>[t x])),.tr (.sl (b.map fun x=>[t x]))] S (iB (decide (a=b))) S:=by
 refine Zv hc trivial ?_
 simp only[QF,Uab,Zb,seval,Za,men]
 split
 ·rename_i h
  have:¬ a=b:=fun e=>h (by rw[e])
  simp [this]
 ·rename_i h
  have hlen:a.length=b.length:=by omega
  refine Jf (α:=Unit) a.length (fun j _=>⟨lvl,[(0,.tr (.sl (a.map fun x=>[t x]))),(1,.tr (.sl (b.map fun x=>[t x]))),(5,iI j)],[],S⟩) (fun j _=>a.take j=b.take j) () ⟨by simp only[Zb,seval,Za,men],by (simp only[Zb,seval,Za,men]) <;> rfl⟩ rfl ?_
  intro j _ hj hA
  simp only[Uab,Zb,seval,Za,men]
  split
  ·rename_i hlt
   have hja:j<a.length:=by omega
   have hjb:j<b.length:=by omega
   have ga:(a.map fun x=>[t x])[j]? = some [t a[j]]:=by simp [hja]
   have gb:(b.map fun x=>[t x])[j]? = some [t b[j]]:=by simp [hjb]
   have hsem:=hf a[j] (Ual hja) b[j] (Ual hjb)
   simp only[ga,gb,Uah,Uag,Zb,seval,Za,men]
   refine Zi hsem ?_
   simp only[Uar,Zb,seval,Za,men]
   split
   ·rename_i hne
    have:¬ a=b:=ZaO hja hjb (by simpa using hne)
    simp [this]
   ·rename_i he
    refine⟨by rw[Zh];omega,Zr () hja rfl (ZaQ hja hjb hA (by simpa using he))⟩
  ·rename_i hge
   have:j=a.length:=by omega
   subst this
   have:a=b:=ZaP hlen hA
   simp [this]
end Go.Fd

namespace Go.Fd
variable [Tabs]
def Z9:Row->Zf->Row->Row
 | _,[],r=>r
 | es,(a,b)::p,r =>
  match es[a]? with
  | some e =>
   match e[b]? with
   | some (.sl es')=>es.set a (e.set b (.sl (Z9 es' p r)))
   | _=>es
  | none=>es
theorem ZcZ{es es':Row}{a b:Nat}{p:Zf}{e:List Tr}(h1:es[a]? = some e)(h2:e[b]? = some (.sl es')):getp es ((a,b)::p)=getp es' p:=by
 simp only[getp,h1,h2]
theorem QG{es es':Row}{a b:Nat}{p:Zf}{e:List Tr}{r:Row}(h1:es[a]? = some e)(h2:e[b]? = some (.sl es')):Z9 es ((a,b)::p) r=es.set a (e.set b (.sl (Z9 es' p r))):=by
 simp only[Z9,h1,h2]
theorem Zuo{es es':Row}{a b i f:Nat}{p:Zf}{e:List Tr}{t:Tr}(h1:es[a]? = some e)(h2:e[b]? = some (.sl es')):ZG es ((a,b)::p) i f t=es.set a (e.set b (.sl (ZG es' p i f t))):=by
 simp only[ZG,h1,h2]
theorem W9{es r0:Row}{a b:Nat}{p:Zf}(h:getp es ((a,b)::p)=some r0):∃ e es',es[a]? = some e/\e[b]? = some (.sl es')/\getp es' p=some r0:=by
 simp only[getp] at h
 cases h1:es[a]? with
 | none=>rw[h1] at h;cases h
 | some e =>
  rw[h1] at h
  cases h2:e[b]? with
  | none=>simp only[h2] at h;cases h
  | some t =>
   simp only[h2] at h
   cases t with
   | v x=>cases h
   | sl es' => exact⟨e,es',rfl,h2,h⟩
theorem Ua{α:Type}{l:List α}{a:Nat}{x y:α}(h:l[a]? = some x):(l.set a y)[a]? = some y:=by
 rw[UaY];exact(Uac.1 h).1
theorem QH{r:Row}:∀{p:Zf} {es r0:Row},getp es p=some r0->getp (Z9 es p r) p=some r
 | [],_,_,_=>rfl
 | (a,b)::p,es,r0,h=>by
  obtain⟨e,es',h1,h2,h3⟩:=W9 h
  rw[QG h1 h2,ZcZ (Ua h1) (Ua h2)]
  exact QH h3
theorem Zg4{r s:Row}:∀{p:Zf} {es r0:Row},getp es p=some r0->Z9 (Z9 es p r) p s=Z9 es p s
 | [],_,_,_=>rfl
 | (a,b)::p,es,r0,h=>by
  obtain⟨e,es',h1,h2,h3⟩:=W9 h
  rw[QG h1 h2,QG h1 h2,QG (Ua h1) (Ua h2),Zg4 h3,Ubb,Ubb]
theorem Zg5{r:Row}{i f:Nat}{t:Tr}{e0:List Tr}(hi:r[i]? = some e0):∀{p:Zf} {es r0:Row},getp es p=some r0->ZG (Z9 es p r) p i f t=Z9 es p (r.set i (e0.set f t))
 | [],es,_,_=>by simp only[Z9,ZG,hi]
 | (a,b)::p,es,r0,h=>by
  obtain⟨e,es',h1,h2,h3⟩:=W9 h
  rw[QG h1 h2,QG h1 h2,Zuo (Ua h1) (Ua h2),Zg5 hi h3,Ubb,Ubb]
theorem Zg6{q:Zf}:∀{p:Zf} {es r0:Row},getp es p=some r0->getp es (p++q)=getp r0 q
 | [],es,r0,h=>by simp only[getp,Uak] at h;subst h;rfl
 | (a,b)::p,es,r0,h=>by
  obtain⟨e,es',h1,h2,h3⟩:=W9 h
  rw[List.cons_append,ZcZ h1 h2]
  exact Zg6 h3
theorem Zg7{q:Zf}{z:Row}:∀{p:Zf} {es r0:Row},getp es p=some r0->Z9 es (p++q) z=Z9 es p (Z9 r0 q z)
 | [],es,r0,h=>by simp only[getp,Uak] at h;subst h;rfl
 | (a,b)::p,es,r0,h=>by
  obtain⟨e,es',h1,h2,h3⟩:=W9 h
  rw[List.cons_append,QG h1 h2,QG h1 h2,Zg7 h3]
theorem Zc0{α:Type}{l:List α}{a:Nat}{x:α}(h:l[a]? = some x):l.set a x=l:=by
 obtain⟨h1,h2⟩:=Uac.1 h
 rw[<-h2,List.set_getElem_self]
theorem Zg8:∀{p:Zf} {es r:Row},getp es p=some r->Z9 es p r=es
 | [],es,r,h=>by simp only[getp,Uak] at h;subst h;rfl
 | (a,b)::p,es,r,h=>by
  obtain⟨e,es',h1,h2,h3⟩:=W9 h
  rw[QG h1 h2,Zg8 h3,Zc0 h2,Zc0 h1]
theorem JJ{S:Zc}{id:Zd}{a b:Ob}:Ze (Ze S id a) id b=Ze S id b:=by
 funext i
 unfold Ze
 split <;> rfl
theorem QI{S:Zc}{id:Zd}{a:Ob}(h:S id=some a):Ze S id a=S:=by
 funext i
 unfold Ze
 split
 ·rename_i e;rw[e,h]
 ·rfl
theorem Zc1{lvl:Nat}{loc:List (Nat×Ob)}{S:Zc}{id:Zd}{o:Ob}(h:id.1≠lvl):Zy lvl loc (Ze S id o)=Ze (Zy lvl loc S) id o:=by
 funext i
 by_cases e:i=id
 ·subst e
  rw[ZE h]
  unfold Ze
  rw[if_pos rfl,if_pos rfl]
 ·unfold Ze Zy
  simp only[if_neg e]
section mark
variable {α:Type} (m:α->Int->α) (n:α->Nat)
def mL:List α->Int->List α
 | [],_=>[]
 | x::r,k=>m x k::mL r (k+n x)
def nL:List α->Nat
 | []=>0
 | x::r=>n x+nL r
theorem Jm:∀(a:List α) (k:Int),(mL m n a k).length=a.length
 | [],_=>rfl
 | x::r,k=>by simp only[mL,List.length_cons,Jm r]
theorem Zc2:∀(a b:List α),nL n (a++b)=nL n a+nL n b
 | [],b=>by simp [nL]
 | x::r,b=>by simp only[List.cons_append,nL,Zc2 r b];omega
theorem Zg9:∀(a b:List α) (k:Int),mL m n (a++b) k=mL m n a k++mL m n b (k+nL n a)
 | [],b,k=>by simp [mL,nL]
 | x::r,b,k=>by
  simp only[List.cons_append,mL,nL,Zg9 r b]
  rw[show k+(n x:Int)+(nL n r:Int)=k+((n x+nL n r:Nat):Int) from by omega]
def kJ(a:List α)(k:Int)(j:Nat):Int:=k+nL n (a.take j)
def lJ(a:List α)(k:Int)(j:Nat):List α:=mL m n (a.take j) k++a.drop j
theorem Qg{a:List α}{k:Int}:kJ n a k 0=k:=by simp [kJ,nL]
theorem XH{a:List α}{k:Int}:lJ m n a k 0=a:=by simp [lJ,mL]
theorem Qh{a:List α}{k:Int}:kJ n a k a.length=k+nL n a:=by simp [kJ]
theorem XI{a:List α}{k:Int}:lJ m n a k a.length=mL m n a k:=by simp [lJ]
theorem Yg{a:List α}{k:Int}{j:Nat}(h:j<a.length):kJ n a k (j+1)=kJ n a k j+n a[j]:=by
 unfold kJ
 rw[Uaj h,Zc2]
 simp only[nL]
 omega
theorem Qi{a:List α}{k:Int}{j:Nat}:kJ n a k j<=k+nL n a:=by
 have:nL n a=nL n (a.take j)+nL n (a.drop j):=by rw[<-Zc2,List.take_append_drop]
 unfold kJ
 omega
theorem Qj{a:List α}{k:Int}{j:Nat}:k<=kJ n a k j:=by unfold kJ;omega
theorem Zup{a:List α}{k:Int}{j:Nat}:(lJ m n a k j).length=a.length:=by
 unfold lJ
 rw[Uam,Jm,Uas,Ubq]
 omega
theorem Zuq{a:List α}{k:Int}{j:Nat}(h:j<a.length):(lJ m n a k j)[j]? = some a[j]:=by
 unfold lJ
 have h1:(mL m n (a.take j) k).length=j:=by rw[Jm,Uas];omega
 rw[Uao (by omega),h1,Ubm,UaH,Nat.add_zero,Uaf h]
theorem Zur{a:List α}{k:Int}{j:Nat}(h:j<a.length):(lJ m n a k j).set j (m a[j] (kJ n a k j))=lJ m n a k (j+1):=by
 unfold lJ
 have h1:(mL m n (a.take j) k).length=j:=by rw[Jm,Uas];omega
 rw[List.set_append_right _ _ (by omega),h1,Ubm,UaW h,List.set_cons_zero,Uaj h,Zg9]
 simp only[mL,kJ,UaR,List.cons_append,List.nil_append]
theorem XJ(c:α->List Tr){a:List α}{k:Int}{j:Nat}(h:j<a.length):∃ R:Row,j<R.length/\(lJ m n a k j).map c=R.set j (c a[j])/\(lJ m n a k (j+1)).map c=R.set j (c (m a[j] (kJ n a k j))):=by
 refine⟨(lJ m n a k j).map c,by rw[Uab,Zup];exact h,?_,?_⟩
 ·refine(Zc0 ?_).symm
  rw[Uan,Zuq m n h];rfl
 ·rw[<-Zur m n h,Ube]
end mark
theorem Yi{R:Row}{j:Nat}(h:j<R.length)(e:List Tr):(R.set j e)[j]? = some e:=UaY h
theorem Yl{es r0:Row}{p:Zf}{R:Row}{j:Nat}(hv:getp es p=some r0)(h:j<R.length)(e:List Tr)(f:Nat)(t:Tr):ZG (Z9 es p (R.set j e)) p j f t=Z9 es p (R.set j (e.set f t)):=by
 rw[Zg5 (Yi h e) hv,Ubb]
def MarkS(P:Program)(fid:FuncId){α:Type}(c:α->List Tr)(m:α->Int->α)(n:α->Nat)(B:α->Prop):Prop :=
 ∀(a:List α) (k:Int) (lvl:Nat) (S:Zc) (id:Zd) (p:Zf) (es r0:Row) (kk hw ver st:Nat) (cap:Option Nat),id.1<lvl->getp es p=some r0->JF p st hw ver true->0<=k->k+nL n a<=4611686018427387904 ->
  a.length<=4294967296->(∀ x∈a,B x)->Sem P fid lvl [.hd id p 0 a.length cap st,iI k] (Ze S id (.ar kk (Z9 es p (a.map c)) true hw ver)) (iI (k+nL n a)) (Ze S id (.ar kk (Z9 es p ((mL m n a k).map c)) true hw ver))
theorem MarkS.nested{P:Program}{fid:FuncId}{α:Type}{c:α->List Tr}{m:α->Int->α}{n:α->Nat}{B:α->Prop}(hm:MarkS P fid c m n B){a:List α}{k:Int}{lvl:Nat}{S:Zc}{id:Zd}{p:Zf}{es r0:Row}{kk hw ver j f:Nat}{R:Row}{e:List Tr}
  (hid:id.1<lvl) (hv:getp es p=some r0) (h0:0<=k) (h1:k+nL n a<=4611686018427387904) (hl:a.length<=4294967296) (hB:∀ x∈a,B x) (hj:j<R.length) (he:e[f]? = some (.sl (a.map c))) :
  Sem P fid lvl [.hd id (p++[(j,f)]) 0 a.length none ver,iI k] (Ze S id (.ar kk (Z9 es p (R.set j e)) true hw ver)) (iI (k+nL n a)) (Ze S id (.ar kk (Z9 es p (R.set j (e.set f (.sl ((mL m n a k).map c))))) true hw ver)):=by
 have hR:(R.set j e)[j]? = some e:=by rw[UaY hj]
 have g1:getp (Z9 es p (R.set j e)) p=some (R.set j e):=QH hv
 have g2:getp (Z9 es p (R.set j e)) (p++[(j,f)])=some (a.map c):=by
  rw[Zg6 g1,ZcZ hR he];rfl
 have:=hm a k lvl S id (p++[(j,f)]) (Z9 es p (R.set j e)) _ kk hw ver ver none hid g2 (by cases p <;> exact⟨rfl,rfl⟩) h0 h1 hl hB
 rw[Zg8 g2,Zg7 g1,Zg4 hv,QG hR he] at this
 simp only[Z9,Ubb] at this
 exact this
theorem Ub{P:Program}{fid:FuncId}{α:Type}{c:α->List Tr}{m:α->Int->α}{n:α->Nat}{B:α->Prop}(hm:MarkS P fid c m n B){a:List α}{k:Int}{lvl len:Nat}{S:Zc}{id:Zd}{p:Zf}{es r0:Row}{kk hw ver j f:Nat}{R:Row}{e:List Tr}{env:List (Nat×IV)}{loc:List (Nat×Ob)}{d:Option Nat}{K:St->Prop}
  (hid:id.1<lvl) (hv:getp es p=some r0) (h0:0<=k) (h1:k+nL n a<=4611686018427387904) (hl:a.length<=4294967296) (hB:∀ x∈a,B x) (hj:j<R.length) (he:e[f]? = some (.sl (a.map c))) (hlen:len=a.length)
  (hk:K ⟨lvl,ptd d (iI (k+nL n a)) env,loc,Ze S id (.ar kk (Z9 es p (R.set j (e.set f (.sl ((mL m n a k).map c))))) true hw ver)⟩) :
  QB (Sem P) fid true lvl env loc (Ze S id (.ar kk (Z9 es p (R.set j e)) true hw ver)) d K [.hd id (p++[(j,f)]) 0 len none ver,iI k]:=by
 subst hlen
 have hne:id.1≠lvl:=by omega
 refine W3 (r:=iI (k+nL n a)) loc (Ze S id (.ar kk (Z9 es p (R.set j (e.set f (.sl ((mL m n a k).map c))))) true hw ver)) ?_ ?_ ⟨?_,hk⟩
 ·intro i hi
  have:i≠id:=fun e=>hne (by rw[<-e];exact hi)
  unfold Ze
  rw[if_neg this,if_neg this]
 ·rw[Zc1 hne,Zc1 hne]
  exact hm.nested (Ubx hid) hv h0 h1 hl hB hj he
 ·trivial
theorem Q9{lvl key:Nat}{loc:List (Nat×Ob)}{out:Zc}{o:Ob}:Zy lvl (ptO key o loc) out=Ze (Zy lvl loc out) (lvl,key) o:=by
 funext i
 unfold Zy Ze
 by_cases h:i.1=lvl
 ·rw[if_pos h,Uz]
  by_cases h2:i.2=key
  ·have:i=(lvl,key):=by obtain⟨a,b⟩:=i;simp only at h h2;rw[h,h2]
   rw[if_pos h2,if_pos this]
  ·have:¬ i=(lvl,key):=fun e=>h2 (by rw[e])
   rw[if_neg h2,if_neg this]
   exact(if_pos h).symm
 ·have:¬ i=(lvl,key):=fun e=>h (by rw[e])
  rw[if_neg h,if_neg this]
  exact(if_neg h).symm
theorem Da{P:Program}{fid:FuncId}{α:Type}{c:α->List Tr}{m:α->Int->α}{n:α->Nat}{B:α->Prop}(hm:MarkS P fid c m n B){a:List α}{k:Int}{lvl:Nat}{out:Zc}{id:Zd}{kk hw ver:Nat}{cap:Option Nat}{env:List (Nat×IV)}{loc:List (Nat×Ob)}{d:Option Nat}{K:St->Prop}
  (hid:id.1<lvl) (hS:out id=some (.ar kk (a.map c) true hw ver)) (h0:0<=k) (h1:k+nL n a<=4611686018427387904) (hl:a.length<=4294967296) (hB:∀ x∈a,B x)
  (hk:K ⟨lvl,ptd d (iI (k+nL n a)) env,loc,Ze out id (.ar kk ((mL m n a k).map c) true hw ver)⟩) :
  QB (Sem P) fid true lvl env loc out d K [.hd id [] 0 a.length cap hw,iI k]:=by
 have hne:id.1≠lvl:=by omega
 refine W3 (r:=iI (k+nL n a)) loc (Ze out id (.ar kk ((mL m n a k).map c) true hw ver)) ?_ ?_ ⟨?_,hk⟩
 ·intro i hi
  have:i≠id:=fun e=>hne (by rw[<-e];exact hi)
  unfold Ze
  rw[if_neg this]
 ·rw[Zc1 hne]
  have e:Zy lvl loc out=Ze (Zy lvl loc out) id (.ar kk (Z9 (a.map c) [] (a.map c)) true hw ver):=(QI (by rw[ZE hne];exact hS)).symm
  have:=hm a k (lvl+1) (Zy lvl loc out) id [] (a.map c) (a.map c) kk hw ver hw cap (Ubx hid) rfl rfl h0 h1 hl hB
  rw[<-e] at this
  exact this
 ·trivial
theorem Zc3{P:Program}{fid:FuncId}{α:Type}{c:α->List Tr}{m:α->Int->α}{n:α->Nat}{B:α->Prop}(hm:MarkS P fid c m n B){a:List α}{k:Int}{lvl key:Nat}{out:Zc}{kk hw ver:Nat}{cap:Option Nat}{env:List (Nat×IV)}{loc:List (Nat×Ob)}{d:Option Nat}{K:St->Prop}
  (hS:lkO key loc=some (.ar kk (a.map c) true hw ver)) (h0:0<=k) (h1:k+nL n a<=4611686018427387904) (hl:a.length<=4294967296) (hB:∀ x∈a,B x)
  (hk:K ⟨lvl,ptd d (iI (k+nL n a)) env,ptO key (.ar kk ((mL m n a k).map c) true hw ver) loc,out⟩) :
  QB (Sem P) fid true lvl env loc out d K [.hd (lvl,key) [] 0 a.length cap hw,iI k]:=by
 refine W3 (r:=iI (k+nL n a)) (ptO key (.ar kk ((mL m n a k).map c) true hw ver) loc) out (fun _ _=>rfl) ?_ ⟨?_,hk⟩
 ·rw[Q9]
  have e:Zy lvl loc out=Ze (Zy lvl loc out) (lvl,key) (.ar kk (Z9 (a.map c) [] (a.map c)) true hw ver):=(QI (by unfold Zy;rw[if_pos rfl];exact hS)).symm
  have:=hm a k (lvl+1) (Zy lvl loc out) (lvl,key) [] (a.map c) (a.map c) kk hw ver hw cap (Uav _) rfl rfl h0 h1 hl hB
  rw[<-e] at this
  exact this
 ·trivial
end Go.Fd

namespace Go.Fd
def JM(l:Int)(g:Int->Int):Int:=if l<0 then -1 else g l
def Zq(c:Int)(s:Int->Int)(q:Nat):Prop:=∀ l:Int,0<=l->l<=1048576->s l<=l/\(0<=s l->(q:Int)<=c+256*(l-s l))
theorem ZaR:Zq 0 (fun l=>l) 0:=fun l _ _=>⟨Ubd _,fun _=>by simp only;omega⟩
theorem Wi{c e:Int}{s g:Int->Int}{q r:Nat}(hc:0<=c)(he:0<=e)(hs:Zq c s q)(hg:Zq e g r):Zq (c+e) (fun l=>JM (s l) g) (q+r):=fun l h0 h1=>by
 have a:=hs l h0 h1
 by_cases h:s l<0
 ·simp only[JM,if_pos h]
  exact⟨by omega,fun h=>by omega⟩
 ·simp only[JM,if_neg h]
  have b:=hg (s l) (by omega) (by omega)
  refine⟨by omega,fun h2=>?_⟩
  have:=a.2 (by omega)
  have:=b.2 h2
  omega
theorem Zc4{α:Type}(n:α->Nat)(hn:∀ x,n x<=256)(a:List α):Zq 0 (fun l=>Yf a.length l) (nL n a):=fun l h0 h1=>by
 have hh:∀ b:List α,nL n b<=256*b.length:=fun b=>by
  induction b with
  | nil=>exact Uag 0
  | cons x r ih=>simp only[nL,List.length_cons];have:=hn x;omega
 have:=hh a
 simp only[Yf]
 split
 ·exact⟨by omega,fun h=>by omega⟩
 ·exact⟨by omega,fun h=>by omega⟩
theorem Zha(n:Nat):Zq 0 (fun l=>l-n) 0:=fun l h0 h1=>⟨by simp only;omega,fun h=>by simp only at h ⊢;omega⟩
theorem Zus(n:Nat):Zq 256 (fun l=>l-n) 1:=fun l h0 h1=>⟨by simp only;omega,fun h=>by simp only at h ⊢;omega⟩
theorem Zhb{α:Type}{f:α->Int->Int}{n:α->Nat}(hf:∀ x,Zq 256 (f x) (n x)):∀(a:List α),Zq (256*a.length) (fun l=>J5 f a l) (nL n a)
 | []=>fun l _ _=>⟨Ubd l,fun _=>by simp only[J5,nL,List.length_nil];omega⟩
 | x::r=>fun l h0 h1=>by
  simp only[J5,nL,List.length_cons]
  have a:=hf x l h0 h1
  split
  ·exact⟨by omega,fun h=>by omega⟩
  ·have b:=Zhb hf r (f x l) (by omega) (by omega)
   simp only at b
   refine⟨by omega,fun h=>?_⟩
   have:=a.2 (by omega)
   have:=b.2 h
   omega
theorem Uc{α:Type}{f:α->Int->Int}{n:α->Nat}(hf:∀ x,Zq 256 (f x) (n x))(a:List α):Zq 0 (fun l=>Jn f a l) (nL n a):=fun l h0 h1=>by
 simp only[Jn]
 split
 ·exact⟨by omega,fun h=>by omega⟩
 ·have b:=Zhb hf a (l-a.length) (by omega) (by omega)
  simp only at b
  refine⟨by omega,fun h=>?_⟩
  have:=b.2 h
  omega
theorem Xa{c e:Int}{s:Int->Int}{q r:Nat}(h:Zq c s q)(hq:(r:Int)+c<=q+e):Zq e s r:=fun l h0 h1=>by
 have a:=h l h0 h1
 refine⟨a.1,fun h2=>?_⟩
 have:=a.2 h2
 omega
set_option maxRecDepth 10000
def Zx(x:(Int×Int)):List Tr:=[tv x.1,tv x.2]
structure TControl where
 name:ByteArray
 ports:Int
 kind_:Int
 deriving DecidableEq
def ZB(x:TControl):List Tr:=[ts x.name,tv x.ports,tv x.kind_]
theorem Zhc(x:TControl):(ZB x).length=3:=rfl
def ZaS(x:TControl):IV:=.ag [iS x.name,iI x.ports,iI x.kind_]
def Yd(n:Nat)(x:TControl):Prop:=x.name.size<=n
def Zhd(x:TControl):Prop:=Jq .i64 x.ports/\Jq .i64 x.kind_
def YC(x:TControl)(l:Int):Int:=JM (l-x.name.size) fun l=>l
structure TNode where
 control:Int
 parent:Int
 links:(List Int)
 deriving DecidableEq
def ZH(x:TNode):List Tr:=[tv x.control,tv x.parent,.sl (rI x.links)]
theorem Zut(x:TNode):(ZH x).length=3:=rfl
def ZaT(x:TNode):IV:=.ag [iI x.control,iI x.parent,.ow 1 (rI x.links) true]
def VQ(n:Nat)(x:TNode):Prop:=x.links.length<=n
def Zc5(x:TNode):Prop:=Jq .i64 x.control/\Jq .i64 x.parent/\(∀ y∈x.links,Jq .i64 y)
def VS(x:TNode)(l:Int):Int:=JM (Yf x.links.length l) fun l=>l
structure TWire where
 name:ByteArray
 link:Int
 deriving DecidableEq
def Jc(x:TWire):List Tr:=[ts x.name,tv x.link]
theorem Zuu(x:TWire):(Jc x).length=2:=rfl
def ZaU(x:TWire):IV:=.ag [iS x.name,iI x.link]
def VB(n:Nat)(x:TWire):Prop:=x.name.size<=n
def Zc6(x:TWire):Prop:=Jq .i64 x.link
def VT(x:TWire)(l:Int):Int:=JM (l-x.name.size) fun l=>l
structure TBigraph where
 roots:Int
 nodes:(List TNode)
 sites:(List Int)
 edges:Int
 outer:(List ByteArray)
 inner:(List TWire)
 deriving DecidableEq
def Zk(x:TBigraph):List Tr:=[tv x.roots,.sl (x.nodes.map ZH),.sl (rI x.sites),tv x.edges,.sl (rS x.outer),.sl (x.inner.map Jc)]
theorem Zuv(x:TBigraph):(Zk x).length=6:=rfl
def ZaV(x:TBigraph):IV:=.ag [iI x.roots,.ow 3 (x.nodes.map ZH) true,.ow 1 (rI x.sites) true,iI x.edges,.ow 1 (rS x.outer) true,.ow 2 (x.inner.map Jc) true]
def YD(n:Nat)(x:TBigraph):Prop:=x.nodes.length<=n/\(∀ y∈x.nodes,VQ n y)/\x.sites.length<=n/\x.outer.length<=n/\(∀ y∈x.outer,y.size<=n)/\x.inner.length<=n/\(∀ y∈x.inner,VB n y)
def Ud(x:TBigraph):Prop:=Jq .i64 x.roots/\(∀ y∈x.nodes,Zc5 y)/\(∀ y∈x.sites,Jq .i64 y)/\Jq .i64 x.edges/\(∀ y∈x.inner,Zc6 y)
def VU(x:TBigraph)(l:Int):Int:=JM (Jn VS x.nodes l) fun l=>JM (Yf x.sites.length l) fun l=>JM (Jn (fun x m=>m-x.size) x.outer l) fun l=>JM (Jn VT x.inner l) fun l=>l
structure TSorting where
 tops:(List Int)
 nest:(List (List Int))
 sorts:(List (List Int))
 most:(List Int)
 apart:(List (Int×Int))
 deriving DecidableEq
def ZJ(x:TSorting):List Tr:=[.sl (rI x.tops),.sl (x.nest.map (fun l=>[Tr.sl (rI l)])),.sl (x.sorts.map (fun l=>[Tr.sl (rI l)])),.sl (rI x.most),.sl (x.apart.map Zx)]
def Jt(x:TSorting):IV:=.ag [.ow 1 (rI x.tops) true,.ow 1 (x.nest.map (fun l=>[Tr.sl (rI l)])) true,.ow 1 (x.sorts.map (fun l=>[Tr.sl (rI l)])) true,.ow 1 (rI x.most) true,.ow 2 (x.apart.map Zx) true]
def VC(n:Nat)(x:TSorting):Prop:=x.tops.length<=n/\x.nest.length<=n/\(∀ y∈x.nest,y.length<=n)/\x.sorts.length<=n/\(∀ y∈x.sorts,y.length<=n)/\x.most.length<=n/\x.apart.length<=n
abbrev Zhe:FuncId:=3
abbrev Zc7:FuncId:=4
abbrev Zc8:FuncId:=5
abbrev Zc9:FuncId:=6
abbrev Zda:FuncId:=7
abbrev Ue:FuncId:=8
abbrev Uf:FuncId:=9
abbrev Ug:FuncId:=10
abbrev ZaW:FuncId:=11
abbrev Db:FuncId:=12
abbrev Zdb:FuncId:=13
abbrev Dc:FuncId:=14
abbrev Zdc:FuncId:=15
abbrev Zdd:FuncId:=16
abbrev Dd:FuncId:=17
abbrev Zde:FuncId:=18
abbrev ZaX:FuncId:=19
abbrev ZaY:FuncId:=20
abbrev Zdf:FuncId:=21
abbrev De:FuncId:=22
abbrev Zdg:FuncId:=23
abbrev ZaZ:FuncId:=24
abbrev Vl:FuncId:=25
abbrev Zdh:FuncId:=26
abbrev Zdi:FuncId:=27
abbrev Zdj:FuncId:=28
abbrev Zdk:FuncId:=29
abbrev Za0:FuncId:=30
abbrev Zdl:FuncId:=31
abbrev Zdm:FuncId:=32
abbrev Df:FuncId:=33
abbrev Zdn:FuncId:=34
abbrev YE:FuncId:=35
abbrev Za1:FuncId:=36
abbrev Zdo:FuncId:=37
abbrev Zhf:FuncId:=38
abbrev Za2:FuncId:=39
abbrev Zdp:FuncId:=40
abbrev Dg:FuncId:=41
abbrev Zdq:FuncId:=42
abbrev Zdr:FuncId:=43
abbrev Za3:FuncId:=44
abbrev Wj:FuncId:=45
abbrev Zds:FuncId:=46
abbrev Zdt:FuncId:=47
abbrev Zdu:FuncId:=48
abbrev Dh:FuncId:=49
abbrev Wl:FuncId:=50
abbrev Zdv:FuncId:=51
abbrev Zdw:FuncId:=52
abbrev Zdx:FuncId:=53
abbrev Zdy:FuncId:=54
abbrev Di:FuncId:=55
abbrev Za4:FuncId:=56
abbrev Zdz:FuncId:=57
abbrev ZdA:FuncId:=58
abbrev ZdB:FuncId:=59
abbrev ZdC:FuncId:=60
abbrev Za5:FuncId:=61
abbrev ZdD:FuncId:=62
abbrev Za6:FuncId:=63
abbrev ZdE:FuncId:=64
abbrev ZdF:FuncId:=65
abbrev Za7:FuncId:=66
abbrev Za8:FuncId:=67
abbrev Dj:FuncId:=68
abbrev Za9:FuncId:=69
abbrev ZdG:FuncId:=70
abbrev ZdH:FuncId:=71
abbrev ZdI:FuncId:=72
abbrev ZdJ:FuncId:=73
abbrev Zba:FuncId:=74
abbrev Zbb:FuncId:=75
abbrev Dk:FuncId:=76
abbrev ZdK:FuncId:=77
abbrev ZdL:FuncId:=78
abbrev ZdM:FuncId:=79
abbrev Zhg:FuncId:=80
abbrev Zbc:FuncId:=81
abbrev ZdN:FuncId:=82
abbrev Zbd:FuncId:=83
abbrev ZdO:FuncId:=84
abbrev Zbe:FuncId:=85
abbrev ZdP:FuncId:=86
abbrev Zhh:FuncId:=87
abbrev ZdQ:FuncId:=88
abbrev ZdR:FuncId:=89
abbrev Zuw:FuncId:=90
abbrev ZdS:FuncId:=91
abbrev Zhi:FuncId:=92
abbrev ZdT:FuncId:=93
abbrev ZdU:FuncId:=94
abbrev ZdV:FuncId:=95
abbrev ZdW:FuncId:=96
abbrev ZdX:FuncId:=97
abbrev ZdY:FuncId:=98
abbrev ZdZ:FuncId:=99
abbrev Zd0:FuncId:=100
abbrev Zd1:FuncId:=101
abbrev Zbf:FuncId:=102
abbrev Zhj:FuncId:=103
abbrev Zbg:FuncId:=104
abbrev Zhk:FuncId:=105
abbrev Zd2:FuncId:=106
abbrev Zhl:FuncId:=107
abbrev Zd3:FuncId:=108
abbrev Zbh:FuncId:=109
abbrev Zd4:FuncId:=112
abbrev Zd5:FuncId:=113
abbrev Zhm:FuncId:=114
abbrev Zhn:FuncId:=115
abbrev Zd6:FuncId:=116
abbrev Uh:FuncId:=117
abbrev Zd7:FuncId:=126
abbrev qM(d a:Nat):OP:=om d (.t a)
abbrev qL(d a:Nat):OP:=oo d (.ld none (.t a))
abbrev qF(d o a:Nat):OP:=oo d (.fa o (.t a))
abbrev qN(d a:Nat):OP:=oo d (.ln (.t a))
abbrev qS(d k a:Nat):OP:=oo d (.ld (some k) (.t a))
abbrev qE(d i a:Nat):OP:=oo d (.ex i (.t a))
abbrev qI(d k a b:Nat):OP:=oo d (.ia k (.t a) (.t b))
abbrev qB(d:Nat)(o:BinOp)(a b:Nat):OP:=oo d (.bi o 0 (.t a) (.t b))
end Go.Fd
