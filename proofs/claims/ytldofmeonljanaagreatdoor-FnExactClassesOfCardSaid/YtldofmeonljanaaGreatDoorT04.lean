/-
  FOUNDATION 45: more rules: loads, parts of slices, calls, results, forgetting. Own work.
-/
import Derived.Test.YtldofmeonljanaaGreatDoorT03
import Derived.ChangeArms
import Derived.OpenShut
import Derived.Carry
import Derived.ChangeMaps5
import Derived.ChangeShapes
import Derived.Test.YtldofmeonljanaaGreatDoorProg
import Derived.Lib.LaidTab
import Derived.Lib.ItoaNum
set_option linter.all false
namespace Go.Fd
section
variable {C:Zz} {lvl:Nat} {env:List (Nat×IV)} {loc:List (Nat×Ob)} {out:Zc} {d:Option Nat} {K:St->Prop} {st:St} {Q:Ex->St->Prop} {F:IV->Prop}
theorem JN{k:Nat}:Zw lvl loc out (lvl,k)=lkO k loc:=by unfold Zw;rw[if_pos rfl]
theorem JZ{id:Zd}(h:id.1≠lvl):Zw lvl loc out id=out id:=by unfold Zw;rw[if_neg h]
theorem XB{k:Nat}{ob:Ob}:Zg ⟨lvl,env,loc,out⟩ (lvl,k) ob=⟨lvl,env,ptO k ob loc,out⟩:=by unfold Zg;rw[if_pos rfl]
theorem VI{id:Zd}{ob:Ob}(h:id.1≠lvl):Zg ⟨lvl,env,loc,out⟩ id ob=⟨lvl,env,loc,Zf out id ob⟩:=by unfold Zg;rw[if_neg h]
theorem ZoE{id:Zd}:Zn id ⟨lvl,env,loc,out⟩=⟨lvl,scrE id env,scrL id (rmO id.2 loc),out⟩:=(rfl)
theorem ZoF:(⟨lvl,env,loc,out⟩:St).sto=Zw lvl loc out:=(rfl)
theorem YD{id:Zd}{ob:Ob}{S:Zc}:Zf S id ob id=some ob:=by unfold Zf;rw[if_pos rfl]
def ltr(F:IV->Prop)(t:Tr):Prop:=F (.tr t)
theorem ZoG{t:Tr}:ltr F t=F (.tr t):=(rfl)
def lab(o:Option Ob)(off:Nat)(F:IV->Prop):Prop :=
 match o with
 | some (.bx cells)=>ZW cells[off]? F
 | _=>False
theorem ZoH{cells:List IV}{off:Nat}:lab (some (.bx cells)) off F=ZW cells[off]? F:=(rfl)
def lae(id:Zd)(p:Ze)(i f:Nat)(F:IV->Prop)(es:Row)(u:Bool)(ver:Nat):Prop:=ZW es[i]? fun e=>ZW e[f]? fun t=>F (cvt id p i f u ver t)
def Zgl(id:Zd)(p:Ze)(i f:Nat)(F:IV->Prop)(u:Bool)(ver:Nat)(e:List Tr):Prop:=ZW e[f]? fun t=>F (cvt id p i f u ver t)
def Zgm(id:Zd)(p:Ze)(i f:Nat)(F:IV->Prop)(u:Bool)(ver:Nat)(t:Tr):Prop:=F (cvt id p i f u ver t)
theorem ZoI{id:Zd}{p:Ze}{i f:Nat}{es:Row}{u:Bool}{ver:Nat}:lae id p i f F es u ver=ZW es[i]? (Zgl id p i f F u ver):=(rfl)
theorem ZoJ{id:Zd}{p:Ze}{i f:Nat}{e:List Tr}{u:Bool}{ver:Nat}:Zgl id p i f F u ver e=ZW e[f]? (Zgm id p i f F u ver):=(rfl)
theorem ZoK{id:Zd}{p:Ze}{i f:Nat}{t:Tr}{u:Bool}{ver:Nat}:Zgm id p i f F u ver t=F (cvt id p i f u ver t):=(rfl)
def Zaz(id:Zd)(p:Ze)(i f m:Nat)(F:IV->Prop)(es:Row)(u:Bool)(ver:Nat):Prop:=ZW es[i]? fun e=>f+m<=e.length/\F (.ag (cvts id p i u ver f ((e.drop f).take m)))
def Zgn(id:Zd)(p:Ze)(i f m:Nat)(F:IV->Prop)(u:Bool)(ver:Nat)(e:List Tr):Prop:=f+m<=e.length/\F (.ag (cvts id p i u ver f ((e.drop f).take m)))
theorem ZoL{id:Zd}{p:Ze}{i f m:Nat}{es:Row}{u:Bool}{ver:Nat}:Zaz id p i f m F es u ver=ZW es[i]? (Zgn id p i f m F u ver):=(rfl)
theorem ZoM{id:Zd}{p:Ze}{i f m:Nat}{e:List Tr}{u:Bool}{ver:Nat}:Zgn id p i f m F u ver e=(f+m<=e.length/\F (.ag (cvts id p i u ver f ((e.drop f).take m)))):=(rfl)
def V8(L:Zc)(m:Option Nat)(x:IV)(F:IV->Prop):Prop :=
 match m,x with
 | none,.ta cells=>ZW cells[0]? (ltr F)
 | none,.ab id off=>lab (L id) off F
 | none,.ae id p i f st=>Y9 (L id) p st (lae id p i f F)
 | some m,.ta cells=>m<=cells.length/\F (.ag ((cells.take m).map .tr))
 | some m,.ab id off =>
  match L id with
  | some (.bx cells)=>off+m<=cells.length/\F (.ag ((cells.drop off).take m))
  | _=>False
 | some m,.ae id p i f st=>Y9 (L id) p st (Zaz id p i f m F)
 | _,_=>False
theorem ZoN{m:Option Nat}{p:X}:Zp C d (.ld m p) ⟨lvl,env,loc,out⟩ K=V8 (Zw lvl loc out) m (xv env p) (JF lvl env loc out d K):=by
 refine JW (o:=.ld m p) (T:=fun F=>V8 (Zw lvl loc out) m (xv env p) F) (by cases m <;> rfl) (fun Kd=>?_)
 cases m with
 | none =>
  simp only[ev]
  generalize xv env p=v
  cases v <;> try rfl
  ·dsimp only[V8,lab]
   rename_i id off
   generalize Zw lvl loc out id=o
   cases o with
   | none=>rfl
   | some ob =>
    cases ob with
    | bx=>exact Yi
    | ar=>rfl
  ·dsimp only[V8]
   rw[<-XA]
   congr 1
   funext es u ver
   simp only[lae,<-Yi]
  ·exact Yi
 | some m =>
  simp only[ev]
  generalize xv env p=v
  cases v <;> try rfl
  dsimp only[V8]
  rw[<-XA]
  congr 1
  funext es u ver
  simp only[Zaz,<-Yi]
theorem ZoO{L:Zc}{cells:List Tr}:V8 L none (.ta cells) F=ZW cells[0]? (ltr F):=(rfl)
theorem ZoP{L:Zc}{id:Zd}{off:Nat}:V8 L none (.ab id off) F=lab (L id) off F:=(rfl)
theorem ZoQ{L:Zc}{id:Zd}{p:Ze}{i f s:Nat}:V8 L none (.ae id p i f s) F=Y9 (L id) p s (lae id p i f F):=(rfl)
theorem ZoR{L:Zc}{m:Nat}{cells:List Tr}:V8 L (some m) (.ta cells) F=(m<=cells.length/\F (.ag ((cells.take m).map .tr))):=(rfl)
def Zgo(o:Option Ob)(off m:Nat)(F:IV->Prop):Prop :=
 match o with
 | some (.bx cells)=>off+m<=cells.length/\F (.ag ((cells.drop off).take m))
 | _=>False
theorem ZoS{cells:List IV}{off m:Nat}:Zgo (some (.bx cells)) off m F=(off+m<=cells.length/\F (.ag ((cells.drop off).take m))):=(rfl)
theorem ZoT{L:Zc}{m:Nat}{id:Zd}{off:Nat}:V8 L (some m) (.ab id off) F=Zgo (L id) off m F:=(rfl)
theorem ZoU{L:Zc}{m:Nat}{id:Zd}{p:Ze}{i f s:Nat}:V8 L (some m) (.ae id p i f s) F=Y9 (L id) p s (Zaz id p i f m F):=(rfl)
def bn(x:Option IV)(n:Nat)(F:Nat->Prop):Prop :=
 match x with
 | none=>F n
 | some (.tr (.v (.int _ m)))=>0<=m/\F m.toNat
 | _=>False
theorem ZoV{n:Nat}{F:Nat->Prop}:bn none n F=F n:=(rfl)
theorem ZoW{n:Nat}{k:IntKind}{m:Int}{F:Nat->Prop}:bn (some (.tr (.v (.int k m)))) n F=(0<=m/\F m.toNat):=(rfl)
theorem Zgp{ρ:X->IV}{x:Option X}{n:Nat}{F:Nat->Prop}:ZI ρ x n F=bn (x.map ρ) n F:=by
 cases x with
 | none=>rfl
 | some x =>
  simp only[ZI,bn,Option.map_some]
  generalize ρ x=v
  cases v <;> try rfl
  rename_i t
  cases t <;> try rfl
  rename_i y
  cases y <;> rfl
def X4(k:Nat)(es:Row)(los:Bool)(hi mx:Option IV)(q:Bool)(F:IV->Prop)(a:Nat):Prop:=(los=true->Zu k es)/\bn hi es.length fun b=>a<=b/\b<=es.length/\bn mx b fun m=>m=b/\F (if q then .cs (cut es a (b-a)) else .tr (.sl (cut es a (b-a))))
def Zgq(es:Row)(mx:Option IV)(q:Bool)(F:IV->Prop)(a b:Nat):Prop:=a<=b/\b<=es.length/\bn mx b fun m=>m=b/\F (if q then .cs (cut es a (b-a)) else .tr (.sl (cut es a (b-a))))
def Zgr(es:Row)(q:Bool)(F:IV->Prop)(a b m:Nat):Prop:=m=b/\F (if q then .cs (cut es a (b-a)) else .tr (.sl (cut es a (b-a))))
theorem ZoX{k:Nat}{es:Row}{los q:Bool}{hi mx:Option IV}{a:Nat}:X4 k es los hi mx q F a=((los=true->Zu k es)/\bn hi es.length (Zgq es mx q F a)):=(rfl)
theorem ZoY{es:Row}{q:Bool}{mx:Option IV}{a b:Nat}:Zgq es mx q F a b=(a<=b/\b<=es.length/\bn mx b (Zgr es q F a b)):=(rfl)
theorem ZoZ{es:Row}{q:Bool}{a b m:Nat}:Zgr es q F a b m=(m=b/\F (if q=true then .cs (cut es a (b-a)) else .tr (.sl (cut es a (b-a))))):=(rfl)
def sxh(L:Zc)(k:Nat)(id:Zd)(p:Ze)(off len:Nat)(cap:Option Nat)(s:Nat)(hi mx:Option IV)(F:IV->Prop)(a:Nat):Prop :=
 bn hi len fun b=>a<=b/\b<=len/\bn mx b fun m=>b<=m/\m<=len/\Js L id p k/\F (.hd id p (off+a) (b-a) (if mx.isSome then some (m-a) else cap.map (· - a)) s)
def Zgs(L:Zc)(k:Nat)(id:Zd)(p:Ze)(off len:Nat)(cap:Option Nat)(s:Nat)(mx:Option IV)(F:IV->Prop)(a b:Nat):Prop :=
 a<=b/\b<=len/\bn mx b fun m=>b<=m/\m<=len/\Js L id p k/\F (.hd id p (off+a) (b-a) (if mx.isSome then some (m-a) else cap.map (· - a)) s)
def Zgt(L:Zc)(k:Nat)(id:Zd)(p:Ze)(off len:Nat)(cap:Option Nat)(s:Nat)(mx:Option IV)(F:IV->Prop)(a b m:Nat):Prop :=
 b<=m/\m<=len/\Js L id p k/\F (.hd id p (off+a) (b-a) (if mx.isSome then some (m-a) else cap.map (· - a)) s)
theorem Zo0{L:Zc}{k:Nat}{id:Zd}{p:Ze}{off len:Nat}{cap:Option Nat}{s:Nat}{hi mx:Option IV}{a:Nat}:sxh L k id p off len cap s hi mx F a=bn hi len (Zgs L k id p off len cap s mx F a):=(rfl)
theorem Zo1{L:Zc}{k:Nat}{id:Zd}{p:Ze}{off len:Nat}{cap:Option Nat}{s:Nat}{mx:Option IV}{a b:Nat}:Zgs L k id p off len cap s mx F a b=(a<=b/\b<=len/\bn mx b (Zgt L k id p off len cap s mx F a b)):=(rfl)
theorem Zo2{L:Zc}{k:Nat}{id:Zd}{p:Ze}{off len:Nat}{cap:Option Nat}{s:Nat}{mx:Option IV}{a b m:Nat}:Zgt L k id p off len cap s mx F a b m=(b<=m/\m<=len/\Js L id p k/\F (.hd id p (off+a) (b-a) (if mx.isSome then some (m-a) else cap.map (· - a)) s)):=(rfl)
def XC(L:Zc)(k:Nat)(x:IV)(lo hi mx:Option IV)(F:IV->Prop):Prop :=
 match x with
 | .tr (.sl es)=>bn lo 0 (X4 k es lo.isSome hi mx mx.isSome F)
 | .cs es=>bn lo 0 (X4 k es lo.isSome hi mx (mx.isSome || hi.isNone) F)
 | .hd id p off len cap s=>bn lo 0 (sxh L k id p off len cap s hi mx F)
 | _=>False
theorem Zgu{x:Option IV}{n:Nat}{p:Prop}{F:Nat->Prop}:(p/\bn x n F)=bn x n fun a=>p/\F a:=by
 apply propext
 cases x with
 | none=>rfl
 | some v =>
  cases v <;> try exact⟨fun h=>h.2,fun h=>h.elim⟩
  rename_i t
  cases t <;> try exact⟨fun h=>h.2,fun h=>h.elim⟩
  rename_i y
  cases y <;> first | exact⟨fun h=>h.2,fun h=>h.elim⟩ | exact⟨fun⟨h1,h2,h3⟩=>⟨h2,h1,h3⟩,fun⟨h1,h2,h3⟩=>⟨h2,h1,h3⟩⟩
theorem Zo3{k:Nat}{x:X}{lo hi mx:Option X}:Zp C d (.sx k x lo hi mx) ⟨lvl,env,loc,out⟩ K=XC (Zw lvl loc out) k (xv env x) (lo.map (xv env)) (hi.map (xv env)) (mx.map (xv env)) (JF lvl env loc out d K):=by
 refine JW (o:=.sx k x lo hi mx) (T:=fun F=>XC (Zw lvl loc out) k (xv env x) (lo.map (xv env)) (hi.map (xv env)) (mx.map (xv env)) F) rfl (fun Kd=>?_)
 simp only[ev,Zgp]
 generalize xv env x=v
 cases v <;> try rfl
 ·rename_i t
  cases t <;> try rfl
  dsimp only[XC,X4]
  rw[Zgu]
  simp only[Option.isSome_map]
  rfl
 ·dsimp only[XC,X4]
  rw[Zgu]
  simp only[Option.isSome_map,Option.isNone_map]
  rfl
 ·dsimp only[XC]
  congr 1
  funext a
  unfold sxh
  congr 1
  funext b
  simp only[Option.isSome_map]
theorem Zo4{L:Zc}{k:Nat}{es:Row}{lo hi mx:Option IV}:XC L k (.tr (.sl es)) lo hi mx F=bn lo 0 (X4 k es lo.isSome hi mx mx.isSome F):=(rfl)
theorem Zo5{L:Zc}{k:Nat}{es:Row}{lo hi mx:Option IV}:XC L k (.cs es) lo hi mx F=bn lo 0 (X4 k es lo.isSome hi mx (mx.isSome || hi.isNone) F):=(rfl)
theorem Zo6{L:Zc}{k:Nat}{id:Zd}{p:Ze}{off len:Nat}{cap:Option Nat}{s:Nat}{lo hi mx:Option IV}:XC L k (.hd id p off len cap s) lo hi mx F=bn lo 0 (sxh L k id p off len cap s hi mx F):=(rfl)
def sst(s:ByteArray)(hi:Option IV)(F:IV->Prop)(a:Nat):Prop:=bn hi s.size fun b=>a<=b/\b<=s.size/\F (iS (s.extract a b))
def Zgv(s:ByteArray)(F:IV->Prop)(a b:Nat):Prop:=a<=b/\b<=s.size/\F (iS (s.extract a b))
theorem Zo7{s:ByteArray}{hi:Option IV}{a:Nat}:sst s hi F a=bn hi s.size (Zgv s F a):=(rfl)
theorem Zo8{s:ByteArray}{a b:Nat}:Zgv s F a b=(a<=b/\b<=s.size/\F (iS (s.extract a b))):=(rfl)
def ss2(x:IV)(lo hi:Option IV)(F:IV->Prop):Prop :=
 match x with
 | .tr (.v (.string s))=>bn lo 0 (sst s hi F)
 | _=>False
theorem Zo9{x:X}{lo hi:Option X}:Zp C d (.ss x lo hi) ⟨lvl,env,loc,out⟩ K=ss2 (xv env x) (lo.map (xv env)) (hi.map (xv env)) (JF lvl env loc out d K):=by
 refine JW (o:=.ss x lo hi) (T:=fun F=>ss2 (xv env x) (lo.map (xv env)) (hi.map (xv env)) F) rfl (fun Kd=>?_)
 simp only[ev,Zgp]
 rfl
theorem Zpa{s:ByteArray}{lo hi:Option IV}:ss2 (.tr (.v (.string s))) lo hi F=bn lo 0 (sst s hi F):=(rfl)
def sa2(n:Nat)(x:IV)(F:IV->Prop):Prop :=
 match x with
 | .ta cells=>n<=cells.length/\F (.cs ((cells.take n).map fun c=>[c]))
 | _=>False
theorem Zpb{n:Nat}{x:X}:Zp C d (.sa n x) ⟨lvl,env,loc,out⟩ K=sa2 n (xv env x) (JF lvl env loc out d K):=JW rfl fun _=>rfl
theorem Zpc{n:Nat}{cells:List Tr}:sa2 n (.ta cells) F=(n<=cells.length/\F (.cs ((cells.take n).map fun c=>[c]))):=(rfl)
def X5(F:IV->Prop)(l:List UInt8):Prop:=F (iS ⟨l.toArray⟩)
theorem Zpd{l:List UInt8}:X5 F l=F (iS ⟨l.toArray⟩):=(rfl)
def sbh(off len:Nat)(F:IV->Prop)(es:Row)(_u:Bool)(_v:Nat):Prop:=off+len<=es.length/\ZW (Yy (cut es off len)) (X5 F)
theorem Zpe{off len:Nat}{es:Row}{u:Bool}{v:Nat}:sbh off len F es u v=(off+len<=es.length/\ZW (Yy (cut es off len)) (X5 F)):=(rfl)
def WW(L:Zc)(x:IV)(F:IV->Prop):Prop :=
 match x with
 | .tr (.sl es)=>ZW (Yy es) (X5 F)
 | .cs es=>ZW (Yy es) (X5 F)
 | .hd id p off len _ st=>Y9 (L id) p st (sbh off len F)
 | _=>False
theorem Zpf{x:X}:Zp C d (.sb x) ⟨lvl,env,loc,out⟩ K=WW (Zw lvl loc out) (xv env x) (JF lvl env loc out d K):=by
 refine JW (o:=.sb x) (T:=fun F=>WW (Zw lvl loc out) (xv env x) F) rfl (fun Kd=>?_)
 simp only[ev]
 generalize xv env x=v
 cases v <;> try rfl
 ·rename_i t
  cases t <;> try rfl
  exact Yi
 ·exact Yi
 ·dsimp only[WW]
  rw[<-XA]
  congr 1
  funext es u ver
  simp only[sbh,<-Yi]
  rfl
theorem Zpg{L:Zc}{es:Row}:WW L (.tr (.sl es)) F=ZW (Yy es) (X5 F):=(rfl)
theorem Zph{L:Zc}{es:Row}:WW L (.cs es) F=ZW (Yy es) (X5 F):=(rfl)
theorem Zpi{L:Zc}{id:Zd}{p:Ze}{off len s:Nat}{cap:Option Nat}:WW L (.hd id p off len cap s) F=Y9 (L id) p s (sbh off len F):=(rfl)
theorem JB{o:O}(h:Jh o=true):Zp C d o st K=ew C d st K o:=by unfold Zp;rw[if_pos h]
def Va(x:IV)(F:List IV->Prop)(l:List IV):Prop:=F (x::l)
theorem Zgw{x:IV}{F:List IV->Prop}{l:List IV}:Va x F l=F (x::l):=(rfl)
def Zgx(L:Zc)(r:List IV)(F:List IV->Prop)(l:List IV):Prop:=ZM L r (Va (.ag l) F)
theorem Zpj{L:Zc}{r:List IV}{F:List IV->Prop}{l:List IV}:Zgx L r F l=ZM L r (Va (.ag l) F):=(rfl)
def Zgy(L:Zc)(f:FuncId)(r:List IV)(F:List IV->Prop)(l:List IV):Prop:=ZM L r (Va (.fn f l) F)
theorem Zpk{L:Zc}{f:FuncId}{r:List IV}{F:List IV->Prop}{l:List IV}:Zgy L f r F l=ZM L r (Va (.fn f l) F):=(rfl)
def Zgz(L:Zc)(off len:Nat)(r:List IV)(F:List IV->Prop)(es:Row)(_u:Bool)(_v:Nat):Prop:=off+len<=es.length/\ZM L r (Va (.tr (.sl (cut es off len))) F)
theorem Zpl{L:Zc}{off len:Nat}{r:List IV}{F:List IV->Prop}{es:Row}{u:Bool}{v:Nat}:Zgz L off len r F es u v=(off+len<=es.length/\ZM L r (Va (.tr (.sl (cut es off len))) F)):=(rfl)
section sn
variable {L:Zc} {r:List IV} {F:List IV->Prop}
theorem ZcE:ZM L [] F=F []:=by simp only[ZM]
theorem ZgA{t:Tr}:ZM L (.tr t::r) F=ZM L r (Va (.tr t) F):=by simp only[ZM,ZQ];rfl
theorem Zpm{es:Row}:ZM L (.cs es::r) F=ZM L r (Va (.tr (.sl es)) F):=by simp only[ZM,ZQ];rfl
theorem Zpn{l:List IV}:ZM L (.ag l::r) F=ZM L l (Zgx L r F):=by simp only[ZM,ZQ];rfl
theorem Zpo{f:FuncId}{l:List IV}:ZM L (.fn f l::r) F=ZM L l (Zgy L f r F):=by simp only[ZM,ZQ];rfl
theorem ZgB{l:List Tr}:ZM L (.ta l::r) F=ZM L r (Va (.ta l) F):=by simp only[ZM,ZQ];rfl
theorem Zpp:ZM L (.er::r) F=ZM L r (Va .er F):=by simp only[ZM,ZQ];rfl
theorem Zpq:ZM L (.un::r) F=ZM L r (Va .un F):=by simp only[ZM,ZQ];rfl
theorem Zpr{id:Zd}{p:Ze}{off len s:Nat}{cap:Option Nat}:ZM L (.hd id p off len cap s::r) F=Y9 (L id) p s (Zgz L off len r F):=by simp only[ZM,ZQ];rw[<-XA];rfl
end sn
def kca(C:Zz)(fid:FuncId)(nm:Prop)(imp:Bool)(lvl:Nat)(env:List (Nat×IV))(loc:List (Nat×Ob))(out:Zc)(d:Option Nat)(K:St->Prop)(args:List IV):Prop :=
 ∃ r,(∀ l S,C fid l args S r S)/\(nm\/noSh r)/\freshK (keyOf d) loc (impv imp lvl (keyOf d) 0 r).2.length/\K ⟨lvl,ptd d (impv imp lvl (keyOf d) 0 r).1 env,addO (keyOf d) (impv imp lvl (keyOf d) 0 r).2 loc,out⟩
theorem Zk{fid:FuncId}{nm:Prop}{imp:Bool}{args:List IV}{r:IV}(h:∀ l S,C fid l args S r S)
  (hk:(nm\/noSh r)/\freshK (keyOf d) loc (impv imp lvl (keyOf d) 0 r).2.length/\K ⟨lvl,ptd d (impv imp lvl (keyOf d) 0 r).1 env,addO (keyOf d) (impv imp lvl (keyOf d) 0 r).2 loc,out⟩):kca C fid nm imp lvl env loc out d K args:=⟨r,h,hk⟩
def ca2(C:Zz)(f:IV)(xs:List IV)(imp:Bool)(lvl:Nat)(env:List (Nat×IV))(loc:List (Nat×Ob))(out:Zc)(d:Option Nat)(K:St->Prop):Prop :=
 match f with
 | .fn fid caps=>ZM (Zw lvl loc out) (xs++caps) (kca C fid (Za (fun _=>False) (xs++caps)) imp lvl env loc out d K)
 | _=>False
theorem Zps{imp:Bool}{f:X}{xs:List X}:Zp C d (.ca .pure imp f xs) ⟨lvl,env,loc,out⟩ K=ca2 C (xv env f) (xs.map (xv env)) imp lvl env loc out d K:=by
 rw[JM rfl]
 simp only[ev]
 generalize xv env f=v
 cases v <;> rfl
theorem Zpt{fid:FuncId}{caps xs:List IV}{imp:Bool}:ca2 C (.fn fid caps) xs imp lvl env loc out d K=ZM (Zw lvl loc out) (xs++caps) (kca C fid (Za (fun _=>False) (xs++caps)) imp lvl env loc out d K):=(rfl)
def kce(C:Zz)(fid:FuncId)(imp:Bool)(lvl:Nat)(env:List (Nat×IV))(loc:List (Nat×Ob))(out:Zc)(d:Option Nat)(K:St->Prop)(args:List IV):Prop :=
 ∃ r,(∀ l S,Za (Ul (Zw lvl loc out) S l) args->C fid l args S r S)/\freshK (keyOf d) loc (impv imp lvl (keyOf d) 0 r).2.length/\K ⟨lvl,ptd d (impv imp lvl (keyOf d) 0 r).1 env,addO (keyOf d) (impv imp lvl (keyOf d) 0 r).2 loc,out⟩
def ZgC(C:Zz)(f:IV)(xs:List IV)(imp:Bool)(lvl:Nat)(env:List (Nat×IV))(loc:List (Nat×Ob))(out:Zc)(d:Option Nat)(K:St->Prop):Prop :=
 match f with
 | .fn fid caps=>kce C fid imp lvl env loc out d K (xs++caps)
 | _=>False
theorem Zpu{imp:Bool}{f:X}{xs:List X}:Zp C d (.ca .see imp f xs) ⟨lvl,env,loc,out⟩ K=ZgC C (xv env f) (xs.map (xv env)) imp lvl env loc out d K:=by
 rw[JM rfl]
 simp only[ev]
 generalize xv env f=v
 cases v <;> rfl
theorem Zpv{fid:FuncId}{caps xs:List IV}{imp:Bool}:ZgC C (.fn fid caps) xs imp lvl env loc out d K=kce C fid imp lvl env loc out d K (xs++caps):=(rfl)
def kcs(C:Zz)(fid:FuncId)(imp:Bool)(lvl:Nat)(env:List (Nat×IV))(loc:List (Nat×Ob))(out:Zc)(d:Option Nat)(K:St->Prop)(args:List IV):Prop :=
 ∃ r,C fid (lvl+1) args (Zw lvl loc out) r (Zw lvl loc out)/\freshK (keyOf d) loc (impv imp lvl (keyOf d) 0 r).2.length/\K ⟨lvl,ptd d (impv imp lvl (keyOf d) 0 r).1 env,addO (keyOf d) (impv imp lvl (keyOf d) 0 r).2 loc,out⟩
def ZgD(C:Zz)(f:IV)(xs:List IV)(imp:Bool)(lvl:Nat)(env:List (Nat×IV))(loc:List (Nat×Ob))(out:Zc)(d:Option Nat)(K:St->Prop):Prop :=
 match f with
 | .fn fid caps=>kcs C fid imp lvl env loc out d K (xs.map Yb++caps)
 | _=>False
theorem Zpw{imp:Bool}{f:X}{xs:List X}:Zp C d (.ca .same imp f xs) ⟨lvl,env,loc,out⟩ K=ZgD C (xv env f) (xs.map (xv env)) imp lvl env loc out d K:=by
 rw[JB rfl]
 simp only[ew]
 generalize xv env f=v
 cases v <;> rfl
theorem Zpx{fid:FuncId}{caps xs:List IV}{imp:Bool}:ZgD C (.fn fid caps) xs imp lvl env loc out d K=kcs C fid imp lvl env loc out d K (xs.map Yb++caps):=(rfl)
def ZgE(C:Zz)(f:IV)(xs:List IV)(imp:Bool)(lvl:Nat)(env:List (Nat×IV))(loc:List (Nat×Ob))(out:Zc)(d:Option Nat)(K:St->Prop):Prop :=
 match f with
 | .fn fid caps=>kcs C fid imp lvl env loc out d K (xs++caps)
 | _=>False
theorem Zpy{imp:Bool}{f:X}{xs:List X}:Zp C d (.ca .keep imp f xs) ⟨lvl,env,loc,out⟩ K=ZgE C (xv env f) (xs.map (xv env)) imp lvl env loc out d K:=by
 rw[JB rfl]
 simp only[ew]
 generalize xv env f=v
 cases v <;> rfl
theorem Zpz{fid:FuncId}{caps xs:List IV}{imp:Bool}:ZgE C (.fn fid caps) xs imp lvl env loc out d K=kcs C fid imp lvl env loc out d K (xs++caps):=(rfl)
def Q4(C:Zz)(fid:FuncId)(imp:Bool)(lvl:Nat)(env:List (Nat×IV))(loc:List (Nat×Ob))(out:Zc)(d:Option Nat)(K:St->Prop)(args:List IV):Prop :=
 ∃ r loc' out',(∀ i,i.1=lvl->out' i=out i)/\C fid (lvl+1) args (Zw lvl loc out) r (Zw lvl loc' out')/\freshK (keyOf d) loc' (impv imp lvl (keyOf d) 0 r).2.length/\K ⟨lvl,ptd d (impv imp lvl (keyOf d) 0 r).1 env,addO (keyOf d) (impv imp lvl (keyOf d) 0 r).2 loc',out'⟩
theorem X6{fid:FuncId}{imp:Bool}{args:List IV}{r:IV}(loc':List (Nat×Ob))(out':Zc)(ho:∀ i,i.1=lvl->out' i=out i)(h:C fid (lvl+1) args (Zw lvl loc out) r (Zw lvl loc' out'))
  (hk:freshK (keyOf d) loc' (impv imp lvl (keyOf d) 0 r).2.length/\K ⟨lvl,ptd d (impv imp lvl (keyOf d) 0 r).1 env,addO (keyOf d) (impv imp lvl (keyOf d) 0 r).2 loc',out'⟩):Q4 C fid imp lvl env loc out d K args:=⟨r,loc',out',ho,h,hk⟩
def ZgF(C:Zz)(f:IV)(xs:List IV)(imp:Bool)(lvl:Nat)(env:List (Nat×IV))(loc:List (Nat×Ob))(out:Zc)(d:Option Nat)(K:St->Prop):Prop :=
 match f with
 | .fn fid caps=>Q4 C fid imp lvl env loc out d K (xs.map Yb++caps)
 | _=>False
theorem ZpA{imp:Bool}{f:X}{xs:List X}:Zp C d (.ca .any imp f xs) ⟨lvl,env,loc,out⟩ K=ZgF C (xv env f) (xs.map (xv env)) imp lvl env loc out d K:=by
 rw[JB rfl]
 simp only[ew]
 generalize xv env f=v
 cases v <;> rfl
theorem ZpB{fid:FuncId}{caps xs:List IV}{imp:Bool}:ZgF C (.fn fid caps) xs imp lvl env loc out d K=Q4 C fid imp lvl env loc out d K (xs.map Yb++caps):=(rfl)
def kfe(K:IV->Zc->Prop)(l:List IV)(st:St):Prop:=match l with | [x]=>K x st.out | xs=>K (.tu xs) st.out
theorem ZpC{rs:List RS}{K:IV->Zc->Prop}:Jj rs st K=QN rs st (kfe K):=(rfl)
theorem ZpD{K:IV->Zc->Prop}:kfe K [] ⟨lvl,env,loc,out⟩=K (.tu []) out:=(rfl)
theorem ZpE{K:IV->Zc->Prop}{x:IV}:kfe K [x] ⟨lvl,env,loc,out⟩=K x out:=(rfl)
theorem ZpF{K:IV->Zc->Prop}{x y:IV}{r:List IV}:kfe K (x::y::r) ⟨lvl,env,loc,out⟩=K (.tu (x::y::r)) out:=(rfl)
def kex(rs:List RS)(F:List IV->St->Prop)(x:IV)(st:St):Prop:=QN rs st fun xs st'' => F (x::xs) st''
def kcx(x:IV)(F:List IV->St->Prop)(l:List IV)(st:St):Prop:=F (x::l) st
theorem ZpG{x:IV}{F:List IV->St->Prop}{l:List IV}:kcx x F l st=F (x::l) st:=(rfl)
theorem ZpH{F:List IV->St->Prop}:QN [] st F=F [] st:=(rfl)
theorem ZpI{r:RS}{rs:List RS}{F:List IV->St->Prop}:QN (r::rs) st F=QM r st (kex rs F):=(rfl)
theorem ZpJ{rs:List RS}{F:List IV->St->Prop}{x:IV}:kex rs F x st=QN rs st (kcx x F):=(rfl)
theorem ZpK{n:Nat}{ks:List Nat}{F:IV->St->Prop}:QM (.t n ks) ⟨lvl,env,loc,out⟩ F=Yq ks (lk n env) ⟨lvl,env,loc,out⟩ F:=(rfl)
def exb(o:Option Ob)(off:Nat)(m:Option Nat)(ks:List Nat)(st:St)(F:IV->St->Prop):Prop :=
 match o,m with
 | some (.bx cells),some m=>off+m<=cells.length/\Yq ks (.ag ((cells.drop off).take m)) st F
 | some (.bx cells),none=>ZW cells[off]? fun x=>isCell x=true/\Yq ks x st F
 | _,_=>False
def ZgG(ks:List Nat)(st:St)(F:IV->St->Prop)(x:IV):Prop:=isCell x=true/\Yq ks x st F
theorem ZpL{ks:List Nat}{F:IV->St->Prop}{x:IV}:ZgG ks st F x=(isCell x=true/\Yq ks x st F):=(rfl)
theorem ZpM{cells:List IV}{off m:Nat}{ks:List Nat}{F:IV->St->Prop}:exb (some (.bx cells)) off (some m) ks st F=(off+m<=cells.length/\Yq ks (.ag ((cells.drop off).take m)) st F):=(rfl)
theorem ZpN{cells:List IV}{off:Nat}{ks:List Nat}{F:IV->St->Prop}:exb (some (.bx cells)) off none ks st F=ZW cells[off]? (ZgG ks st F):=(rfl)
def exk(x:IV)(st:St)(F:IV->St->Prop):Prop :=
 match x with
 | .cs es=>F (.cs es) st
 | _=>False
theorem ZpO{n:Nat}{F:IV->St->Prop}:QM (.k n) ⟨lvl,env,loc,out⟩ F=exk (lk n env) ⟨lvl,env,loc,out⟩ F:=(rfl)
theorem ZpP{es:Row}{F:IV->St->Prop}:exk (.cs es) st F=F (.cs es) st:=(rfl)
def exc(v:IV)(m:Option Nat)(ks:List Nat)(st:St)(F:IV->St->Prop):Prop :=
 match v with
 | .ab id off=>exb (st.sto id) off m ks st F
 | _=>False
theorem ZpQ{n:Nat}{m:Option Nat}{ks:List Nat}{F:IV->St->Prop}:QM (.c n m ks) ⟨lvl,env,loc,out⟩ F=exc (lk n env) m ks ⟨lvl,env,loc,out⟩ F:=by
 simp only[QM]
 generalize lk n env=v
 cases v <;> try rfl
 rename_i id off
 dsimp only[exc]
 generalize (⟨lvl,env,loc,out⟩:St).sto id=o
 cases o with
 | none=>rfl
 | some ob =>
  cases ob with
  | ar=>cases m <;> rfl
  | bx cells =>
   cases m with
   | some m=>rfl
   | none=>exact Yi
theorem ZpR{id:Zd}{off:Nat}{m:Option Nat}{ks:List Nat}{F:IV->St->Prop}:exc (.ab id off) m ks ⟨lvl,env,loc,out⟩ F=exb (Zw lvl loc out id) off m ks ⟨lvl,env,loc,out⟩ F:=(rfl)
def ZgH(F:IV->St->Prop)(l:List IV)(st:St):Prop:=F (.ag l) st
theorem ZpS{F:IV->St->Prop}{l:List IV}:ZgH F l st=F (.ag l) st:=(rfl)
theorem ZpT{ks:List Nat}{l:List IV}{F:IV->St->Prop}:Yq ks (.ag l) st F=Qh ks l st (ZgH F):=(rfl)
theorem ZpU{ks:List Nat}{t:Tr}{F:IV->St->Prop}:Yq ks (.tr t) st F=F (.tr t) st:=(rfl)
theorem ZpV{ks:List Nat}{es:Row}{F:IV->St->Prop}:Yq ks (.cs es) st F=JU (ks.headD 0) (.cs es) st F:=(rfl)
theorem ZpW{ks:List Nat}{id:Zd}{p:Ze}{off len s:Nat}{cap:Option Nat}{F:IV->St->Prop}:Yq ks (.hd id p off len cap s) st F=JU (ks.headD 0) (.hd id p off len cap s) st F:=(rfl)
theorem ZpX{ks:List Nat}{F:IV->St->Prop}:Yq ks .er st F=F .er st:=(rfl)
theorem ZpY{ks:List Nat}{f:FuncId}{c:List IV}{F:IV->St->Prop}:Yq ks (.fn f c) st F=(Ja st.lvl c/\F (.fn f c) st):=(rfl)
theorem ZpZ{ks:List Nat}{F:IV->St->Prop}:Yq ks .un st F=F .un st:=(rfl)
def kxc(ks:List Nat)(r:List IV)(F:List IV->St->Prop)(y:IV)(st:St):Prop:=Qh ks r st (kcx y F)
theorem Zp0{ks:List Nat}{r:List IV}{F:List IV->St->Prop}{y:IV}:kxc ks r F y st=Qh ks r st (kcx y F):=(rfl)
theorem Zp1{ks:List Nat}{F:List IV->St->Prop}:Qh ks [] st F=F [] st:=by cases ks <;> rfl
theorem Zp2{ks:List Nat}{x:IV}{r:List IV}{F:List IV->St->Prop}:Qh ks (x::r) st F=JU (ks.headD 0) x st (kxc ks.tail r F):=(rfl)
theorem Zp3{k:Nat}{t:Tr}{F:IV->St->Prop}:JU k (.tr t) st F=F (.tr t) st:=(rfl)
theorem Zp4{k:Nat}{F:IV->St->Prop}:JU (k+1) (.cs []) st F=F (.ow k [] true) st:=(rfl)
theorem Zp5{es:Row}{F:IV->St->Prop}:JU 0 (.cs es) st F=F (.tr (.sl es)) st:=(rfl)
theorem Zp6{F:IV->St->Prop}:JU 1 (.cs []) st F=F (.ow 0 [] true) st:=(rfl)
theorem Zp7{F:IV->St->Prop}:JU 2 (.cs []) st F=F (.ow 1 [] true) st:=(rfl)
theorem Zp8{F:IV->St->Prop}:JU 3 (.cs []) st F=F (.ow 2 [] true) st:=(rfl)
theorem Zp9{F:IV->St->Prop}:JU 4 (.cs []) st F=F (.ow 3 [] true) st:=(rfl)
theorem Zqa{F:IV->St->Prop}:JU 5 (.cs []) st F=F (.ow 4 [] true) st:=(rfl)
theorem Zqb{F:IV->St->Prop}:JU 6 (.cs []) st F=F (.ow 5 [] true) st:=(rfl)
theorem Zqc{F:IV->St->Prop}:JU 7 (.cs []) st F=F (.ow 6 [] true) st:=(rfl)
theorem Zqd{k:Nat}{F:IV->St->Prop}:JU k .er st F=F .er st:=(rfl)
theorem Zqe{k:Nat}{F:IV->St->Prop}:JU k .un st F=F .un st:=(rfl)
def exh(o:Option Ob)(k:Nat)(p:Ze)(off len:Nat)(cap:Option Nat)(s:Nat)(st1:St)(F:IV->St->Prop):Prop :=
 match o with
 | some (.ar k' es u hw _)=>p=[]/\s=hw/\(match k with
  | 0=>off+len<=es.length/\F (.tr (.sl (cut es off len))) st1
  | k1+1=>k1=k'/\off=0/\len=es.length/\cap=none/\F (.ow k' es u) st1)
 | _=>False
theorem Zqf{k key:Nat}{p:Ze}{off len s:Nat}{cap:Option Nat}{F:IV->St->Prop}:JU k (.hd (lvl,key) p off len cap s) ⟨lvl,env,loc,out⟩ F=exh (lkO key loc) k p off len cap s (Zn (lvl,key) ⟨lvl,env,loc,out⟩) F:=by
 unfold JU
 dsimp only
 rw[if_pos rfl]
 have:(⟨lvl,env,loc,out⟩:St).sto (lvl,key)=lkO key loc:=JN
 rw[this]
 generalize lkO key loc=o
 cases o with
 | none=>rfl
 | some ob=>cases ob <;> cases k <;> rfl
theorem Zqg{k':Nat}{es:Row}{u:Bool}{hw ver:Nat}{p:Ze}{off len s:Nat}{cap:Option Nat}{st1:St}{F:IV->St->Prop}:exh (some (.ar k' es u hw ver)) 0 p off len cap s st1 F=(p=[]/\s=hw/\off+len<=es.length/\F (.tr (.sl (cut es off len))) st1):=(rfl)
theorem Zqh{k k':Nat}{es:Row}{u:Bool}{hw ver:Nat}{p:Ze}{off len s:Nat}{cap:Option Nat}{st1:St}{F:IV->St->Prop}:exh (some (.ar k' es u hw ver)) (k+1) p off len cap s st1 F=(p=[]/\s=hw/\k=k'/\off=0/\len=es.length/\cap=none/\F (.ow k' es u) st1):=(rfl)
theorem ZcF{k:Nat}{id:Zd}{p:Ze}{off len s:Nat}{cap:Option Nat}{F:IV->St->Prop}(h:id.1≠lvl):JU k (.hd id p off len cap s) ⟨lvl,env,loc,out⟩ F=F (.hd id p off len cap s) ⟨lvl,env,loc,out⟩:=by
 unfold JU
 dsimp only
 rw[if_neg h]
def memB(t:Nat):List Nat->Bool
 | []=>false
 | a::r=>if t=a then true else memB t r
theorem X7{t:Nat}:∀{l:List Nat},memB t l=true↔t∈l
 | []=>by simp [memB]
 | a::r=>by
  simp only[memB,UaP]
  by_cases h:t=a
  ·simp [h]
  ·rw[if_neg h,X7];simp [h]
def keepB(ks:List Nat):List (Nat×IV)->List (Nat×IV)
 | []=>[]
 | (t,x)::r=>if memB t ks=true then (t,x)::keepB ks r else keepB ks r
def keepOB(ks:List Nat):List (Nat×Ob)->List (Nat×Ob)
 | []=>[]
 | (t,x)::r=>if memB t ks=true then (t,x)::keepOB ks r else keepOB ks r
theorem ZcG{ks:List Nat}:∀{e:List (Nat×IV)},Qf ks e=keepB ks e
 | []=>rfl
 | (t,x)::r=>by
  simp only[Qf,keepB,ZcG (e:=r),X7]
theorem ZcH{ks:List Nat}:∀{e:List (Nat×Ob)},QL ks e=keepOB ks e
 | []=>rfl
 | (t,x)::r=>by
  simp only[QL,keepOB,ZcH (e:=r),X7]
theorem Zqi{ks js:List Nat}:fgt ks js ⟨lvl,env,loc,out⟩=⟨lvl,keepB ks env,keepOB js loc,out⟩:=by
 simp only[fgt,ZcG,ZcH]
theorem Zqj{ks js:List Nat}:clean ks js ⟨lvl,env,loc,out⟩=(XT lvl js (keepB ks env)/\Qg lvl js (keepOB js loc)):=by
 simp only[clean,ZcG,ZcH]
theorem Zqk{js:List Nat}{k:Nat}{p:Ze}{off len s:Nat}{cap:Option Nat}:JK lvl js (.hd (lvl,k) p off len cap s)=(memB k js=true):=by
 apply propext
 simp only[JK,men,forall_const,X7]
theorem Zql{js:List Nat}{k off:Nat}:JK lvl js (.ab (lvl,k) off)=(memB k js=true):=by
 apply propext
 simp only[JK,men,forall_const,X7]
theorem Zqm{js:List Nat}{k:Nat}:JK lvl js (.sv (lvl,k))=(memB k js=true):=by
 apply propext
 simp only[JK,men,forall_const,X7]
theorem Zqn{js:List Nat}{k:Nat}{p:Ze}{i f s:Nat}:JK lvl js (.ae (lvl,k) p i f s)=(memB k js=true):=by
 apply propext
 simp only[JK,men,forall_const,X7]
theorem ZY{js:List Nat}{id:Zd}{p:Ze}{off len s:Nat}{cap:Option Nat}(h:id.1≠lvl):JK lvl js (.hd id p off len cap s)=True:=by
 apply propext
 simp only[JK,men,iff_true]
 exact fun hh=>absurd hh h
theorem Zqo{js:List Nat}{t:Tr}:JK lvl js (.tr t)=True:=(rfl)
theorem Zqp{js:List Nat}{es:Row}:JK lvl js (.cs es)=True:=(rfl)
theorem Zqq{js:List Nat}{l:List IV}:JK lvl js (.ag l)=Vm lvl js l:=by simp only[JK,Vm,men]
theorem Zqr{js:List Nat}{l:List IV}:JK lvl js (.tu l)=Vm lvl js l:=by simp only[JK,Vm,men]
theorem Zqs{js:List Nat}{f:FuncId}{l:List IV}:JK lvl js (.fn f l)=Vm lvl js l:=by simp only[JK,Vm,men]
theorem Zqt{js:List Nat}:JK lvl js .un=True:=(rfl)
theorem Zqu{js:List Nat}:JK lvl js .er=True:=(rfl)
theorem Zqv{js:List Nat}{l:List Tr}:JK lvl js (.ta l)=True:=(rfl)
theorem Zqw{js:List Nat}:Vm lvl js []=True:=(rfl)
theorem Zqx{js:List Nat}{x:IV}{r:List IV}:Vm lvl js (x::r)=(JK lvl js x/\Vm lvl js r):=(rfl)
theorem Zqy{js:List Nat}:XT lvl js []=True:=(rfl)
theorem Zqz{js:List Nat}{t:Nat}{x:IV}{r:List (Nat×IV)}:XT lvl js ((t,x)::r)=(JK lvl js x/\XT lvl js r):=(rfl)
theorem ZqA{js:List Nat}:Qg lvl js []=True:=(rfl)
theorem ZqB{js:List Nat}{t:Nat}{x:List IV}{r:List (Nat×Ob)}:Qg lvl js ((t,.bx x)::r)=(Vm lvl js x/\Qg lvl js r):=(rfl)
theorem ZqC{js:List Nat}{t k:Nat}{es:Row}{u:Bool}{hw ver:Nat}{r:List (Nat×Ob)}:Qg lvl js ((t,.ar k es u hw ver)::r)=Qg lvl js r:=(rfl)
def X8(ks js:List Nat)(J:St->Prop)(Q:Ex->St->Prop):Ex->St->Prop:=fun e s' => match e with | .nrm=>clean ks js s'/\J (fgt ks js s') | e=>Q e s'
theorem ZqD{ks js:List Nat}{J:St->Prop}:X8 ks js J Q .nrm st=(clean ks js st/\J (fgt ks js st)):=(rfl)
theorem ZqE{ks js:List Nat}{J:St->Prop}{i:Nat}:X8 ks js J Q (.ext i) st=Q (.ext i) st:=(rfl)
theorem ZqF{ks js:List Nat}{J:St->Prop}:X8 ks js J Q .ret st=Q .ret st:=(rfl)
theorem ZqG{ks js:List Nat}{c:C2}(I:Nat->St->Prop)(n0:Nat)(h0:clean ks js st/\I n0 (fgt ks js st))(hs:∀ n s,I n s->wp C c s (X8 ks js (fun s' => ∃ m,m<n/\I m s') Q)):wp C (.lp ks js c) st Q:=by
 refine⟨I,⟨h0.1,n0,h0.2⟩,fun n s hI=>?_⟩
 have h:=hs n s hI
 have e:(X8 ks js (fun s' => ∃ m,m<n/\I m s') Q)=fun e s' => match e with | .nrm=>clean ks js s'/\∃ m,m<n/\I m (fgt ks js s') | e=>Q e s':=by
  funext e s';cases e <;> rfl
 rw[e] at h
 exact h
def ZcI{α:Type}(N:Nat)(mk:Nat->α->St)(A:Nat->α->Prop)(n:Nat)(s':St):Prop:=∃ m,m<n/\∃ k x,k+m=N/\s'=mk k x/\A k x
theorem Zy{α:Type}{N:Nat}{mk:Nat->α->St}{A:Nat->α->Prop}{k:Nat}{s':St}(y:α)(hk:k<N)(h:s'=mk (k+1) y)(ha:A (k+1) y):ZcI N mk A (N-k) s':=⟨N-(k+1),by omega,k+1,y,by omega,h,ha⟩
theorem JR{α:Type}{ks js:List Nat}{c:C2}(N:Nat)(mk:Nat->α->St)(A:Nat->α->Prop)(x0:α)(h0:clean ks js st/\fgt ks js st=mk 0 x0)(hA:A 0 x0)
  (hs:∀ k x,k<=N->A k x->wp C c (mk k x) (X8 ks js (ZcI N mk A (N-k)) Q)):wp C (.lp ks js c) st Q:=by
 refine ZqG (fun n s=>∃ k x,k+n=N/\s=mk k x/\A k x) N ⟨h0.1,0,x0,by omega,h0.2,hA⟩ (fun n s ⟨k,x,hk,he,ha⟩=>?_)
 subst he
 have h:=hs k x (by omega) ha
 have hn:N-k=n:=by omega
 rw[hn] at h
 exact h
end
end Go.Fd

namespace Go.Fd
section
variable {C:Zz} {lvl:Nat} {env:List (Nat×IV)} {loc:List (Nat×Ob)} {out:Zc} {d:Option Nat} {K:St->Prop} {st:St}
def st2(v:Option (List IV))(m:Nat)(p:IV)(d:Option Nat)(st:St)(K:St->Prop):Prop :=
 match v with
 | some l=>d=none/\l.length=m /\
  match p with
  | .ab id off =>
   match st.sto id with
   | some (.bx cells)=>off+l.length<=cells.length/\Ja (id.1+1) l/\K (Zg st id (.bx (JT cells off l)))
   | _=>False
  | .ae id p i f s=>Yd id p i s f l st K
  | _=>False
 | none=>False
theorem ZqH{m:Nat}{p x:X}:Zp C d (.st m p x) ⟨lvl,env,loc,out⟩ K=st2 (cellsOf (xv env x)) m (xv env p) d ⟨lvl,env,loc,out⟩ K:=by
 rw[JB rfl]
 simp only[ew]
 generalize cellsOf (xv env x)=v
 cases v with
 | none=>simp [st2]
 | some l=>rfl
def stb(o:Option Ob)(id:Zd)(off:Nat)(l:List IV)(st:St)(K:St->Prop):Prop :=
 match o with
 | some (.bx cells)=>off+l.length<=cells.length/\Ja (id.1+1) l/\K (Zg st id (.bx (JT cells off l)))
 | _=>False
theorem ZqI{m:Nat}{l:List IV}{id:Zd}{off:Nat}:st2 (some l) m (.ab id off) d ⟨lvl,env,loc,out⟩ K=(d=none/\l.length=m/\stb (Zw lvl loc out id) id off l ⟨lvl,env,loc,out⟩ K):=(rfl)
theorem ZqJ{m:Nat}{l:List IV}{id:Zd}{p:Ze}{i f s:Nat}:st2 (some l) m (.ae id p i f s) d st K=(d=none/\l.length=m/\Yd id p i s f l st K):=(rfl)
theorem ZqK{cells l:List IV}{id:Zd}{off:Nat}:stb (some (.bx cells)) id off l st K=(off+l.length<=cells.length/\Ja (id.1+1) l/\K (Zg st id (.bx (JT cells off l)))):=(rfl)
theorem Vb{cs:List IV}{off:Nat}:JT cs off []=cs:=(rfl)
theorem Vc{cs:List IV}{off:Nat}{x:IV}{r:List IV}:JT cs off (x::r)=JT (cs.set off x) (off+1) r:=(rfl)
theorem ZqL{l:Nat}:Ja l []=True:=(rfl)
theorem ZqM{l:Nat}{x:IV}{r:List IV}:Ja l (x::r)=(low l x/\Ja l r):=(rfl)
theorem ZqN{l:Nat}{t:Tr}:low l (.tr t)=True:=(rfl)
theorem ZqO{l:Nat}{es:Row}:low l (.cs es)=True:=(rfl)
theorem ZqP{l k:Nat}{p:Ze}{off len s:Nat}{cap:Option Nat}:low (l+1) (.hd (l,k) p off len cap s)=True:=by
 apply propext;simp [low,men]
theorem ZqQ{l k off:Nat}:low (l+1) (.ab (l,k) off)=True:=by
 apply propext;simp [low,men]
theorem ZqR{l:Nat}{c:List IV}:low l (.ag c)=Ja l c:=by simp only[low,Ja,men]
theorem ZqS{l:Nat}{c:List IV}:low l (.tu c)=Ja l c:=by simp only[low,Ja,men]
theorem ZqT{l k:Nat}{es:Row}{u:Bool}:low l (.ow k es u)=True:=(rfl)
theorem ZqU{l:Nat}:low l .un=True:=(rfl)
theorem ZqV{l:Nat}:low l .er=True:=(rfl)
theorem ZqW{l:Nat}{c:List Tr}:low l (.ta c)=True:=(rfl)
def kst(id:Zd)(p:Ze)(i s f:Nat)(r:List IV)(K:St->Prop)(st':St):Prop:=Yd id p i s f r st' K
theorem ZqX{id:Zd}{p:Ze}{i s f:Nat}{r:List IV}:kst id p i s f r K st=Yd id p i s f r st K:=(rfl)
theorem ZqY{id:Zd}{p:Ze}{i s f:Nat}:Yd id p i s f [] st K=K st:=(rfl)
def sc1(o:Option Ob)(id:Zd)(p:Ze)(i f s:Nat)(x:IV)(st:St)(K:St->Prop):Prop :=
 match o with
 | some (.ar k es u hw ver)=>JA p s hw ver u/\ZW (getp es p) fun es' => ZW es'[i]? fun e=>ZW e[f]? fun t0 =>
  match x with
  | .tr (.v y)=>isSc t0=true/\K (Zg st id (.ar k (ZG es p i f (.v y)) u hw ver))
  | .cs []=>p=[]/\K (Zg st id (.ar k (ZG es [] i f (.sl [])) u hw (ver+1)))
  | .cs zs=>p=[]/\K (Zg st id (.ar k (ZG es [] i f (.sl zs)) false hw (ver+1)))
  | .tr (.sl zs)=>p=[]/\K (Zg st id (.ar k (ZG es [] i f (.sl zs)) false hw (ver+1)))
  | .hd id2 [] 0 len none s2=>p=[]/\id2≠id/\id2.1=st.lvl /\
   match st.sto id2 with
   | some (.ar _ zs u2 hw2 _)=>s2=hw2/\len=zs.length/\K (Zg (Zn id2 st) id (.ar k (ZG es [] i f (.sl zs)) (u&&u2) hw (ver+1)))
   | _=>False
  | _=>False
 | _=>False
theorem ZqZ{id:Zd}{p:Ze}{i s f:Nat}{x:IV}{r:List IV}:Yd id p i s f (x::r) ⟨lvl,env,loc,out⟩ K=sc1 (Zw lvl loc out id) id p i f s x ⟨lvl,env,loc,out⟩ (kst id p i s (f+1) r K):=by
 simp only[Yd,QJ,sc1]
 rw[show (⟨lvl,env,loc,out⟩:St).sto id=Zw lvl loc out id from rfl]
 generalize Zw lvl loc out id=o
 cases o with
 | none=>rfl
 | some ob =>
  cases ob with
  | bx=>rfl
  | ar k es u hw ver =>
   dsimp only
   rw[<-Yi]
   apply propext
   constructor
   ·rintro⟨es',h1,h2,e,h3,t0,h4,h5⟩
    refine⟨h2,es',h1,?_⟩
    rw[h3]
    simp only[ZW]
    rw[h4]
    exact h5
   ·rintro⟨h2,es',h1,h3⟩
    rw[<-Yi] at h3
    obtain⟨e,h3,h4⟩:=h3
    rw[<-Yi] at h4
    obtain⟨t0,h4,h5⟩:=h4
    exact⟨es',h1,h2,e,h3,t0,h4,h5⟩
def X9(k:Nat)(es:Row)(u:Bool)(hw ver:Nat)(id:Zd)(p:Ze)(i f:Nat)(x:IV)(st:St)(K:St->Prop)(t0:Tr):Prop :=
  match x with
  | .tr (.v y)=>isSc t0=true/\K (Zg st id (.ar k (ZG es p i f (.v y)) u hw ver))
  | .cs []=>p=[]/\K (Zg st id (.ar k (ZG es [] i f (.sl [])) u hw (ver+1)))
  | .cs zs=>p=[]/\K (Zg st id (.ar k (ZG es [] i f (.sl zs)) false hw (ver+1)))
  | .tr (.sl zs)=>p=[]/\K (Zg st id (.ar k (ZG es [] i f (.sl zs)) false hw (ver+1)))
  | .hd id2 [] 0 len none s2=>p=[]/\id2≠id/\id2.1=st.lvl /\
   match st.sto id2 with
   | some (.ar _ zs u2 hw2 _)=>s2=hw2/\len=zs.length/\K (Zg (Zn id2 st) id (.ar k (ZG es [] i f (.sl zs)) (u&&u2) hw (ver+1)))
   | _=>False
  | _=>False
def sc3(k:Nat)(es:Row)(u:Bool)(hw ver:Nat)(id:Zd)(p:Ze)(i f:Nat)(x:IV)(st:St)(K:St->Prop)(e:List Tr):Prop:=ZW e[f]? (X9 k es u hw ver id p i f x st K)
def sc4(k:Nat)(es:Row)(u:Bool)(hw ver:Nat)(id:Zd)(p:Ze)(i f:Nat)(x:IV)(st:St)(K:St->Prop)(es':Row):Prop:=ZW es'[i]? (sc3 k es u hw ver id p i f x st K)
section sc
variable {k:Nat} {es:Row} {u:Bool} {hw ver:Nat} {id:Zd} {p:Ze} {i f s:Nat} {x:IV}
theorem Zq0:sc1 (some (.ar k es u hw ver)) id p i f s x st K=(JA p s hw ver u/\ZW (getp es p) (sc4 k es u hw ver id p i f x st K)):=(rfl)
theorem Zq1{e:List Tr}:sc3 k es u hw ver id p i f x st K e=ZW e[f]? (X9 k es u hw ver id p i f x st K):=(rfl)
theorem Zq2{es':Row}:sc4 k es u hw ver id p i f x st K es'=ZW es'[i]? (sc3 k es u hw ver id p i f x st K):=(rfl)
theorem Zq3{y:Value}{t0:Tr}:X9 k es u hw ver id p i f (.tr (.v y)) st K t0=(isSc t0=true/\K (Zg st id (.ar k (ZG es p i f (.v y)) u hw ver))):=(rfl)
theorem Zq4{t0:Tr}:X9 k es u hw ver id p i f (.cs []) st K t0=(p=[]/\K (Zg st id (.ar k (ZG es [] i f (.sl [])) u hw (ver+1)))):=(rfl)
theorem Zq5{zs:Row}{t0:Tr}:X9 k es u hw ver id p i f (.tr (.sl zs)) st K t0=(p=[]/\K (Zg st id (.ar k (ZG es [] i f (.sl zs)) false hw (ver+1)))):=(rfl)
def sc5(o:Option Ob)(k:Nat)(es:Row)(u:Bool)(hw ver:Nat)(id:Zd)(i f len s2:Nat)(st2 st:St)(K:St->Prop):Prop :=
 match o with
 | some (.ar _ zs u2 hw2 _)=>s2=hw2/\len=zs.length/\K (Zg st2 id (.ar k (ZG es [] i f (.sl zs)) (u&&u2) hw (ver+1)))
 | _=>False
theorem Zq6{key len s2:Nat}{t0:Tr}:X9 k es u hw ver id p i f (.hd (lvl,key) [] 0 len none s2) ⟨lvl,env,loc,out⟩ K t0=(p=[]/\(lvl,key)≠id/\sc5 (lkO key loc) k es u hw ver id i f len s2 (Zn (lvl,key) ⟨lvl,env,loc,out⟩) ⟨lvl,env,loc,out⟩ K):=by
 simp only[X9]
 rw[show (⟨lvl,env,loc,out⟩:St).sto (lvl,key)=lkO key loc from JN]
 generalize lkO key loc=o
 apply propext
 constructor
 ·rintro⟨h1,h2,_,h3⟩
  refine⟨h1,h2,?_⟩
  cases o with
  | none=>exact h3
  | some ob=>cases ob <;> exact h3
 ·rintro⟨h1,h2,h3⟩
  refine⟨h1,h2,trivial,?_⟩
  cases o with
  | none=>exact h3
  | some ob=>cases ob <;> exact h3
theorem Zq7{k2:Nat}{zs:Row}{u2:Bool}{hw2 ver2 len s2:Nat}{st2:St}:sc5 (some (.ar k2 zs u2 hw2 ver2)) k es u hw ver id i f len s2 st2 st K=(s2=hw2/\len=zs.length/\K (Zg st2 id (.ar k (ZG es [] i f (.sl zs)) (u&&u2) hw (ver+1)))):=(rfl)
end sc
theorem Zq8{k n:Nat}{z:List Value}{ps:List (Nat×X)}:Zp C d (.bw k n z ps) ⟨lvl,env,loc,out⟩ K=ew C d ⟨lvl,env,loc,out⟩ K (.bw k n z ps):=JB rfl
def kbw(k lvl:Nat)(d:Option Nat)(K:St->Prop)(ts:List Tr)(u:Bool)(st':St):Prop :=
 K { Zg st' (lvl,keyOf d) (.ar k [ts] u 1 0) with env:=ptd d (.hd (lvl,keyOf d) [] 0 1 none 1) st'.env }
theorem Zq9{k:Nat}{ts:List Tr}{u:Bool}:kbw k lvl d K ts u ⟨lvl,env,loc,out⟩=K ⟨lvl,ptd d (.hd (lvl,keyOf d) [] 0 1 none 1) env,ptO (keyOf d) (.ar k [ts] u 1 0) loc,out⟩:=by
 simp only[kbw,XB]
def bw2(v:Option (List IV))(k n:Nat)(d:Option Nat)(loc:List (Nat×Ob))(lvl:Nat)(st:St)(K:St->Prop):Prop :=
 match v with
 | some l=>n=1/\l.length=k/\freshK (keyOf d) loc 1/\Yp l st (kbw k lvl d K)
 | none=>False
theorem Zra{k n:Nat}{z:List Value}{x:X}:ew C d ⟨lvl,env,loc,out⟩ K (.bw k n z [(0,x)])=bw2 (cellsOf (xv env x)) k n d loc lvl ⟨lvl,env,loc,out⟩ K:=by
 simp only[ew]
 generalize cellsOf (xv env x)=v
 cases v with
 | none=>simp [bw2]
 | some l=>rfl
theorem Zrb{k n:Nat}{l:List IV}:bw2 (some l) k n d loc lvl st K=(n=1/\l.length=k/\freshK (keyOf d) loc 1/\Yp l st (kbw k lvl d K)):=(rfl)
def kmv(r:List IV)(F:List Tr->Bool->St->Prop)(t:Tr)(a:Bool)(st':St):Prop:=Yp r st' fun ts b st'' => F (t::ts) (a&&b) st''
def kmc(t:Tr)(a:Bool)(F:List Tr->Bool->St->Prop)(ts:List Tr)(b:Bool)(st'':St):Prop:=F (t::ts) (a&&b) st''
section mv
variable {r:List IV} {F:List Tr->Bool->St->Prop} {F1:Tr->Bool->St->Prop}
theorem Zrc{t:Tr}{a:Bool}:kmv r F t a st=Yp r st (kmc t a F):=(rfl)
theorem Zrd{t:Tr}{a:Bool}{ts:List Tr}{b:Bool}:kmc t a F ts b st=F (t::ts) (a&&b) st:=(rfl)
theorem Zre:Yp [] st F=F [] true st:=(rfl)
theorem Zrf{x:IV}:Yp (x::r) st F=Qd st x (kmv r F):=(rfl)
theorem Zrg{y:Value}:Qd st (.tr (.v y)) F1=F1 (.v y) true st:=(rfl)
theorem Zrh{es:Row}:Qd st (.tr (.sl es)) F1=F1 (.sl es) false st:=(rfl)
theorem Zri:Qd st (.cs []) F1=F1 (.sl []) true st:=(rfl)
def mv5(o:Option Ob)(len s2:Nat)(st1:St)(F1:Tr->Bool->St->Prop):Prop :=
 match o with
 | some (.ar _ zs u2 hw2 _)=>s2=hw2/\len=zs.length/\F1 (.sl zs) u2 st1
 | _=>False
theorem Zrj{key len s2:Nat}:Qd ⟨lvl,env,loc,out⟩ (.hd (lvl,key) [] 0 len none s2) F1=mv5 (lkO key loc) len s2 (Zn (lvl,key) ⟨lvl,env,loc,out⟩) F1:=by
 simp only[Qd]
 rw[show (⟨lvl,env,loc,out⟩:St).sto (lvl,key)=lkO key loc from JN]
 generalize lkO key loc=o
 apply propext
 constructor
 ·rintro⟨_,h3⟩
  cases o with
  | none=>exact h3
  | some ob=>cases ob <;> exact h3
 ·intro h3
  refine⟨trivial,?_⟩
  cases o with
  | none=>exact h3
  | some ob=>cases ob <;> exact h3
theorem Zrk{k2:Nat}{zs:Row}{u2:Bool}{hw2 ver2 len s2:Nat}:mv5 (some (.ar k2 zs u2 hw2 ver2)) len s2 st F1=(s2=hw2/\len=zs.length/\F1 (.sl zs) u2 st):=(rfl)
end mv
def UW:IV->Prop
 | .hd _ [] 0 _ none _=>True
 | _=>False
theorem Zrl{id:Zd}{len s:Nat}:UW (.hd id [] 0 len none s)=True:=(rfl)
def XD:List IV->Prop
 | []=>True
 | .tr (.v _)::r=>XD r
 | _=>False
theorem Zrm:XD []=True:=(rfl)
theorem Zrn{y:Value}{r:List IV}:XD (.tr (.v y)::r)=XD r:=(rfl)
def smp(p:IV)(l:Option (List IV)):Prop :=
 match p with
 | .ab .. => True
 | .ae .. => l≠some []/\XD (l.getD [])
 | _=>False
theorem Zro{id:Zd}{off:Nat}{l:Option (List IV)}:smp (.ab id off) l=True:=(rfl)
theorem Zrp{id:Zd}{p:Ze}{i f s:Nat}{x:IV}{r:List IV}:smp (.ae id p i f s) (some (x::r))=XD (x::r):=by simp [smp]
theorem ZgI{id:Zd}{p:Ze}{i s k:Nat}{u:Bool}{hw ver:Nat}:∀(l:List IV) (f:Nat) (es:Row) (st0:St) (K:St->Prop),XD l->st0.sto id=some (.ar k es u hw ver)->Yd id p i s f l st0 K->VW p i f l es (fun es' => K (Zg st0 id (.ar k es' u hw ver)))\/l=[]
 | [],f,es,st0,K,_,_,h=>.inr rfl
 | x::r,f,es,st0,K,ha,hs,h=>by
  refine .inl ?_
  simp only[Yd,QJ] at h
  rw[hs] at h
  obtain⟨es',hg,hst,e,hi,t0,hf,h⟩:=h
  cases x with
  | tr t =>
   cases t with
   | v y =>
    obtain⟨hsc,h⟩:=h
    simp only[VW]
    refine⟨es',hg,e,hi,t0,hf,hsc,?_⟩
    have hs1:(Zg st0 id (.ar k (ZG es p i f (.v y)) u hw ver)).sto id=some (.ar k (ZG es p i f (.v y)) u hw ver):=by rw[JY];unfold Zf;rw[if_pos rfl]
    rcases ZgI r (f+1) _ _ K ha hs1 h with g | g
    ·simp only[Zad] at g
     exact g
    ·subst g
     exact h
   | sl=>cases ha
  | _=>cases ha
theorem Zrq{m:Nat}{p x:X}:Zp C d (.s0 m p x) ⟨lvl,env,loc,out⟩ K=(smp (xv env p) (cellsOf (xv env x))/\Zp C d (.st m p x) ⟨lvl,env,loc,out⟩ K):=by
 rw[JB rfl,JB rfl]
 simp only[ew,Ji]
 generalize cellsOf (xv env x)=v
 generalize xv env p=q
 apply propext
 constructor
 ·rintro⟨h0,h⟩
  split at h <;> try contradiction
  rename_i l
  obtain⟨h1,h⟩:=h
  split at h <;> try contradiction
  ·exact⟨trivial,h0,h1,h⟩
  ·rename_i id p i f s
   split at h <;> try contradiction
   rename_i k es u hw ver hs
   obtain⟨g1,g2,g3⟩:=h
   refine⟨⟨by simpa using g1,?_⟩,h0,h1,Zb7 g2 l f es _ K hs g3 (fun e=>absurd e g1)⟩
   have:∀(l:List IV) (f:Nat) (es:Row) (K:Row->Prop),VW p i f l es K->XD l:=by
    intro l
    induction l with
    | nil=>intros;trivial
    | cons x r ih =>
     intro f es K h
     simp only[VW] at h
     obtain⟨_,_,_,_,_,_,_,h⟩:=h
     split at h <;> try contradiction
     exact ih _ _ _ h
   exact this _ _ _ _ g3
 ·rintro⟨h3,h0,h⟩
  refine⟨h0,?_⟩
  split at h <;> try contradiction
  rename_i l
  obtain⟨h1,h⟩:=h
  refine⟨h1,?_⟩
  split at h <;> try contradiction
  ·exact h
  ·rename_i id p i f s
   obtain⟨g1,g2⟩:=h3
   cases l with
   | nil=>exact absurd rfl g1
   | cons y r =>
    have h':=h
    simp only[Yd,QJ] at h'
    split at h' <;> try contradiction
    rename_i k es u hw ver hs
    refine⟨by simp,h'.choose_spec.2.1,?_⟩
    rcases ZgI _ _ _ _ K g2 hs h with g | g
    ·exact g
    ·cases g
theorem Zrr{k:Nat}{x y:X}:Zp C d (.a0 k x y) ⟨lvl,env,loc,out⟩ K=(UW (xv env x)/\Zp C d (.ap k 0 x y) ⟨lvl,env,loc,out⟩ K):=by
 rw[JB rfl,JB rfl]
 apply propext
 constructor
 ·intro he
  refine⟨?_,Zfk he⟩
  simp only[ew,Ji] at he
  split at he <;> try contradiction
  rename_i hx
  rw[hx];trivial
 ·rintro⟨h1,h⟩
  generalize hq:xv env x=q at h1
  unfold UW at h1
  split at h1 <;> try contradiction
  rename_i id len s
  have go:∀ items:Row,ScR items->Z7 d k x loc items true ⟨lvl,env,loc,out⟩ K->match Zw lvl loc out id with
   | some (.ar k' es u hw ver)=>k'=k/\s=hw/\len=es.length/\ScR items/\Zu k items/\len+items.length<=bigN /\
     K { Zg ⟨lvl,env,loc,out⟩ id (.ar k (es++items) u (max hw (len+items.length)) ver) with env:=ptd d (.hd id [] 0 (len+items.length) none (max hw (len+items.length))) env }
   | _=>False:=fun items hsc h=>by
   unfold Z7 at h
   obtain⟨g1,h⟩:=h
   simp only[hq] at h
   rw[show (⟨lvl,env,loc,out⟩:St).sto id=Zw lvl loc out id from rfl] at h
   generalize Zw lvl loc out id=o at h ⊢
   cases o with
   | none=>exact h
   | some ob =>
    cases ob with
    | bx=>exact h
    | ar k' es u hw ver =>
     simp only[Ubt] at h
     exact⟨h.1,h.2.1,h.2.2.1,hsc,g1,h.2.2.2.1,h.2.2.2.2⟩
  simp only[ew,Ji,YH] at h ⊢
  rw[hq]
  rw[show (⟨lvl,env,loc,out⟩:St).sto=Zw lvl loc out from rfl] at *
  split at h <;> try contradiction
  ·rename_i zs hy
   simp only[if_true] at h
   have:=go zs h.1 h.2
   rw[hy]
   exact this
  ·rename_i zs hy
   simp only[if_true] at h
   have:=go zs h.1 h.2
   rw[hy]
   exact this
  ·rename_i id2 p2 off2 len2 c2 s2 hy
   simp only[if_true] at h
   rw[hy]
   dsimp only
   unfold Jr at h ⊢
   generalize Zw lvl loc out id2=o3 at h ⊢
   cases o3 with
   | none=>exact h.elim
   | some ob3 =>
    cases ob3 with
    | bx=>exact h.elim
    | ar k3 es3 u3 hw3 ver3 =>
     obtain⟨es',q1,q2,q3,q4,q5⟩:=h
     have:=go _ q4 q5
     split at this <;> try contradiction
     rename_i hs
     show (match Zw lvl loc out id with
      | some (.ar k' es u hw ver)=>k'=k/\s=hw/\len=es.length/\∃ es',getp es3 p2=some es'/\JA p2 s2 hw3 ver3 u3/\off2+len2<=es'.length/\ScR (cut es' off2 len2)/\Zu k (cut es' off2 len2)/\len+(cut es' off2 len2).length<=bigN /\
        K { Zg ⟨lvl,env,loc,out⟩ id (.ar k (es++cut es' off2 len2) u (max hw (len+(cut es' off2 len2).length)) ver) with env:=ptd d (.hd id [] 0 (len+(cut es' off2 len2).length) none (max hw (len+(cut es' off2 len2).length))) env }
      | _=>False)
     rw[hs]
     exact⟨this.1,this.2.1,this.2.2.1,es',q1,q2,q3,this.2.2.2⟩
  ·exact absurd h.1 (by decide)
def ZaA:IV->Prop
 | .tr (.sl _)=>True
 | .cs _=>True
 | _=>False
theorem Zrs{es:Row}:ZaA (.tr (.sl es))=True:=(rfl)
theorem Zrt{es:Row}:ZaA (.cs es)=True:=(rfl)
theorem Zru{k:Nat}{x y:X}:Zp C d (.a1 k x y) ⟨lvl,env,loc,out⟩ K=(UW (xv env x)/\ZaA (xv env y)/\Zp C d (.ap k 1 x y) ⟨lvl,env,loc,out⟩ K):=by
 rw[JB rfl,JB rfl]
 apply propext
 constructor
 ·intro he
  refine⟨?_,?_,Zfl he⟩
  ·simp only[ew,Ji] at he
   split at he <;> try contradiction
   rename_i hx
   rw[hx];trivial
  ·simp only[ew,Ji] at he
   split at he <;> try contradiction
   split at he <;> try contradiction
   have h4:=he.2.2.2
   unfold Wx at h4
   split at h4 <;> try contradiction
   ·rename_i hy;rw[hy];trivial
   ·rename_i hy;rw[hy];trivial
 ·rintro⟨h1,h2,h⟩
  generalize hq:xv env x=q at h1
  unfold UW at h1
  split at h1 <;> try contradiction
  rename_i id len s
  have go:∀ items:Row,Z7 d k x loc items false ⟨lvl,env,loc,out⟩ K->match Zw lvl loc out id with
   | some (.ar k' es u hw ver)=>k'=k/\s=hw/\len=es.length/\Zu k items/\len+items.length<=bigN /\
     K { Zg ⟨lvl,env,loc,out⟩ id (.ar k (es++items) false (max hw (len+items.length)) ver) with env:=ptd d (.hd id [] 0 (len+items.length) none (max hw (len+items.length))) env }
   | _=>False:=fun items h=>by
   unfold Z7 at h
   obtain⟨g1,h⟩:=h
   simp only[hq] at h
   rw[show (⟨lvl,env,loc,out⟩:St).sto id=Zw lvl loc out id from rfl] at h
   generalize Zw lvl loc out id=o at h ⊢
   cases o with
   | none=>exact h
   | some ob =>
    cases ob with
    | bx=>exact h
    | ar k' es u hw ver =>
     simp only[Bool.and_false] at h
     exact⟨h.1,h.2.1,h.2.2.1,g1,h.2.2.2.1,h.2.2.2.2⟩
  simp only[ew,Ji,Wx] at h ⊢
  rw[hq]
  rw[show (⟨lvl,env,loc,out⟩:St).sto=Zw lvl loc out from rfl] at *
  generalize hy:xv env y=yv at h h2 ⊢
  unfold ZaA at h2
  split at h2 <;> try contradiction
  ·simp only[Nat.reduceEqDiff,if_false,true_and] at h
   exact go _ h
  ·simp only[Nat.reduceEqDiff,if_false,true_and] at h
   exact go _ h
def az1(x n:IV)(d:Option Nat)(k:Nat)(z:List Value)(st:St)(K:St->Prop):Prop :=
 match x with
 | .cs [] =>
  match n with
  | .tr (.v (.int .i64 m))=>0<m/\m<=bigN/\freshK (keyOf d) st.loc 1 /\
    K { Zg st (st.lvl,keyOf d) (.ar k (List.replicate m.toNat (z.map trv)) true m.toNat 0) with env:=ptd d (.hd (st.lvl,keyOf d) [] 0 m.toNat none m.toNat) st.env }
  | _=>False
 | _=>False
theorem Zrv{k:Nat}{z:List Value}{x n:X}:Zp C d (.az k z x n) ⟨lvl,env,loc,out⟩ K=az1 (xv env x) (xv env n) d k z ⟨lvl,env,loc,out⟩ K:=by
 rw[JB rfl]
 rfl
theorem Zrw{k:Nat}{z:List Value}{m:Int}:az1 (.cs []) (.tr (.v (.int .i64 m))) d k z ⟨lvl,env,loc,out⟩ K=(0<m/\m<=bigN/\freshK (keyOf d) loc 1/\K ⟨lvl,ptd d (.hd (lvl,keyOf d) [] 0 m.toNat none m.toNat) env,ptO (keyOf d) (.ar k (List.replicate m.toNat (z.map trv)) true m.toNat 0) loc,out⟩):=by
 simp only[az1,XB]
def tbx:IV->Prop
 | .ta _=>True
 | _=>False
theorem Zrx{cells:List Tr}:tbx (.ta cells)=True:=(rfl)
theorem Zry{m:Option Nat}{p:X}:Zp C d (.lt m p) ⟨lvl,env,loc,out⟩ K=(tbx (xv env p)/\Zp C d (.ld m p) ⟨lvl,env,loc,out⟩ K):=by
 cases m <;> (
  rw[JM rfl,JM rfl]
  simp only[ev]
  generalize hx:xv env p=q
  cases q <;> simp [tbx])
def av4(o:Option Ob)(id:Zd)(es:Row)(hw ver len off2 len2 s2 k:Nat)(d:Option Nat)(st:St)(K:St->Prop):Prop :=
 match o with
 | some (.ar _ es2 false hw2 _)=>s2=hw2/\off2+len2<=es2.length/\Zu k (cut es2 off2 len2)/\len+(cut es2 off2 len2).length<=bigN /\
   K { Zg st id (.ar k (es++cut es2 off2 len2) false (max hw (len+(cut es2 off2 len2).length)) ver) with env:=ptd d (.hd id [] 0 (len+(cut es2 off2 len2).length) none (max hw (len+(cut es2 off2 len2).length))) st.env }
 | _=>False
def av3(y:IV)(id:Zd)(es:Row)(hw ver len k:Nat)(d:Option Nat)(st:St)(K:St->Prop):Prop :=
 match y with
 | .hd id2 [] off2 len2 _ s2=>av4 (st.sto id2) id es hw ver len off2 len2 s2 k d st K
 | _=>False
def av2(o:Option Ob)(y:IV)(id:Zd)(len s k:Nat)(d:Option Nat)(st:St)(K:St->Prop):Prop :=
 match o with
 | some (.ar k' es _ hw ver)=>k'=k/\s=hw/\len=es.length/\av3 y id es hw ver len k d st K
 | _=>False
def av1(x y:IV)(k:Nat)(d:Option Nat)(st:St)(K:St->Prop):Prop :=
 match x with
 | .hd id [] 0 len none s=>av2 (st.sto id) y id len s k d st K
 | _=>False
theorem Zrz{k:Nat}{x y:X}:Zp C d (.a2 k x y) ⟨lvl,env,loc,out⟩ K=av1 (xv env x) (xv env y) k d ⟨lvl,env,loc,out⟩ K:=by
 rw[JB rfl]
 rfl
theorem ZrA{id:Zd}{len s k:Nat}{y:IV}:av1 (.hd id [] 0 len none s) y k d ⟨lvl,env,loc,out⟩ K=av2 (Zw lvl loc out id) y id len s k d ⟨lvl,env,loc,out⟩ K:=(rfl)
theorem ZrB{k' hw ver len s k:Nat}{es:Row}{u:Bool}{y:IV}{id:Zd}:av2 (some (.ar k' es u hw ver)) y id len s k d st K=(k'=k/\s=hw/\len=es.length/\av3 y id es hw ver len k d st K):=(rfl)
theorem ZrC{id id2:Zd}{es:Row}{hw ver len k off2 len2 s2:Nat}{c2:Option Nat}:av3 (.hd id2 [] off2 len2 c2 s2) id es hw ver len k d ⟨lvl,env,loc,out⟩ K=av4 (Zw lvl loc out id2) id es hw ver len off2 len2 s2 k d ⟨lvl,env,loc,out⟩ K:=(rfl)
theorem ZrD{key:Nat}{es es2:Row}{k2 hw ver len off2 len2 s2 k hw2 ver2:Nat}:av4 (some (.ar k2 es2 false hw2 ver2)) (lvl,key) es hw ver len off2 len2 s2 k d ⟨lvl,env,loc,out⟩ K=(s2=hw2/\off2+len2<=es2.length/\Zu k (cut es2 off2 len2)/\len+(cut es2 off2 len2).length<=bigN /\
   K ⟨lvl,ptd d (.hd (lvl,key) [] 0 (len+(cut es2 off2 len2).length) none (max hw (len+(cut es2 off2 len2).length))) env,ptO key (.ar k (es++cut es2 off2 len2) false (max hw (len+(cut es2 off2 len2).length)) ver) loc,out⟩):=by
 simp only[av4,XB]
def abx:IV->Prop
 | .ab .. => True
 | _=>False
theorem ZrE{id:Zd}{off:Nat}:abx (.ab id off)=True:=(rfl)
theorem ZrF{m:Option Nat}{p:X}:Zp C d (.lb m p none) ⟨lvl,env,loc,out⟩ K=(abx (xv env p)/\Zp C d (.ld m p) ⟨lvl,env,loc,out⟩ K):=by
 cases m <;> (
  rw[JM rfl,JM rfl]
  simp only[ev,Y3]
  generalize hx:xv env p=q
  cases q <;> simp [abx])
theorem ZrG{l i j:Nat}{a b:Nat}:Y2 (.ab (l,i) a) (.ab (l,j) b)=((i=j)=False):=by
 simp [Y2]
theorem ZrH{m:Option Nat}{p:X}{q:Nat}:Zp C d (.lb m p (some q)) ⟨lvl,env,loc,out⟩ K=(Y2 (xv env p) (xv env (.t q))/\Zp C d (.ld m p) ⟨lvl,env,loc,out⟩ K):=by
 cases m <;> (
  rw[JM rfl,JM rfl]
  simp only[ev,Y3]
  generalize hx:xv env p=q
  generalize hy:xv env (.t _)=y
  cases q <;> cases y <;> simp [Y2])
def VJ:IV->Prop
 | .tr (.sl _)=>True
 | .cs _=>True
 | _=>False
theorem ZrI{es:Row}:VJ (.tr (.sl es))=True:=(rfl)
theorem ZrJ{es:Row}:VJ (.cs es)=True:=(rfl)
theorem ZrK{k:Nat}{x:X}{lo hi mx:Option X}:Zp C d (.sy k x lo hi mx) ⟨lvl,env,loc,out⟩ K=(VJ (xv env x)/\Zp C d (.sx k x lo hi mx) ⟨lvl,env,loc,out⟩ K):=by
 rw[JM rfl,JM rfl]
 simp only[ev]
 generalize hx:xv env x=q
 cases q with
 | tr t =>
  cases t with
  | v=>simp [VJ]
  | sl es=>simp only[VJ,true_and]
 | cs es=>simp only[VJ,true_and]
 | _=>simp only[VJ,false_and]
def Qs(L:Zc)(k:Nat):IV->Prop
 | .tr (.sl _)=>True
 | .cs _=>True
 | .hd id [] _ _ _ _=>Js L id [] k
 | _=>False
theorem ZrL{L:Zc}{k:Nat}{es:Row}:Qs L k (.tr (.sl es))=True:=(rfl)
theorem ZrM{L:Zc}{k:Nat}{es:Row}:Qs L k (.cs es)=True:=(rfl)
theorem ZrN{L:Zc}{k:Nat}{id:Zd}{off len s:Nat}{cap:Option Nat}:Qs L k (.hd id [] off len cap s)=Js L id [] k:=(rfl)
def ZgJ(m:Nat):Option Ob->Prop
 | some (.ar k _ _ _ _)=>k=m
 | _=>False
theorem ZrO{m k hw ver:Nat}{es:Row}{u:Bool}:ZgJ m (some (.ar k es u hw ver))=(k=m):=(rfl)
theorem ZrP{key m:Nat}:Js (Zw lvl loc out) (lvl,key) [] m=ZgJ m (lkO key loc):=by
 unfold Js
 rw[JN]
 cases lkO key loc with
 | none=>rfl
 | some ob=>cases ob <;> rfl
theorem ZrQ{k:Nat}{x:X}{lo hi mx:Option X}:Zp C d (.sw k x lo hi mx) ⟨lvl,env,loc,out⟩ K=(Qs (Zw lvl loc out) k (xv env x)/\Zp C d (.sx k x lo hi mx) ⟨lvl,env,loc,out⟩ K):=by
 rw[JM rfl,JM rfl]
 simp only[ev]
 generalize xv env x=q
 cases q with
 | tr t =>
  cases t with
  | v=>simp [Qs]
  | sl es=>simp only[Qs,true_and]
 | cs es=>simp only[Qs,true_and]
 | hd id p off len cap s =>
  cases p with
  | nil =>
   simp only[Qs]
   exact propext ⟨fun⟨hw,h⟩=>⟨hw,QX (fun a h=>QX (fun b h=>⟨h.1,h.2.1,QX (fun m g=>⟨g.1,g.2.1,hw,g.2.2⟩) h.2.2⟩) h) h⟩,fun⟨hw,h⟩=>⟨hw,QX (fun a h=>QX (fun b h=>⟨h.1,h.2.1,QX (fun m g=>⟨g.1,g.2.1,g.2.2.2⟩) h.2.2⟩) h) h⟩⟩
  | cons c r=>simp [Qs]
 | _=>simp [Qs]
theorem ZrR{k:Nat}{x i:X}:Zp C d (.it k x i) ⟨lvl,env,loc,out⟩ K=(VJ (xv env x)/\Zp C d (.ia k x i) ⟨lvl,env,loc,out⟩ K):=by
 rw[JM rfl,JM rfl]
 simp only[ev]
 generalize xv env x=q
 generalize xv env i=qi
 cases q with
 | tr t =>
  cases t with
  | v=>simp only[VJ,false_and];split <;> simp
  | sl es=>simp only[VJ,true_and]
 | cs es=>simp only[VJ,true_and]
 | _=>simp only[VJ,false_and];split <;> simp
def UX(v:IV)(d:Option Nat)(k:Nat)(loc0:List (Nat×Ob))(items:Row)(ui:Bool)(st1:St)(K:St->Prop):Prop :=
 Zu k items /\
 match v with
 | .cs zs=>(zs=[]\/items≠[])/\zs.length+items.length<=bigN/\Zu k zs/\freshK (keyOf d) loc0 1/\(zs=[]\/ui=false\/ScR zs) /\
  K { Zg st1 (st1.lvl,keyOf d) (.ar k (zs++items) ui (zs.length+items.length) 0) with env:=ptd d (.hd (st1.lvl,keyOf d) [] 0 (zs.length+items.length) none (zs.length+items.length)) st1.env }
 | .hd id [] 0 len none s =>
  match st1.sto id with
  | some (.ar k' es u hw ver)=>k'=k/\s=hw/\len=es.length/\len+items.length<=bigN /\
   K { Zg st1 id (.ar k (es++items) (u&&ui) (max hw (len+items.length)) ver) with env:=ptd d (.hd id [] 0 (len+items.length) none (max hw (len+items.length))) st1.env }
  | _=>False
 | _=>False
theorem ZrS{k:Nat}{x:X}{loc0:List (Nat×Ob)}{items:Row}{ui:Bool}:Z7 d k x loc0 items ui ⟨lvl,env,loc,out⟩ K=UX (xv env x) d k loc0 items ui ⟨lvl,env,loc,out⟩ K:=(rfl)
theorem ZrT{k:Nat}{loc0:List (Nat×Ob)}{items zs:Row}{ui:Bool}:UX (.cs zs) d k loc0 items ui ⟨lvl,env,loc,out⟩ K=(Zu k items/\(zs=[]\/items≠[])/\zs.length+items.length<=bigN/\Zu k zs/\freshK (keyOf d) loc0 1/\(zs=[]\/ui=false\/ScR zs) /\
  K ⟨lvl,ptd d (.hd (lvl,keyOf d) [] 0 (zs.length+items.length) none (zs.length+items.length)) env,ptO (keyOf d) (.ar k (zs++items) ui (zs.length+items.length) 0) loc,out⟩):=by
 simp only[UX,XB]
def aph(o:Option Ob)(d:Option Nat)(k:Nat)(id:Zd)(len s:Nat)(items:Row)(ui:Bool)(st1:St)(K:St->Prop):Prop :=
 match o with
 | some (.ar k' es u hw ver)=>k'=k/\s=hw/\len=es.length/\len+items.length<=bigN /\
   K { Zg st1 id (.ar k (es++items) (u&&ui) (max hw (len+items.length)) ver) with env:=ptd d (.hd id [] 0 (len+items.length) none (max hw (len+items.length))) st1.env }
 | _=>False
theorem ZrU{k key len s:Nat}{loc0:List (Nat×Ob)}{items:Row}{ui:Bool}:UX (.hd (lvl,key) [] 0 len none s) d k loc0 items ui ⟨lvl,env,loc,out⟩ K=(Zu k items/\aph (lkO key loc) d k (lvl,key) len s items ui ⟨lvl,env,loc,out⟩ K):=by
 simp only[UX]
 rw[show (⟨lvl,env,loc,out⟩:St).sto (lvl,key)=lkO key loc from JN]
 rfl
theorem ZrV{k k' key len s:Nat}{items es:Row}{u ui:Bool}{hw ver:Nat}:aph (some (.ar k' es u hw ver)) d k (lvl,key) len s items ui ⟨lvl,env,loc,out⟩ K=(k'=k/\s=hw/\len=es.length/\len+items.length<=bigN /\
   K ⟨lvl,ptd d (.hd (lvl,key) [] 0 (len+items.length) none (max hw (len+items.length))) env,ptO key (.ar k (es++items) (u&&ui) (max hw (len+items.length)) ver) loc,out⟩):=by
 simp only[aph,XB]
def VK(C:Zz)(d:Option Nat)(k md:Nat)(x:X)(y:IV)(st:St)(K:St->Prop):Prop :=
 match y with
 | .tr (.sl es)=>if md=0 then ScR es/\Z7 d k x st.loc es true st K else md=1/\Z7 d k x st.loc es false st K
 | .cs es=>if md=0 then ScR es/\Z7 d k x st.loc es true st K else md=1/\Z7 d k x st.loc es false st K
 | .hd id2 p2 off2 len2 c2 s2 =>
   if md=2 then
    p2=[]/\off2=0/\c2=none/\id2.1=st.lvl /\
    match st.sto id2 with
    | some (.ar _ zs u2 hw2 _)=>s2=hw2/\len2=zs.length/\Z7 d k x st.loc zs u2 (Zn id2 st) K
    | _=>False
   else if md=0 then
    Jr st.sto id2 p2 s2 fun es _ _=>off2+len2<=es.length/\ScR (cut es off2 len2)/\Z7 d k x st.loc (cut es off2 len2) true st K
   else md=1/\p2=[] /\
    match st.sto id2 with
    | some (.ar k2 es _ hw2 ver2)=>s2=hw2/\off2+len2<=es.length/\Z7 d k x st.loc (cut es off2 len2) false (Zg st id2 (.ar k2 es false hw2 ver2)) K
    | _=>False
 | .sv id2=>md=2/\id2.1=st.lvl /\
   match st.sto id2 with
   | some (.bx l)=>l.length=k/\Yp l st fun ts u st' => Z7 d k x st.loc [ts] u (Zn id2 st') K
   | _=>False
 | _=>False
theorem ZrW{k md:Nat}{x y:X}:Zp C d (.ap k md x y) ⟨lvl,env,loc,out⟩ K=VK C d k md x (xv env y) ⟨lvl,env,loc,out⟩ K:=by
 rw[JB rfl]
 rfl
theorem ZrX{k:Nat}{x y:X}:Zp C d (.a4 k x y) ⟨lvl,env,loc,out⟩ K=(Qe lvl (keyOf d) (Zw lvl loc out) (xv env x) (xv env y)/\Zp C d (.ap k 2 x y) ⟨lvl,env,loc,out⟩ K):=by
 rw[JB rfl,JB rfl]
 apply propext
 constructor
 ·intro h
  simp only[ew] at h
  exact⟨h.1,Zfm h.2⟩
 ·rintro⟨h1,h2⟩
  have h0:=h1
  unfold Qe at h1
  split at h1 <;> try contradiction
  split at h1 <;> try contradiction
  rename_i hy
  simp only[ew,hy] at h2
  simp only[ew]
  refine⟨h0,?_⟩
  unfold QK
  simp only[hy]
  exact h2.2
theorem ZrY{i j kd off len s:Nat}{p:Ze}{cap:Option Nat}{L:Zc}:Qe lvl kd L (.hd (lvl,i) p off len cap s) (.sv (lvl,j))=(i<kd/\j<kd/\((i=j)=False)/\Wy lvl kd (lvl,i) (L (lvl,j))):=by
 simp [Qe]
theorem ZrZ{i r kd off len s:Nat}{p:Ze}{cap:Option Nat}:Wy lvl kd (lvl,i) (some (.bx [.hd (lvl,r) p off len cap s]))=(r<kd/\((i=r)=False)):=by
 simp [Wy]
section ap
variable {k:Nat} {x:X}
theorem Zr0{es:Row}:VK C d k 0 x (.tr (.sl es)) ⟨lvl,env,loc,out⟩ K=(ScR es/\Z7 d k x loc es true ⟨lvl,env,loc,out⟩ K):=(rfl)
theorem Zr1{es:Row}:VK C d k 1 x (.tr (.sl es)) ⟨lvl,env,loc,out⟩ K=Z7 d k x loc es false ⟨lvl,env,loc,out⟩ K:=by simp [VK]
theorem Zr2{es:Row}:VK C d k 0 x (.cs es) ⟨lvl,env,loc,out⟩ K=(ScR es/\Z7 d k x loc es true ⟨lvl,env,loc,out⟩ K):=(rfl)
theorem Zr3{es:Row}:VK C d k 1 x (.cs es) ⟨lvl,env,loc,out⟩ K=Z7 d k x loc es false ⟨lvl,env,loc,out⟩ K:=by simp [VK]
def kap(d:Option Nat)(k:Nat)(x:X)(off2 len2:Nat)(st:St)(K:St->Prop)(es:Row)(_u:Bool)(_v:Nat):Prop:=off2+len2<=es.length/\ScR (cut es off2 len2)/\Z7 d k x st.loc (cut es off2 len2) true st K
theorem Zr4{off2 len2:Nat}{es:Row}{u:Bool}{v:Nat}:kap d k x off2 len2 ⟨lvl,env,loc,out⟩ K es u v=(off2+len2<=es.length/\ScR (cut es off2 len2)/\Z7 d k x loc (cut es off2 len2) true ⟨lvl,env,loc,out⟩ K):=(rfl)
theorem Zr5{id2:Zd}{p2:Ze}{off2 len2 s2:Nat}{c2:Option Nat}:VK C d k 0 x (.hd id2 p2 off2 len2 c2 s2) ⟨lvl,env,loc,out⟩ K=Y9 (Zw lvl loc out id2) p2 s2 (kap d k x off2 len2 ⟨lvl,env,loc,out⟩ K):=by
 rw[<-XA]
 rfl
def ap5(o:Option Ob)(d:Option Nat)(k:Nat)(x:X)(len2 s2:Nat)(loc0:List (Nat×Ob))(st1:St)(K:St->Prop):Prop :=
 match o with
 | some (.ar _ zs u2 hw2 _)=>s2=hw2/\len2=zs.length/\Z7 d k x loc0 zs u2 st1 K
 | _=>False
theorem Zr6{key:Nat}{p2:Ze}{off2 len2 s2:Nat}{c2:Option Nat}:VK C d k 2 x (.hd (lvl,key) p2 off2 len2 c2 s2) ⟨lvl,env,loc,out⟩ K=(p2=[]/\off2=0/\c2=none/\ap5 (lkO key loc) d k x len2 s2 loc (Zn (lvl,key) ⟨lvl,env,loc,out⟩) K):=by
 simp only[VK,if_true]
 rw[show (⟨lvl,env,loc,out⟩:St).sto (lvl,key)=lkO key loc from JN]
 generalize lkO key loc=o
 apply propext
 constructor
 ·rintro⟨h1,h2,h3,_,h5⟩
  refine⟨h1,h2,h3,?_⟩
  cases o with
  | none=>exact h5
  | some ob=>cases ob <;> exact h5
 ·rintro⟨h1,h2,h3,h5⟩
  refine⟨h1,h2,h3,trivial,?_⟩
  cases o with
  | none=>exact h5
  | some ob=>cases ob <;> exact h5
theorem Zr7{k2:Nat}{zs:Row}{u2:Bool}{hw2 ver2 len2 s2:Nat}{loc0:List (Nat×Ob)}{st1:St}:ap5 (some (.ar k2 zs u2 hw2 ver2)) d k x len2 s2 loc0 st1 K=(s2=hw2/\len2=zs.length/\Z7 d k x loc0 zs u2 st1 K):=(rfl)
def ZcJ(d:Option Nat)(k:Nat)(x:X)(loc0:List (Nat×Ob))(id2:Zd)(K:St->Prop)(ts:List Tr)(u:Bool)(st':St):Prop:=Z7 d k x loc0 [ts] u (Zn id2 st') K
theorem Zr8{loc0:List (Nat×Ob)}{id2:Zd}{ts:List Tr}{u:Bool}:ZcJ d k x loc0 id2 K ts u st=Z7 d k x loc0 [ts] u (Zn id2 st) K:=(rfl)
def aps(o:Option Ob)(d:Option Nat)(k:Nat)(x:X)(loc0:List (Nat×Ob))(id2:Zd)(st1:St)(K:St->Prop):Prop :=
 match o with
 | some (.bx l)=>l.length=k/\Yp l st1 (ZcJ d k x loc0 id2 K)
 | _=>False
theorem Zr9{l:List IV}{loc0:List (Nat×Ob)}{id2:Zd}{st1:St}:aps (some (.bx l)) d k x loc0 id2 st1 K=(l.length=k/\Yp l st1 (ZcJ d k x loc0 id2 K)):=(rfl)
theorem Zsa{key:Nat}:VK C d k 2 x (.sv (lvl,key)) ⟨lvl,env,loc,out⟩ K=aps (lkO key loc) d k x loc (lvl,key) ⟨lvl,env,loc,out⟩ K:=by
 simp only[VK]
 rw[show (⟨lvl,env,loc,out⟩:St).sto (lvl,key)=lkO key loc from JN]
 generalize lkO key loc=o
 apply propext
 constructor
 ·rintro⟨_,_,h⟩
  cases o with
  | none=>exact h
  | some ob=>cases ob <;> exact h
 ·intro h
  refine⟨trivial,trivial,?_⟩
  cases o with
  | none=>exact h
  | some ob=>cases ob <;> exact h
end ap
theorem ZcK{L:Zc}{F:List IV->Prop}:∀{l:List Tr},ZM L (l.map .tr) F=F (l.map .tr)
 | []=>ZcE
 | t::r=>by rw[Uay,ZgA,ZcK,Zgw]
theorem ZaB{Pd:Zd->Prop}:∀{l:List Tr},Za Pd (l.map .tr)=True
 | []=>rfl
 | t::r=>by simp only[Uay,Za,men,ZaB,and_self]
def nlf(v:IV)(neg:Bool)(lvl:Nat)(env:List (Nat×IV))(loc:List (Nat×Ob))(out:Zc)(d:Option Nat)(K:St->Prop):Prop :=
 match v with
 | .tr (.sl es)=>K ⟨lvl,ptd d (iB neg) env,loc,out⟩/\(es=[]->K ⟨lvl,ptd d (iB !neg) env,loc,out⟩)
 | .cs es=>K ⟨lvl,ptd d (iB neg) env,loc,out⟩/\(es=[]->K ⟨lvl,ptd d (iB !neg) env,loc,out⟩)
 | _=>False
theorem Zsb{C:Zz}{d:Option Nat}{neg:Bool}{x:X}{lvl:Nat}{env:List (Nat×IV)}{loc:List (Nat×Ob)}{out:Zc}{K:St->Prop}:Zp C d (.nl neg x) ⟨lvl,env,loc,out⟩ K=nlf (xv env x) neg lvl env loc out d K:=by
 rw[JB rfl]
 rfl
theorem Zsc{neg:Bool}{es:Row}{d:Option Nat}{lvl:Nat}{env:List (Nat×IV)}{loc:List (Nat×Ob)}{out:Zc}{K:St->Prop}:nlf (.tr (.sl es)) neg lvl env loc out d K=(K ⟨lvl,ptd d (iB neg) env,loc,out⟩/\(es=[]->K ⟨lvl,ptd d (iB !neg) env,loc,out⟩)):=(rfl)
theorem Zsd{neg:Bool}{es:Row}{d:Option Nat}{lvl:Nat}{env:List (Nat×IV)}{loc:List (Nat×Ob)}{out:Zc}{K:St->Prop}:nlf (.cs es) neg lvl env loc out d K=(K ⟨lvl,ptd d (iB neg) env,loc,out⟩/\(es=[]->K ⟨lvl,ptd d (iB !neg) env,loc,out⟩)):=(rfl)
section row
variable {C:Zz} {d:Option Nat} {x y hi:X} {lvl:Nat} {env:List (Nat×IV)} {loc:List (Nat×Ob)} {out:Zc} {K:St->Prop} {st:St}
def Ys(d:Option Nat)(x:IV)(st:St)(K:St->Prop):Prop:=K { st with env:=ptd d x st.env }
theorem Zse{v:IV}:Ys d v ⟨lvl,env,loc,out⟩ K=K ⟨lvl,ptd d v env,loc,out⟩:=(rfl)
theorem ZaC{v:IV}{id:Zd}{ob:Ob}:Ys d v (Zg st id ob) K=K { Zg st id ob with env:=ptd d v st.env }:=by
 unfold Ys
 rw[Xp]
def cpf(v:IV)(lvl:Nat)(env:List (Nat×IV))(loc:List (Nat×Ob))(out:Zc)(d:Option Nat)(K:St->Prop):Prop :=
 match v with
 | .cs es=>K ⟨lvl,ptd d (iI es.length) env,loc,out⟩
 | _=>False
theorem Zsf:Zp C d (.cp x) ⟨lvl,env,loc,out⟩ K=cpf (xv env x) lvl env loc out d K:=by
 rw[JB rfl]
 rfl
theorem Zsg{es:Row}:cpf (.cs es) lvl env loc out d K=K ⟨lvl,ptd d (iI es.length) env,loc,out⟩:=(rfl)
def shg(o:Option Ob)(id:Zd)(m:Int)(len s k:Nat)(d:Option Nat)(st:St)(K:St->Prop):Prop :=
 match o with
 | some (.ar k2 es u hw ver)=>k2=k/\s=hw/\0<=m/\m.toNat<=len/\len<=es.length/\Ys d (.hd id [] 0 m.toNat none hw) (Zg st id (.ar k2 (es.take m.toNat) u hw (ver+1))) K
 | _=>False
def UY(v hv:IV)(k:Nat)(d:Option Nat)(st:St)(K:St->Prop):Prop :=
 match v with
 | .cs es =>
  match hv with
  | .tr (.v (.int _ m))=>m=es.length/\Zu k es/\Ys d (.cs es) st K
  | _=>False
 | .hd id p off len cap s =>
  match hv with
  | .tr (.v (.int _ m))=>p=[]/\off=0/\cap=none/\shg (st.sto id) id m len s k d st K
  | _=>False
 | _=>False
theorem Zsh{k:Nat}:Zp C d (.sh k x hi) ⟨lvl,env,loc,out⟩ K=UY (xv env x) (xv env hi) k d ⟨lvl,env,loc,out⟩ K:=by
 rw[JB rfl]
 simp only[ew]
 generalize xv env x=v
 cases v <;> try rfl
 rename_i id p off len cap s
 generalize xv env hi=hv
 cases hv <;> try rfl
 rename_i t
 cases t <;> try rfl
 rename_i q
 cases q <;> try rfl
 simp only[UY,shg]
 generalize (⟨lvl,env,loc,out⟩:St).sto id=o
 cases o with
 | none=>simp
 | some ob =>
  cases ob with
  | bx=>simp
  | ar k2 es u hw ver=>simp only[ZaC]
theorem Zsi{id:Zd}{len s k:Nat}{kk:IntKind}{m:Int}:UY (.hd id [] 0 len none s) (.tr (.v (.int kk m))) k d ⟨lvl,env,loc,out⟩ K=shg (Zw lvl loc out id) id m len s k d ⟨lvl,env,loc,out⟩ K:=by
 simp only[UY,true_and]
 rfl
theorem Zsj{es:Row}{k:Nat}{kk:IntKind}{m:Int}:UY (.cs es) (.tr (.v (.int kk m))) k d ⟨lvl,env,loc,out⟩ K=(m=es.length/\Zu k es/\Ys d (.cs es) ⟨lvl,env,loc,out⟩ K):=(rfl)
theorem Zsk{id:Zd}{len s k k2 hw ver:Nat}{es:Row}{u:Bool}{m:Int}:shg (some (.ar k2 es u hw ver)) id m len s k d st K=(k2=k/\s=hw/\0<=m/\m.toNat<=len/\len<=es.length/\Ys d (.hd id [] 0 m.toNat none hw) (Zg st id (.ar k2 (es.take m.toNat) u hw (ver+1))) K):=(rfl)
def fzg(o:Option Ob)(len s:Nat)(d:Option Nat)(st1:St)(K:St->Prop):Prop :=
 match o with
 | some (.ar _ zs _ hw _)=>s=hw/\len=zs.length/\Ys d (.tr (.sl zs)) st1 K
 | _=>False
def fzf(v:IV)(d:Option Nat)(st:St)(K:St->Prop):Prop :=
 match v with
 | .hd id [] 0 len none s=>id.1=st.lvl/\fzg (st.sto id) len s d (Zn id st) K
 | _=>False
theorem Zsl:Zp C d (.fz x) ⟨lvl,env,loc,out⟩ K=fzf (xv env x) d ⟨lvl,env,loc,out⟩ K:=by
 rw[JB rfl]
 simp only[ew]
 generalize xv env x=v
 unfold fzf
 split
 ·rename_i id len s
  simp only[fzg]
  generalize (⟨lvl,env,loc,out⟩:St).sto id=o
  cases o with
  | none=>rfl
  | some ob=>cases ob <;> rfl
 ·rename_i hv
  split
  ·exact(hv _ _ _ rfl).elim
  ·rfl
theorem Zsm{key len s:Nat}:fzf (.hd (lvl,key) [] 0 len none s) d ⟨lvl,env,loc,out⟩ K=fzg (lkO key loc) len s d (Zn (lvl,key) ⟨lvl,env,loc,out⟩) K:=by
 simp only[fzf,true_and]
 rw[show (⟨lvl,env,loc,out⟩:St).sto (lvl,key)=lkO key loc from JN]
theorem Zsn{len s k hw ver:Nat}{zs:Row}{u:Bool}:fzg (some (.ar k zs u hw ver)) len s d st K=(s=hw/\len=zs.length/\Ys d (.tr (.sl zs)) st K):=(rfl)
def drp(o:Option Ob)(id:Zd)(st:St):St :=
 match o with
 | none=>st
 | some _=>Zn id st
theorem Zso{id:Zd}:drp none id st=st:=(rfl)
theorem Zsp{ob:Ob}{id:Zd}:drp (some ob) id st=Zn id st:=(rfl)
def rkg(o:Option Ob)(len s:Nat)(id0:Zd)(d:Option Nat)(st1:St)(K:St->Prop):Prop :=
 match o with
 | some (.ar k zs u hw ver)=>s=hw/\len=zs.length/\Ys d (.hd id0 [] 0 len none s) (Zg st1 id0 (.ar k zs u hw ver)) K
 | _=>False
def rkf(v:IV)(d:Option Nat)(st:St)(K:St->Prop):Prop :=
 match v with
 | .hd id [] 0 len none s=>id.1=st.lvl/\(st.lvl,keyOf d)≠id/\rkg (st.sto id) len s (st.lvl,keyOf d) d (Zn id (Qc (st.lvl,keyOf d) st)) K
 | _=>False
theorem Zsq:Zp C d (.rk x) ⟨lvl,env,loc,out⟩ K=rkf (xv env x) d ⟨lvl,env,loc,out⟩ K:=by
 rw[JB rfl]
 simp only[ew]
 generalize xv env x=v
 unfold rkf
 split
 ·rename_i id len s
  simp only[rkg]
  generalize (⟨lvl,env,loc,out⟩:St).sto id=o
  cases o with
  | none=>rfl
  | some ob =>
   cases ob with
   | bx=>rfl
   | ar k2 es u hw ver=>simp only[ZaC]
 ·rename_i hv
  split
  ·exact(hv _ _ _ rfl).elim
  ·rfl
theorem Zsr{key len s:Nat}{t:Nat}:rkf (.hd (lvl,key) [] 0 len none s) (some t) ⟨lvl,env,loc,out⟩ K=(t*32≠key/\rkg (lkO key loc) len s (lvl,t*32) (some t) (Zn (lvl,key) (drp (lkO (t*32) loc) (lvl,t*32) ⟨lvl,env,loc,out⟩)) K):=by
 simp only[rkf,true_and,Qc,keyOf]
 rw[show (⟨lvl,env,loc,out⟩:St).sto (lvl,key)=lkO key loc from JN,show (⟨lvl,env,loc,out⟩:St).sto (lvl,t*32)=lkO (t*32) loc from JN]
 congr 1
 simp
theorem Zss{key:Nat}{p x:X}:Zp C d (.gv key p x) ⟨lvl,env,loc,out⟩ K=(d=none/\Um (xv env p) (xv env x) key ⟨lvl,env,loc,out⟩ K):=by
 rw[JB rfl]
 simp only[ew]
theorem Zst{id:Zd}{off key key2 len s:Nat}:Um (.ab id off) (.hd (lvl,key2) [] 0 len none s) key ⟨lvl,env,loc,out⟩ K=(id.1<lvl/\Zw lvl loc out (id.1,key)=none/\DK (Zw lvl loc out id) (lkO key2 loc) id off key len s (lvl,key2) ⟨lvl,env,loc,out⟩ K):=by
 simp only[Um,true_and]
 rw[show (⟨lvl,env,loc,out⟩:St).sto (lvl,key2)=lkO key2 loc from JN]
 rfl
theorem Zsu{cells:List IV}{k:Nat}{zs:Row}{u:Bool}{hw ver:Nat}{id id2:Zd}{off key len s:Nat}:DK (some (.bx cells)) (some (.ar k zs u hw ver)) id off key len s id2 st K=(off+1<=cells.length/\s=hw/\len=zs.length/\K (Zg (Zg (Zn id2 st) (id.1,key) (.ar k zs u hw ver)) id (.bx (JT cells off [.hd (id.1,key) [] 0 len none s])))):=(rfl)
theorem Zsv{len s k hw ver:Nat}{zs:Row}{u:Bool}{id0:Zd}:rkg (some (.ar k zs u hw ver)) len s id0 d st K=(s=hw/\len=zs.length/\Ys d (.hd id0 [] 0 len none s) (Zg st id0 (.ar k zs u hw ver)) K):=(rfl)
theorem Zsw{K:List IV->St->Prop}:QI [] st K=K [] st:=(rfl)
theorem Zsx{x:X}{r:List X}{K:List IV->St->Prop}:QI (x::r) st K=Ww (xv st.env x) st fun t st1=>QI r st1 fun ts st2=>K (.ta t::ts) st2:=(rfl)
def ZaD(o:Option (List Tr×Bool))(F:List Tr->Prop)(H:Prop):Prop :=
 match o with
 | some (ts,_)=>F ts
 | none=>H
def ZcL(o:Option Ob)(F:List Tr->Prop)(H:List IV->Prop):Prop :=
 match o with
 | some (.bx cells)=>ZaD (totrs cells) F (H cells)
 | _=>False
theorem Zsy{ts:List Tr}{K:List Tr->St->Prop}:Ww (.ta ts) st K=K ts st:=(rfl)
theorem Zsz{key:Nat}{K:List Tr->St->Prop}:Ww (.ab (lvl,key) 0) ⟨lvl,env,loc,out⟩ K=ZcL (lkO key loc) (fun ts=>K ts (Zn (lvl,key) ⟨lvl,env,loc,out⟩)) (fun cells=>Yo cells ⟨lvl,env,loc,out⟩ fun ts st1=>K ts (Zn (lvl,key) st1)):=by
 simp only[Ww,true_and]
 rw[show (⟨lvl,env,loc,out⟩:St).sto (lvl,key)=lkO key loc from JN]
 generalize lkO key loc=o
 cases o with
 | none=>rfl
 | some ob =>
  cases ob with
  | ar=>rfl
  | bx cells =>
   simp only[ZcL]
   generalize totrs cells=q
   cases q <;> rfl
theorem ZsA{cells:List IV}{F:List Tr->Prop}{H:List IV->Prop}:ZcL (some (.bx cells)) F H=ZaD (totrs cells) F (H cells):=(rfl)
theorem ZsB{ts:List Tr}{q:Bool}{F:List Tr->Prop}{H:Prop}:ZaD (some (ts,q)) F H=F ts:=(rfl)
theorem ZsC{F:List Tr->Prop}{H:Prop}:ZaD none F H=H:=(rfl)
theorem ZsD{id:Zd}{p:Ze}{off len s:Nat}{cap:Option Nat}{r:List IV}:totrs (.hd id p off len cap s::r)=none:=(rfl)
theorem ZsE{f:Nat}{cs:List X}:Zp C d (.mz f cs) ⟨lvl,env,loc,out⟩ K=QI cs ⟨lvl,env,loc,out⟩ fun l st1=>Ys d (.fn f l) st1 K:=by
 rw[JB rfl]
 rfl
theorem ZsF{K:List Tr->St->Prop}:Yo [] st K=K [] st:=(rfl)
theorem ZsG{x:IV}{r:List IV}{K:List Tr->St->Prop}:Yo (x::r) st K=Xh x st fun t st1=>Yo r st1 fun ts st2=>K (t::ts) st2:=(rfl)
def ZgK(o:Option Ob)(len s:Nat)(F:Row->Prop):Prop :=
 match o with
 | some (.ar _ zs _ hw _)=>s=hw/\len=zs.length/\F zs
 | _=>False
theorem ZsH{t:Tr}{K:Tr->St->Prop}:Xh (.tr t) st K=K t st:=(rfl)
theorem ZsI{es:Row}{K:Tr->St->Prop}:Xh (.cs es) st K=K (.sl es) st:=(rfl)
theorem ZsJ{key len s:Nat}{K:Tr->St->Prop}:Xh (.hd (lvl,key) [] 0 len none s) ⟨lvl,env,loc,out⟩ K=ZgK (lkO key loc) len s fun zs=>K (.sl zs) (Zn (lvl,key) ⟨lvl,env,loc,out⟩):=by
 simp only[Xh,true_and]
 rw[show (⟨lvl,env,loc,out⟩:St).sto (lvl,key)=lkO key loc from JN]
 generalize lkO key loc=o
 cases o with
 | none=>rfl
 | some ob=>cases ob <;> rfl
theorem ZsK{k len s hw ver:Nat}{zs:Row}{u:Bool}{F:Row->Prop}:ZgK (some (.ar k zs u hw ver)) len s F=(s=hw/\len=zs.length/\F zs):=(rfl)
def lzg(o:Option Ob)(off m:Nat)(d:Option Nat)(st:St)(K:St->Prop):Prop :=
 match o with
 | some (.bx cells)=>off+m<=cells.length/\Yo ((cells.drop off).take m) st fun ts st1=>Ys d (.ag (ts.map .tr)) st1 K
 | _=>False
def lzf(v:IV)(m:Nat)(d:Option Nat)(st:St)(K:St->Prop):Prop :=
 match v with
 | .ab id off=>lzg (st.sto id) off m d st K
 | _=>False
theorem ZsL{m:Nat}:Zp C d (.lz m x) ⟨lvl,env,loc,out⟩ K=lzf (xv env x) m d ⟨lvl,env,loc,out⟩ K:=by
 rw[JB rfl]
 simp only[ew]
 generalize xv env x=v
 cases v <;> rfl
theorem ZsM{key off m:Nat}:lzf (.ab (lvl,key) off) m d ⟨lvl,env,loc,out⟩ K=lzg (lkO key loc) off m d ⟨lvl,env,loc,out⟩ K:=by
 simp only[lzf]
 rw[show (⟨lvl,env,loc,out⟩:St).sto (lvl,key)=lkO key loc from JN]
theorem ZsN{cells:List IV}{off m:Nat}:lzg (some (.bx cells)) off m d st K=(off+m<=cells.length/\Yo ((cells.drop off).take m) st fun ts st1=>Ys d (.ag (ts.map .tr)) st1 K):=(rfl)
def clg(o:Option Ob)(id:Zd)(off len s k:Nat)(d:Option Nat)(st:St)(K:St->Prop):Prop :=
 match o with
 | some (.ar k2 es u hw ver)=>k2=k/\s=hw/\off+len=es.length/\Ys d (.tu []) (Zg st id (.ar k2 (es.take off) u hw (ver+1))) K
 | _=>False
def clf(v:IV)(k:Nat)(d:Option Nat)(st:St)(K:St->Prop):Prop :=
 match v with
 | .hd id p off len _ s=>p=[]/\clg (st.sto id) id off len s k d st K
 | _=>False
theorem ZsO{k:Nat}{z:List Value}:Zp C d (.cl k z x) ⟨lvl,env,loc,out⟩ K=clf (xv env x) k d ⟨lvl,env,loc,out⟩ K:=by
 rw[JB rfl]
 simp only[ew]
 generalize xv env x=v
 cases v <;> try rfl
 rename_i id p off len cap s
 simp only[clf,clg]
 generalize (⟨lvl,env,loc,out⟩:St).sto id=o
 cases o with
 | none=>simp
 | some ob =>
  cases ob with
  | bx=>simp
  | ar k2 es u hw ver=>simp only[ZaC]
theorem ZsP{id:Zd}{off len s k:Nat}{cap:Option Nat}:clf (.hd id [] off len cap s) k d ⟨lvl,env,loc,out⟩ K=clg (Zw lvl loc out id) id off len s k d ⟨lvl,env,loc,out⟩ K:=by
 simp only[clf,true_and]
 rfl
theorem ZsQ{id:Zd}{off len s k k2 hw ver:Nat}{es:Row}{u:Bool}:clg (some (.ar k2 es u hw ver)) id off len s k d st K=(k2=k/\s=hw/\off+len=es.length/\Ys d (.tu []) (Zg st id (.ar k2 (es.take off) u hw (ver+1))) K):=(rfl)
def srk(off len:Nat)(F:Row->Prop)(es:Row)(_u:Bool)(_v:Nat):Prop:=off+len<=es.length/\F (cut es off len)
theorem ZsR{off len:Nat}{F:Row->Prop}{es:Row}{u:Bool}{v:Nat}:srk off len F es u v=(off+len<=es.length/\F (cut es off len)):=(rfl)
theorem ZsS{zs:Row}{F:Row->Prop}:VV st (.tr (.sl zs)) F=F zs:=(rfl)
theorem ZsT{zs:Row}{F:Row->Prop}:VV st (.cs zs) F=F zs:=(rfl)
theorem ZsU{id:Zd}{p:Ze}{off len s:Nat}{cap:Option Nat}{F:Row->Prop}:VV ⟨lvl,env,loc,out⟩ (.hd id p off len cap s) F=Y9 (Zw lvl loc out id) p s (srk off len F):=by
 rw[<-XA]
 rfl
def UZ(zs:Row)(k:Nat)(d:Option Nat)(st:St)(K:St->Prop)(items:Row):Prop :=
 items≠[]/\ScR items/\Zu k zs/\Zu k items/\zs.length+items.length<=bigN/\K ⟨st.lvl,ptd d (.tr (.sl (zs++items))) st.env,st.loc,st.out⟩
theorem ZsV{zs items:Row}{k:Nat}:UZ zs k d ⟨lvl,env,loc,out⟩ K items=(items≠[]/\ScR items/\Zu k zs/\Zu k items/\zs.length+items.length<=bigN/\K ⟨lvl,ptd d (.tr (.sl (zs++items))) env,loc,out⟩):=(rfl)
def a3f(vx vy:IV)(k:Nat)(d:Option Nat)(st:St)(K:St->Prop):Prop :=
 match vx with
 | .cs zs=>VV st vy (UZ zs k d st K)
 | _=>False
theorem ZsW{zs:Row}{vy:IV}{k:Nat}:a3f (.cs zs) vy k d st K=VV st vy (UZ zs k d st K):=(rfl)
theorem ZsX{k:Nat}{x y:X}:Zp C d (.a3 k x y) ⟨lvl,env,loc,out⟩ K=a3f (xv env x) (xv env y) k d ⟨lvl,env,loc,out⟩ K:=by
 rw[JM rfl]
 simp only[ev]
 generalize xv env x=vx
 cases vx <;> try rfl
 rename_i zs
 have e:∀ items:Row,(items≠[]/\ScR items/\Zu k zs/\Zu k items/\zs.length+items.length<=bigN/\Zx (fun mk obs=>freshK (keyOf d) loc (obs lvl (keyOf d)).length/\K ⟨lvl,ptd d (mk lvl (keyOf d)) env,addO (keyOf d) (obs lvl (keyOf d)) loc,out⟩) (.tr (.sl (zs++items))))=UZ zs k d ⟨lvl,env,loc,out⟩ K items:=fun items=>by
  simp [UZ,Zx,freshK,addO]
 simp only[e]
 rfl
theorem ZsY{k:Nat}{x y:X}:Zp C d (.c0 k x y) ⟨lvl,env,loc,out⟩ K=Zp C d (.cy k x y) ⟨lvl,env,loc,out⟩ K:=by
 rw[JB rfl,JB rfl]
 exact propext ⟨Zfv,Zlx⟩
def U0(es:Row)(u:Bool)(hw ver:Nat)(id:Zd)(off len k:Nat)(d:Option Nat)(st:St)(K:St->Prop)(zs:Row):Prop :=
 ScR zs/\Zu k zs/\Ys d (iI (min zs.length len:Nat)) (Zg st id (.ar k (es.take off++zs.take len++es.drop (off+min zs.length len)) u hw (ver+1))) K
theorem ZsZ{es:Row}{u:Bool}{hw ver:Nat}{id:Zd}{off len k:Nat}{zs:Row}:U0 es u hw ver id off len k d st K zs=(ScR zs/\Zu k zs/\Ys d (iI (min zs.length len:Nat)) (Zg st id (.ar k (es.take off++zs.take len++es.drop (off+min zs.length len)) u hw (ver+1))) K):=(rfl)
def cyg(o:Option Ob)(id:Zd)(off len s k:Nat)(v:IV)(d:Option Nat)(st:St)(K:St->Prop):Prop :=
 match o with
 | some (.ar k2 es u hw ver)=>k2=k/\s=hw/\off+len<=es.length/\ScR es/\VV st v (U0 es u hw ver id off len k d st K)
 | _=>False
def cyf(x v:IV)(k:Nat)(d:Option Nat)(st:St)(K:St->Prop):Prop :=
 match x with
 | .hd id p off len _ s=>p=[]/\cyg (st.sto id) id off len s k v d st K
 | _=>False
theorem Zs0{k:Nat}:Zp C d (.cy k x y) ⟨lvl,env,loc,out⟩ K=cyf (xv env x) (xv env y) k d ⟨lvl,env,loc,out⟩ K:=by
 rw[JB rfl]
 simp only[ew]
 generalize xv env x=v
 cases v <;> try rfl
 rename_i id p off len cap s
 simp only[cyf,cyg]
 generalize (⟨lvl,env,loc,out⟩:St).sto id=o
 cases o with
 | none=>simp
 | some ob =>
  cases ob with
  | bx=>simp
  | ar k2 es u hw ver =>
   dsimp only
   by_cases hk:k2=k
   ·subst hk
    have:(fun zs=>ScR zs/\Zu k2 zs/\K { Zg ⟨lvl,env,loc,out⟩ id (.ar k2 (es.take off++zs.take len++es.drop (off+min zs.length len)) u hw (ver+1)) with env:=ptd d (iI (min zs.length len:Nat)) env })=U0 es u hw ver id off len k2 d ⟨lvl,env,loc,out⟩ K:=by
     funext zs
     simp only[U0,ZaC]
    rw[this]
   ·simp [hk]
theorem Zs1{id:Zd}{off len s k:Nat}{cap:Option Nat}{v:IV}:cyf (.hd id [] off len cap s) v k d ⟨lvl,env,loc,out⟩ K=cyg (Zw lvl loc out id) id off len s k v d ⟨lvl,env,loc,out⟩ K:=by
 simp only[cyf,true_and]
 rfl
theorem Zs2{id:Zd}{off len s k k2 hw ver:Nat}{es:Row}{u:Bool}{v:IV}:cyg (some (.ar k2 es u hw ver)) id off len s k v d st K=(k2=k/\s=hw/\off+len<=es.length/\ScR es/\VV st v (U0 es u hw ver id off len k d st K)):=(rfl)
end row
theorem Zs3{α:Type}{F:α->Prop}:ZW none F=False:=(rfl)
end
abbrev tv(n:Int):Tr:=.v (.int .i64 n)
abbrev ts(s:ByteArray):Tr:=.v (.string s)
abbrev rI(l:List Int):Row:=l.map fun n=>[tv n]
abbrev tI(l:List Int):IV:=.tr (.sl (rI l))
abbrev rS(l:List ByteArray):Row:=l.map fun n=>[ts n]
abbrev tS(l:List ByteArray):IV:=.tr (.sl (rS l))
theorem Zh(n:Int):Z2 .i64 n=(-9223372036854775808<=n/\n<=9223372036854775807):=by
 simp [Z2,IntKind.min,IntKind.max,IntKind.signed,IntKind.bits]
theorem ZgL{α:Type}{k:Nat}(f:α->List Tr)(h:∀ x,(f x).length=k)(l:List α):Zu k (l.map f):=by
 intro e he
 obtain⟨x,_,rfl⟩:=UaG.1 he
 exact h x
end Go.Fd

namespace Go.Fd
def In(w:World)(b:Nat):Prop:=b<w.heap.size
def ZaE(w:World)(cs:List Value)(ts:List Tr):Prop:=∀(j:Nat) (v:Value) (t:Tr),cs[j]? = some v->ts[j]? = some t->Rds w (In w) v t
def JX(P:Program)(t:TypeId){α:Type}(c:α->List Tr)(Q:α->Prop):Prop :=
 ∀(H:Type) (enc:TypeId×Value->H) (w:World) (sp:Nat->Bool) (hd:Bool) (fuel:Nat) (cs:List Value) (x:DataW H×List MemPlace),
  DataW.trod enc P w 0 sp hd fuel t cs=some x->∃ y,Q y/\ZaE w cs (c y)
theorem ZaF{w:World}{v:Value}{t:Tr}(h:Rds w (In w) v t):ZaE w [v] [t]:=fun j v' t' h1 h2=>by
 match j with
 | 0=>simp at h1 h2;subst h1;subst h2;exact h
 | j+1=>simp at h1
theorem Zs4{P:Program}{t:TypeId}(ht:P.underlying t=some (.int .i64)):JX P t (fun n:Int=>[tv n]) (Z2 .i64):=by
 intro H enc w sp hd fuel cs x h
 obtain⟨n,rfl,_,hw⟩:=DataW.trod_int ht h
 exact⟨n,by simpa [Lit.wf,Z2] using hw,ZaF (.v _ rfl)⟩
theorem Zs5{P:Program}{t:TypeId}(ht:P.underlying t=some .string):JX P t (fun n:ByteArray=>[ts n]) (fun n=>n.size<=9223372036854775807):=by
 intro H enc w sp hd fuel cs x h
 obtain⟨n,rfl,_,hw⟩:=DataW.trod_string ht h
 exact⟨n,hw,ZaF (.v _ rfl)⟩
theorem Zs6{w:World}{a:Addr}{v:Value}(h:w.cell? a=some v):a.block<w.heap.size:=by
 unfold World.cell? at h
 cases hh:w.heap[a.block]? with
 | none=>rw[hh] at h;cases h
 | some o=>exact(UaA.1 hh).1
theorem Zs7{α:Type}(n:Nat)(R:Nat->α->Prop)(h:∀ i,i<n->∃ y,R i y):∃ l:List α,l.length=n/\∀ i y,l[i]? = some y->R i y:=by
 induction n with
 | zero=>exact⟨[],rfl,fun i y h=>by simp at h⟩
 | succ n ih =>
  obtain⟨l,hl,hr⟩:=ih (fun i hi=>h i (by omega))
  obtain⟨y,hy⟩:=h n (by omega)
  refine⟨l++[y],by simp [hl],fun i z hz=>?_⟩
  by_cases hi:i<n
  ·rw[Uap (by omega)] at hz;exact hr i z hz
  ·have hlt:=(Uac.1 hz).1
   simp only[Uai,List.length_singleton] at hlt
   have:i=n:=by omega
   subst this
   rw[Uaq (by omega),hl,UbC] at hz
   simp at hz
   exact hz ▸ hy
theorem U1{P:Program}{t e:TypeId}{k:Nat}{α:Type}{c:α->List Tr}{Q:α->Prop}(ht:P.underlying t=some (.slice e))(hk:P.cellsOf e=k+1)(hc:∀ x,(c x).length=k+1)
  (he:JX P e c Q):JX P t (fun l:List α=>[.sl (l.map c)]) (fun l=>l.length<=9223372036854775807/\∀ x∈l,Q x):=by
 intro H enc w sp hd fuel cs x h
 rcases DataW.trod_slice ht h with ⟨rfl,_⟩ | ⟨a,len,cap,elems,rest,n,_,rfl,_,_,hl,hm,hlen,hel,_,_⟩
 ·exact⟨[],⟨by simp,by simp⟩,ZaF (.nil none 0)⟩
 ·have each:∀ i,i<len->∃ y,Q y/\∀ j t,(c y)[j]? = some t->∃ v,w.cell? (a.add (i*(k+1)+j))=some v/\Rds w (In w) v t:=fun i hi=>by
   have h1:=hel i hi
   rw[hk] at h1
   obtain⟨z,hz⟩:∃ z,elems[i]? = some z:=⟨elems[i]'(by omega),Uag _⟩
   rw[hz,Option.bind_eq_some_iff] at h1
   obtain⟨row,hrow,hx⟩:=h1
   obtain⟨y,hy,hr⟩:=he H enc w sp hd n row z hx
   obtain⟨_,hrl,hg⟩:=World.cells?_some hrow
   refine⟨y,hy,fun j t hj=>?_⟩
   have hjk:j<k+1:=by rw[<-hc y];exact(Uac.1 hj).1
   have hv:row[j]? = some (row[j]'(by omega)):=Uag _
   have:=hg j hjk
   rw[hv] at this
   have e2:(a.add (i*(k+1))).add j=a.add (i*(k+1)+j):=by
    unfold Addr.add
    by_cases h0:i*(k+1)=0
    ·simp [h0]
    ·by_cases h1:j=0
     ·simp [h1,h0]
     ·have h2:¬ (i*(k+1)+j=0):=by omega
      simp only[if_neg h0,if_neg h1,if_neg h2,Addr.mk.injEq,and_true,true_and]
      omega
   rw[e2] at this
   exact⟨_,this,hr j _ t hv hj⟩
  obtain⟨l,hll,hlr⟩:=Zs7 len _ each
  refine⟨l,⟨?_,fun y hy=>?_⟩,ZaF ?_⟩
  ·rw[hll];exact Ua3 hl hm
  ·obtain⟨i,hi⟩:=Ubd hy
   exact(hlr i y hi).1
  ·by_cases h0:len=0
   ·have:l=[]:=Uaw (by omega)
    subst this;subst h0
    exact .nil _ _
   ·obtain⟨y0,hy0⟩:∃ y0,l[0]? = some y0:=⟨l[0]'(by omega),Uag _⟩
    obtain⟨t0,ht0⟩:∃ t0,(c y0)[0]? = some t0:=⟨(c y0)[0]'(by rw[hc];omega),Uag _⟩
    obtain⟨v0,hv0,_⟩:=(hlr 0 y0 hy0).2 0 t0 ht0
    obtain⟨b,o,s⟩:=a
    have hs:s=none:=by simpa [Addr.add] using World.cell?_spot hv0
    subst hs
    have hb:b<w.heap.size:=by simpa [Addr.add] using Zs6 hv0
    have hel2:∀ i e j t,(l.map c)[i]? = some e->e[j]? = some t->∃ v,w.cell? ⟨b,o+i*(k+1)+j,none⟩=some v/\Rds w (In w) v t:=fun i e j t h1 h2=>by
     rw[Uaz,UaF] at h1
     obtain⟨y,hy,rfl⟩:=h1
     obtain⟨v,hv,hr⟩:=(hlr i y hy).2 j t h2
     refine⟨v,?_,hr⟩
     rw[<-hv]
     congr 1
     unfold Addr.add
     by_cases h0:i*(k+1)+j=0
     ·have:o+i*(k+1)+j=o:=by omega
      rw[if_pos h0,this]
     ·rw[if_neg h0]
      have:o+i*(k+1)+j=o+(i*(k+1)+j):=by omega
      simp only[this]
    have hlm:(l.map c).length=len:=by simpa using hll
    have:=Rds.sl (w:=w) (A:=In w) b o cap (k+1) (l.map c) (fun i j=>(w.cell? ⟨b,o+i*(k+1)+j,none⟩).getD .nilFunc) hb
     (fun e he=>by simp only[UaG] at he;obtain⟨y,_,rfl⟩:=he;exact hc y) (by omega)
     (fun i e j t h1 h2=>by obtain⟨v,hv,_⟩:=hel2 i e j t h1 h2;rw[hv];rfl)
     (fun i e j t h1 h2=>by obtain⟨v,hv,hr⟩:=hel2 i e j t h1 h2;rw[hv];exact hr)
    rw[hlm] at this
    exact this
def XE(P:Program)(o:Nat)(l:List (Nat×TypeId)){α:Type}(c:α->List Tr)(Q:α->Prop):Prop :=
 ∀(H:Type) (enc:TypeId×Value->H) (w:World) (sp:Nat->Bool) (hd:Bool) (fuel:Nat) (cs:List Value),
  (∀ p∈l,∃ x,DataW.trod enc P w 0 sp hd fuel p.2 ((cs.drop p.1).take (P.cellsOf p.2))=some x)->∃ y,Q y/\ZaE w (cs.drop o) (c y)
theorem ZaG{P:Program}{o:Nat}:XE P o [] (fun _:Unit=>[]) (fun _=>True):=fun H enc w sp hd fuel cs _=>⟨(),trivial,fun j v t _ h=>by simp at h⟩
theorem Vd{P:Program}{o k:Nat}{t:TypeId}{l:List (Nat×TypeId)}{α β:Type}{c:α->List Tr}{Q:α->Prop}{c2:β->List Tr}{Q2:β->Prop}
  (hk:P.cellsOf t=k) (hc:∀ x,(c x).length=k) (h1:JX P t c Q) (h2:XE P (o+k) l c2 Q2) :
  XE P o ((o,t)::l) (fun p:α×β=>c p.1++c2 p.2) (fun p=>Q p.1/\Q2 p.2):=fun H enc w sp hd fuel cs h=>by
 obtain⟨x,hx⟩:=h (o,t) (by simp)
 obtain⟨y,hy,hr⟩:=h1 _ _ _ _ _ _ _ _ hx
 obtain⟨y2,hy2,hr2⟩:=h2 H enc w sp hd fuel cs (fun p hp=>h p (by simp [hp]))
 refine⟨(y,y2),⟨hy,hy2⟩,fun j v t' hv ht=>?_⟩
 by_cases hj:j<k
 ·rw[Uap (by rw[hc];exact hj)] at ht
  refine hr j v t' ?_ ht
  rw[hk,List.getElem?_take_of_lt hj]
  exact hv
 ·rw[Uaq (by rw[hc];omega),hc] at ht
  refine hr2 (j-k) v t' ?_ ht
  rw[UaM] at hv ⊢
  rw[<-hv]
  congr 1
  omega
theorem ZaH{P:Program}{t:TypeId}{fs:Array Field}{α:Type}{c:α->List Tr}{Q:α->Prop}(ht:P.underlying t=some (.struct fs))(h:XE P 0 (fs.toList.map fun f=>(f.offset,f.type)) c Q):JX P t c Q:=by
 intro H enc w sp hd fuel cs x hx
 obtain⟨xs,n,_,_,_,hl,hf⟩:=DataW.trod_struct ht hx
 have:=h H enc w sp hd n cs (fun p hp=>by
  simp only[UaG] at hp
  obtain⟨f,hf1,rfl⟩:=hp
  obtain⟨i,hi⟩:=Ubd hf1
  have hi':fs[i]? = some f:=by simpa using hi
  have hlt:i<xs.length:=by rw[hl];exact(UaA.1 hi').1
  exact⟨_,(hf i f hi').trans (Uag hlt)⟩)
 simpa using this
theorem Zs8{P:Program}{t:TypeId}{α β:Type}{c:α->List Tr}{Q:α->Prop}{c2:β->List Tr}{Q2:β->Prop}(g:α->β)(hg:∀ x,c2 (g x)=c x)(hq:∀ x,Q x->Q2 (g x))(h:JX P t c Q):JX P t c2 Q2:=by
 intro H enc w sp hd fuel cs x hx
 obtain⟨y,hy,hr⟩:=h H enc w sp hd fuel cs x hx
 exact⟨g y,hq y hy,by rw[hg];exact hr⟩
theorem ZaI{P:Program}{t:TypeId}{α β:Type}{c:α->List Tr}{Q:α->Prop}{c2:β->List Tr}{Q2:β->Prop}(h:JX P t c Q)(g:α->β)(hg:∀ x,c2 (g x)=c x)(hq:∀ x,Q x->Q2 (g x)):JX P t c2 Q2:=Zs8 g hg hq h
end Go.Fd

namespace Go.Fd
variable [Tabs]
open Go.RowKit
def G0:Gh:=fun _ _=>none
def S0:Zc:=fun _=>none
theorem Av0{w:World}{b:Nat}(h:In w b):Av G0 S0 w b:=⟨h,fun id ob hs=>by cases hs⟩
theorem ZgM{w:World}:∀{cs:List Value} {ts:List Tr},cs.length=ts.length->ZaE w cs ts->Zi G0 S0 w (ts.map .tr) cs
 | [],[],_,_=>by simp [Zi]
 | v::cs,t::ts,hl,h=>by
  simp only[Uay,Zi]
  refine⟨v,cs,rfl,?_,ZgM (by simpa using hl) (fun j v' t' h1 h2=>h (j+1) v' t' (by simpa using h1) (by simpa using h2))⟩
  simp only[VR]
  exact Rds.mono (fun b=>Av0) (fun b _=>rfl) (h 0 v t rfl rfl)
 | [],_::_,hl,_=>by simp at hl
 | _::_,[],hl,_=>by simp at hl
theorem Zs9{P:Program}{f:FuncId}{args:List IV}{b:Bool}{w:World}{vs:List Value}(h:Sem P f 0 args S0 (iB b) S0)(hv:Zi G0 S0 w args vs)(hg:Tabs.good w) :
  Calls P f vs.toArray w fun e w' => e = .returned (.bool b)/\Below w.heap.size w w':=by
 obtain⟨_,_,h⟩:=h
 refine(h (fun id ob hs=>by cases hs) G0 w vs ⟨fun id ob hs=>(nomatch hs),fun id ob id2 ob2 b2 hs=>(nomatch hs),fun id cells hs=>(nomatch hs)⟩ hv ⟨w,hg,Uaf _,fun b hb=>⟨⟨hb,fun id ob hs=>by cases hs⟩,rfl⟩⟩).mono ?_
 rintro e w' ⟨v,G',rfl,_,hr,_,hf⟩
 have hr':Rds w' (Av G' (ZJ S0 0 0 (impv true 0 0 0 (iB b)).2) w') v (.v (.bool b)):=hr
 cases hr' with
 | v x hx =>
  exact⟨rfl,hf.os,hf.tape,hf.output,hf.size,fun k hk=>hf.old k hk (fun id ob hs=>by cases hs)⟩
theorem Zta{P:Program}{w:World}{r:Reach}{base:Nat}{t e:TypeId}{v:Value}(ht:P.underlying t=some (.slice e))(h:Value.okWide P w r base t v):v.cells.toList=[v]:=by
 unfold Value.okWide at h
 rw[ht] at h
 simp only[Cell.okWide,ht,Cell.ok] at h
 cases v <;> first | rfl | exact absurd h (by simp)
theorem Ztb{P:Program}{w:World}{r:Reach}{base:Nat}{t:TypeId}{fs:Array Field}{v:Value}(ht:P.underlying t=some (.struct fs))(h:Value.okWide P w r base t v):∃ cs,v = .agg cs/\cs.size=P.cellsOf t:=by
 unfold Value.okWide at h
 rw[ht] at h
 obtain⟨cs,h1,h2,_⟩:=h
 exact⟨cs,h1,h2⟩
section
variable {H:Type} {enc:TypeId×Value->H} {P:Program} {w:World} {t:TypeId} {v:Value} {d:DataW H} {p:List MemPlace} {α:Type} {c:α->List Tr} {Q:α->Prop} {sp:Nat->Bool} {hd:Bool} {base:Nat}
theorem Ztc{fs:Array Field}{k:Nat}(hr:JX P t c Q)(ht:P.underlying t=some (.struct fs))(hk:P.cellsOf t=k)(hc:∀ x,(c x).length=k)(hok:Value.okWide P w .any base t v)(h:DataW.Trod enc P w 0 sp hd t v d p) :
  ∃ y,Q y/\VR G0 S0 w (.ag ((c y).map .tr)) v:=by
 obtain⟨cs,rfl,hs⟩:=Ztb ht hok
 obtain⟨n,hn⟩:=h
 obtain⟨y,hy,hrow⟩:=hr H enc w sp hd n _ _ hn
 refine⟨y,hy,?_⟩
 simp only[VR]
 refine⟨cs.toList,by simp,ZgM ?_ hrow⟩
 rw[hc,<-hk,<-hs]
 simp
theorem Ztd{e:TypeId}{g:α->Tr}(hr:JX P t (fun x=>[g x]) Q)(ht:P.underlying t=some (.slice e))(hok:Value.okWide P w .any base t v)(h:DataW.Trod enc P w 0 sp hd t v d p) :
  ∃ y,Q y/\VR G0 S0 w (.tr (g y)) v:=by
 obtain⟨n,hn⟩:=h
 rw[Zta ht hok] at hn
 obtain⟨y,hy,hrow⟩:=hr H enc w sp hd n _ _ hn
 refine⟨y,hy,?_⟩
 simp only[VR]
 exact Rds.mono (fun b=>Av0) (fun b _=>rfl) (hrow 0 v _ rfl rfl)
end
theorem Zte{H:Type}{enc:TypeId×Value->H}{P:Program}{f:Func}{s:ChangeSpec}{YK:Bool}{W W':World}{args:Array Value}{v:Value}{ds gs:List (DataW H)}{before pa pv:List MemPlace}
  (hW:DataW.Whole enc P f.params.toList s.vars YK W args.toList ds gs before) (hb:Below W.heap.size W W')
  (hres:DataW.TrodAll enc P W' W.heap.size (fun _=>false) false f.resultTypes.toList (v.resultList f.resultTypes.size) (s.fn H (ds++gs)).results [])
  (hargs:DataW.TrodAll enc P W' 0 (fun b=>decide (b<W.heap.size)) true f.params.toList args.toList (s.fn H (ds++gs)).args pa)
  (hvars:DataW.TrodVars enc P W' (fun b=>decide (b<W.heap.size)) s.vars (s.fn H (ds++gs)).vars pv) :
  s.post enc P f YK true false false W args v W' :=
 ⟨ds,gs,before,[],pa,pv,hW,hres,hargs,hvars,hb.frame _,fun h=>by cases h⟩
end Go.Fd

namespace Go.Fd
variable [Tabs]
open Go.RowKit
theorem Ztf{w w':World}(h:Below w.heap.size w w'):Ext w w':=⟨h.size,h.block,h.os,h.tape,h.output⟩
theorem ZcM{G:Gh}{S:Zc}{w:World}:∀{xs vs:List Value},Zi G S w (xs.map fun v=>.tr (.v v)) vs->vs=xs
 | [],vs,h=>by simpa [Zi] using h
 | x::r,vs,h=>by
  simp only[Uay,Zi] at h
  obtain⟨v,vr,rfl,h1,h2⟩:=h
  rw[ZcM h2]
  have h1':Rds w (Av G S w) v (.v x):=h1
  cases h1'
  rfl
theorem ZgN{P:Program}{f:FuncId}{lvl:Nat}{S:Zc}{args:List IV}{r:IV}(hc:WH P f)(hi:impv true lvl 0 0 r=(r,[]))(hlow:low lvl r)
  (h:(∀ id ob,S id=some ob->id.1<lvl)->∀ G w vs,SOk G S w->Zi G S w args vs->Fix G S w->Calls P f vs.toArray w fun e w' => ∃ v,e = .returned v/\VR G S w' r v/\Below w.heap.size w w'):Sem P f lvl args S r S:=by
 refine⟨hlow,hc,fun hS G w vs hok hv hfx=>?_⟩
 refine(h hS G w vs hok hv hfx).mono ?_
 rintro e w' ⟨v,rfl,hr,hb⟩
 rw[hi]
 have e:Ext w w':=Ztf hb
 exact⟨v,G,rfl,hok.ext e,hr,hS,Frm.of_ext e⟩
theorem Ztg{P:Program}{f:FuncId}{lvl:Nat}{S:Zc}{args:List IV}{r:IV}(hc:WH P f)(hi:impv true lvl 0 0 r=(r,[]))(hlow:low lvl r)
  (h:(∀ id ob,S id=some ob->id.1<lvl)->∀ G w vs,SOk G S w->Zi G S w args vs->Calls P f vs.toArray w fun e w' => ∃ v,e = .returned v/\VR G S w' r v/\Below w.heap.size w w'):Sem P f lvl args S r S :=
 ZgN hc hi hlow fun hS G w vs hok hv _=>h hS G w vs hok hv
theorem Zth{P:Program}{f:FuncId}{lvl:Nat}{S:Zc}{xs:List Value}{y:Value}(hc:WH P f)(hy:Jk y=true)
  (h:∀ w,Calls P f xs.toArray w fun e w' => e = .returned y/\Below w.heap.size w w'):Sem P f lvl (xs.map fun v=>.tr (.v v)) S (.tr (.v y)) S:=by
 refine Ztg hc rfl trivial fun _ G w vs _ hv=>?_
 rw[ZcM hv]
 exact(h w).mono fun e w' ⟨h1,h2⟩=>⟨y,h1,.v y hy,h2⟩
end Go.Fd

namespace Go.Fd
def WX:List (Nat×IV)->List (Nat×IV)->List (Nat×IV)
 | [],env=>env
 | (t,x)::r,env=>WX r (pt t x env)
def WY:List (Nat×Ob)->List (Nat×Ob)->List (Nat×Ob)
 | [],loc=>loc
 | (t,x)::r,loc=>WY r (ptO t x loc)
def U2(ce:List (Nat×IV))(co:List (Nat×Ob))(s:St):St:=⟨s.lvl,WX ce s.env,WY co s.loc,s.out⟩
section
variable {C:Zz} {lvl:Nat} {env:List (Nat×IV)} {loc:List (Nat×Ob)} {out:Zc} {st:St} {Q:Ex->St->Prop}
theorem Zti{ce:List (Nat×IV)}{co:List (Nat×Ob)}:U2 ce co ⟨lvl,env,loc,out⟩=⟨lvl,WX ce env,WY co loc,out⟩:=(rfl)
theorem Ztj:WX [] env=env:=(rfl)
theorem Ztk{t:Nat}{x:IV}{r:List (Nat×IV)}:WX ((t,x)::r) env=WX r (pt t x env):=(rfl)
theorem Ztl:WY [] loc=loc:=(rfl)
theorem Ztm{t:Nat}{x:Ob}{r:List (Nat×Ob)}:WY ((t,x)::r) loc=WY r (ptO t x loc):=(rfl)
theorem ZZ{α:Type}{ks js:List Nat}{c:C2}(N:Nat)(ce:Nat->α->List (Nat×IV))(co:Nat->α->List (Nat×Ob))(A:Nat->α->Prop)(x0:α)
  (h1:clean ks js st) (h0:fgt ks js st=U2 (ce 0 x0) (co 0 x0) (fgt ks js st)) (hA:A 0 x0)
  (hs:∀ k x,k<=N->A k x->wp C c (U2 (ce k x) (co k x) (fgt ks js st)) (X8 ks js (ZcI N (fun k x=>U2 (ce k x) (co k x) (fgt ks js st)) A (N-k)) Q)):wp C (.lp ks js c) st Q :=
 JR N (fun k x=>U2 (ce k x) (co k x) (fgt ks js st)) A x0 ⟨h1,h0⟩ hA hs
end
section
variable {L:Zc} {F:List IV->Prop} {r:List IV}
def ZgO(L:Zc)(r:List IV)(F:List IV->Prop)(y:IV):Prop:=ZM L r (Va y F)
theorem Ztn{y:IV}:ZgO L r F y=ZM L r (Va y F):=(rfl)
theorem Zto{id:Zd}{off:Nat}:ZM L (.ab id off::r) F=QH (L id) L off (ZgO L r F):=by simp only[ZM,ZQ];rfl
def kta(F:IV->Prop)(ts:List Tr):Prop:=F (.ta ts)
theorem Ztp{F:IV->Prop}{ts:List Tr}:kta F ts=F (.ta ts):=(rfl)
theorem Ztq{cells:List IV}{off:Nat}{F:IV->Prop}:QH (some (.bx cells)) L off F=Ya L (cells.drop off) (kta F):=(rfl)
def kct(t:Tr)(F:List Tr->Prop)(ts:List Tr):Prop:=F (t::ts)
theorem Ztr{t:Tr}{F:List Tr->Prop}{ts:List Tr}:kct t F ts=F (t::ts):=(rfl)
def ZgP(L:Zc)(r:List IV)(F:List Tr->Prop)(t:Tr):Prop:=Ya L r (kct t F)
theorem Zts{F:List Tr->Prop}{t:Tr}:ZgP L r F t=Ya L r (kct t F):=(rfl)
theorem Ztt{F:List Tr->Prop}:Ya L [] F=F []:=(rfl)
theorem Ztu{x:IV}{F:List Tr->Prop}:Ya L (x::r) F=Y1 L x (ZgP L r F):=(rfl)
theorem Ztv{t:Tr}{F:Tr->Prop}:Y1 L (.tr t) F=F t:=(rfl)
theorem Ztw{es:Row}{F:Tr->Prop}:Y1 L (.cs es) F=F (.sl es):=(rfl)
def ZgQ(off len:Nat)(F:Tr->Prop)(es:Row)(_u:Bool)(_v:Nat):Prop:=off+len<=es.length/\F (.sl (cut es off len))
theorem Ztx{off len:Nat}{F:Tr->Prop}{es:Row}{u:Bool}{v:Nat}:ZgQ off len F es u v=(off+len<=es.length/\F (.sl (cut es off len))):=(rfl)
theorem Zty{id:Zd}{p:Ze}{off len s:Nat}{cap:Option Nat}{F:Tr->Prop}:Y1 L (.hd id p off len cap s) F=Y9 (L id) p s (ZgQ off len F):=by rw[<-XA];rfl
end
theorem Ztz{α:Type}{x:α}:List.replicate 1 x=[x]:=(rfl)
theorem ZtA{e:List Tr}:cut [e] 0 1=[e]:=(rfl)
theorem ZtB{l:List Tr}:ScR [l]=(l.all isSc=true):=by
 apply propext
 constructor
 ·intro h
  exact Ua4.2 fun t ht=>h l (by simp) t ht
 ·intro h e he t ht
  simp only[UaO] at he
  subst he
  exact Ua4.1 h t ht
theorem ZtC{k:Nat}{l:List Tr}:Zu k [l]=(l.length=k):=by
 apply propext
 constructor
 ·intro h;exact h l (by simp)
 ·intro h e he
  simp only[UaO] at he
  rw[he,h]
theorem ZtD{j:Nat}:max j (j+1)=j+1:=by omega
theorem ZtE{j:Nat}:(j<j+1)=True:=by simp
end Go.Fd

namespace Go.Fd
open Go.RowKit Go.ChangeShapes Go.ChangeMaps Go.WideMaps
section
variable {H:Type} {enc:TypeId×Value->H} {P:Program} {w:World} {t:TypeId} {v:Value} {d:DataW H} {p:List MemPlace} {sp:Nat->Bool} {hd:Bool} {base:Nat}
end
end Go.Fd

namespace Go.Fd
set_option linter.defProp false in
def EV0:=(Uaa (Uaa (Uaa (Uaa (Uaa @Zmt @Zmu) (Uaa @Zmv (Uaa @Zmw @Zmx))) (Uaa (Uaa @Zmy @Zmz) (Uaa @ZmA (Uaa @ZmB @ZmC)))) (Uaa (Uaa (Uaa @ZmD @ZmE) (Uaa @ZmF (Uaa @ZmG @ZmH))) (Uaa (Uaa @ZmI @ZmJ) (Uaa @ZmK (Uaa @ZmL @ZmM))))) (Uaa (Uaa (Uaa (Uaa @ZmN @ZmO) (Uaa @ZmP (Uaa @ZmQ @ZmR))) (Uaa (Uaa @ZmS @ZmT) (Uaa @ZmU (Uaa @ZmV @ZmW)))) (Uaa (Uaa (Uaa @ZmX @ZmY) (Uaa @ZmZ (Uaa @Zm0 @Zm1))) (Uaa (Uaa @Zm2 @Zm3) (Uaa @Zm4 (Uaa @Zm5 @Zm6))))))
set_option linter.defProp false in
def EV1:=(Uaa (Uaa (Uaa (Uaa (Uaa @Zm7 @Zm8) (Uaa @Zm9 (Uaa @Zna @Znb))) (Uaa (Uaa @Znc @Znd) (Uaa @Zne (Uaa @Znf @Zng)))) (Uaa (Uaa (Uaa @Znh @Zni) (Uaa @Znj (Uaa @Znk @Znl))) (Uaa (Uaa @Znm @Znn) (Uaa @Zno (Uaa @Znp @Znq))))) (Uaa (Uaa (Uaa (Uaa @Znr @Zns) (Uaa @Znt (Uaa @Znu @Znv))) (Uaa (Uaa @Znw @Znx) (Uaa @Zny (Uaa @Znz @Zgi)))) (Uaa (Uaa (Uaa @Zgj @ZnA) (Uaa @ZnB (Uaa @ZnC @ZnD))) (Uaa (Uaa @ZnE @ZnF) (Uaa @ZnG (Uaa @ZnH @ZnI))))))
set_option linter.defProp false in
def EV2:=(Uaa (Uaa (Uaa (Uaa (Uaa @ZnJ @ZnK) (Uaa @ZnL (Uaa @ZnM @ZnN))) (Uaa (Uaa @ZnO @ZnP) (Uaa @ZnQ (Uaa @ZnR @ZnS)))) (Uaa (Uaa (Uaa @ZnT @ZnU) (Uaa @ZnV (Uaa @ZnW @ZnX))) (Uaa (Uaa @ZnY @ZnZ) (Uaa @Zn0 (Uaa @Zn1 @Zn2))))) (Uaa (Uaa (Uaa (Uaa @Zn3 @Zn4) (Uaa @Zn5 (Uaa @Zn6 @Zn7))) (Uaa (Uaa @Zn8 @Zn9) (Uaa @Zoa (Uaa @Zob @Zoc)))) (Uaa (Uaa (Uaa @Zod @Zoe) (Uaa @Zof (Uaa @Zog @Zoh))) (Uaa (Uaa @Zoi @Zoj) (Uaa @Zok (Uaa @Zol @Zom))))))
set_option linter.defProp false in
def EV3:=(Uaa (Uaa (Uaa (Uaa (Uaa @Zon @Zoo) (Uaa @Zop (Uaa @Zoq @Zor))) (Uaa (Uaa @Zos @Zot) (Uaa @Zou (Uaa @Zov @Zow)))) (Uaa (Uaa (Uaa @Zox @Zoy) (Uaa @Zoz (Uaa @ZoA @ZoB))) (Uaa (Uaa @ZoC @ZoD) (Uaa @JN (Uaa @XB @ZoE))))) (Uaa (Uaa (Uaa (Uaa @ZoF @YD) (Uaa @ZoG (Uaa @ZoH @ZoI))) (Uaa (Uaa @ZoJ @ZoK) (Uaa @ZoL (Uaa @ZoM @ZoN)))) (Uaa (Uaa (Uaa @ZoO @ZoP) (Uaa @ZoQ (Uaa @ZoR @ZoS))) (Uaa (Uaa @ZoT @ZoU) (Uaa @ZoV (Uaa @ZoW @ZoX))))))
set_option linter.defProp false in
def EV4:=(Uaa (Uaa (Uaa (Uaa (Uaa @ZoY @ZoZ) (Uaa @Zo0 (Uaa @Zo1 @Zo2))) (Uaa (Uaa @Zo3 @Zo4) (Uaa @Zo5 (Uaa @Zo6 @Zo7)))) (Uaa (Uaa (Uaa @Zo8 @Zo9) (Uaa @Zpa (Uaa @Zpb @Zpc))) (Uaa (Uaa @Zpd @Zpe) (Uaa @Zpf (Uaa @Zpg @Zph))))) (Uaa (Uaa (Uaa (Uaa @Zpi @Zgw) (Uaa @Zpj (Uaa @Zpk @Zpl))) (Uaa (Uaa @ZcE @ZgA) (Uaa @Zpm (Uaa @Zpn @Zpo)))) (Uaa (Uaa (Uaa @ZgB @Zpp) (Uaa @Zpq (Uaa @Zpr @Zps))) (Uaa (Uaa @Zpt @Zpu) (Uaa @Zpv (Uaa @Zpw @Zpx))))))
set_option linter.defProp false in
def EV5:=(Uaa (Uaa (Uaa (Uaa (Uaa @Zpy @Zpz) (Uaa @ZpA (Uaa @ZpB @ZpC))) (Uaa (Uaa @ZpD @ZpE) (Uaa @ZpF (Uaa @ZpG @ZpH)))) (Uaa (Uaa (Uaa @ZpI @ZpJ) (Uaa @ZpK (Uaa @ZpL @ZpM))) (Uaa (Uaa @ZpN @ZpO) (Uaa @ZpP (Uaa @ZpQ @ZpR))))) (Uaa (Uaa (Uaa (Uaa @ZpS @ZpT) (Uaa @ZpU (Uaa @ZpV @ZpW))) (Uaa (Uaa @ZpX @ZpY) (Uaa @ZpZ (Uaa @Zp0 @Zp1)))) (Uaa (Uaa (Uaa @Zp2 @Zp3) (Uaa @Zp4 (Uaa @Zp5 @Zp6))) (Uaa (Uaa @Zp7 @Zp8) (Uaa @Zp9 (Uaa @Zqa @Zqb))))))
set_option linter.defProp false in
def EV6:=(Uaa (Uaa (Uaa (Uaa (Uaa @Zqc @Zqd) (Uaa @Zqe (Uaa @Zqf @Zqg))) (Uaa (Uaa @Zqh @Zqi) (Uaa @Zqj (Uaa @Zqk @Zql)))) (Uaa (Uaa (Uaa @Zqm @Zqn) (Uaa @Zqo (Uaa @Zqp @Zqq))) (Uaa (Uaa @Zqr @Zqs) (Uaa @Zqt (Uaa @Zqu @Zqv))))) (Uaa (Uaa (Uaa (Uaa @Zqw @Zqx) (Uaa @Zqy (Uaa @Zqz @ZqA))) (Uaa (Uaa @ZqB @ZqC) (Uaa @ZqD (Uaa @ZqE @ZqF)))) (Uaa (Uaa (Uaa @ZqH @ZqI) (Uaa @ZqJ (Uaa @ZqK @Vb))) (Uaa (Uaa @Vc @ZqL) (Uaa @ZqM (Uaa @ZqN @ZqO))))))
set_option linter.defProp false in
def EV7:=(Uaa (Uaa (Uaa (Uaa (Uaa @ZqP @ZqQ) (Uaa @ZqR (Uaa @ZqS @ZqT))) (Uaa (Uaa @ZqU @ZqV) (Uaa @ZqW (Uaa @ZqX @ZqY)))) (Uaa (Uaa (Uaa @ZqZ @Zq0) (Uaa @Zq1 (Uaa @Zq2 @Zq3))) (Uaa (Uaa @Zq4 @Zq5) (Uaa @Zq6 (Uaa @Zq7 @Zq8))))) (Uaa (Uaa (Uaa (Uaa @Zq9 @Zra) (Uaa @Zrb (Uaa @Zrc @Zrd))) (Uaa (Uaa @Zre @Zrf) (Uaa @Zrg (Uaa @Zrh @Zri)))) (Uaa (Uaa (Uaa @Zrj @Zrk) (Uaa @Zrl (Uaa @Zrm @Zrn))) (Uaa (Uaa @Zro @Zrp) (Uaa @Zrq (Uaa @Zrr @Zrs))))))
set_option linter.defProp false in
def EV8:=(Uaa (Uaa (Uaa (Uaa (Uaa @Zrt @Zru) (Uaa @Zrv (Uaa @Zrw @Zrx))) (Uaa (Uaa @Zry @Zrz) (Uaa @ZrA (Uaa @ZrB @ZrC)))) (Uaa (Uaa (Uaa @ZrD @ZrE) (Uaa @ZrF (Uaa @ZrG @ZrH))) (Uaa (Uaa @ZrI @ZrJ) (Uaa @ZrK (Uaa @ZrL @ZrM))))) (Uaa (Uaa (Uaa (Uaa @ZrN @ZrO) (Uaa @ZrP (Uaa @ZrQ @ZrR))) (Uaa (Uaa @ZrS @ZrT) (Uaa @ZrU (Uaa @ZrV @ZrW)))) (Uaa (Uaa (Uaa @ZrX @ZrY) (Uaa @ZrZ (Uaa @Zr0 @Zr1))) (Uaa (Uaa @Zr2 @Zr3) (Uaa @Zr4 (Uaa @Zr5 @Zr6))))))
set_option linter.defProp false in
def EV9:=(Uaa (Uaa (Uaa (Uaa (Uaa @Zr7 @Zr8) (Uaa @Zr9 (Uaa @Zsa @ZcK))) (Uaa (Uaa @ZaB @Zsb) (Uaa @Zsc (Uaa @Zsd @Zse)))) (Uaa (Uaa (Uaa @Zsf @Zsg) (Uaa @Zsh (Uaa @Zsi @Zsj))) (Uaa (Uaa @Zsk @Zsl) (Uaa @Zsm (Uaa @Zsn @Zso))))) (Uaa (Uaa (Uaa (Uaa @Zsp @Zsq) (Uaa @Zsr (Uaa @Zss @Zst))) (Uaa (Uaa @Zsu @Zsv) (Uaa @Zsw (Uaa @Zsx @Zsy)))) (Uaa (Uaa (Uaa @Zsz @ZsA) (Uaa @ZsB (Uaa @ZsC @ZsD))) (Uaa (Uaa @ZsE @ZsF) (Uaa @ZsG (Uaa @ZsH @ZsI))))))
set_option linter.defProp false in
def ZtF:=(Uaa (Uaa (Uaa (Uaa (Uaa @ZsJ @ZsK) (Uaa @ZsL (Uaa @ZsM @ZsN))) (Uaa (Uaa @ZsO @ZsP) (Uaa @ZsQ (Uaa @ZsR @ZsS)))) (Uaa (Uaa (Uaa @ZsT @ZsU) (Uaa @ZsV (Uaa @ZsW @ZsX))) (Uaa (Uaa @ZsY @ZsZ) (Uaa @Zs0 (Uaa @Zs1 @Zs2))))) (Uaa (Uaa (Uaa (Uaa @Zs3 @Zti) (Uaa @Ztj (Uaa @Ztk @Ztl))) (Uaa (Uaa @Ztm @Ztn) (Uaa @Zto (Uaa @Ztp @Ztq)))) (Uaa (Uaa (Uaa @Ztr @Zts) (Uaa @Ztt (Uaa @Ztu @Ztv))) (Uaa (Uaa @Ztw @Ztx) (Uaa @Zty (Uaa @Ztz @ZtA))))))
set_option linter.defProp false in
def ZtG:=(Uaa (Uaa (Uaa (Uaa (Uaa @ZtB @ZtC) (Uaa @ZtD (Uaa @ZtE @bigN.eq_1))) (Uaa (Uaa @fpart.eq_1 @fpart.eq_2) (Uaa @okp.eq_1 (Uaa @okp.eq_2 @zfill.eq_1)))) (Uaa (Uaa (Uaa @zfill.eq_2 @zobs.eq_1) (Uaa @ptd.eq_1 (Uaa @ptd.eq_2 @keyOf.eq_1))) (Uaa (Uaa @keyOf.eq_2 @freshK.eq_1) (Uaa @freshK.eq_2 (Uaa @lk.eq_1 @lk.eq_2))))) (Uaa (Uaa (Uaa (Uaa @pt.eq_1 @pt.eq_2) (Uaa @lkO.eq_1 (Uaa @lkO.eq_2 @ptO.eq_1))) (Uaa (Uaa @ptO.eq_2 @addO.eq_1) (Uaa @addO.eq_2 (Uaa @xv.eq_1 @xv.eq_2)))) (Uaa (Uaa (Uaa @xv.eq_3 @kv.eq_1) (Uaa @kv.eq_2 (Uaa @kc.eq_1 @kc.eq_2))) (Uaa (Uaa @params.eq_1 @params.eq_2) (Uaa @trv.eq_1 (Uaa @trv.eq_2 @List.length_cons.{0}))))))
set_option linter.defProp false in
def ZtH:=(Uaa (Uaa (Uaa (Uaa (Uaa @List.length_nil.{0} @Option.getD_some.{0}) (Uaa @Option.getD_none.{0} (Uaa @true_and @and_true))) (Uaa (Uaa @decide_eq_true_eq @decide_true) (Uaa @decide_false (Uaa @Option.map_some.{0,0} @Option.map_none.{0,0})))) (Uaa (Uaa (Uaa @Option.isSome_some.{0} @Option.isSome_none.{0}) (Uaa @Option.isNone_some.{0} (Uaa @Option.isNone_none.{0} @Uay.{0,0}))) (Uaa (Uaa @UaR.{0,0} @List.cons_append.{0}) (Uaa @List.nil_append.{0} (Uaa @List.getElem?_cons_zero.{0} @List.getElem?_cons_succ.{0}))))) (Uaa (Uaa (Uaa (Uaa @List.drop_succ_cons.{0} @Ubz.{0}) (Uaa @List.take_succ_cons.{0} (Uaa @List.take_zero.{0} @List.headD_cons.{0}))) (Uaa (Uaa @List.headD_nil.{0} @List.tail_cons.{0}) (Uaa @List.tail_nil.{0} (Uaa @noSh.eq_1 @noSh.eq_2)))) (Uaa (Uaa (Uaa @noSh.eq_3 @noSh.eq_4) (Uaa @noSh.eq_5 (Uaa @noSh.eq_6 @noSh.eq_7))) (Uaa (Uaa @noSh.eq_8 @noShs.eq_1) (Uaa @noShs.eq_2 (Uaa @isSc.eq_1 @isSc.eq_2))))))
set_option linter.defProp false in
def ZtI:=(Uaa (Uaa (Uaa (Uaa (Uaa @impv.eq_1 @impv.eq_2) (Uaa @impv.eq_3 (Uaa @impv.eq_4 @impvs.eq_1))) (Uaa (Uaa @impvs.eq_2 @impc.eq_1) (Uaa @impc.eq_2 (Uaa @memB.eq_1 @memB.eq_2)))) (Uaa (Uaa (Uaa @keepB.eq_1 @keepB.eq_2) (Uaa @keepOB.eq_1 (Uaa @keepOB.eq_2 @or_true))) (Uaa (Uaa @true_or @or_false) (Uaa @false_or (Uaa @UaU @Bool.true_eq_false))))) (Uaa (Uaa (Uaa (Uaa @if_true.{1} @if_false.{1}) (Uaa @Bool.not_true (Uaa @Bool.not_false @scrE.eq_1))) (Uaa (Uaa @scrE.eq_2 @scrL.eq_1) (Uaa @scrL.eq_2 (Uaa @scr.eq_1 @scr.eq_2)))) (Uaa (Uaa (Uaa @scr.eq_3 @scr.eq_4) (Uaa @scr.eq_5 (Uaa @scr.eq_6 @scr.eq_7))) (Uaa (Uaa @scr.eq_8 @scrs.eq_1) (Uaa @scrs.eq_2 (Uaa @scrOb.eq_1 @scrOb.eq_2))))))
set_option linter.defProp false in
def ZtJ:=(Uaa (Uaa (Uaa (Uaa (Uaa @rmO.eq_1 @rmO.eq_2) (Uaa @Int.toNat_natCast (Uaa @Int.toNat_zero @Int.toNat_one))) (Uaa (Uaa @List.all_cons.{0} @List.all_nil.{0}) (Uaa @isCell.eq_1 (Uaa @isCell.eq_2 @isCell.eq_3)))) (Uaa (Uaa (Uaa @isCell.eq_4 @isCell.eq_5) (Uaa @isCell.eq_6 (Uaa @Ubt @Bool.true_and))) (Uaa (Uaa @Bool.and_self @cellsOf.eq_1) (Uaa @cellsOf.eq_2 (Uaa @totr.eq_1 @totr.eq_2))))) (Uaa (Uaa (Uaa (Uaa @totr.eq_3 @totr.eq_4) (Uaa @totr.eq_5 (Uaa @totrs.eq_1 @totrs.eq_2))) (Uaa (Uaa @tocs.eq_1 @getp.eq_1) (Uaa @getp.eq_2 (Uaa @cvt.eq_1 @cvt.eq_2)))) (Uaa (Uaa (Uaa @cvts.eq_1 @cvts.eq_2) (Uaa @Uax (Uaa @Nat.add_zero @List.set_cons_zero.{0}))) (Uaa (Uaa @List.set_cons_succ.{0} @Uau) (Uaa @Bool.not_eq_false' (Uaa @Uak @Uaf))))))
set_option linter.defProp false in
def ZtK:=(Uaa (Uaa (Uaa @Ua0.{0,0} @ne_eq.{1}) (Uaa @not_false_eq_true (Uaa @not_true_eq_false @Uab.{0,0}))) (Uaa (Uaa @Ubj.{0} (Uaa @List.replicate_zero.{0} @and_false)) (Uaa @false_and (Uaa @and_self @Int.cast_ofNat_Int))))
set_option linter.defProp false in
def Zb:=(Uaa (Uaa (Uaa (Uaa EV0 EV1) (Uaa EV2 EV3)) (Uaa (Uaa EV4 EV5) (Uaa EV6 EV7))) (Uaa (Uaa (Uaa EV8 EV9) (Uaa ZtF ZtG)) (Uaa (Uaa ZtH ZtI) (Uaa ZtJ ZtK))))
abbrev oo(d:Nat)(x:O):OP:=⟨some d,none,x⟩
abbrev ZT(x:O):OP:=⟨none,none,x⟩
abbrev og(d j:Nat)(w:Bool)(x:O):OP:=⟨some d,some (j,w),x⟩
abbrev om(d:Nat)(x:X):OP:=⟨some d,none,.mv x none⟩
abbrev rg(l:List OP):C2:=.rg none l
abbrev i6(n:Int):X:=.k (.int .i64 n)
open Go.Proofs.Tryz renaming prog->UbX
instance tabsP:Tabs:=⟨fun w=>Go.Lib.TabIs UbX w "internal/strconv.uint64pow10" .u64 Go.Lib.pow10Tab⟩
set_option maxRecDepth 10000
theorem Zs{c:Prop}[Decidable c]{p q:Prop}(h1:c->p)(h2:¬ c->q):if c then p else q:=by
 split
 ·exact h1 ‹_›
 ·exact h2 ‹_›
def Ve(n:Nat)(left:Int):Int:=if left-n<0 then -1 else left-n
def Yj{α:Type}(f:α->Int->Int):List α->Int->Int
 | [],l=>l
 | x::r,l=>if f x l<0 then -1 else Yj f r (f x l)
def JD{α:Type}(f:α->Int->Int)(a:List α)(left:Int):Int:=if left-a.length<0 then -1 else Yj f a (left-a.length)
def sz0:F2 :=
 { nt:=12,res:=[.t 4 [0]],body:=(.sq (.rg none [⟨some 4,none,.mv (.k (.int .i64 0)) none⟩]) (.sq (.rg none [⟨some 5,none,.mv (.t 1) none⟩,
   ⟨some 6,none,.mv (.t 0) none⟩,
   ⟨some 7,none,.ln (.t 6)⟩,
   ⟨some 8,none,.bi .sub 0 (.t 5) (.t 7)⟩,
   ⟨some 1,none,.mv (.t 8) none⟩]) (.sq (.sq (.rg none [⟨some 9,none,.mv (.t 1) none⟩,
    ⟨some 10,none,.bi .lss 0 (.t 9) (.k (.int .i64 0))⟩]) (.cd (.t 10) (.sq (.rg none [⟨some 4,none,.mv (.k (.int .i64 (-1))) none⟩]) (.rt)) (.sk))) (.sq (.rg none [⟨some 11,none,.mv (.t 1) none⟩,
   ⟨some 4,none,.mv (.t 11) none⟩]) (.rt))))) }
theorem ZtL{P:Program}{fid:FuncId}(hc:Zo P fid sz0=true)(es:Row)(left:Int)(h:es.length<=9223372036854775807)(h0:0<=left)(h1:left<=1048576)(lvl:Nat)(S:Zc) :
  Sem P fid lvl [.tr (.sl es),iI left] S (iI (Ve es.length left)) S:=by
 refine Zr hc trivial ?_
 simp only[sz0,Zb,seval,Za,men]
 refine⟨by rw[Zh];omega,?_⟩
 unfold Ve
 split <;> rfl
def U3(k:Nat)(m:Option Nat)(fid:FuncId):F2 :=
 { nt:=27,res:=[.t 4 [0]],body:=(.sq (.rg none [⟨some 4,none,.mv (.k (.int .i64 0)) none⟩]) (.sq (.rg none [⟨some 6,none,.mv (.t 1) none⟩,
   ⟨some 7,none,.mv (.t 0) none⟩,
   ⟨some 8,none,.ln (.t 7)⟩,
   ⟨some 9,none,.bi .sub 0 (.t 6) (.t 8)⟩,
   ⟨some 1,none,.mv (.t 9) none⟩]) (.sq (.sq (.rg none [⟨some 10,none,.mv (.t 1) none⟩,
    ⟨some 11,none,.bi .lss 0 (.t 10) (.k (.int .i64 0))⟩]) (.cd (.t 11) (.sq (.rg none [⟨some 4,none,.mv (.k (.int .i64 (-1))) none⟩]) (.rt)) (.sk))) (.sq (.sq (.rg none [⟨some 5,none,.mv (.k (.int .i64 0)) none⟩]) (.bl 0 (.lp [0,1,5] [] (.sq (.sq (.rg none [⟨some 12,none,.mv (.t 5) none⟩,
     ⟨some 13,none,.mv (.t 0) none⟩,
     ⟨some 14,none,.ln (.t 13)⟩,
     ⟨some 15,none,.bi .lss 0 (.t 12) (.t 14)⟩]) (.cd (.t 15) (.sk) (.ex 0))) (.sq (.bl 1 (.sq (.rg none [⟨some 18,none,.mv (.t 0) none⟩,
      ⟨some 19,none,.mv (.t 5) none⟩,
      ⟨some 20,none,.ia k (.t 18) (.t 19)⟩,
      ⟨some 21,none,.ld m (.t 20)⟩,
      ⟨some 22,none,.mv (.t 1) none⟩,
      ⟨some 23,none,.ca .pure false (.f fid) [.t 21,.t 22]⟩,
      ⟨some 1,none,.mv (.t 23) none⟩]) (.sq (.rg none [⟨some 24,none,.mv (.t 1) none⟩,
      ⟨some 25,none,.bi .lss 0 (.t 24) (.k (.int .i64 0))⟩]) (.cd (.t 25) (.sq (.rg none [⟨some 4,none,.mv (.k (.int .i64 (-1))) none⟩]) (.rt)) (.sk))))) (.rg none [⟨some 16,none,.mv (.t 5) none⟩,
    ⟨some 17,none,.bi .add 0 (.t 16) (.k (.int .i64 1))⟩,
    ⟨some 5,none,.mv (.t 17) none⟩])))))) (.sq (.rg none [⟨some 26,none,.mv (.t 1) none⟩,
   ⟨some 4,none,.mv (.t 26) none⟩]) (.rt)))))) }
theorem ZcN{P:Program}{fid fe:FuncId}{k:Nat}(hc:Zo P fid (U3 k (some k) fe)=true){α:Type}(c:α->List Tr)(f:α->Int->Int)(hk:∀ x,(c x).length=k)(a:List α)(left:Int)(h:a.length<=9223372036854775807)(h0:0<=left)(h1:left<=1048576)
  (hf:∀ x∈a,∀ l:Int,0<=l->l<=1048576->f x l<=l/\∀ lvl S,Sem P fe lvl [.ag ((c x).map .tr),iI l] S (iI (f x l)) S) (lvl:Nat) (S:Zc) :
  Sem P fid lvl [.tr (.sl (a.map c)),iI left] S (iI (JD f a left)) S:=by
 refine Zr hc trivial ?_
 simp only[U3,Uab,Zb,seval,Za,men]
 refine⟨by rw[Zh];omega,?_⟩
 unfold JD
 split
 ·rfl
 ·rename_i hlt
  generalize hr:Yj f a (left-a.length)=total
  refine JR (α:=Int) a.length (fun j l=>⟨lvl,[(0,.tr (.sl (a.map c))),(1,iI l),(5,iI j)],[],S⟩) (fun j l=>0<=l/\l<=1048576/\Yj f (a.drop j) l=total) (left-a.length) ⟨by simp only[Zb,seval,Za,men],by (simp only[Zb,seval,Za,men]) <;> rfl⟩ ⟨by omega,by omega,hr⟩ ?_
  intro j l hj ⟨hl0,hl1,hl⟩
  simp only[Uab,Zb,seval,Za,men]
  split
  ·rename_i hlt
   have hja:j<a.length:=by omega
   have ga:(a.map c)[j]? = some (c a[j]):=by simp [hja]
   have hkk:=hk a[j]
   have htk:(c a[j]).take k=c a[j]:=Uar (by omega)
   rw[Ubm hja] at hl
   obtain⟨hle,hsem⟩:=hf a[j] (Uan hja) l hl0 hl1
   simp only[ga,hkk,htk,Uak,Uaf,Zb,seval,Za,men]
   refine Zk hsem ?_
   simp only[Zb,seval,Za,men]
   split
   ·rename_i hneg
    simp only[Yj,if_pos hneg] at hl
    rw[hl]
   ·rename_i hneg
    simp only[Yj,if_neg hneg] at hl
    refine⟨by rw[Zh];omega,Zy (f a[j] l) hja rfl ⟨by omega,by omega,hl⟩⟩
  ·rename_i hge
   have:j=a.length:=by omega
   subst this
   simp only[UbG,Yj] at hl
   rw[hl]
def ZcO:F2 :=
 { nt:=28,res:=[.t 4 [0]],body:=(.sq (.rg none [⟨some 4,none,.mv (.k (.int .i64 0)) none⟩]) (.sq (.rg none [⟨some 6,none,.mv (.t 1) none⟩,
   ⟨some 7,none,.mv (.t 0) none⟩,
   ⟨some 8,none,.ln (.t 7)⟩,
   ⟨some 9,none,.bi .sub 0 (.t 6) (.t 8)⟩,
   ⟨some 1,none,.mv (.t 9) none⟩]) (.sq (.sq (.rg none [⟨some 10,none,.mv (.t 1) none⟩,
    ⟨some 11,none,.bi .lss 0 (.t 10) (.k (.int .i64 0))⟩]) (.cd (.t 11) (.sq (.rg none [⟨some 4,none,.mv (.k (.int .i64 (-1))) none⟩]) (.rt)) (.sk))) (.sq (.sq (.rg none [⟨some 5,none,.mv (.k (.int .i64 0)) none⟩]) (.bl 0 (.lp [0,1,5] [] (.sq (.sq (.rg none [⟨some 12,none,.mv (.t 5) none⟩,
     ⟨some 13,none,.mv (.t 0) none⟩,
     ⟨some 14,none,.ln (.t 13)⟩,
     ⟨some 15,none,.bi .lss 0 (.t 12) (.t 14)⟩]) (.cd (.t 15) (.sk) (.ex 0))) (.sq (.bl 1 (.sq (.rg none [⟨some 18,none,.mv (.t 1) none⟩,
      ⟨some 19,none,.mv (.t 0) none⟩,
      ⟨some 20,none,.mv (.t 5) none⟩,
      ⟨some 21,none,.ia 1 (.t 19) (.t 20)⟩,
      ⟨some 22,none,.ld none (.t 21)⟩,
      ⟨some 23,none,.lg (.t 22)⟩,
      ⟨some 24,none,.bi .sub 0 (.t 18) (.t 23)⟩,
      ⟨some 1,none,.mv (.t 24) none⟩]) (.sq (.rg none [⟨some 25,none,.mv (.t 1) none⟩,
      ⟨some 26,none,.bi .lss 0 (.t 25) (.k (.int .i64 0))⟩]) (.cd (.t 26) (.sq (.rg none [⟨some 4,none,.mv (.k (.int .i64 (-1))) none⟩]) (.rt)) (.sk))))) (.rg none [⟨some 16,none,.mv (.t 5) none⟩,
    ⟨some 17,none,.bi .add 0 (.t 16) (.k (.int .i64 1))⟩,
    ⟨some 5,none,.mv (.t 17) none⟩])))))) (.sq (.rg none [⟨some 27,none,.mv (.t 1) none⟩,
   ⟨some 4,none,.mv (.t 27) none⟩]) (.rt)))))) }
theorem ZtM{P:Program}{fid:FuncId}(hc:Zo P fid ZcO=true)(a:List ByteArray)(left:Int)(h:a.length<=9223372036854775807)(h0:0<=left)(h1:left<=1048576)
  (hf:∀ x∈a,x.size<=9223372036854775807) (lvl:Nat) (S:Zc) :
  Sem P fid lvl [tS a,iI left] S (iI (JD (fun x l=>l-x.size) a left)) S:=by
 refine Zr hc trivial ?_
 simp only[ZcO,Uab,Zb,seval,Za,men]
 refine⟨by rw[Zh];omega,?_⟩
 unfold JD
 split
 ·rfl
 ·rename_i hlt
  generalize hr:Yj (fun(x:ByteArray) l=>l-x.size) a (left-a.length)=total
  refine JR (α:=Int) a.length (fun j l=>⟨lvl,[(0,tS a),(1,iI l),(5,iI j)],[],S⟩) (fun j l=>0<=l/\l<=1048576/\Yj (fun(x:ByteArray) l=>l-x.size) (a.drop j) l=total) (left-a.length) ⟨by simp only[Zb,seval,Za,men],by (simp only[Zb,seval,Za,men]) <;> rfl⟩ ⟨by omega,by omega,hr⟩ ?_
  intro j l hj ⟨hl0,hl1,hl⟩
  simp only[Uab,Zb,seval,Za,men]
  split
  ·rename_i hlt
   have hja:j<a.length:=by omega
   have ga:(rS a)[j]? = some [ts a[j]]:=by simp [hja]
   rw[Ubm hja] at hl
   have hs:=hf a[j] (Uan hja)
   simp only[ga,Uak,Uaf,Zb,seval,Za,men]
   refine⟨by rw[Zh];omega,?_⟩
   split
   ·rename_i hneg
    simp only[Yj,if_pos hneg] at hl
    rw[hl]
   ·rename_i hneg
    simp only[Yj,if_neg hneg] at hl
    refine⟨by rw[Zh];omega,Zy (l-a[j].size) hja rfl ⟨by omega,by omega,hl⟩⟩
  ·rename_i hge
   have:j=a.length:=by omega
   subst this
   simp only[UbG,Yj] at hl
   rw[hl]
def U4(k:Nat)(m:Option Nat)(fid:FuncId):F2 :=
 { nt:=27,res:=[.t 4 [0]],body:=(.sq (.rg none [⟨some 4,none,.mv (.k (.bool false)) none⟩]) (.sq (.sq (.rg none [⟨some 6,none,.mv (.t 0) none⟩,
    ⟨some 7,none,.ln (.t 6)⟩,
    ⟨some 8,none,.mv (.t 1) none⟩,
    ⟨some 9,none,.ln (.t 8)⟩,
    ⟨some 10,none,.bi .neq 0 (.t 7) (.t 9)⟩]) (.cd (.t 10) (.sq (.rg none [⟨some 4,none,.mv (.k (.bool false)) none⟩]) (.rt)) (.sk))) (.sq (.sq (.rg none [⟨some 5,none,.mv (.k (.int .i64 0)) none⟩]) (.bl 0 (.lp [0,1,5] [] (.sq (.sq (.rg none [⟨some 11,none,.mv (.t 5) none⟩,
     ⟨some 12,none,.mv (.t 0) none⟩,
     ⟨some 13,none,.ln (.t 12)⟩,
     ⟨some 14,none,.bi .lss 0 (.t 11) (.t 13)⟩]) (.cd (.t 14) (.sk) (.ex 0))) (.sq (.bl 1 (.sq (.rg (some 0) [⟨some 17,none,.mv (.t 0) none⟩,
      ⟨some 18,none,.mv (.t 5) none⟩,
      ⟨some 19,none,.ia k (.t 17) (.t 18)⟩,
      ⟨some 20,none,.ld m (.t 19)⟩,
      ⟨some 21,none,.mv (.t 1) none⟩,
      ⟨some 22,none,.mv (.t 5) none⟩,
      ⟨some 23,none,.ia k (.t 21) (.t 22)⟩,
      ⟨some 24,none,.ld m (.t 23)⟩,
      ⟨some 25,none,.ca .pure false (.f fid) [.t 20,.t 24]⟩,
      ⟨some 26,none,.nt (.t 25)⟩]) (.cd (.t 26) (.sq (.rg none [⟨some 4,none,.mv (.k (.bool false)) none⟩]) (.rt)) (.sk)))) (.rg none [⟨some 15,none,.mv (.t 5) none⟩,
    ⟨some 16,none,.bi .add 0 (.t 15) (.k (.int .i64 1))⟩,
    ⟨some 5,none,.mv (.t 16) none⟩])))))) (.sq (.rg none [⟨some 4,none,.mv (.k (.bool true)) none⟩]) (.rt))))) }
theorem ZcP{α:Type}{a b:List α}{j:Nat}(ha:j<a.length)(hb:j<b.length)(h:a[j]≠b[j]):a≠b:=by
 intro e;subst e;exact h rfl
theorem ZcQ{α:Type}{a b:List α}(hl:a.length=b.length)(h:a.take a.length=b.take a.length):a=b:=by
 rw[UaT,hl,UaT] at h;exact h
theorem ZcR{α:Type}{a b:List α}{j:Nat}(ha:j<a.length)(hb:j<b.length)(h:a.take j=b.take j)(e:a[j]=b[j]):a.take (j+1)=b.take (j+1):=by
 rw[Uah ha,Uah hb,h,e]
theorem ZcS{P:Program}{fid fe:FuncId}{k:Nat}(hc:Zo P fid (U4 k (some k) fe)=true){α:Type}[DecidableEq α](c:α->List Tr)(hk:∀ x,(c x).length=k)(a b:List α)(ha:a.length<=9223372036854775807)
  (hf:∀ x∈a,∀ y∈b,∀ lvl S,Sem P fe lvl [.ag ((c x).map .tr),.ag ((c y).map .tr)] S (iB (decide (x=y))) S) (lvl:Nat) (S:Zc) :
  Sem P fid lvl [.tr (.sl (a.map c)),.tr (.sl (b.map c))] S (iB (decide (a=b))) S:=by
 refine Zr hc trivial ?_
 simp only[U4,Uab,Zb,seval,Za,men]
 split
 ·rename_i h
  have:¬ a=b:=fun e=>h (by rw[e])
  simp [this]
 ·rename_i h
  have hlen:a.length=b.length:=by omega
  refine JR (α:=Unit) a.length (fun j _=>⟨lvl,[(0,.tr (.sl (a.map c))),(1,.tr (.sl (b.map c))),(5,iI j)],[],S⟩) (fun j _=>a.take j=b.take j) () ⟨by simp only[Zb,seval,Za,men],by (simp only[Zb,seval,Za,men]) <;> rfl⟩ rfl ?_
  intro j _ hj hA
  simp only[Uab,Zb,seval,Za,men]
  split
  ·rename_i hlt
   have hja:j<a.length:=by omega
   have hjb:j<b.length:=by omega
   have ga:(a.map c)[j]? = some (c a[j]):=by simp [hja]
   have gb:(b.map c)[j]? = some (c b[j]):=by simp [hjb]
   have hka:=hk a[j]
   have hkb:=hk b[j]
   have hta:(c a[j]).take k=c a[j]:=Uar (by omega)
   have htb:(c b[j]).take k=c b[j]:=Uar (by omega)
   have hsem:=hf a[j] (Uan hja) b[j] (Uan hjb)
   simp only[ga,gb,hka,hkb,hta,htb,Uak,Uaf,Zb,seval,Za,men]
   refine Zk hsem ?_
   simp only[Uau,Zb,seval,Za,men]
   split
   ·rename_i hne
    have:¬ a=b:=ZcP hja hjb (by simpa using hne)
    simp [this]
   ·rename_i he
    refine⟨by rw[Zh];omega,Zy () hja rfl (ZcR hja hjb hA (by simpa using he))⟩
  ·rename_i hge
   have:j=a.length:=by omega
   subst this
   have:a=b:=ZcQ hlen hA
   simp [this]
def WZ:F2 :=
 { nt:=26,res:=[.t 4 [0]],body:=(.sq (.rg none [⟨some 4,none,.mv (.k (.bool false)) none⟩]) (.sq (.sq (.rg none [⟨some 6,none,.mv (.t 0) none⟩,
    ⟨some 7,none,.ln (.t 6)⟩,
    ⟨some 8,none,.mv (.t 1) none⟩,
    ⟨some 9,none,.ln (.t 8)⟩,
    ⟨some 10,none,.bi .neq 0 (.t 7) (.t 9)⟩]) (.cd (.t 10) (.sq (.rg none [⟨some 4,none,.mv (.k (.bool false)) none⟩]) (.rt)) (.sk))) (.sq (.sq (.rg none [⟨some 5,none,.mv (.k (.int .i64 0)) none⟩]) (.bl 0 (.lp [0,1,5] [] (.sq (.sq (.rg none [⟨some 11,none,.mv (.t 5) none⟩,
     ⟨some 12,none,.mv (.t 0) none⟩,
     ⟨some 13,none,.ln (.t 12)⟩,
     ⟨some 14,none,.bi .lss 0 (.t 11) (.t 13)⟩]) (.cd (.t 14) (.sk) (.ex 0))) (.sq (.bl 1 (.sq (.rg (some 0) [⟨some 17,none,.mv (.t 0) none⟩,
      ⟨some 18,none,.mv (.t 5) none⟩,
      ⟨some 19,none,.ia 1 (.t 17) (.t 18)⟩,
      ⟨some 20,none,.ld none (.t 19)⟩,
      ⟨some 21,none,.mv (.t 1) none⟩,
      ⟨some 22,none,.mv (.t 5) none⟩,
      ⟨some 23,none,.ia 1 (.t 21) (.t 22)⟩,
      ⟨some 24,none,.ld none (.t 23)⟩,
      ⟨some 25,none,.bi .neq 0 (.t 20) (.t 24)⟩]) (.cd (.t 25) (.sq (.rg none [⟨some 4,none,.mv (.k (.bool false)) none⟩]) (.rt)) (.sk)))) (.rg none [⟨some 15,none,.mv (.t 5) none⟩,
    ⟨some 16,none,.bi .add 0 (.t 15) (.k (.int .i64 1))⟩,
    ⟨some 5,none,.mv (.t 16) none⟩])))))) (.sq (.rg none [⟨some 4,none,.mv (.k (.bool true)) none⟩]) (.rt))))) }
theorem ZtN{P:Program}{fid:FuncId}(hc:Zo P fid WZ=true)(a b:List Int)(ha:a.length<=9223372036854775807)(lvl:Nat)(S:Zc):Sem P fid lvl [tI a,tI b] S (iB (decide (a=b))) S:=by
 refine Zr hc trivial ?_
 simp only[WZ,Uab,Zb,seval,Za,men]
 split
 ·rename_i h
  have:¬ a=b:=fun e=>h (by rw[e])
  simp [this]
 ·rename_i h
  have hlen:a.length=b.length:=by omega
  refine JR (α:=Unit) a.length (fun j _=>⟨lvl,[(0,tI a),(1,tI b),(5,iI j)],[],S⟩) (fun j _=>a.take j=b.take j) () ⟨by simp only[Zb,seval,Za,men],by (simp only[Zb,seval,Za,men]) <;> rfl⟩ rfl ?_
  intro j _ hj hA
  simp only[Uab,Zb,seval,Za,men]
  split
  ·rename_i hlt
   have hja:j<a.length:=by omega
   have hjb:j<b.length:=by omega
   have ga:(rI a)[j]? = some [tv a[j]]:=by simp [hja]
   have gb:(rI b)[j]? = some [tv b[j]]:=by simp [hjb]
   simp only[ga,gb,Uak,Uaf,Zb,seval,Za,men]
   split
   ·rename_i hne
    have:¬ a=b:=ZcP hja hjb (by simpa using hne)
    simp [this]
   ·rename_i he
    refine⟨by rw[Zh];omega,Zy () hja rfl (ZcR hja hjb hA (by simpa using he))⟩
  ·rename_i hge
   have:j=a.length:=by omega
   subst this
   have:a=b:=ZcQ hlen hA
   simp [this]
theorem ZtO{P:Program}{fid:FuncId}(hc:Zo P fid WZ=true)(a b:List ByteArray)(ha:a.length<=9223372036854775807)(lvl:Nat)(S:Zc):Sem P fid lvl [tS a,tS b] S (iB (decide (a=b))) S:=by
 refine Zr hc trivial ?_
 simp only[WZ,Uab,Zb,seval,Za,men]
 split
 ·rename_i h
  have:¬ a=b:=fun e=>h (by rw[e])
  simp [this]
 ·rename_i h
  have hlen:a.length=b.length:=by omega
  refine JR (α:=Unit) a.length (fun j _=>⟨lvl,[(0,tS a),(1,tS b),(5,iI j)],[],S⟩) (fun j _=>a.take j=b.take j) () ⟨by simp only[Zb,seval,Za,men],by (simp only[Zb,seval,Za,men]) <;> rfl⟩ rfl ?_
  intro j _ hj hA
  simp only[Uab,Zb,seval,Za,men]
  split
  ·rename_i hlt
   have hja:j<a.length:=by omega
   have hjb:j<b.length:=by omega
   have ga:(rS a)[j]? = some [ts a[j]]:=by simp [hja]
   have gb:(rS b)[j]? = some [ts b[j]]:=by simp [hjb]
   simp only[ga,gb,Uak,Uaf,Zb,seval,Za,men]
   split
   ·rename_i hne
    have:¬ a=b:=ZcP hja hjb (by simpa using hne)
    simp [this]
   ·rename_i he
    refine⟨by rw[Zh];omega,Zy () hja rfl (ZcR hja hjb hA (by simpa using he))⟩
  ·rename_i hge
   have:j=a.length:=by omega
   subst this
   have:a=b:=ZcQ hlen hA
   simp [this]
def JS{α:Type}(c:α->List Tr)(z:List Tr)(a:List α)(j:Nat):Row:=(a.take j).map c++List.replicate (a.length-j) z
theorem U5{α:Type}(c:α->List Tr)(z:List Tr)(a:List α):JS c z a 0=List.replicate a.length z:=by simp [JS]
theorem U6{α:Type}(c:α->List Tr)(z:List Tr)(a:List α):JS c z a a.length=a.map c:=by simp [JS]
theorem ZcT{α:Type}{c:α->List Tr}{z:List Tr}{a:List α}{j:Nat}(h:j<=a.length):(JS c z a j).length=a.length:=by
 simp [JS];omega
theorem U7{α:Type}{c:α->List Tr}{z:List Tr}{a:List α}{j:Nat}(h:j<a.length):(JS c z a j)[j]? = some z:=by
 unfold JS
 have h1:((a.take j).map c).length=j:=by rw[Uab,Uao];omega
 rw[Uaq (by omega),h1,UbC,Ubs]
 rw[if_pos (by omega)]
theorem U8{α:Type}{c:α->List Tr}{z e:List Tr}{a:List α}{j:Nat}(h:j<a.length)(he:e=c a[j]):(JS c z a j).set j e=JS c z a (j+1):=by
 subst he
 unfold JS
 have h1:((a.take j).map c).length=j:=by simp;omega
 rw[UbB _ _ (by omega),h1,UbC,show a.length-j=(a.length-(j+1))+1 from by omega,List.replicate_succ,List.set_cons_zero,Uah h,Ua8]
 simp
def W0(z:Value):F2 :=
 { nt:=22,res:=[.t 2 [2]],body:=(.sq (.rg none [⟨some 2,none,.mv (.k (.slice none 0 0)) none⟩]) (.sq (.rg none [⟨some 5,none,.mv (.t 0) none⟩,
   ⟨some 6,none,.ln (.t 5)⟩,
   ⟨some 7,none,.ms 1 [z] (.t 6)⟩,
   ⟨some 3,none,.mv (.t 7) none⟩]) (.sq (.sq (.rg none [⟨some 4,none,.mv (.k (.int .i64 0)) none⟩]) (.bl 0 (.lp [0,3,4] [224] (.sq (.sq (.rg none [⟨some 8,none,.mv (.t 4) none⟩,
     ⟨some 9,none,.mv (.t 0) none⟩,
     ⟨some 10,none,.ln (.t 9)⟩,
     ⟨some 11,none,.bi .lss 0 (.t 8) (.t 10)⟩]) (.cd (.t 11) (.sk) (.ex 0))) (.sq (.bl 1 (.rg none [⟨some 14,none,.mv (.t 3) none⟩,
     ⟨some 15,none,.mv (.t 4) none⟩,
     ⟨some 16,none,.mv (.t 0) none⟩,
     ⟨some 17,none,.mv (.t 4) none⟩,
     ⟨some 18,none,.ia 1 (.t 16) (.t 17)⟩,
     ⟨some 19,none,.ld none (.t 18)⟩,
     ⟨some 20,none,.ia 1 (.t 14) (.t 15)⟩,
     ⟨none,none,.st 1 (.t 20) (.t 19)⟩])) (.rg none [⟨some 12,none,.mv (.t 4) none⟩,
    ⟨some 13,none,.bi .add 0 (.t 12) (.k (.int .i64 1))⟩,
    ⟨some 4,none,.mv (.t 13) none⟩])))))) (.sq (.rg none [⟨some 21,none,.mv (.t 3) none⟩,
   ⟨some 2,none,.mv (.t 21) none⟩]) (.rt))))) }
theorem ZtP{P:Program}{fid:FuncId}(hc:Zo P fid (W0 (.int .i64 0))=true)(a:List Int)(ha:a.length<=4294967296)(lvl:Nat)(S:Zc):Sem P fid lvl [tI a] S (.ow 1 (rI a) true) S:=by
 refine Zr hc trivial ?_
 simp only[W0,Uab,bigN,Uak,Zb,seval,Za,men]
 refine⟨by omega,?_⟩
 refine JR (α:=Unit) a.length (fun j _=>⟨lvl,[(0,tI a),(3,.hd (lvl,224) [] 0 a.length none a.length),(4,iI j)],[(224,.ar 1 (JS (fun n=>[tv n]) [tv 0] a j) true a.length 0)],S⟩) (fun _ _=>True) () ⟨by simp only[Zb,seval,Za,men],by (simp only[U5,Zb,seval,Za,men]) <;> rfl⟩ trivial ?_
 intro j _ hj _
 simp only[Uab,Zb,seval,Za,men]
 split
 ·rename_i hlt
  have hja:j<a.length:=by omega
  have ga:(rI a)[j]? = some [tv a[j]]:=by simp [hja]
  have gz:(JS (fun n=>[tv n]) [tv 0] a j)[j]? = some [tv 0]:=U7 hja
  simp only[ga,gz,Uak,Uaf,hja,ZG,List.set_cons_zero,XB,Zb,seval,Za,men]
  refine⟨by rw[Zh];omega,Zy () hja ?_ trivial⟩
  rw[U8 hja rfl]
  rfl
 ·rename_i hge
  have:j=a.length:=by omega
  subst this
  rw[U6]
  simp
theorem ZtQ{P:Program}{fid:FuncId}(hc:Zo P fid (W0 (.string ⟨#[]⟩))=true)(a:List ByteArray)(ha:a.length<=4294967296)(lvl:Nat)(S:Zc):Sem P fid lvl [tS a] S (.ow 1 (rS a) true) S:=by
 refine Zr hc trivial ?_
 simp only[W0,Uab,bigN,Uak,Zb,seval,Za,men]
 refine⟨by omega,?_⟩
 refine JR (α:=Unit) a.length (fun j _=>⟨lvl,[(0,tS a),(3,.hd (lvl,224) [] 0 a.length none a.length),(4,iI j)],[(224,.ar 1 (JS (fun n=>[ts n]) [ts ⟨#[]⟩] a j) true a.length 0)],S⟩) (fun _ _=>True) () ⟨by simp only[Zb,seval,Za,men],by (simp only[U5,Zb,seval,Za,men]) <;> rfl⟩ trivial ?_
 intro j _ hj _
 simp only[Uab,Zb,seval,Za,men]
 split
 ·rename_i hlt
  have hja:j<a.length:=by omega
  have ga:(rS a)[j]? = some [ts a[j]]:=by simp [hja]
  have gz:(JS (fun n=>[ts n]) [ts ⟨#[]⟩] a j)[j]? = some [ts ⟨#[]⟩]:=U7 hja
  simp only[ga,gz,Uak,Uaf,hja,ZG,List.set_cons_zero,XB,Zb,seval,Za,men]
  refine⟨by rw[Zh];omega,Zy () hja ?_ trivial⟩
  rw[U8 hja rfl]
  rfl
 ·rename_i hge
  have:j=a.length:=by omega
  subst this
  rw[U6]
  simp
end Go.Fd

namespace Go.Fd
variable [Tabs]
def Jc:Row->Ze->Row->Row
 | _,[],r=>r
 | es,(a,b)::p,r =>
  match es[a]? with
  | some e =>
   match e[b]? with
   | some (.sl es')=>es.set a (e.set b (.sl (Jc es' p r)))
   | _=>es
  | none=>es
theorem ZcU{es es':Row}{a b:Nat}{p:Ze}{e:List Tr}(h1:es[a]? = some e)(h2:e[b]? = some (.sl es')):getp es ((a,b)::p)=getp es' p:=by
 simp only[getp,h1,h2]
theorem Qt{es es':Row}{a b:Nat}{p:Ze}{e:List Tr}{r:Row}(h1:es[a]? = some e)(h2:e[b]? = some (.sl es')):Jc es ((a,b)::p) r=es.set a (e.set b (.sl (Jc es' p r))):=by
 simp only[Jc,h1,h2]
theorem ZtR{es es':Row}{a b i f:Nat}{p:Ze}{e:List Tr}{t:Tr}(h1:es[a]? = some e)(h2:e[b]? = some (.sl es')):ZG es ((a,b)::p) i f t=es.set a (e.set b (.sl (ZG es' p i f t))):=by
 simp only[ZG,h1,h2]
theorem W1{es r0:Row}{a b:Nat}{p:Ze}(h:getp es ((a,b)::p)=some r0):∃ e es',es[a]? = some e/\e[b]? = some (.sl es')/\getp es' p=some r0:=by
 simp only[getp] at h
 cases h1:es[a]? with
 | none=>rw[h1] at h;cases h
 | some e =>
  rw[h1] at h
  cases h2:e[b]? with
  | none=>simp only[h2] at h;cases h
  | some t =>
   simp only[h2] at h
   cases t with
   | v x=>cases h
   | sl es' => exact⟨e,es',rfl,h2,h⟩
theorem W2{α:Type}{l:List α}{a:Nat}{x y:α}(h:l[a]? = some x):(l.set a y)[a]? = some y:=by
 rw[Uba];exact(Uac.1 h).1
theorem Wa{r:Row}:∀{p:Ze} {es r0:Row},getp es p=some r0->getp (Jc es p r) p=some r
 | [],_,_,_=>rfl
 | (a,b)::p,es,r0,h=>by
  obtain⟨e,es',h1,h2,h3⟩:=W1 h
  rw[Qt h1 h2,ZcU (W2 h1) (W2 h2)]
  exact Wa h3
theorem ZgR{r s:Row}:∀{p:Ze} {es r0:Row},getp es p=some r0->Jc (Jc es p r) p s=Jc es p s
 | [],_,_,_=>rfl
 | (a,b)::p,es,r0,h=>by
  obtain⟨e,es',h1,h2,h3⟩:=W1 h
  rw[Qt h1 h2,Qt h1 h2,Qt (W2 h1) (W2 h2),ZgR h3,Ubi,Ubi]
theorem ZgS{r:Row}{i f:Nat}{t:Tr}{e0:List Tr}(hi:r[i]? = some e0):∀{p:Ze} {es r0:Row},getp es p=some r0->ZG (Jc es p r) p i f t=Jc es p (r.set i (e0.set f t))
 | [],es,_,_=>by simp only[Jc,ZG,hi]
 | (a,b)::p,es,r0,h=>by
  obtain⟨e,es',h1,h2,h3⟩:=W1 h
  rw[Qt h1 h2,Qt h1 h2,ZtR (W2 h1) (W2 h2),ZgS hi h3,Ubi,Ubi]
theorem ZgT{q:Ze}:∀{p:Ze} {es r0:Row},getp es p=some r0->getp es (p++q)=getp r0 q
 | [],es,r0,h=>by simp only[getp,Uam] at h;subst h;rfl
 | (a,b)::p,es,r0,h=>by
  obtain⟨e,es',h1,h2,h3⟩:=W1 h
  rw[List.cons_append,ZcU h1 h2]
  exact ZgT h3
theorem ZgU{q:Ze}{z:Row}:∀{p:Ze} {es r0:Row},getp es p=some r0->Jc es (p++q) z=Jc es p (Jc r0 q z)
 | [],es,r0,h=>by simp only[getp,Uam] at h;subst h;rfl
 | (a,b)::p,es,r0,h=>by
  obtain⟨e,es',h1,h2,h3⟩:=W1 h
  rw[List.cons_append,Qt h1 h2,Qt h1 h2,ZgU h3]
theorem ZcV{α:Type}{l:List α}{a:Nat}{x:α}(h:l[a]? = some x):l.set a x=l:=by
 obtain⟨h1,h2⟩:=Uac.1 h
 rw[<-h2,List.set_getElem_self]
theorem ZgV:∀{p:Ze} {es r:Row},getp es p=some r->Jc es p r=es
 | [],es,r,h=>by simp only[getp,Uam] at h;subst h;rfl
 | (a,b)::p,es,r,h=>by
  obtain⟨e,es',h1,h2,h3⟩:=W1 h
  rw[Qt h1 h2,ZgV h3,ZcV h2,ZcV h1]
theorem VL{S:Zc}{id:Zd}{a b:Ob}:Zf (Zf S id a) id b=Zf S id b:=by
 funext i
 unfold Zf
 split <;> rfl
theorem W3{S:Zc}{id:Zd}{a:Ob}(h:S id=some a):Zf S id a=S:=by
 funext i
 unfold Zf
 split
 ·rename_i e;rw[e,h]
 ·rfl
theorem U9{lvl:Nat}{loc:List (Nat×Ob)}{S:Zc}{id:Zd}{o:Ob}(h:id.1≠lvl):Zw lvl loc (Zf S id o)=Zf (Zw lvl loc S) id o:=by
 funext i
 by_cases e:i=id
 ·subst e
  rw[JZ h]
  unfold Zf
  rw[if_pos rfl,if_pos rfl]
 ·unfold Zf Zw
  simp only[if_neg e]
section mark
variable {α:Type} (m:α->Int->α) (n:α->Nat)
def mL:List α->Int->List α
 | [],_=>[]
 | x::r,k=>m x k::mL r (k+n x)
def nL:List α->Nat
 | []=>0
 | x::r=>n x+nL r
theorem Jo:∀(a:List α) (k:Int),(mL m n a k).length=a.length
 | [],_=>rfl
 | x::r,k=>by simp only[mL,List.length_cons,Jo r]
theorem ZcW:∀(a b:List α),nL n (a++b)=nL n a+nL n b
 | [],b=>by simp [nL]
 | x::r,b=>by simp only[List.cons_append,nL,ZcW r b];omega
theorem ZgW:∀(a b:List α) (k:Int),mL m n (a++b) k=mL m n a k++mL m n b (k+nL n a)
 | [],b,k=>by simp [mL,nL]
 | x::r,b,k=>by
  simp only[List.cons_append,mL,nL,ZgW r b]
  rw[show k+(n x:Int)+(nL n r:Int)=k+((n x+nL n r:Nat):Int) from by omega]
def kJ(a:List α)(k:Int)(j:Nat):Int:=k+nL n (a.take j)
def lJ(a:List α)(k:Int)(j:Nat):List α:=mL m n (a.take j) k++a.drop j
theorem W4{a:List α}{k:Int}:kJ n a k 0=k:=by simp [kJ,nL]
theorem Da{a:List α}{k:Int}:lJ m n a k 0=a:=by simp [lJ,mL]
theorem W5{a:List α}{k:Int}:kJ n a k a.length=k+nL n a:=by simp [kJ]
theorem Db{a:List α}{k:Int}:lJ m n a k a.length=mL m n a k:=by simp [lJ]
theorem VM{a:List α}{k:Int}{j:Nat}(h:j<a.length):kJ n a k (j+1)=kJ n a k j+n a[j]:=by
 unfold kJ
 rw[Uah h,ZcW]
 simp only[nL]
 omega
theorem W6{a:List α}{k:Int}{j:Nat}:kJ n a k j<=k+nL n a:=by
 have:nL n a=nL n (a.take j)+nL n (a.drop j):=by rw[<-ZcW,List.take_append_drop]
 unfold kJ
 omega
theorem W7{a:List α}{k:Int}{j:Nat}:k<=kJ n a k j:=by unfold kJ;omega
theorem ZtS{a:List α}{k:Int}{j:Nat}:(lJ m n a k j).length=a.length:=by
 unfold lJ
 rw[Uai,Jo,Uao,UbF]
 omega
theorem ZtT{a:List α}{k:Int}{j:Nat}(h:j<a.length):(lJ m n a k j)[j]? = some a[j]:=by
 unfold lJ
 have h1:(mL m n (a.take j) k).length=j:=by rw[Jo,Uao];omega
 rw[Uaq (by omega),h1,UbC,UaM,Nat.add_zero,Uag h]
theorem ZtU{a:List α}{k:Int}{j:Nat}(h:j<a.length):(lJ m n a k j).set j (m a[j] (kJ n a k j))=lJ m n a k (j+1):=by
 unfold lJ
 have h1:(mL m n (a.take j) k).length=j:=by rw[Jo,Uao];omega
 rw[UbB _ _ (by omega),h1,UbC,Ubm h,List.set_cons_zero,Uah h,ZgW]
 simp only[mL,kJ,Uav,List.cons_append,List.nil_append]
theorem Dc(c:α->List Tr){a:List α}{k:Int}{j:Nat}(h:j<a.length):∃ R:Row,j<R.length/\(lJ m n a k j).map c=R.set j (c a[j])/\(lJ m n a k (j+1)).map c=R.set j (c (m a[j] (kJ n a k j))):=by
 refine⟨(lJ m n a k j).map c,by rw[Uab,ZtS];exact h,?_,?_⟩
 ·refine(ZcV ?_).symm
  rw[Uaz,ZtT m n h];rfl
 ·rw[<-ZtU m n h,List.map_set]
end mark
theorem Qu{R:Row}{j:Nat}(h:j<R.length)(e:List Tr):(R.set j e)[j]? = some e:=Uba h
theorem Q5{es r0:Row}{p:Ze}{R:Row}{j:Nat}(hv:getp es p=some r0)(h:j<R.length)(e:List Tr)(f:Nat)(t:Tr):ZG (Jc es p (R.set j e)) p j f t=Jc es p (R.set j (e.set f t)):=by
 rw[ZgS (Qu h e) hv,Ubi]
def MarkS(P:Program)(fid:FuncId){α:Type}(c:α->List Tr)(m:α->Int->α)(n:α->Nat)(B:α->Prop):Prop :=
 ∀(a:List α) (k:Int) (lvl:Nat) (S:Zc) (id:Zd) (p:Ze) (es r0:Row) (kk hw ver st:Nat) (cap:Option Nat),id.1<lvl->getp es p=some r0->JA p st hw ver true->0<=k->k+nL n a<=4611686018427387904 ->
  a.length<=4294967296->(∀ x∈a,B x)->Sem P fid lvl [.hd id p 0 a.length cap st,iI k] (Zf S id (.ar kk (Jc es p (a.map c)) true hw ver)) (iI (k+nL n a)) (Zf S id (.ar kk (Jc es p ((mL m n a k).map c)) true hw ver))
theorem MarkS.nested{P:Program}{fid:FuncId}{α:Type}{c:α->List Tr}{m:α->Int->α}{n:α->Nat}{B:α->Prop}(hm:MarkS P fid c m n B){a:List α}{k:Int}{lvl:Nat}{S:Zc}{id:Zd}{p:Ze}{es r0:Row}{kk hw ver j f:Nat}{R:Row}{e:List Tr}
  (hid:id.1<lvl) (hv:getp es p=some r0) (h0:0<=k) (h1:k+nL n a<=4611686018427387904) (hl:a.length<=4294967296) (hB:∀ x∈a,B x) (hj:j<R.length) (he:e[f]? = some (.sl (a.map c))) :
  Sem P fid lvl [.hd id (p++[(j,f)]) 0 a.length none ver,iI k] (Zf S id (.ar kk (Jc es p (R.set j e)) true hw ver)) (iI (k+nL n a)) (Zf S id (.ar kk (Jc es p (R.set j (e.set f (.sl ((mL m n a k).map c))))) true hw ver)):=by
 have hR:(R.set j e)[j]? = some e:=by rw[Uba hj]
 have g1:getp (Jc es p (R.set j e)) p=some (R.set j e):=Wa hv
 have g2:getp (Jc es p (R.set j e)) (p++[(j,f)])=some (a.map c):=by
  rw[ZgT g1,ZcU hR he];rfl
 have:=hm a k lvl S id (p++[(j,f)]) (Jc es p (R.set j e)) _ kk hw ver ver none hid g2 (by cases p <;> exact⟨rfl,rfl⟩) h0 h1 hl hB
 rw[ZgV g2,ZgU g1,ZgR hv,Qt hR he] at this
 simp only[Jc,Ubi] at this
 exact this
theorem ZtV{P:Program}{fid:FuncId}{α:Type}{c:α->List Tr}{m:α->Int->α}{n:α->Nat}{B:α->Prop}(hm:MarkS P fid c m n B){a:List α}{k:Int}{lvl len:Nat}{S:Zc}{id:Zd}{p:Ze}{es r0:Row}{kk hw ver j f:Nat}{R:Row}{e:List Tr}{env:List (Nat×IV)}{loc:List (Nat×Ob)}{d:Option Nat}{K:St->Prop}
  (hid:id.1<lvl) (hv:getp es p=some r0) (h0:0<=k) (h1:k+nL n a<=4611686018427387904) (hl:a.length<=4294967296) (hB:∀ x∈a,B x) (hj:j<R.length) (he:e[f]? = some (.sl (a.map c))) (hlen:len=a.length)
  (hk:K ⟨lvl,ptd d (iI (k+nL n a)) env,loc,Zf S id (.ar kk (Jc es p (R.set j (e.set f (.sl ((mL m n a k).map c))))) true hw ver)⟩) :
  Q4 (Sem P) fid true lvl env loc (Zf S id (.ar kk (Jc es p (R.set j e)) true hw ver)) d K [.hd id (p++[(j,f)]) 0 len none ver,iI k]:=by
 subst hlen
 have hne:id.1≠lvl:=by omega
 refine X6 (r:=iI (k+nL n a)) loc (Zf S id (.ar kk (Jc es p (R.set j (e.set f (.sl ((mL m n a k).map c))))) true hw ver)) ?_ ?_ ⟨?_,hk⟩
 ·intro i hi
  have:i≠id:=fun e=>hne (by rw[<-e];exact hi)
  unfold Zf
  rw[if_neg this,if_neg this]
 ·rw[U9 hne,U9 hne]
  exact hm.nested (Uby hid) hv h0 h1 hl hB hj he
 ·trivial
theorem W8{lvl key:Nat}{loc:List (Nat×Ob)}{out:Zc}{o:Ob}:Zw lvl (ptO key o loc) out=Zf (Zw lvl loc out) (lvl,key) o:=by
 funext i
 unfold Zw Zf
 by_cases h:i.1=lvl
 ·rw[if_pos h,Uu]
  by_cases h2:i.2=key
  ·have:i=(lvl,key):=by obtain⟨a,b⟩:=i;simp only at h h2;rw[h,h2]
   rw[if_pos h2,if_pos this]
  ·have:¬ i=(lvl,key):=fun e=>h2 (by rw[e])
   rw[if_neg h2,if_neg this]
   exact(if_pos h).symm
 ·have:¬ i=(lvl,key):=fun e=>h (by rw[e])
  rw[if_neg h,if_neg this]
  exact(if_neg h).symm
theorem ZaJ{P:Program}{fid:FuncId}{α:Type}{c:α->List Tr}{m:α->Int->α}{n:α->Nat}{B:α->Prop}(hm:MarkS P fid c m n B){a:List α}{k:Int}{lvl:Nat}{out:Zc}{id:Zd}{kk hw ver:Nat}{cap:Option Nat}{env:List (Nat×IV)}{loc:List (Nat×Ob)}{d:Option Nat}{K:St->Prop}
  (hid:id.1<lvl) (hS:out id=some (.ar kk (a.map c) true hw ver)) (h0:0<=k) (h1:k+nL n a<=4611686018427387904) (hl:a.length<=4294967296) (hB:∀ x∈a,B x)
  (hk:K ⟨lvl,ptd d (iI (k+nL n a)) env,loc,Zf out id (.ar kk ((mL m n a k).map c) true hw ver)⟩) :
  Q4 (Sem P) fid true lvl env loc out d K [.hd id [] 0 a.length cap hw,iI k]:=by
 have hne:id.1≠lvl:=by omega
 refine X6 (r:=iI (k+nL n a)) loc (Zf out id (.ar kk ((mL m n a k).map c) true hw ver)) ?_ ?_ ⟨?_,hk⟩
 ·intro i hi
  have:i≠id:=fun e=>hne (by rw[<-e];exact hi)
  unfold Zf
  rw[if_neg this]
 ·rw[U9 hne]
  have e:Zw lvl loc out=Zf (Zw lvl loc out) id (.ar kk (Jc (a.map c) [] (a.map c)) true hw ver):=(W3 (by rw[JZ hne];exact hS)).symm
  have:=hm a k (lvl+1) (Zw lvl loc out) id [] (a.map c) (a.map c) kk hw ver hw cap (Uby hid) rfl rfl h0 h1 hl hB
  rw[<-e] at this
  exact this
 ·trivial
theorem ZgX{P:Program}{fid:FuncId}{α:Type}{c:α->List Tr}{m:α->Int->α}{n:α->Nat}{B:α->Prop}(hm:MarkS P fid c m n B){a:List α}{k:Int}{lvl key:Nat}{out:Zc}{kk hw ver:Nat}{cap:Option Nat}{env:List (Nat×IV)}{loc:List (Nat×Ob)}{d:Option Nat}{K:St->Prop}
  (hS:lkO key loc=some (.ar kk (a.map c) true hw ver)) (h0:0<=k) (h1:k+nL n a<=4611686018427387904) (hl:a.length<=4294967296) (hB:∀ x∈a,B x)
  (hk:K ⟨lvl,ptd d (iI (k+nL n a)) env,ptO key (.ar kk ((mL m n a k).map c) true hw ver) loc,out⟩) :
  Q4 (Sem P) fid true lvl env loc out d K [.hd (lvl,key) [] 0 a.length cap hw,iI k]:=by
 refine X6 (r:=iI (k+nL n a)) (ptO key (.ar kk ((mL m n a k).map c) true hw ver) loc) out (fun _ _=>rfl) ?_ ⟨?_,hk⟩
 ·rw[W8]
  have e:Zw lvl loc out=Zf (Zw lvl loc out) (lvl,key) (.ar kk (Jc (a.map c) [] (a.map c)) true hw ver):=(W3 (by unfold Zw;rw[if_pos rfl];exact hS)).symm
  have:=hm a k (lvl+1) (Zw lvl loc out) (lvl,key) [] (a.map c) (a.map c) kk hw ver hw cap (UaD _) rfl rfl h0 h1 hl hB
  rw[<-e] at this
  exact this
 ·trivial
end Go.Fd

namespace Go.Fd
def Jx(l:Int)(g:Int->Int):Int:=if l<0 then -1 else g l
def Zq(c:Int)(s:Int->Int)(q:Nat):Prop:=∀ l:Int,0<=l->l<=1048576->s l<=l/\(0<=s l->(q:Int)<=c+256*(l-s l))
theorem ZaK:Zq 0 (fun l=>l) 0:=fun l _ _=>⟨Ubc _,fun _=>by simp only;omega⟩
theorem Wb{c e:Int}{s g:Int->Int}{q r:Nat}(hc:0<=c)(he:0<=e)(hs:Zq c s q)(hg:Zq e g r):Zq (c+e) (fun l=>Jx (s l) g) (q+r):=fun l h0 h1=>by
 have a:=hs l h0 h1
 by_cases h:s l<0
 ·simp only[Jx,if_pos h]
  exact⟨by omega,fun h=>by omega⟩
 ·simp only[Jx,if_neg h]
  have b:=hg (s l) (by omega) (by omega)
  refine⟨by omega,fun h2=>?_⟩
  have:=a.2 (by omega)
  have:=b.2 h2
  omega
theorem ZgY{α:Type}(n:α->Nat)(hn:∀ x,n x<=256)(a:List α):Zq 0 (fun l=>Ve a.length l) (nL n a):=fun l h0 h1=>by
 have hh:∀ b:List α,nL n b<=256*b.length:=fun b=>by
  induction b with
  | nil=>exact Uaf 0
  | cons x r ih=>simp only[nL,List.length_cons];have:=hn x;omega
 have:=hh a
 simp only[Ve]
 split
 ·exact⟨by omega,fun h=>by omega⟩
 ·exact⟨by omega,fun h=>by omega⟩
theorem ZgZ(n:Nat):Zq 0 (fun l=>l-n) 0:=fun l h0 h1=>⟨by simp only;omega,fun h=>by simp only at h ⊢;omega⟩
theorem ZtW(n:Nat):Zq 256 (fun l=>l-n) 1:=fun l h0 h1=>⟨by simp only;omega,fun h=>by simp only at h ⊢;omega⟩
theorem Zg0{α:Type}{f:α->Int->Int}{n:α->Nat}(hf:∀ x,Zq 256 (f x) (n x)):∀(a:List α),Zq (256*a.length) (fun l=>Yj f a l) (nL n a)
 | []=>fun l _ _=>⟨Ubc l,fun _=>by simp only[Yj,nL,List.length_nil];omega⟩
 | x::r=>fun l h0 h1=>by
  simp only[Yj,nL,List.length_cons]
  have a:=hf x l h0 h1
  split
  ·exact⟨by omega,fun h=>by omega⟩
  ·have b:=Zg0 hf r (f x l) (by omega) (by omega)
   simp only at b
   refine⟨by omega,fun h=>?_⟩
   have:=a.2 (by omega)
   have:=b.2 h
   omega
theorem ZaL{α:Type}{f:α->Int->Int}{n:α->Nat}(hf:∀ x,Zq 256 (f x) (n x))(a:List α):Zq 0 (fun l=>JD f a l) (nL n a):=fun l h0 h1=>by
 simp only[JD]
 split
 ·exact⟨by omega,fun h=>by omega⟩
 ·have b:=Zg0 hf a (l-a.length) (by omega) (by omega)
  simp only at b
  refine⟨by omega,fun h=>?_⟩
  have:=b.2 h
  omega
theorem Wc{c e:Int}{s:Int->Int}{q r:Nat}(h:Zq c s q)(hq:(r:Int)+c<=q+e):Zq e s r:=fun l h0 h1=>by
 have a:=h l h0 h1
 refine⟨a.1,fun h2=>?_⟩
 have:=a.2 h2
 omega
set_option maxRecDepth 10000
structure TNode where
 control:Int
 parent:Int
 links:(List Int)
 deriving DecidableEq
def ZB(x:TNode):List Tr:=[tv x.control,tv x.parent,.sl (rI x.links)]
theorem ZtX(x:TNode):(ZB x).length=3:=rfl
def ZaM(x:TNode):IV:=.ag [iI x.control,iI x.parent,.ow 1 (rI x.links) true]
def VN(n:Nat)(x:TNode):Prop:=x.links.length<=n
def ZcX(x:TNode):Prop:=Z2 .i64 x.control/\Z2 .i64 x.parent/\(∀ y∈x.links,Z2 .i64 y)
def VO(x:TNode)(l:Int):Int:=Jx (Ve x.links.length l) fun l=>l
structure TWire where
 name:ByteArray
 link:Int
 deriving DecidableEq
def ZU(x:TWire):List Tr:=[ts x.name,tv x.link]
theorem ZtY(x:TWire):(ZU x).length=2:=rfl
def ZaN(x:TWire):IV:=.ag [iS x.name,iI x.link]
def Vt(n:Nat)(x:TWire):Prop:=x.name.size<=n
def ZcY(x:TWire):Prop:=Z2 .i64 x.link
def VP(x:TWire)(l:Int):Int:=Jx (l-x.name.size) fun l=>l
structure TBigraph where
 roots:Int
 nodes:(List TNode)
 sites:(List Int)
 edges:Int
 outer:(List ByteArray)
 inner:(List TWire)
 deriving DecidableEq
def Zl(x:TBigraph):List Tr:=[tv x.roots,.sl (x.nodes.map ZB),.sl (rI x.sites),tv x.edges,.sl (rS x.outer),.sl (x.inner.map ZU)]
def JE(x:TBigraph):IV:=.ag [iI x.roots,.ow 3 (x.nodes.map ZB) true,.ow 1 (rI x.sites) true,iI x.edges,.ow 1 (rS x.outer) true,.ow 2 (x.inner.map ZU) true]
def Vf(n:Nat)(x:TBigraph):Prop:=x.nodes.length<=n/\(∀ y∈x.nodes,VN n y)/\x.sites.length<=n/\x.outer.length<=n/\(∀ y∈x.outer,y.size<=n)/\x.inner.length<=n/\(∀ y∈x.inner,Vt n y)
def Dd(x:TBigraph):Prop:=Z2 .i64 x.roots/\(∀ y∈x.nodes,ZcX y)/\(∀ y∈x.sites,Z2 .i64 y)/\Z2 .i64 x.edges/\(∀ y∈x.inner,ZcY y)
def Wd(x:TBigraph)(l:Int):Int:=Jx (JD VO x.nodes l) fun l=>Jx (Ve x.sites.length l) fun l=>Jx (JD (fun x m=>m-x.size) x.outer l) fun l=>Jx (JD VP x.inner l) fun l=>l
structure TControl where
 name:ByteArray
 ports:Int
 kind_:Int
 deriving DecidableEq
def ZE(x:TControl):List Tr:=[ts x.name,tv x.ports,tv x.kind_]
theorem Zg1(x:TControl):(ZE x).length=3:=rfl
def ZaO(x:TControl):IV:=.ag [iS x.name,iI x.ports,iI x.kind_]
def J2(n:Nat)(x:TControl):Prop:=x.name.size<=n
def Zg2(x:TControl):Prop:=Z2 .i64 x.ports/\Z2 .i64 x.kind_
def YU(x:TControl)(l:Int):Int:=Jx (l-x.name.size) fun l=>l
abbrev Zg3:FuncId:=3
abbrev ZcZ:FuncId:=4
abbrev Zc0:FuncId:=5
abbrev Zc1:FuncId:=6
abbrev W9:FuncId:=7
abbrev Ua:FuncId:=8
abbrev ZaP:FuncId:=9
abbrev We:FuncId:=10
abbrev Zc2:FuncId:=11
abbrev Zc3:FuncId:=12
abbrev Zc4:FuncId:=13
abbrev ZaQ:FuncId:=14
abbrev De:FuncId:=15
abbrev ZaR:FuncId:=16
abbrev Zc5:FuncId:=17
abbrev Zc6:FuncId:=18
abbrev ZaS:FuncId:=19
abbrev Zc7:FuncId:=20
abbrev Zc8:FuncId:=21
abbrev Zc9:FuncId:=22
abbrev Zda:FuncId:=23
abbrev Zdb:FuncId:=24
abbrev Zdc:FuncId:=25
abbrev ZaT:FuncId:=26
abbrev Zdd:FuncId:=27
abbrev Zde:FuncId:=28
abbrev Zdf:FuncId:=29
abbrev ZaU:FuncId:=30
abbrev ZaV:FuncId:=31
abbrev Zdg:FuncId:=32
abbrev ZaW:FuncId:=33
abbrev Zdh:FuncId:=34
abbrev Zdi:FuncId:=35
abbrev Zdj:FuncId:=36
abbrev Zdk:FuncId:=37
abbrev Df:FuncId:=38
abbrev Zdl:FuncId:=39
abbrev Zdm:FuncId:=40
abbrev Zdn:FuncId:=41
abbrev Zdo:FuncId:=42
abbrev Zdp:FuncId:=43
abbrev Zdq:FuncId:=44
abbrev V9:FuncId:=45
abbrev ZaX:FuncId:=46
abbrev Zdr:FuncId:=47
abbrev Zds:FuncId:=48
abbrev ZaY:FuncId:=49
abbrev ZaZ:FuncId:=50
abbrev Zdt:FuncId:=51
abbrev Za0:FuncId:=52
abbrev Zdu:FuncId:=53
abbrev Zdv:FuncId:=54
abbrev Zdw:FuncId:=55
abbrev Qv:FuncId:=56
abbrev Za1:FuncId:=57
abbrev Zdx:FuncId:=58
abbrev Za2:FuncId:=59
abbrev Zdy:FuncId:=60
abbrev Zdz:FuncId:=61
abbrev Za3:FuncId:=62
abbrev ZdA:FuncId:=63
abbrev Zg4:FuncId:=64
abbrev ZdB:FuncId:=65
abbrev Zg5:FuncId:=66
abbrev ZdC:FuncId:=67
abbrev XF:FuncId:=68
abbrev ZdD:FuncId:=69
abbrev Wf:FuncId:=70
abbrev ZdE:FuncId:=71
abbrev ZdF:FuncId:=72
abbrev ZdG:FuncId:=73
abbrev ZdH:FuncId:=74
abbrev ZdI:FuncId:=75
abbrev Za4:FuncId:=76
abbrev Za5:FuncId:=77
abbrev Za6:FuncId:=78
abbrev Zg6:FuncId:=79
abbrev Za7:FuncId:=80
abbrev Zg7:FuncId:=81
abbrev Zg8:FuncId:=82
abbrev Dg:FuncId:=84
abbrev ZdJ:FuncId:=85
abbrev ZdK:FuncId:=86
abbrev ZdL:FuncId:=87
abbrev ZdM:FuncId:=88
abbrev Zg9:FuncId:=89
abbrev Zha:FuncId:=90
abbrev ZdN:FuncId:=92
abbrev ZtZ:FuncId:=93
abbrev Zt0:FuncId:=94
abbrev Zt1:FuncId:=95
abbrev Zt2:FuncId:=96
abbrev Zt3:FuncId:=97
abbrev Za8:FuncId:=98
abbrev Zt4:FuncId:=99
abbrev Zt5:FuncId:=100
abbrev Zt6:FuncId:=101
abbrev ZdO:FuncId:=102
abbrev ZdP:FuncId:=103
abbrev ZdQ:FuncId:=104
abbrev ZdR:FuncId:=105
abbrev Za9:FuncId:=122
abbrev qM(d a:Nat):OP:=om d (.t a)
abbrev qL(d a:Nat):OP:=oo d (.ld none (.t a))
abbrev qF(d o a:Nat):OP:=oo d (.fa o (.t a))
abbrev qN(d a:Nat):OP:=oo d (.ln (.t a))
abbrev qS(d k a:Nat):OP:=oo d (.ld (some k) (.t a))
abbrev qE(d i a:Nat):OP:=oo d (.ex i (.t a))
abbrev qI(d k a b:Nat):OP:=oo d (.ia k (.t a) (.t b))
abbrev qB(d:Nat)(o:BinOp)(a b:Nat):OP:=oo d (.bi o 0 (.t a) (.t b))
end Go.Fd
