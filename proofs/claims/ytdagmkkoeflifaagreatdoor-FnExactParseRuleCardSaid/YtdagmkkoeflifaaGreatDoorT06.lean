/-
  RULES, BOTH SIDES. Own work.
-/
import Derived.Test.YtdagmkkoeflifaaGreatDoorT05
import Derived.Lib.SplitLaws
import Derived.Lib.IndexLaws
import Derived.Lib.CutLaws
import Derived.Lib.AtoiAll
import Derived.Shelf.Strings.Cut
import Derived.Shelf.Strings.Split
import Derived.Test.YtdagmkkoeflifaaGreatDoorProg
import Derived.Shelf.Strconv.AtoiAll
import Derived.Shelf.Strconv.ErrVarAll
set_option linter.all false
namespace Go.Fd
set_option maxRecDepth 20000
theorem ZgN(sig:List TControl)(b:TBigraph)(hn:sig.length<=4294967296)(hbs:∀ y∈sig,Zz 4294967296 y)(hb:ZP 4294967296 b)(hf:XK b)(lvl:Nat)(S:Sto):Sem Proofs.Tryz.prog Qe lvl [.tr (.sl (sig.map Zg)),.ag ((Zb b).map .tr)] S (iB (dc (bigOK sig b/\solid b))) S:=by
 refine Ze Zc2 trivial ?_
 simp only[UV,List.length_map,Zb,EVA,seval,Zc,men]
 refine Za (ZaN sig b hn hbs hb hf) ?_
 cases h1:dc (bigOK sig b)
 ·simp only[EVA,seval,Zc,men]
  rw[Zh fun g:bigOK sig b/\solid b=>dc_not.1 h1 g.1]
 simp only[List.length_map,Zb,EVA,seval,Zc,men]
 have g1:=dc_iff.1 h1
 refine Za (ZgM b g1.small) ?_
 simp only[EVA,seval,Zc,men]
 rw[JK (p:=bigOK sig b/\solid b) ⟨fun g=>g.2,fun g=>⟨g1,g⟩⟩]
theorem ZcD(a b:List ByteArray)(ha:a.length<=4294967296)(hb:b.length<=4294967296)(lvl:Nat)(S:Sto):Sem Proofs.Tryz.prog YC lvl [.tr (.sl (rS a)),.tr (.sl (rS b))] S (iB (dc (a=b))) S:=by
 refine Ze DF trivial ?_
 simp only[Xg,List.length_map,EVA,seval,Zc,men]
 refine ZE (α:=Unit) (min a.length b.length) (fun j _=>[(5,iI j)]) (fun j _=>[]) (fun j _=>∀ k,k<j->∀(h1:k<a.length) (h2:k<b.length),a[k]=b[k]) () (by simp only[EVA,seval,Zc,men]) (by (simp only[EVA,seval,Zc,men]) <;> rfl) (fun k hk=>absurd hk (Nat.not_lt_zero k)) ?_
 intro j _ hj hA
 simp only[List.length_map,EVA,seval,Zc,men]
 by_cases hlt:j<min a.length b.length
 ·have hja:j<a.length:=by omega
  have hjb:j<b.length:=by omega
  have q1:(j:Int)<a.length:=by omega
  have q2:(j:Int)<b.length:=by omega
  have ga:=Xo (c:=fun s=>[ts s]) hja
  have gb:=Xo (c:=fun s=>[ts s]) hjb
  simp only[q1,q2,ga,gb,List.length_map,EVA,seval,Zc,men]
  by_cases hc:a[j]=b[j]
  ·simp only[hc,EVA,seval,Zc,men]
   exact⟨by rw[Zd];omega,Zf () hlt rfl (ZfR hA fun _ _=>hc)⟩
  ·simp only[hc,EVA,seval,Zc,men]
   have:¬ a=b:=fun h=>hc (by subst h;rfl)
   rw[Zh this]
 ·have fin:((a.length:Int)=b.length)↔a=b:=⟨fun h=>List.ext_getElem (by omega) fun k h1 h2=>hA k (by omega) h1 h2,fun h=>by rw[h]⟩
  by_cases q1:(j:Int)<a.length
  ·have q2:¬ (j:Int)<b.length:=by omega
   simp only[q1,q2,List.length_map,EVA,seval,Zc,men]
   rw[<-J2,JK fin]
  ·simp only[q1,List.length_map,EVA,seval,Zc,men]
   rw[<-J2,JK fin]
def ZdC(r:TRule)(k:Int):Prop:=0<=k/\k<=(r.redex.sites.length:Int)-1
structure ruleOK (sig:List TControl) (r:TRule):Prop where
 red:bigOK sig r.redex
 sol:solid r.redex
 rea:bigOK sig r.reactum
 inn:r.reactum.inner.length=0
 roots:r.redex.roots=r.reactum.roots
 outer:r.redex.outer=r.reactum.outer
 copies:∀ k∈r.copies,ZdC r k
 len:r.copies.length=r.reactum.sites.length
def ZbR(r:TRule):Prop:=(∀ k∈r.copies,ZdC r k)/\r.copies.length=r.reactum.sites.length
theorem ZfW(r:TRule)(hb:Ws 4294967296 r)(lvl:Nat)(S:Sto):Sem Proofs.Tryz.prog VQ lvl [.ag ((ZM r).map .tr)] S (iB (dc (ZbR r))) S:=by
 obtain⟨⟨a1,a2,a3,a4,a5,a6,a7⟩,⟨b1,b2,b3,b4,b5,b6,b7⟩,b8⟩:=hb
 refine Ze Zcn trivial ?_
 simp only[W8,ZM,List.length_map,EVA,seval,Zc,men]
 refine ZE (α:=Unit) r.copies.length (fun j _=>[(3,iI j)]) (fun j _=>[]) (fun j _=>∀ k,k<j->ZdC r (g0 r.copies k)) () (by simp only[EVA,seval,Zc,men]) (by (simp only[EVA,seval,Zc,men]) <;> rfl) (fun k hk=>absurd hk (Nat.not_lt_zero k)) ?_
 intro j _ hj hA
 simp only[List.length_map,EVA,seval,Zc,men]
 refine Zk (fun hlt=>?_) (fun hge=>?_)
 ·have hja:j<r.copies.length:=by omega
  have ga:=DW hja
  simp only[ga,List.length_map,EVA,seval,Zc,men]
  refine⟨by rw[Zd];omega,?_⟩
  refine Za (Jt (g0 r.copies j) 0 ((r.redex.sites.length:Int)-1)) ?_
  cases hc:inB (g0 r.copies j) 0 ((r.redex.sites.length:Int)-1)
  ·simp only[EVA,seval,Zc,men]
   rw[Zh fun h:ZbR r=>inB_not.1 hc (h.1 _ (by simp [hja]))]
  ·simp only[EVA,seval,Zc,men]
   exact⟨by rw[Zd];omega,Zf () hja rfl (ZfR hA (inB_iff.1 hc))⟩
 ·have hj1:j=r.copies.length:=by omega
  subst hj1
  have hiff:ZbR r↔(r.copies.length:Int)=r.reactum.sites.length:=⟨fun h=>by have:=h.2;omega,fun h=>⟨fun n hn=>by
   obtain⟨k,hk,rfl⟩:=List.getElem_of_mem hn
   have:=hA k hk
   simpa [hk] using this,by omega⟩⟩
  rw[JK hiff,J2]
theorem Zim(sig:List TControl)(r:TRule)(hn:sig.length<=4294967296)(hbs:∀ y∈sig,Zz 4294967296 y)(hb:Ws 4294967296 r)(hf:ZjA r)(lvl:Nat)(S:Sto):Sem Proofs.Tryz.prog QM lvl [.tr (.sl (sig.map Zg)),.ag ((ZM r).map .tr)] S (iB (dc (ruleOK sig r))) S:=by
 have hb0:=hb
 obtain⟨d1,d2,d3⟩:=hb
 obtain⟨f1,f2,f3⟩:=hf
 refine Ze Zen trivial ?_
 simp only[Dz,ZM,List.length_map,EVA,seval,Zc,men]
 refine Za (ZgN sig r.redex hn hbs d1 f1) ?_
 cases h1:dc (bigOK sig r.redex/\solid r.redex)
 ·simp only[EVA,seval,Zc,men]
  rw[Zh fun h:ruleOK sig r=>dc_not.1 h1 ⟨h.red,h.sol⟩]
 simp only[ZM,List.length_map,EVA,seval,Zc,men]
 refine Za (ZaN sig r.reactum hn hbs d2 f2) ?_
 cases h2:dc (bigOK sig r.reactum)
 ·simp only[EVA,seval,Zc,men]
  rw[Zh fun h:ruleOK sig r=>dc_not.1 h2 h.rea]
 have g1:=dc_iff.1 h1
 have g2:=dc_iff.1 h2
 by_cases h3:(r.reactum.inner.length:Int)=0
 case neg =>
  simp only[h3,ZM,List.length_map,EVA,seval,Zc,men]
  rw[Zh fun h:ruleOK sig r=>by have:=h.inn;omega]
 by_cases h4:r.redex.roots=r.reactum.roots
 case neg =>
  simp only[h3,h4,ZM,List.length_map,EVA,seval,Zc,men]
  rw[Zh fun h:ruleOK sig r=>h4 h.roots]
 have h4':(r.redex.roots=r.reactum.roots)=True:=eq_true h4
 simp only[h3,h4',ZM,List.length_map,EVA,seval,Zc,men]
 have o1:=g1.1.outer.2
 have o2:=g2.outer.2
 refine Za (ZcD r.redex.outer r.reactum.outer (by omega) (by omega)) ?_
 cases h5:dc (r.redex.outer=r.reactum.outer)
 ·simp only[EVA,seval,Zc,men]
  rw[Zh fun h:ruleOK sig r=>dc_not.1 h5 h.outer]
 simp only[ZM,List.length_map,EVA,seval,Zc,men]
 refine Za (ZfW r hb0) ?_
 simp only[EVA,seval,Zc,men]
 rw[JK (p:=ruleOK sig r) (q:=ZbR r) ⟨fun h=>⟨h.copies,h.len⟩,fun h=>⟨g1.1,g1.2,g2,by omega,h4,dc_iff.1 h5,h.1,h.2⟩⟩]
theorem Zin(sig:List TControl)(a b:TBigraph)(hn:sig.length<=4294967296)(hbs:∀ y∈sig,Zz 4294967296 y)(ha:ZP 4294967296 a)(hb:ZP 4294967296 b)(lvl:Nat)(S:Sto):Sem Proofs.Tryz.prog QP lvl [.tr (.sl (sig.map Zg)),.ag ((Zb a).map .tr),.ag ((Zb b).map .tr)] S (iB (dc (bigOK sig a/\bigOK sig b))) S:=by
 refine Ze Zes trivial ?_
 simp only[DI,Zb,List.length_map,EVA,seval,Zc,men]
 refine Za (VI sig a hn hbs ha) ?_
 cases h1:dc (bigOK sig a)
 ·simp only[EVA,seval,Zc,men]
  rw[Zh fun h:bigOK sig a/\bigOK sig b=>dc_not.1 h1 h.1]
 simp only[Zb,List.length_map,EVA,seval,Zc,men]
 refine Za (VI sig b hn hbs hb) ?_
 simp only[EVA,seval,Zc,men]
 rw[JK (p:=bigOK sig a/\bigOK sig b) (q:=bigOK sig b) ⟨fun h=>h.2,fun h=>⟨dc_iff.1 h1,h⟩⟩]
theorem ZfX(k:Int)(r:TRule)(hb:r.redex.sites.length<=4294967296)(lvl:Nat)(S:Sto):Sem Proofs.Tryz.prog VT lvl [iI k,.ta (ZM r)] S (iB (!dc (ZdC r k))) S:=by
 refine Ze Zcp trivial ?_
 simp only[Ua,ZM,List.length_map,EVA,seval,Zc,men]
 refine⟨by rw[Zd];omega,?_⟩
 refine Za (Yy k 0 ((r.redex.sites.length:Int)-1)) ?_
 simp only[EVA,seval,Zc,men]
 rw[ZhD]
 rfl
theorem Zqr:Z3 Proofs.Tryz.prog JT ZuG=true:=by kernel_rfl
theorem ZcE(sig:List TControl)(r:TRule)(hn:sig.length<=4294967296)(hbs:∀ y∈sig,Zz 4294967296 y)(hb:Ws 4294967296 r)(_hf:ZjA r)(lvl:Nat)(S:Sto):Sem Proofs.Tryz.prog QO lvl [.tr (.sl (sig.map Zg)),.ag ((ZM r).map .tr)] S (iB (dc (ruleOK sig r))) S:=by
 obtain⟨d1,d2,d3⟩:=hb
 refine Ze Zep trivial ?_
 simp only[DC,ZM,List.length_map,EVA,seval,Zc,men]
 refine Za (Zin sig r.redex r.reactum hn hbs d1 d2) ?_
 cases h1:dc (bigOK sig r.redex/\bigOK sig r.reactum)
 ·simp only[EVA,seval,Zc,men]
  rw[Zh fun h:ruleOK sig r=>dc_not.1 h1 ⟨h.red,h.rea⟩]
 have g1:=dc_iff.1 h1
 simp only[ZM,List.length_map,EVA,seval,Zc,men]
 refine Za (Zbq r.redex g1.1.small) ?_
 cases h2:dc (solid r.redex)
 ·simp only[EVA,seval,Zc,men]
  rw[Zh fun h:ruleOK sig r=>dc_not.1 h2 h.sol]
 by_cases h3:(0:Int)<r.reactum.inner.length
 ·simp only[h3,ZM,List.length_map,EVA,seval,Zc,men]
  rw[Zh fun h:ruleOK sig r=>by have:=h.inn;omega]
 by_cases h4:r.redex.roots=r.reactum.roots
 case neg =>
  simp only[h3,h4,ZM,List.length_map,EVA,seval,Zc,men]
  rw[Zh fun h:ruleOK sig r=>h4 h.roots]
 have h4':(r.redex.roots=r.reactum.roots)=True:=eq_true h4
 simp only[h3,h4',ZM,List.length_map,EVA,seval,Zc,men]
 have o1:=g1.1.outer.2
 have o2:=g1.2.outer.2
 refine Za (Znf Zqr ZuH r.redex.outer r.reactum.outer (by omega)) ?_
 by_cases h5:r.redex.outer=r.reactum.outer
 case neg =>
  simp only[h5,ZM,List.length_map,EVA,seval,Zc,men]
  rw[Zh fun h:ruleOK sig r=>h5 h.outer]
 have h5':(r.redex.outer=r.reactum.outer)=True:=eq_true h5
 by_cases h6:r.copies.length=r.reactum.sites.length
 case neg =>
  have h6':¬ (r.copies.length:Int)=r.reactum.sites.length:=by omega
  simp only[h5',h6',ZM,List.length_map,EVA,seval,Zc,men]
  rw[Zh fun h:ruleOK sig r=>h6 h.len]
 have h6':((r.copies.length:Int)=r.reactum.sites.length)=True:=eq_true (by omega)
 simp only[h5',h6',ZM,List.length_map,EVA,seval,Zc,men]
 refine Za (ZeB (t:=tv) (cs:=[ZM r]) ZjH ZjG r.copies (by omega) (fun x _ lvl S=>ZfX x r d1.2.2.1 lvl S)) ?_
 cases h7:r.copies.any fun k=>!dc (ZdC r k)
 ·simp only[EVA,seval,Zc,men]
  have:ruleOK sig r:=⟨g1.1,dc_iff.1 h2,g1.2,by omega,h4,h5,any_no.1 h7,h6⟩
  rw[JF this]
 ·simp only[EVA,seval,Zc,men]
  rw[Zh fun h:ruleOK sig r=>by rw[any_no.2 h.copies] at h7;cases h7]
end Go.Fd

namespace Go.Fd
set_option maxRecDepth 20000
abbrev ySP:ByteArray:=⟨#[32]⟩
abbrev yAT:ByteArray:=⟨#[64]⟩
abbrev yEQ:ByteArray:=⟨#[61]⟩
abbrev ySEMI:ByteArray:=⟨#[59,32]⟩
abbrev ySITES:ByteArray:=⟨#[115,105,116,101,115]⟩
abbrev U5:ByteArray:=⟨#[111,117,116,101,114]⟩
abbrev yINNER:ByteArray:=⟨#[105,110,110,101,114]⟩
abbrev ZfY:ByteArray:=⟨#[32,45,62,32]⟩
abbrev ZhI:ByteArray:=⟨#[32,124]⟩
def ZaQ(sig:List TControl)(x:TNode):ByteArray:=(Xr sig x.control++yAT)++ZH x.parent
def Zaa(sig:List TControl)(x:TNode):ByteArray:=YJ spI (ZaQ sig x) x.links
def JP(sig:List TControl)(b:TBigraph):List ByteArray:=b.nodes.map (Zaa sig)
def ZaR(w:TWire):ByteArray:=((ySP++w.name)++yEQ)++ZH w.link
def WO(w:ByteArray)(l:List TWire):ByteArray:=l.foldl (fun a x=>a++ZaR x) w
def XP(b:TBigraph):ByteArray:=YJ spI ySITES b.sites
def Xt(b:TBigraph):ByteArray:=Zdc (U5::b.outer) ySP
def Qp(b:TBigraph):ByteArray:=WO yINNER b.inner
def Zab(b:TBigraph):List ByteArray:=[XP b,ZH b.edges,Xt b]
def Uh(sig:List TControl)(b:TBigraph):List ByteArray:=((ZH b.roots::JP sig b)++Zab b)++[Qp b]
def Ui(sig:List TControl)(b:TBigraph):ByteArray:=Zdc (Uh sig b) ySEMI
def UL(sig:List TControl)(r:TRule):ByteArray:=(Ui sig r.redex++ZfY)++YJ spI (Ui sig r.reactum++ZhI) r.copies
theorem Zio{w:ByteArray}{l:List TWire}{j:Nat}(h:j<l.length):WO w (l.take (j+1))=WO w (l.take j)++ZaR l[j]:=by
 unfold WO
 rw[List.take_succ_eq_append_getElem h,List.foldl_append]
 rfl
theorem ZeI:∀(l:List TWire) (w:ByteArray),bl (WO w l)=bl w++l.flatMap fun x=>bl (ZaR x)
 | [],w=>by simp [WO]
 | x::r,w=>by
  have ih:=ZeI r (w++ZaR x)
  rw[show WO w (x::r)=WO (w++ZaR x) r from rfl,ih,JO,List.flatMap_cons,List.append_assoc]
theorem UF{B:Nat}:∀(l:List TWire) (w:ByteArray),(∀ k∈l,(ZaR k).size<=B)->(WO w l).size<=w.size+l.length*B
 | [],w,_=>by simp [WO]
 | x::r,w,h=>by
  have ih:=UF r (w++ZaR x) fun k hk=>h k (by simp [hk])
  have h1:=h x (by simp)
  rw[show WO w (x::r)=WO (w++ZaR x) r from rfl,List.length_cons,Nat.succ_mul]
  rw[ByteArray.size_append] at ih
  omega
theorem ZhJ{B:Nat}{sep:ByteArray}:∀{r:List ByteArray},(∀ x∈r,x.size<=B)->(r.flatMap fun y=>bl sep++bl y).length<=r.length*(B+sep.size)
 | [],_=>by simp
 | x::r,h=>by
  have ih:=ZhJ (r:=r) (sep:=sep) fun y hy=>h y (by simp [hy])
  have h1:=h x (by simp)
  rw[List.flatMap_cons,List.length_append,List.length_append,ZO,ZO,List.length_cons,Nat.succ_mul]
  omega
theorem ZdD{B:Nat}{sep x:ByteArray}{r:List ByteArray}(h0:x.size<=B)(h:∀ x∈r,x.size<=B):(Zdc (x::r) sep).size<=B+r.length*(B+sep.size):=by
 rw[<-ZO,DZ,List.length_append,ZO]
 have:=ZhJ (sep:=sep) h
 omega
theorem ZjP{s:List UInt8}:∀{l:List ByteArray},s++l.flatMap (fun y=>bl y++s)=l.flatMap (fun y=>s++bl y)++s
 | []=>by simp
 | x::r=>by
  rw[List.flatMap_cons,List.flatMap_cons,<-List.append_assoc,<-List.append_assoc,List.append_assoc (s++bl x),ZjP (l:=r),List.append_assoc (s++bl x)]
theorem Wg{l:List ByteArray}(h:VH l){s:ByteArray}(hs:s∈l):s.size<=4:=by
 obtain⟨i,hi,rfl⟩:=List.getElem_of_mem hs
 exact(h.1 i hi).1.2.2
structure FitY (sig:List TControl) (b:TBigraph):Prop where
 roots:smN b.roots
 edges:smN b.edges
 par:∀ x∈b.nodes,smN x.parent
 links:∀ x∈b.nodes,smL x.links/\x.links.length<=1000
 sites:smL b.sites
 wires:∀ w∈b.inner,smN w.link/\w.name.size<=1000
 outer:∀ s∈b.outer,s.size<=1000
theorem ZiJ{sig:List TControl}{b:TBigraph}(h:bigOK sig b):FitY sig b:=by
 have h1:=h.roots;have h2:=h.edges;have h3:=h.nodesL;have h4:=h.small.outer
 have hd1:∀ s∈b.outer,s.size<=1000:=fun s hs=>by have:=Wg h.outer hs;omega
 have hd2:∀ w∈b.inner,w.name.size<=1000:=fun w hw=>by have:=Wg h.inn (List.mem_map.2 ⟨w,hw,rfl⟩:w.name∈inn b);omega
 have hl:∀ l,QZ b l->smN l:=fun l hl=>by unfold QZ at hl;exact⟨by omega,by omega⟩
 have hu:∀ p (k:Int),k<=8->Ug sig b p k->smN p:=fun p k hk hu=>by
  rcases hu with q | q
  ·exact⟨by omega,by omega⟩
  ·exact⟨by omega,by omega⟩
 refine⟨⟨by omega,by omega⟩,⟨by omega,by omega⟩,fun x hx=>?_,fun x hx=>⟨fun l hl2=>?_,h.small.links x hx⟩,fun p hp=>hu p _ (by omega) (h.sites p hp),fun w hw=>⟨hl _ (h.inner w hw),hd2 w hw⟩,hd1⟩
 ·obtain⟨i,hi,rfl⟩:=List.getElem_of_mem hx
  exact hu _ _ (by omega) (h.nodes i hi).par
 ·obtain⟨i,hi,rfl⟩:=List.getElem_of_mem hx
  exact hl l ((h.nodes i hi).links l hl2)
theorem ZdE{sig:List TControl}(hs:XC sig){x:TNode}(h:smN x.parent):(ZaQ sig x).size<=8:=by
 have h1:=Dc hs x.control
 have h2:=Jg h
 have e:yAT.size=1:=rfl
 unfold ZaQ
 rw[ByteArray.size_append,ByteArray.size_append]
 omega
theorem ZdF{sig:List TControl}{b:TBigraph}(hs:XC sig)(f:FitY sig b){x:TNode}(hx:x∈b.nodes):(Zaa sig x).size<=4008:=by
 have h1:=ZdE hs (f.par x hx)
 have h2:=Yz (f:=spI) (B:=4) x.links (ZaQ sig x) fun k hk=>Xs ((f.links x hx).1 k hk)
 have h3:=(f.links x hx).2
 unfold Zaa
 omega
theorem UG{w:TWire}(h:smN w.link/\w.name.size<=1000):(ZaR w).size<=1005:=by
 have h2:=Jg h.1
 have e:yEQ.size=1:=rfl
 have e2:ySP.size=1:=rfl
 unfold ZaR
 rw[ByteArray.size_append,ByteArray.size_append,ByteArray.size_append]
 omega
theorem ZgO{sig:List TControl}{b:TBigraph}(h:bigOK sig b)(f:FitY sig b):(Qp b).size<=16085:=by
 have h1:=UF (B:=1005) b.inner yINNER fun w hw=>UG (f.wires w hw)
 have h2:=h.small.inner
 have e:yINNER.size=5:=rfl
 unfold Qp
 omega
theorem ZcF{sig:List TControl}{b:TBigraph}(h:bigOK sig b)(f:FitY sig b):(Xt b).size<=17016:=by
 have h1:=ZdD (B:=1000) (sep:=ySP) (x:=U5) (r:=b.outer) (by decide) f.outer
 have h2:=h.small.outer
 have e:ySP.size=1:=rfl
 unfold Xt
 rw[e] at h1
 omega
theorem ZgP{sig:List TControl}{b:TBigraph}(h:bigOK sig b)(f:FitY sig b):(XP b).size<=21:=by
 have h1:=Yz (f:=spI) (B:=4) b.sites ySITES fun k hk=>Xs (f.sites k hk)
 have h2:=h.small.sites
 have e:ySITES.size=5:=rfl
 unfold XP
 omega
theorem JQ{sig:List TControl}{b:TBigraph}:(JP sig b).length=b.nodes.length:=by simp [JP]
theorem Zip{sig:List TControl}{b:TBigraph}:(Uh sig b).length=b.nodes.length+5:=by
 simp [Uh,Zab,JQ]
theorem Uj{sig:List TControl}{b:TBigraph}(h:bigOK sig b):(Ui sig b).size<=1000000:=by
 have f:=ZiJ h
 have z1:=Jg f.roots
 have z2:=Jg f.edges
 have z3:=ZgP h f
 have z4:=ZcF h f
 have z5:=ZgO h f
 have h1:=ZdD (B:=17016) (sep:=ySEMI) (x:=ZH b.roots) (r:=(JP sig b++Zab b)++[Qp b]) (by omega) fun x hx=>by
  rcases List.mem_append.1 hx with hx | hx
  ·rcases List.mem_append.1 hx with hx | hx
   ·obtain⟨y,hy,rfl⟩:=List.mem_map.1 hx
    have:=ZdF h.sg f hy
    omega
   ·simp only[Zab,List.mem_cons,List.not_mem_nil,or_false] at hx
    rcases hx with rfl | rfl | rfl <;> omega
  ·simp only[List.mem_cons,List.not_mem_nil,or_false] at hx
   subst hx
   omega
 have h2:=h.nodesL
 rw[List.length_append,List.length_append,JQ,show (Zab b).length=3 from rfl,show ySEMI.size=2 from rfl] at h1
 simp only[List.length_cons,List.length_nil] at h1
 unfold Ui Uh
 rw[List.cons_append,List.cons_append]
 omega
theorem Znl{sig:List TControl}{b:TBigraph}:bl (Ui sig b)=(bl (ZH b.roots)++bl ySEMI)++((JP sig b).flatMap (fun y=>bl y++bl ySEMI)++(bl (XP b)++(bl ySEMI++(bl (ZH b.edges)++(bl ySEMI++((bl U5++b.outer.flatMap fun y=>bl ySP++bl y)++(bl ySEMI++bl (Qp b)))))))):=by
 unfold Ui Uh Zab
 rw[List.cons_append,List.cons_append,DZ,List.flatMap_append,List.flatMap_append]
 simp only[List.flatMap_cons,List.flatMap_nil,List.append_nil]
 unfold Xt
 rw[DZ]
 simp only[List.append_assoc]
 congr 1
 have e:=ZjP (s:=bl ySEMI) (l:=JP sig b)
 rw[<-List.append_assoc (List.flatMap _ (JP sig b)),<-e,List.append_assoc]
theorem Zlc{sig:List TControl}{x:TNode}{s:ByteArray}:bl (((((s++Xr sig x.control)++yAT)++ZH x.parent)++YJ spI ⟨#[]⟩ x.links)++ySEMI)=bl s++(bl (Zaa sig x)++bl ySEMI):=by
 unfold Zaa ZaQ
 simp only[JO,Wd,List.append_assoc]
 rfl
theorem Zld{sig:List TControl}{r:TRule}:(((Ui sig r.redex++ZfY)++Ui sig r.reactum)++ZhI)++YJ spI ⟨#[]⟩ r.copies=UL sig r:=Xq (by
 unfold UL
 simp only[JO,Wd,List.append_assoc]
 rfl)
end Go.Fd

namespace Go.Fd
set_option maxRecDepth 20000
theorem ZgQ(s:ByteArray)(a c:Nat):bl (s.extract a c)=((bl s).take c).drop a:=by
 unfold bl
 rw[ByteArray.data_extract,Array.toList_extract,List.extract_eq_take_drop,List.drop_take]
def spC(s:ByteArray)(b:UInt8):Nat->List ByteArray×Nat
 | 0=>([],0)
 | i+1=>if (bl s)[i]? = some b then ((spC s b i).1++[s.extract (spC s b i).2 i],i+1) else spC s b i
def spl(s:ByteArray)(b:UInt8):List ByteArray:=(spC s b s.size).1++[s.extract (spC s b s.size).2 s.size]
theorem ZfZ{s:ByteArray}{b:UInt8}:∀{i:Nat},(spC s b i).2<=i
 | 0=>Nat.le_refl 0
 | i+1=>by
  rw[spC]
  split
  ·exact Nat.le_refl _
  ·exact Nat.le_succ_of_le ZfZ
theorem ZeJ{s:ByteArray}{b:UInt8}:∀{i:Nat},(spC s b i).1.length<=i
 | 0=>Nat.le_refl 0
 | i+1=>by
  rw[spC]
  have:=ZeJ (s:=s) (b:=b) (i:=i)
  split
  ·simp;omega
  ·omega
theorem ZeK{s:ByteArray}{b:UInt8}:∀{i:Nat},∀ k,(spC s b i).2<=k->k<i->(bl s)[k]? ≠ some b
 | 0,k,_,h=>by omega
 | i+1,k,h1,h2=>by
  rw[spC] at h1
  split at h1
  ·simp only at h1;omega
  ·rename_i hn
   by_cases e:k=i
   ·rw[e];exact hn
   ·exact ZeK k h1 (by omega)
theorem ZjQ{s:ByteArray}{b:UInt8}{a c:Nat}(h:∀ k,a<=k->k<c->(bl s)[k]? ≠ some b):b ∉ bl (s.extract a c):=by
 rw[ZgQ]
 intro hb
 obtain⟨k,hk⟩:=List.getElem?_of_mem hb
 rw[List.getElem?_drop,List.getElem?_take] at hk
 split at hk
 ·exact h (a+k) (by omega) (by assumption) hk
 ·cases hk
theorem ZcG{s:ByteArray}{b:UInt8}:∀{i:Nat},∀ p∈(spC s b i).1,b ∉ bl p
 | 0,p,h=>by simp [spC] at h
 | i+1,p,h=>by
  rw[spC] at h
  split at h
  ·rcases List.mem_append.1 h with h | h
   ·exact ZcG p h
   ·rw[List.mem_singleton] at h
    subst h
    exact ZjQ fun k h1 h2=>ZeK k h1 h2
  ·exact ZcG p h
theorem ZhK{s:ByteArray}{b:UInt8}:∀{i:Nat},i<=s.size->((spC s b i).1.flatMap fun p=>bl p++[b])=(bl s).take (spC s b i).2
 | 0,_=>by simp [spC]
 | i+1,hi=>by
  have ih:=ZhK (s:=s) (b:=b) (i:=i) (by omega)
  have hl:=ZfZ (s:=s) (b:=b) (i:=i)
  rw[spC]
  split
  ·rename_i hb
   simp only[List.flatMap_append,List.flatMap_cons,List.flatMap_nil,List.append_nil,ih,ZgQ]
   have hlt:i<(bl s).length:=by rw[ZO];omega
   rw[List.getElem?_eq_getElem hlt] at hb
   rw[List.take_succ_eq_append_getElem hlt,Option.some.inj hb,<-List.append_assoc]
   congr 1
   generalize (spC s b i).2=f at hl
   have:(bl s).take f=((bl s).take i).take f:=by rw[List.take_take];congr 1;omega
   rw[this,List.take_append_drop]
  ·exact ih
theorem Zle{s:ByteArray}{b:UInt8}:∀ p∈spl s b,b ∉ bl p:=fun p hp=>by
 unfold spl at hp
 rcases List.mem_append.1 hp with h | h
 ·exact ZcG p h
 ·rw[List.mem_singleton] at h
  subst h
  exact ZjQ fun k h1 h2=>ZeK k h1 h2
theorem ZhL{s:ByteArray}{b:UInt8}:bl s=((spC s b s.size).1.flatMap fun p=>bl p++[b])++bl (s.extract (spC s b s.size).2 s.size):=by
 have h1:=ZhK (s:=s) (b:=b) (Nat.le_refl s.size)
 have h2:=ZfZ (s:=s) (b:=b) (i:=s.size)
 rw[h1,ZgQ]
 have:(bl s).take s.size=bl s:=List.take_of_length_le (by rw[ZO];exact Nat.le_refl _)
 rw[this,List.take_append_drop]
theorem ZcH{b:UInt8}:∀(l:List ByteArray) (z:ByteArray),∃ y r,l++[z]=y::r/\(l.flatMap fun p=>bl p++[b])++bl z=bl y++r.flatMap fun p=>b::bl p
 | [],z=>⟨z,[],rfl,by simp⟩
 | x::l,z=>by
  obtain⟨y,r,h1,h2⟩:=ZcH (b:=b) l z
  refine⟨x,y::r,by rw[List.cons_append,h1],?_⟩
  rw[List.flatMap_cons,List.flatMap_cons,List.append_assoc,h2]
  simp
theorem ZhM{b:UInt8}:∀{x x' t t':List UInt8},b ∉ x->b ∉ x'->(t=[]\/∃ u,t=b::u)->(t'=[]\/∃ u,t'=b::u)->x++t=x'++t'->x=x'/\t=t'
 | [],[],t,t',_,_,_,_,h=>⟨rfl,h⟩
 | [],c::x',t,t',_,h2,h3,_,h=>by
  rcases h3 with rfl | ⟨u,rfl⟩
  ·cases h
  ·rw[List.nil_append,List.cons_append] at h
   injection h with e _
   exact absurd (by simp [e]) h2
 | c::x,[],t,t',h1,_,_,h4,h=>by
  rcases h4 with rfl | ⟨u,rfl⟩
  ·cases h
  ·rw[List.nil_append,List.cons_append] at h
   injection h with e _
   exact absurd (by simp [e]) h1
 | c::x,d::x',t,t',h1,h2,h3,h4,h=>by
  rw[List.cons_append,List.cons_append] at h
  injection h with e h
  obtain⟨g1,g2⟩:=ZhM (x:=x) (x':=x') (fun q=>h1 (by simp [q])) (fun q=>h2 (by simp [q])) h3 h4 h
  exact⟨by rw[e,g1],g2⟩
theorem ZjR{b:UInt8}{r:List ByteArray}:(r.flatMap fun p=>b::bl p)=[]\/∃ u,(r.flatMap fun p=>b::bl p)=b::u:=by
 cases r with
 | nil=>exact .inl rfl
 | cons x r=>exact .inr ⟨_,by rw[List.flatMap_cons,List.cons_append]⟩
theorem ZhN{b:UInt8}:∀{x y:ByteArray} {r q:List ByteArray},b ∉ bl x->b ∉ bl y->(∀ p∈r,b ∉ bl p)->(∀ p∈q,b ∉ bl p)->bl x++(r.flatMap fun p=>b::bl p)=bl y++(q.flatMap fun p=>b::bl p)->x=y/\r=q
 | x,y,r,q,hx,hy,hr,hq,h=>by
  obtain⟨h1,h2⟩:=ZhM hx hy ZjR ZjR h
  refine⟨Xq h1,?_⟩
  match r,q with
  | [],[]=>rfl
  | [],z::q=>rw[List.flatMap_nil,List.flatMap_cons] at h2;cases h2
  | z::r,[]=>rw[List.flatMap_nil,List.flatMap_cons] at h2;cases h2
  | z::r,z'::q =>
   rw[List.flatMap_cons,List.flatMap_cons,List.cons_append,List.cons_append] at h2
   injection h2 with _ h2
   obtain⟨g1,g2⟩:=ZhN (hr z (by simp)) (hq z' (by simp)) (fun p hp=>hr p (by simp [hp])) (fun p hp=>hq p (by simp [hp])) h2
   rw[g1,g2]
  termination_by _ _ r=>r.length
theorem ZhO{s x:ByteArray}{b:UInt8}{r:List ByteArray}(h:bl s=bl x++r.flatMap fun p=>b::bl p)(hx:b ∉ bl x)(hr:∀ p∈r,b ∉ bl p):spl s b=x::r:=by
 have h1:=ZhL (s:=s) (b:=b)
 obtain⟨y,q,e,h2⟩:=ZcH (b:=b) (spC s b s.size).1 (s.extract (spC s b s.size).2 s.size)
 have hf:=Zle (s:=s) (b:=b)
 have es:spl s b=y::q:=e
 rw[es] at hf ⊢
 rw[h2,h] at h1
 obtain⟨g1,g2⟩:=ZhN hx (hf y (by simp)) hr (fun p hp=>hf p (by simp [hp])) h1
 rw[g1,g2]
theorem ZhP{s:ByteArray}{b:UInt8}:spl s b≠[]:=by simp [spl]
theorem ZgR{s:ByteArray}{b:UInt8}:(spl s b).length<=s.size+1:=by
 have:=ZeJ (s:=s) (b:=b) (i:=s.size)
 simp [spl];omega
theorem ZhQ{b:UInt8}:∀{q:List ByteArray} {p:ByteArray},p∈q->p.size+1<=(q.flatMap fun p=>b::bl p).length
 | [],p,h=>by cases h
 | z::q,p,h=>by
  rw[List.flatMap_cons,List.length_append,List.length_cons,ZO]
  rcases List.mem_cons.1 h with rfl | h
  ·omega
  ·have:=ZhQ (b:=b) h
   omega
theorem ZbS{s:ByteArray}{b:UInt8}{p:ByteArray}(h:p∈spl s b):p.size<=s.size:=by
 have h1:=ZhL (s:=s) (b:=b)
 obtain⟨y,q,e,h2⟩:=ZcH (b:=b) (spC s b s.size).1 (s.extract (spC s b s.size).2 s.size)
 have es:spl s b=y::q:=e
 rw[es] at h
 rw[h2] at h1
 have hl:=congrArg List.length h1
 rw[List.length_append,ZO,ZO] at hl
 rcases List.mem_cons.1 h with rfl | h
 ·omega
 ·have:=ZhQ (b:=b) h
  omega
def V1(s sep:ByteArray):ByteArray×ByteArray:=(⟨(Lib.cut (bl s) (bl sep)).1.toArray⟩,⟨(Lib.cut (bl s) (bl sep)).2.1.toArray⟩)
theorem ZjS{s sep:List UInt8}{j k:Nat}{c:UInt8}(h:Lib.occAt s sep j=true)(hk:sep[k]? = some c):s[j+k]? = some c:=by
 unfold Lib.occAt at h
 rw[List.isPrefixOf_iff_prefix] at h
 obtain⟨t,ht⟩:=h
 have e:(s.drop j)[k]? = some c:=by
  rw[<-ht,List.getElem?_append_left (List.getElem?_eq_some_iff.1 hk).1,hk]
 rw[List.getElem?_drop] at e
 exact e
theorem ZjT{x y sep p q:List UInt8}{c:UInt8}(hs:sep=p++c::q)(hx:c ∉ x)(hp:c ∉ p):Lib.index (x++(sep++y)) sep=x.length:=by
 refine Lib.index_first (by simp) ?_ fun j hj=>?_
 ·unfold Lib.occAt
  rw[List.drop_left,List.isPrefixOf_iff_prefix]
  exact⟨y,rfl⟩
 ·cases e:Lib.occAt (x++(sep++y)) sep j
  ·rfl
  ·exfalso
   have h:=ZjS (k:=p.length) (c:=c) e (by rw[hs];simp)
   have hlt:j+p.length<x.length+p.length:=by omega
   rw[hs,List.append_assoc,<-List.append_assoc x,List.getElem?_append_left (by rw[List.length_append];exact hlt)] at h
   rcases List.mem_append.1 (List.mem_of_getElem? h) with g | g
   ·exact hx g
   ·exact hp g
theorem Zqs{x sep:List UInt8}{c:UInt8}(hs:c∈sep)(hx:c ∉ x):Lib.index x sep = -1:=by
 refine Lib.index_none fun j hj=>?_
 cases e:Lib.occAt x sep j
 ·rfl
 ·obtain⟨k,hk⟩:=List.getElem?_of_mem hs
  exact absurd (List.mem_of_getElem? (ZjS e hk)) hx
theorem ZhR{s x y sep:ByteArray}{p q:List UInt8}{c:UInt8}(h:bl s=bl x++(bl sep++bl y))(hs:bl sep=p++c::q)(hx:c ∉ bl x)(hp:c ∉ p):V1 s sep=(x,y):=by
 have hi:=ZjT (y:=bl y) hs hx hp
 unfold V1 Lib.cut
 rw[h,hi,if_pos (by omega)]
 simp only[Int.toNat_natCast,List.take_left]
 refine Prod.ext (Xq (by rw[Db])) (Xq ?_)
 show bl ⟨(List.drop _ _).toArray⟩=_
 rw[Db,<-List.append_assoc,show (bl x).length+(bl sep).length=(bl x++bl sep).length by rw[List.length_append],List.drop_left]
def ZdG(s sep:ByteArray):List ByteArray:=Lib.splitB sep 0 (Lib.countB s sep) s
theorem ZdH{sep q:List UInt8}{c:UInt8}(hs:sep=c::q):∀{r:List ByteArray} {x:ByteArray} {fuel:Nat},r.length<fuel->c ∉ bl x->(∀ p∈r,c ∉ bl p)->Lib.countFrom sep fuel (bl x++r.flatMap fun p=>sep++bl p)=r.length
 | [],x,fuel+1,_,hx,_=>by
  rw[List.flatMap_nil,List.append_nil,Lib.countFrom,Zqs (c:=c) (by rw[hs];simp) hx]
  rfl
 | y::r,x,fuel+1,hf,hx,hr=>by
  have hi:=ZjT (y:=bl y++r.flatMap fun p=>sep++bl p) (p:=[]) (q:=q) hs hx (by simp)
  rw[List.flatMap_cons,List.append_assoc,Lib.countFrom,hi,if_neg (by simp),Int.toNat_natCast,<-List.append_assoc (bl x),show (bl x).length+sep.length=(bl x++sep).length by rw[List.length_append],List.drop_left,
   ZdH hs (by simp at hf;omega) (hr y (by simp)) fun p hp=>hr p (by simp [hp])]
  simp;omega
theorem ZdI{sep q:List UInt8}{c:UInt8}(hs:sep=c::q):∀{r:List ByteArray} {x:ByteArray},c ∉ bl x->(∀ p∈r,c ∉ bl p)->Lib.splitK sep 0 r.length (bl x++r.flatMap fun p=>sep++bl p)=bl x::r.map bl
 | [],x,hx,_=>by
  rw[List.flatMap_nil,List.append_nil]
  rfl
 | y::r,x,hx,hr=>by
  have hi:=ZjT (y:=bl y++r.flatMap fun p=>sep++bl p) (p:=[]) (q:=q) hs hx (by simp)
  rw[List.flatMap_cons,List.append_assoc,List.length_cons,Lib.splitK,hi,if_neg (by simp),Int.toNat_natCast,Nat.add_zero,List.take_left,<-List.append_assoc (bl x),show (bl x).length+sep.length=(bl x++sep).length by rw[List.length_append],List.drop_left,
   ZdI hs (hr y (by simp)) fun p hp=>hr p (by simp [hp])]
  rfl
theorem Znm{s x sep:ByteArray}{q:List UInt8}{c:UInt8}{r:List ByteArray}(hs:bl sep=c::q)(h:bl s=bl x++r.flatMap fun p=>bl sep++bl p)(hx:c ∉ bl x)(hr:∀ p∈r,c ∉ bl p):ZdG s sep=x::r:=by
 have hlen:r.length<=(bl s).length:=by
  rw[h,List.length_append]
  clear h
  induction r with
  | nil=>simp
  | cons y r ih =>
   have:=ih fun p hp=>hr p (by simp [hp])
   rw[List.flatMap_cons,List.length_append,List.length_append,hs]
   simp only[List.length_cons]
   rw[hs] at this
   omega
 have hc:Lib.countB s sep=r.length:=by
  show Lib.count (bl s) (bl sep)=_
  unfold Lib.count
  rw[h]
  exact ZdH hs (by rw[<-h];omega) hx hr
 have h1:=Lib.splitB_data sep 0 (Lib.countB s sep) s
 rw[hc] at h1
 have h2:Lib.splitK (bl sep) 0 r.length (bl s)=bl x::r.map bl:=by rw[h];exact ZdI hs hx hr
 unfold ZdG
 rw[hc]
 have h3:(Lib.splitB sep 0 r.length s).map bl=(x::r).map bl:=h1.trans h2
 exact(List.map_inj_right fun a b e=>Xq e).1 h3
end Go.Fd

namespace Go.Proofs
open Go.Shelf
def Tryz.lays145_ren:Go.Shelf.Ren:=⟨fun | 145=>21 | 220=>47 | 219=>82 | 217=>110 | 225=>111 | 224=>112 | 267=>113 | 266=>130 | 314=>131 | n=>n,fun | 9=>9 | 4=>4 | 59=>55 | 3=>3 | 5=>5 | 46=>128 | 146=>145 | 51=>144 | n=>n,fun | 1=>0 | n=>n⟩
theorem Tryz.lays145:Go.Proofs.Lays.n145 Tryz.prog Tryz.lays145_ren:={
  mixed:=by kernel_rfl,
  f145:=Tryz.func21.trans (congrArg some (by kernel_rfl)),
  f217:=Tryz.func110.trans (congrArg some (by kernel_rfl)),
  f219:=Tryz.func82.trans (congrArg some (by kernel_rfl)),
  f220:=Tryz.func47.trans (congrArg some (by kernel_rfl)),
  f224:=Tryz.func112.trans (congrArg some (by kernel_rfl)),
  f225:=Tryz.func111.trans (congrArg some (by kernel_rfl)),
  f266:=Tryz.func130.trans (congrArg some (by kernel_rfl)),
  f267:=Tryz.func113.trans (congrArg some (by kernel_rfl)),
  f314:=Tryz.func131.trans (congrArg some (by kernel_rfl)),
  t3:=Tryz.underlying3,
  a3:=Tryz.isAgg3,
  z3:=Tryz.sizeOf3,
  v3:=Tryz.zeroValue3,
  t4:=Tryz.underlying4,
  a4:=Tryz.isAgg4,
  z4:=Tryz.sizeOf4,
  v4:=Tryz.zeroValue4,
  t5:=Tryz.underlying5,
  a5:=Tryz.isAgg5,
  z5:=Tryz.sizeOf5,
  v5:=Tryz.zeroValue5,
  t9:=Tryz.underlying9,
  a9:=Tryz.isAgg9,
  z9:=Tryz.sizeOf9,
  v9:=Tryz.zeroValue9,
  t46:=Tryz.underlying128,
  a46:=Tryz.isAgg128,
  z46:=Tryz.sizeOf128,
  v46:=Tryz.zeroValue128,
  t51:=Tryz.underlying144,
  a51:=Tryz.isAgg144,
  z51:=Tryz.sizeOf144,
  v51:=Tryz.zeroValue144,
  t59:=Tryz.underlying55,
  a59:=Tryz.isAgg55,
  z59:=Tryz.sizeOf55,
  v59:=Tryz.zeroValue55,
  t146:=Tryz.underlying145,
  a146:=Tryz.isAgg145,
  z146:=Tryz.sizeOf145,
  v146:=Tryz.zeroValue145,
  g1:=by kernel_rfl }
def Tryz.lays146_ren:Go.Shelf.Ren:=⟨fun | 146=>48 | 221=>83 | 268=>114 | 138=>115 | 143=>116 | 195=>132 | 197=>133 | 218=>134 | 219=>82 | 260=>150 | 217=>110 | 225=>111 | 224=>112 | 267=>113 | 266=>130 | 314=>131 | n=>n,fun | 9=>9 | 31=>26 | 3=>3 | 4=>4 | 0=>0 | 105=>148 | 21=>21 | 5=>5 | 46=>128 | 119=>178 | 139=>181 | 138=>180 | 146=>145 | 51=>144 | n=>n,fun | 1=>0 | 3=>3 | 4=>4 | n=>n⟩
theorem Tryz.lays146:Go.Proofs.Lays.n146 Tryz.prog Tryz.lays146_ren:={
  mixed:=by kernel_rfl,
  f138:=Tryz.func115.trans (congrArg some (by kernel_rfl)),
  f143:=Tryz.func116.trans (congrArg some (by kernel_rfl)),
  f146:=Tryz.func48.trans (congrArg some (by kernel_rfl)),
  f195:=Tryz.func132.trans (congrArg some (by kernel_rfl)),
  f197:=Tryz.func133.trans (congrArg some (by kernel_rfl)),
  f217:=Tryz.func110.trans (congrArg some (by kernel_rfl)),
  f218:=Tryz.func134.trans (congrArg some (by kernel_rfl)),
  f219:=Tryz.func82.trans (congrArg some (by kernel_rfl)),
  f221:=Tryz.func83.trans (congrArg some (by kernel_rfl)),
  f224:=Tryz.func112.trans (congrArg some (by kernel_rfl)),
  f225:=Tryz.func111.trans (congrArg some (by kernel_rfl)),
  f260:=Tryz.func150.trans (congrArg some (by kernel_rfl)),
  f266:=Tryz.func130.trans (congrArg some (by kernel_rfl)),
  f267:=Tryz.func113.trans (congrArg some (by kernel_rfl)),
  f268:=Tryz.func114.trans (congrArg some (by kernel_rfl)),
  f314:=Tryz.func131.trans (congrArg some (by kernel_rfl)),
  t0:=Tryz.underlying0,
  a0:=Tryz.isAgg0,
  z0:=Tryz.sizeOf0,
  v0:=Tryz.zeroValue0,
  t3:=Tryz.underlying3,
  a3:=Tryz.isAgg3,
  z3:=Tryz.sizeOf3,
  v3:=Tryz.zeroValue3,
  t4:=Tryz.underlying4,
  a4:=Tryz.isAgg4,
  z4:=Tryz.sizeOf4,
  v4:=Tryz.zeroValue4,
  t5:=Tryz.underlying5,
  a5:=Tryz.isAgg5,
  z5:=Tryz.sizeOf5,
  v5:=Tryz.zeroValue5,
  t9:=Tryz.underlying9,
  a9:=Tryz.isAgg9,
  z9:=Tryz.sizeOf9,
  v9:=Tryz.zeroValue9,
  t21:=Tryz.underlying21,
  a21:=Tryz.isAgg21,
  z21:=Tryz.sizeOf21,
  v21:=Tryz.zeroValue21,
  t31:=Tryz.underlying26,
  a31:=Tryz.isAgg26,
  z31:=Tryz.sizeOf26,
  v31:=Tryz.zeroValue26,
  t46:=Tryz.underlying128,
  a46:=Tryz.isAgg128,
  z46:=Tryz.sizeOf128,
  v46:=Tryz.zeroValue128,
  t51:=Tryz.underlying144,
  a51:=Tryz.isAgg144,
  z51:=Tryz.sizeOf144,
  v51:=Tryz.zeroValue144,
  t105:=Tryz.underlying148,
  a105:=Tryz.isAgg148,
  z105:=Tryz.sizeOf148,
  v105:=Tryz.zeroValue148,
  t119:=Tryz.underlying178,
  a119:=Tryz.isAgg178,
  z119:=Tryz.sizeOf178,
  t138:=Tryz.underlying180,
  a138:=Tryz.isAgg180,
  z138:=Tryz.sizeOf180,
  v138:=Tryz.zeroValue180,
  t139:=Tryz.underlying181,
  a139:=Tryz.isAgg181,
  z139:=Tryz.sizeOf181,
  v139:=Tryz.zeroValue181,
  t146:=Tryz.underlying145,
  a146:=Tryz.isAgg145,
  z146:=Tryz.sizeOf145,
  v146:=Tryz.zeroValue145,
  g1:=by kernel_rfl,
  g3:=by kernel_rfl,
  g4:=by kernel_rfl }
end Go.Proofs

namespace Go.Proofs
open Go.Shelf
def Tryz.laysC172_ren:Go.Shelf.Ren:=⟨fun | 172=>87 | 244=>119 | 245=>120 | 247=>142 | 279=>143 | 280=>144 | 281=>145 | 282=>146 | 287=>154 | 316=>155 | 171=>121 | 205=>156 | 321=>162 | 322=>163 | 243=>147 | 246=>157 | 283=>164 | 284=>165 | 285=>166 | 286=>167 | 129=>171 | 317=>170 | 318=>172 | 319=>173 | 320=>174 | 337=>175 | 338=>176 | n=>n,fun | 9=>9 | 3=>3 | 75=>109 | 76=>110 | 4=>4 | 5=>5 | 167=>157 | 37=>90 | 0=>0 | 85=>158 | 2=>2 | 168=>160 | 53=>167 | 175=>168 | 46=>128 | 210=>172 | 127=>163 | 145=>186 | 143=>184 | 21=>21 | 171=>187 | 173=>190 | 212=>194 | 51=>144 | 20=>20 | 213=>195 | 232=>198 | 233=>199 | 80=>138 | n=>n,fun | 15=>1 | 16=>2 | 17=>5 | 18=>6 | 19=>7 | n=>n⟩
theorem Tryz.laysC172:Go.Proofs.LaysC.n172 Tryz.prog Tryz.laysC172_ren:={
  mixed:=by kernel_rfl,
  f129:=Tryz.func171.trans (congrArg some (by kernel_rfl)),
  f171:=Tryz.func121.trans (congrArg some (by kernel_rfl)),
  f172:=Tryz.func87.trans (congrArg some (by kernel_rfl)),
  f205:=Tryz.func156.trans (congrArg some (by kernel_rfl)),
  f243:=Tryz.func147.trans (congrArg some (by kernel_rfl)),
  f244:=Tryz.func119.trans (congrArg some (by kernel_rfl)),
  f245:=Tryz.func120.trans (congrArg some (by kernel_rfl)),
  f246:=Tryz.func157.trans (congrArg some (by kernel_rfl)),
  f247:=Tryz.func142.trans (congrArg some (by kernel_rfl)),
  f279:=Tryz.func143.trans (congrArg some (by kernel_rfl)),
  f280:=Tryz.func144.trans (congrArg some (by kernel_rfl)),
  f281:=Tryz.func145.trans (congrArg some (by kernel_rfl)),
  f282:=Tryz.func146.trans (congrArg some (by kernel_rfl)),
  f283:=Tryz.func164.trans (congrArg some (by kernel_rfl)),
  f284:=Tryz.func165.trans (congrArg some (by kernel_rfl)),
  f285:=Tryz.func166.trans (congrArg some (by kernel_rfl)),
  f286:=Tryz.func167.trans (congrArg some (by kernel_rfl)),
  f287:=Tryz.func154.trans (congrArg some (by kernel_rfl)),
  f316:=Tryz.func155.trans (congrArg some (by kernel_rfl)),
  f317:=Tryz.func170.trans (congrArg some (by kernel_rfl)),
  f318:=Tryz.func172.trans (congrArg some (by kernel_rfl)),
  f319:=Tryz.func173.trans (congrArg some (by kernel_rfl)),
  f320:=Tryz.func174.trans (congrArg some (by kernel_rfl)),
  f321:=Tryz.func162.trans (congrArg some (by kernel_rfl)),
  f322:=Tryz.func163.trans (congrArg some (by kernel_rfl)),
  f337:=Tryz.func175.trans (congrArg some (by kernel_rfl)),
  f338:=Tryz.func176.trans (congrArg some (by kernel_rfl)),
  t0:=Tryz.underlying0,
  a0:=Tryz.isAgg0,
  z0:=Tryz.sizeOf0,
  v0:=Tryz.zeroValue0,
  t2:=Tryz.underlying2,
  a2:=Tryz.isAgg2,
  z2:=Tryz.sizeOf2,
  v2:=Tryz.zeroValue2,
  t3:=Tryz.underlying3,
  a3:=Tryz.isAgg3,
  z3:=Tryz.sizeOf3,
  v3:=Tryz.zeroValue3,
  t4:=Tryz.underlying4,
  a4:=Tryz.isAgg4,
  z4:=Tryz.sizeOf4,
  v4:=Tryz.zeroValue4,
  t5:=Tryz.underlying5,
  a5:=Tryz.isAgg5,
  z5:=Tryz.sizeOf5,
  v5:=Tryz.zeroValue5,
  t9:=Tryz.underlying9,
  a9:=Tryz.isAgg9,
  z9:=Tryz.sizeOf9,
  v9:=Tryz.zeroValue9,
  t20:=Tryz.underlying20,
  a20:=Tryz.isAgg20,
  z20:=Tryz.sizeOf20,
  v20:=Tryz.zeroValue20,
  t21:=Tryz.underlying21,
  a21:=Tryz.isAgg21,
  z21:=Tryz.sizeOf21,
  v21:=Tryz.zeroValue21,
  t37:=Tryz.underlying90,
  a37:=Tryz.isAgg90,
  z37:=Tryz.sizeOf90,
  v37:=Tryz.zeroValue90,
  t46:=Tryz.underlying128,
  a46:=Tryz.isAgg128,
  z46:=Tryz.sizeOf128,
  v46:=Tryz.zeroValue128,
  t51:=Tryz.underlying144,
  a51:=Tryz.isAgg144,
  z51:=Tryz.sizeOf144,
  v51:=Tryz.zeroValue144,
  t53:=Tryz.underlying167,
  a53:=Tryz.isAgg167,
  z53:=Tryz.sizeOf167,
  v53:=Tryz.zeroValue167,
  t75:=Tryz.underlying109,
  a75:=Tryz.isAgg109,
  z75:=Tryz.sizeOf109,
  v75:=Tryz.zeroValue109,
  t76:=Tryz.underlying110,
  a76:=Tryz.isAgg110,
  z76:=Tryz.sizeOf110,
  v76:=Tryz.zeroValue110,
  t85:=Tryz.underlying158,
  a85:=Tryz.isAgg158,
  z85:=Tryz.sizeOf158,
  v85:=Tryz.zeroValue158,
  t127:=Tryz.underlying163,
  a127:=Tryz.isAgg163,
  z127:=Tryz.sizeOf163,
  v127:=Tryz.zeroValue163,
  t143:=Tryz.underlying184,
  a143:=Tryz.isAgg184,
  z143:=Tryz.sizeOf184,
  v143:=Tryz.zeroValue184,
  t145:=Tryz.underlying186,
  a145:=Tryz.isAgg186,
  z145:=Tryz.sizeOf186,
  v145:=Tryz.zeroValue186,
  t167:=Tryz.underlying157,
  a167:=Tryz.isAgg157,
  z167:=Tryz.sizeOf157,
  v167:=Tryz.zeroValue157,
  t168:=Tryz.underlying160,
  a168:=Tryz.isAgg160,
  z168:=Tryz.sizeOf160,
  v168:=Tryz.zeroValue160,
  t171:=Tryz.underlying187,
  a171:=Tryz.isAgg187,
  z171:=Tryz.sizeOf187,
  v171:=Tryz.zeroValue187,
  t173:=Tryz.underlying190,
  a173:=Tryz.isAgg190,
  z173:=Tryz.sizeOf190,
  v173:=Tryz.zeroValue190,
  t175:=Tryz.underlying168,
  a175:=Tryz.isAgg168,
  z175:=Tryz.sizeOf168,
  v175:=Tryz.zeroValue168,
  t210:=Tryz.underlying172,
  a210:=Tryz.isAgg172,
  z210:=Tryz.sizeOf172,
  v210:=Tryz.zeroValue172,
  t212:=Tryz.underlying194,
  a212:=Tryz.isAgg194,
  z212:=Tryz.sizeOf194,
  v212:=Tryz.zeroValue194,
  t213:=Tryz.underlying195,
  a213:=Tryz.isAgg195,
  z213:=Tryz.sizeOf195,
  t232:=Tryz.underlying198,
  a232:=Tryz.isAgg198,
  z232:=Tryz.sizeOf198,
  v232:=Tryz.zeroValue198,
  t233:=Tryz.underlying199,
  a233:=Tryz.isAgg199,
  z233:=Tryz.sizeOf199,
  v233:=Tryz.zeroValue199,
  g15:=by kernel_rfl,
  g16:=by kernel_rfl,
  g17:=by kernel_rfl,
  g18:=by kernel_rfl,
  g19:=by kernel_rfl,
  t80:=Tryz.underlying138,
  a80:=Tryz.isAgg138,
  z80:=Tryz.sizeOf138,
  v80:=Tryz.zeroValue138,
  i0:=by kernel_rfl,
  i2:=by kernel_rfl,
  i3:=by kernel_rfl,
  i4:=by kernel_rfl,
  i5:=by kernel_rfl,
  i9:=by kernel_rfl,
  i20:=by kernel_rfl,
  i21:=by kernel_rfl,
  i37:=by kernel_rfl,
  i46:=by kernel_rfl,
  i51:=by kernel_rfl,
  i53:=by kernel_rfl,
  i75:=by kernel_rfl,
  i76:=by kernel_rfl,
  i80:=by kernel_rfl,
  i85:=by kernel_rfl,
  i127:=by kernel_rfl,
  i143:=by kernel_rfl,
  i145:=by kernel_rfl,
  i167:=by kernel_rfl,
  i168:=by kernel_rfl,
  i171:=by kernel_rfl,
  i173:=by kernel_rfl,
  i175:=by kernel_rfl,
  i210:=by kernel_rfl,
  i212:=by kernel_rfl,
  i232:=by kernel_rfl,
  i233:=by kernel_rfl,
  m15:=by kernel_rfl,
  m16:=by kernel_rfl,
  m17:=by kernel_rfl,
  m18:=by kernel_rfl,
  m19:=by kernel_rfl,
  c0:=by kernel_rfl,
  c2:=by kernel_rfl,
  c3:=by kernel_rfl,
  c4:=by kernel_rfl,
  c5:=by kernel_rfl,
  c9:=by kernel_rfl,
  c20:=by kernel_rfl,
  c21:=by kernel_rfl,
  c37:=by kernel_rfl,
  c46:=by kernel_rfl,
  c51:=by kernel_rfl,
  c53:=by kernel_rfl,
  c75:=by kernel_rfl,
  c76:=by kernel_rfl,
  c80:=by kernel_rfl,
  c85:=by kernel_rfl,
  c127:=by kernel_rfl,
  c143:=by kernel_rfl,
  c145:=by kernel_rfl,
  c167:=by kernel_rfl,
  c168:=by kernel_rfl,
  c171:=by kernel_rfl,
  c173:=by kernel_rfl,
  c175:=by kernel_rfl,
  c210:=by kernel_rfl,
  c212:=by kernel_rfl,
  c213:=by kernel_rfl,
  c232:=by kernel_rfl,
  c233:=by kernel_rfl }
end Go.Proofs

namespace Go.Fd
open Go.RowKit
set_option maxRecDepth 20000
abbrev iU(b:UInt8):IV:=.tr (.v (.int .u8 b.toNat))
theorem u8_inj{a b:UInt8}:((a.toNat:Int)=b.toNat)↔a=b:=by
 constructor
 ·intro h
  exact UInt8.toNat_inj.1 (by omega)
 ·intro h
  rw[h]
theorem Zlf{a b:List ByteArray}:rS (a++b)=rS a++rS b:=List.map_append
theorem ZeL{P:Program}{w0 w:World}{nm:String}{cs:Array Value}(hb:∀ b,b<w0.heap.size->w.heap[b]? = w0.heap[b]?)(h:w0.var? P nm=some cs):w.var? P nm=some cs:=by
 unfold World.var? at h ⊢
 generalize P.globalNamed nm=o at h ⊢
 cases o with
 | none=>exact h
 | some g =>
  simp only[Option.bind_some] at h ⊢
  rcases Nat.lt_or_ge g w0.heap.size with hl | hl
  ·rw[hb g hl];exact h
  ·rw[Array.getElem?_eq_none hl] at h;cases h
theorem ZeM{G:Gh}{S:Sto}{w:World}(h:Fix G S w):Znb Proofs.Tryz.prog w:=by
 obtain⟨w0,hg,hs,hb⟩:=h
 have hg':Znb Proofs.Tryz.prog w0:=hg
 obtain⟨h1,⟨m,h2⟩,⟨t,p,h3⟩,⟨t',p',h4⟩⟩:=hg'
 have k:∀ b,b<w0.heap.size->w.heap[b]? = w0.heap[b]?:=fun b hl=>(hb b hl).2
 exact⟨ZeL k h1,⟨m,(Qq (k _ (Lib.lt_of_cell h2))).trans h2⟩,⟨t,p,ZeL k h3⟩,⟨t',p',ZeL k h4⟩⟩
theorem ZdJ{G:Gh}{S:Sto}{w:World}(h:Fix G S w):∃ m,w.cell? ⟨0,0,none⟩=some (.int .i64 m):=(ZeM h).2.1
def Zvi(s sep:ByteArray):Bool:=(Lib.cut (bl s) (bl sep)).2.2
theorem ZeN(s sep:ByteArray)(hs:s.size<=4000000000)(lvl:Nat)(S:Sto):Sem Proofs.Tryz.prog Yj lvl [iS s,iS sep] S (.tu [iS (V1 s sep).1,iS (V1 s sep).2,iB (Zvi s sep)]) S:=by
 refine VN (Xp (by kernel_rfl)) rfl (by simp [low,men,Zc]) fun _ G w vs _ hv hf=>?_
 rw[Xc (xs:=[.string s,.string sep]) hv]
 obtain⟨m,hm⟩:=ZdJ hf
 refine(Go.Proofs.Any.strings_Cut Proofs.Tryz.lays145 s sep m w (by omega) hm).mono fun e w' ⟨h,n,h'⟩=>⟨_,h,?_,h' ▸ ⟨rfl,rfl,rfl,Nat.le_refl _,fun _ _=>rfl⟩⟩
 simp only[VR]
 exact⟨_,rfl,Zjw (xs:=[.string (V1 s sep).1,.string (V1 s sep).2,.bool (Zvi s sep)]) fun y hy=>by
  simp only[List.mem_cons,List.not_mem_nil,or_false] at hy
  rcases hy with rfl | rfl | rfl <;> rfl⟩
theorem ZjU(s sep:ByteArray)(hs:s.size<=4000000000)(h1:1<=sep.size)(lvl:Nat)(S:Sto):Sem Proofs.Tryz.prog XL lvl [iS s,iS sep] S (.tr (.sl (rS (ZdG s sep)))) S:=by
 refine VN (Xp (by kernel_rfl)) rfl trivial fun _ G w vs hok hv hf=>?_
 rw[Xc (xs:=[.string s,.string sep]) hv]
 obtain⟨m,hm⟩:=ZdJ hf
 have hlen:=Lib.splitB_all sep h1 0 _ s rfl
 refine(Go.Proofs.Any.strings_Split Proofs.Tryz.lays146 (by kernel_rfl) s sep m w (by omega) hm h1).mono fun e w' ⟨he,hw⟩=>⟨_,he,?_,hw ▸ Below.alloc (Below.refl _ _) (Nat.le_refl _) _⟩
 show Rds w' (Av G S w') _ (.sl (rS (ZdG s sep)))
 have hl:(rS (ZdG s sep)).length=Lib.countB s sep+1:=by rw[List.length_map];exact hlen
 rw[<-hl]
 refine Rds.sl w.heap.size 0 _ 1 _ (fun i _=>.string ((ZdG s sep).getD i ⟨#[]⟩)) ⟨by rw[hw];show w.heap.size<(w.heap.push _).size;rw[Array.size_push];exact Nat.lt_succ_self _,fun id ob ho hown=>absurd (Ye (hok.obs id ob ho) hown) (Nat.lt_irrefl _)⟩ (QK (fun n:ByteArray=>[ts n]) (fun _=>rfl) _) (Nat.le_refl _) (fun i e j t h1 h2=>?_) fun i e j t h1 h2=>?_
 ·have hi:i<(ZdG s sep).length:=by
   have:=(List.getElem?_eq_some_iff.1 h1).1
   rw[List.length_map] at this
   exact this
  have e1:(rS (ZdG s sep))[i]? = some [ts (ZdG s sep)[i]]:=by simp [hi]
  rw[e1] at h1
  have h1':=Option.some.inj h1
  subst h1'
  have hj:j=0:=by
   have:=(List.getElem?_eq_some_iff.1 h2).1
   simp at this
   exact this
  subst hj
  rw[hw,Nat.zero_add,Nat.mul_one,Nat.add_zero,World.cell?_alloc_mark]
  show ((Lib.splitB sep 0 (Lib.countB s sep) s).map Value.string).toArray[i]? = _
  have hi':i<(Lib.splitB sep 0 (Lib.countB s sep) s).length:=hi
  rw[List.getElem?_toArray,List.getElem?_map,List.getElem?_eq_getElem hi']
  simp [ZdG,hi']
 ·have hi:i<(ZdG s sep).length:=by
   have:=(List.getElem?_eq_some_iff.1 h1).1
   rw[List.length_map] at this
   exact this
  have e1:(rS (ZdG s sep))[i]? = some [ts (ZdG s sep)[i]]:=by simp [hi]
  rw[e1] at h1
  have h1':=Option.some.inj h1
  subst h1'
  have hj:j=0:=by
   have:=(List.getElem?_eq_some_iff.1 h2).1
   simp at this
   exact this
  subst hj
  have ht:ts (ZdG s sep)[i]=t:=Option.some.inj h2
  subst ht
  simp only[List.getD_eq_getElem?_getD,List.getElem?_eq_getElem hi,Option.getD_some]
  exact Rds.v _ rfl
def Zvj(s:ByteArray):Int:=match Lib.atoiAll (bl s) with | .ok v=>v | .range=>Lib.atoiSat (bl s) | _=>0
theorem ZgS(s:ByteArray)(hs:s.size<=4000000000)(v:Int)(h:Lib.atoiAll (bl s) = .ok v)(lvl:Nat)(S:Sto):Sem Proofs.Tryz.prog Qk lvl [iS s] S (.tu [iI v,.tr (.v .nilIface)]) S:=by
 refine ZaG (Xp (by kernel_rfl)) rfl (by simp [low,men,Zc]) fun _ G w vs _ hv=>?_
 rw[Xc (xs:=[.string s]) hv]
 refine(Go.Proofs.Any.strconv_Atoi_ok Proofs.Tryz.laysC172 s (by omega) v h w).mono fun e w' ⟨he,hw⟩=>⟨_,he,?_,by rcases hw with rfl | ⟨t,rfl⟩;exact Below.refl _ _;exact Lib.bytesWorld_below _ _ _⟩
 simp only[VR]
 exact⟨_,rfl,Zjw (xs:=[.int .i64 v,.nilIface]) fun y hy=>by
  simp only[List.mem_cons,List.not_mem_nil,or_false] at hy
  rcases hy with rfl | rfl <;> rfl⟩
theorem ZgT(s:ByteArray)(hs:s.size<=4000000000)(h:∀ v,Lib.atoiAll (bl s) ≠ .ok v)(lvl:Nat)(S:Sto):Sem Proofs.Tryz.prog Qk lvl [iS s] S (.tu [iI (Zvj s),.er]) S:=by
 refine VN (Xp (by kernel_rfl)) rfl (by simp [low,men,Zc]) fun _ G w vs _ hv hf=>?_
 rw[Xc (xs:=[.string s]) hv]
 obtain⟨_,_,⟨t,p,h3⟩,⟨t',p',h4⟩⟩:=ZeM hf
 have fin:∀(x:Int) (T:TypeId) (a:Value) (w':World),VR G S w' (.tu [iI x,.er]) (.tuple #[.int .i64 x,.iface T a]):=fun x T a w' => by
  simp only[VR,VRs]
  exact⟨_,rfl,_,_,rfl,Rds.v _ rfl,_,_,rfl,⟨_,_,rfl⟩,rfl⟩
 unfold Zvj
 cases e:Lib.atoiAll (bl s)
 ·exact absurd e (h _)
 ·exact(Go.Proofs.Any.strconv_Atoi_syntax_var Proofs.Tryz.laysC172 s (by omega) e t p w h3).mono fun e w' ⟨N,he,_,_,hb⟩=>⟨_,he,fin _ _ _ _,hb⟩
 ·exact(Go.Proofs.Any.strconv_Atoi_range_var Proofs.Tryz.laysC172 s (by omega) e t' p' w h4).mono fun e w' ⟨N,he,_,_,hb⟩=>⟨_,he,fin _ _ _ _,hb⟩
def n64(n:Int):Prop:=-9223372036854775808<=n/\n<=9223372036854775807
theorem ZjV(n:Int)(hn:n64 n)(lvl:Nat)(S:Sto):Sem Proofs.Tryz.prog Ql lvl [iI n] S (iS (ZH n)) S:=by
 obtain⟨h0,h1⟩:=hn
 refine VN (Xp (by kernel_rfl)) rfl trivial fun _ G w vs _ hv hf=>?_
 rw[Xc (xs:=[.int .i64 n]) hv]
 exact(Go.Proofs.Any.strconv_Itoa Proofs.Tryz.laysM171 n (by omega) (by omega) w (ZeM hf).1).mono fun e w' ⟨h,k,os,h'⟩=>⟨_,h,.v _ rfl,h' ▸ Go.Lib.below_grow _ w (Nat.le_refl _) k os⟩
theorem Zlg(n:Int)(hn:n64 n)(lvl:Nat)(S:Sto):Sem Proofs.Tryz.prog JD lvl [iI n] S (iS (ZH n)) S:=by
 refine Ze Zdu trivial ?_
 simp only[ZaK,EVA,seval,Zc,men]
 refine Za (ZjV n hn) ?_
 simp only[EVA,seval,Zc,men]
def rdI(s:ByteArray):Option Int:=match Lib.atoiAll (bl s) with | .ok v=>if ZH v=s then some v else none | _=>none
theorem Znn{s:ByteArray}{v:Int}(h:rdI s=some v):n64 v:=by
 unfold rdI at h
 split at h
 ·rename_i u hu
  split at h
  ·injection h with h
   subst h
   exact Lib.atoiAll_bounds hu
  ·cases h
 ·cases h
theorem Q1(s:ByteArray)(hs:s.size<=4000000000)(lvl:Nat)(S:Sto):Sem Proofs.Tryz.prog Jj lvl [iS s] S (.tu [iI ((rdI s).getD 0),iB (rdI s).isSome]) S:=by
 refine Ze Zc4 (by simp [low,men,Zc]) ?_
 simp only[UX,EVA,seval,Zc,men]
 by_cases hv:∃ v,Lib.atoiAll (bl s) = .ok v
 ·obtain⟨v,hv⟩:=hv
  refine Za (ZgS s hs v hv) ?_
  simp only[EVA,seval,Zc,men]
  refine Za (Zlg v (Lib.atoiAll_bounds hv)) ?_
  by_cases e:ZH v=s
  ·have hr:rdI s=some v:=by unfold rdI;rw[hv];exact if_pos e
   have e':=eq_true e
   rw[hr]
   simp only[e',ne_eq,not_true_eq_false,Option.isSome_some,EVA,seval,Zc,men]
   try rfl
  ·have hr:rdI s=none:=by unfold rdI;rw[hv];exact if_neg e
   have e':=eq_false e
   rw[hr]
   simp only[e',ne_eq,not_false_eq_true,Option.isSome_none,EVA,seval,Zc,men]
   try rfl
 ·have hr:rdI s=none:=by
   unfold rdI
   split
   ·rename_i u hu;exact absurd ⟨u,hu⟩ hv
   ·rfl
  refine Za (ZgT s hs fun v h=>hv ⟨v,h⟩) ?_
  rw[hr]
  simp only[Option.isSome_none,EVA,seval,Zc,men]
  try rfl
theorem Q3(s:ByteArray)(b:UInt8)(hs:s.size<=2000000)(lvl:Nat)(S:Sto):Sem Proofs.Tryz.prog Ji lvl [iS s,iU b] S (.ow 1 (rS (spl s b)) true) S:=by
 refine Ze Zc0 trivial ?_
 simp only[UT,EVA,seval,Zc,men]
 refine ZE (α:=Unit) s.size (fun j _=>[(5,.hd (lvl,256) [] 0 (spC s b j).1.length none (spC s b j).1.length),(6,iI (spC s b j).2),(11,iI j)]) (fun j _=>[(256,.ar 1 (rS (spC s b j).1) true (spC s b j).1.length 0)]) (fun _ _=>True) () (by simp only[EVA,seval,Zc,men]) (by (simp only[EVA,seval,Zc,men]) <;> rfl) trivial ?_
 intro j _ hj _
 have hle:=ZfZ (s:=s) (b:=b) (i:=j)
 have hln:=ZeJ (s:=s) (b:=b) (i:=j)
 simp only[EVA,seval,Zc,men]
 refine Zk (fun hlt=>?_) (fun hge=>?_)
 ·have hja:j<s.size:=by omega
  have hjl:j<(bl s).length:=by rw[ZO];exact hja
  have gb:s.data.toList[j]? = some (bl s)[j]:=List.getElem?_eq_getElem hjl
  have gb2:(bl s)[j]? = some (bl s)[j]:=List.getElem?_eq_getElem hjl
  simp only[gb,Int.toNat_natCast,EVA,seval,Zc,men]
  refine Zk (fun he=>?_) (fun hne=>?_)
  ·have hsp:spC s b (j+1)=((spC s b j).1++[s.extract (spC s b j).2 j],j+1):=by
    rw[spC,if_pos (by rw[gb2,u8_inj.1 he])]
   have hmx:max (spC s b j).1.length ((spC s b j).1.length+1)=(spC s b j).1.length+1:=by omega
   have e1:rS (spC s b j).1++[[ts (s.extract (spC s b j).2 j)]]=rS (spC s b (j+1)).1:=by
    rw[hsp,Zlf]
    rfl
   have e2:(spC s b (j+1)).1.length=(spC s b j).1.length+1:=by rw[hsp];simp
   have e3:(spC s b (j+1)).2=j+1:=by rw[hsp]
   simp only[hmx,e1,List.length_map,Int.toNat_natCast,EVA,seval,Zc,men]
   exact⟨hle,by omega,by omega,by rw[Zd];omega,by rw[Zd];omega,Zf () hja (by rw[e2,e3];rfl) trivial⟩
  ·have hsp:spC s b (j+1)=spC s b j:=by
    rw[spC,if_neg (by rw[gb2];intro q;exact hne (u8_inj.2 (Option.some.inj q)))]
   exact⟨by rw[Zd];omega,Zf () hja (by rw[hsp];rfl) trivial⟩
 ·have hj1:j=s.size:=by omega
  subst hj1
  have hmx:max (spC s b s.size).1.length ((spC s b s.size).1.length+1)=(spC s b s.size).1.length+1:=by omega
  have e1:rS (spC s b s.size).1++[[ts (s.extract (spC s b s.size).2 s.size)]]=rS (spl s b):=by
   unfold spl
   rw[Zlf]
   rfl
  have e2:(spl s b).length=(spC s b s.size).1.length+1:=by simp [spl]
  simp only[hmx,e1,e2,List.length_map,Int.toNat_natCast,EVA,seval,Zc,men]
  exact⟨hle,by omega⟩
end Go.Fd

namespace Go.Fd
open Go.RowKit
set_option maxRecDepth 20000
theorem VU(s:ByteArray)(b:UInt8)(hs:s.size<=2000000)(lvl:Nat)(S:Sto):Sem Proofs.Tryz.prog Z6 lvl [iS s,iU b] S (.ow 1 (rS (spl s b)) true) S:=by
 refine Ze ZcZ trivial ?_
 simp only[US,EVA,seval,Zc,men]
 refine ZE (α:=Unit) s.size (fun j _=>[(5,.hd (lvl,256) [] 0 (spC s b j).1.length none (spC s b j).1.length),(6,iI (spC s b j).2),(7,iI j)]) (fun j _=>[(256,.ar 1 (rS (spC s b j).1) true (spC s b j).1.length 0)]) (fun _ _=>True) () (by simp only[EVA,seval,Zc,men]) (by (simp only[EVA,seval,Zc,men]) <;> rfl) trivial ?_
 intro j _ hj _
 have hle:=ZfZ (s:=s) (b:=b) (i:=j)
 have hln:=ZeJ (s:=s) (b:=b) (i:=j)
 simp only[EVA,seval,Zc,men]
 refine Zk (fun hlt=>?_) (fun hge=>?_)
 ·have hja:j<s.size:=by omega
  have hjl:j<(bl s).length:=by rw[ZO];exact hja
  have gb:s.data.toList[j]? = some (bl s)[j]:=List.getElem?_eq_getElem hjl
  have gb2:(bl s)[j]? = some (bl s)[j]:=List.getElem?_eq_getElem hjl
  simp only[gb,Int.toNat_natCast,EVA,seval,Zc,men]
  refine Zk (fun he=>?_) (fun hne=>?_)
  ·have hsp:spC s b (j+1)=((spC s b j).1++[s.extract (spC s b j).2 j],j+1):=by
    rw[spC,if_pos (by rw[gb2,u8_inj.1 he])]
   have hmx:max (spC s b j).1.length ((spC s b j).1.length+1)=(spC s b j).1.length+1:=by omega
   have e1:rS (spC s b j).1++[[ts (s.extract (spC s b j).2 j)]]=rS (spC s b (j+1)).1:=by
    rw[hsp,Zlf]
    rfl
   have e2:(spC s b (j+1)).1.length=(spC s b j).1.length+1:=by rw[hsp];simp
   have e3:(spC s b (j+1)).2=j+1:=by rw[hsp]
   simp only[hmx,e1,List.length_map,Int.toNat_natCast,EVA,seval,Zc,men]
   exact⟨hle,by omega,by omega,by rw[Zd];omega,by rw[Zd];omega,Zf () hja (by rw[e2,e3];rfl) trivial⟩
  ·have hsp:spC s b (j+1)=spC s b j:=by
    rw[spC,if_neg (by rw[gb2];intro q;exact hne (u8_inj.2 (Option.some.inj q)))]
   exact⟨by rw[Zd];omega,Zf () hja (by rw[hsp];rfl) trivial⟩
 ·have hj1:j=s.size:=by omega
  subst hj1
  have hmx:max (spC s b s.size).1.length ((spC s b s.size).1.length+1)=(spC s b s.size).1.length+1:=by omega
  have e1:rS (spC s b s.size).1++[[ts (s.extract (spC s b s.size).2 s.size)]]=rS (spl s b):=by
   unfold spl
   rw[Zlf]
   rfl
  have e2:(spl s b).length=(spC s b s.size).1.length+1:=by simp [spl]
  simp only[hmx,e1,e2,List.length_map,Int.toNat_natCast,EVA,seval,Zc,men]
  exact⟨hle,by omega⟩
theorem occ1{l:List UInt8}{b:UInt8}{j:Nat}:Lib.occAt l [b] j=true↔l[j]? = some b:=by
 constructor
 ·intro h
  exact ZjS (k:=0) h rfl
 ·intro h
  unfold Lib.occAt
  rw[List.isPrefixOf_iff_prefix]
  have hl:=(List.getElem?_eq_some_iff.1 h).1
  rw[List.getElem?_eq_getElem hl] at h
  rw[List.drop_eq_getElem_cons hl,Option.some.inj h]
  exact⟨_,rfl⟩
theorem Zno{l:List UInt8}{b:UInt8}{j:Nat}(h:l[j]? ≠ some b):Lib.occAt l [b] j=false:=by
 cases e:Lib.occAt l [b] j
 ·rfl
 ·exact absurd (occ1.1 e) h
abbrev WC(b:UInt8):ByteArray:=⟨#[b]⟩
theorem ZgU{s sep:ByteArray}{i:Nat}(h:Lib.index (bl s) (bl sep)=i):V1 s sep=(s.extract 0 i,s.extract (i+sep.size) s.size):=by
 obtain⟨h1,h2,_⟩:=Lib.cutB_hit s sep i h
 exact Prod.ext h1 h2
theorem ZgV{s sep:ByteArray}(h:Lib.index (bl s) (bl sep) = -1):V1 s sep=(s,⟨#[]⟩):=by
 obtain⟨h1,h2,_⟩:=Lib.cutB_miss s sep h
 exact Prod.ext h1 h2
theorem Uk(s:ByteArray)(b:UInt8)(hs:s.size<=2000000)(lvl:Nat)(S:Sto):Sem Proofs.Tryz.prog V0 lvl [iS s,iU b] S (.tu [iS (V1 s (WC b)).1,iS (V1 s (WC b)).2]) S:=by
 refine Ze ZfN (by simp [low,men,Zc]) ?_
 simp only[Za9,EVA,seval,Zc,men]
 refine ZE (α:=Unit) s.size (fun j _=>[(6,iI j)]) (fun _ _=>[]) (fun j _=>Lib.NoOcc (bl s) [b] j) () (by simp only[EVA,seval,Zc,men]) (by (simp only[EVA,seval,Zc,men]) <;> rfl) (Lib.NoOcc.zero _ _) ?_
 intro j _ hj hA
 simp only[EVA,seval,Zc,men]
 refine Zk (fun hlt=>?_) (fun hge=>?_)
 ·have hja:j<s.size:=by omega
  have hjl:j<(bl s).length:=by rw[ZO];exact hja
  have gb:s.data.toList[j]? = some (bl s)[j]:=List.getElem?_eq_getElem hjl
  have gb2:(bl s)[j]? = some (bl s)[j]:=List.getElem?_eq_getElem hjl
  simp only[gb,Int.toNat_natCast,EVA,seval,Zc,men]
  refine Zk (fun he=>?_) (fun hne=>?_)
  ·have ho:Lib.occAt (bl s) [b] j=true:=occ1.2 (by rw[gb2,u8_inj.1 he])
   have hc:=ZgU (s:=s) (sep:=WC b) (i:=j) (Lib.index_hit hA (by omega) ho)
   rw[show (WC b).size=1 from rfl] at hc
   rw[hc]
   have e9:((j:Int)+1).toNat=j+1:=by omega
   simp only[e9,Int.toNat_natCast,EVA,seval,Zc,men]
   repeat' first | omega | (rw[Zd];omega) | rfl | refine And.intro ?_ ?_
  ·exact⟨by rw[Zd];omega,Zf () hja rfl (hA.succ (Zno (by rw[gb2];intro q;exact hne (u8_inj.2 (Option.some.inj q)))))⟩
 ·have hj1:j=s.size:=by omega
  subst hj1
  have hc:=ZgV (s:=s) (sep:=WC b) (Lib.index_past (by show [b]≠[];simp) hA (by show (bl s).length<s.size+1;rw[ZO];omega))
  rw[hc]
theorem ZjW{s m:ByteArray}{j:Nat}(h:j+m.size<=s.size):s.extract j (j+m.size)=m↔Lib.occAt (bl s) (bl m) j=true:=by
 rw[Lib.occAt_iff_take _ _ _ (by rw[ZO,ZO];exact h),beq_iff_eq]
 have e:bl (s.extract j (j+m.size))=((bl s).drop j).take (bl m).length:=by
  rw[ZgQ,List.drop_take,ZO,Nat.add_sub_cancel_left]
 constructor
 ·intro q
  rw[<-e,q]
 ·intro q
  exact Xq (by rw[e,q])
theorem Zf0(s m:ByteArray)(hs:s.size<=2000000)(hm:1<=m.size)(hm2:m.size<=1000)(lvl:Nat)(S:Sto):Sem Proofs.Tryz.prog VY lvl [iS s,iS m] S (.tu [iS (V1 s m).1,iS (V1 s m).2]) S:=by
 refine Ze ZfL (by simp [low,men,Zc]) ?_
 simp only[Za7,EVA,seval,Zc,men]
 have hne:bl m≠[]:=fun e=>by have:=ZO m;rw[e] at this;simp at this;omega
 refine ZE (α:=Unit) (s.size+1-m.size) (fun j _=>[(6,iI j)]) (fun _ _=>[]) (fun j _=>Lib.NoOcc (bl s) (bl m) j) () (by simp only[EVA,seval,Zc,men]) (by (simp only[EVA,seval,Zc,men]) <;> rfl) (Lib.NoOcc.zero _ _) ?_
 intro j _ hj hA
 simp only[EVA,seval,Zc,men]
 refine⟨by rw[Zd];omega,?_⟩
 refine Zk (fun hlt=>?_) (fun hge=>?_)
 ·have hja:j<s.size+1-m.size:=by omega
  have hjm:j+m.size<=s.size:=by omega
  have e1:((j:Int)+(m.size:Int)).toNat=j+m.size:=by omega
  simp only[e1,Int.toNat_natCast,EVA,seval,Zc,men]
  refine⟨by rw[Zd];omega,by omega,by omega,hjm,?_⟩
  refine Zk (fun he=>?_) (fun hne2=>?_)
  ·have ho:=(ZjW hjm).1 he
   have hc:=ZgU (s:=s) (sep:=m) (i:=j) (Lib.index_hit hA (by rw[ZO];omega) ho)
   rw[hc]
   simp only[e1,Int.toNat_natCast,EVA,seval,Zc,men]
   repeat' first | omega | (rw[Zd];omega) | rfl | refine And.intro ?_ ?_
  ·refine⟨by rw[Zd];omega,Zf () hja rfl (hA.succ ?_)⟩
   cases e:Lib.occAt (bl s) (bl m) j
   ·rfl
   ·exact absurd ((ZjW hjm).2 e) hne2
 ·have hc:=ZgV (s:=s) (sep:=m) (Lib.index_past hne hA (by rw[ZO,ZO];omega))
  rw[hc]
  try simp only[EVA,seval,Zc,men]
def ZjX(sig:List TControl)(nm:ByteArray):Int:=ixF (fun d:TControl=>decide (d.name=nm)) sig 0
theorem ZcI(nm:ByteArray)(d:TControl)(lvl:Nat)(S:Sto):Sem Proofs.Tryz.prog JJ lvl [.ag ((Zg d).map .tr),.ta [ts nm]] S (iB (decide (d.name=nm))) S:=by
 refine Ze DT trivial ?_
 simp only[Xm,Zg,EVA,seval,Zc,men]
theorem ZeO(sig:List TControl)(nm:ByteArray)(hl:sig.length<=4294967296)(lvl:Nat)(S:Sto):Sem Proofs.Tryz.prog VD lvl [.tr (.sl (sig.map Zg)),iS nm] S (iI (ZjX sig nm)) S:=by
 refine Ze Zbp trivial ?_
 simp only[WB,List.length_map,EVA,seval,Zc,men]
 refine Za (ZhA (P:=Proofs.Tryz.prog) Zba W6 (f:=fun d:TControl=>decide (d.name=nm)) (fe:=JJ) (cs:=[[ts nm]]) sig (by omega) (fun d _ lvl S=>ZcI nm d lvl S)) ?_
 simp only[EVA,seval,Zc,men]
 try rfl
theorem ZjY{α:Type}{f:α->Bool}{j:Int}:ixF f [] j = -1:=rfl
theorem ZeP(sig:List TControl)(nm:ByteArray)(hl:sig.length<=4294967296)(lvl:Nat)(S:Sto):Sem Proofs.Tryz.prog VA lvl [.tr (.sl (sig.map Zg)),iS nm] S (iI (ZjX sig nm)) S:=by
 refine Ze Zbo trivial ?_
 simp only[WA,List.length_map,EVA,seval,Zc,men]
 refine ZE (α:=Unit) sig.length (fun j _=>[(5,iI j)]) (fun _ _=>[]) (fun j _=>ZjX sig nm=ixF (fun d:TControl=>decide (d.name=nm)) (sig.drop j) j) () (by simp only[EVA,seval,Zc,men]) (by (simp only[EVA,seval,Zc,men]) <;> rfl) rfl ?_
 intro j _ hj hA
 simp only[List.length_map,EVA,seval,Zc,men]
 refine Zk (fun hlt=>?_) (fun hge=>?_)
 ·have hja:j<sig.length:=by omega
  have ga:=Xo (c:=Zg) hja
  rw[DV hja,Wb] at hA
  simp only[ga,Zg,List.length_map,EVA,seval,Zc,men]
  refine Zk (fun he=>?_) (fun hne=>?_)
  ·rw[if_pos (by simp [he])] at hA
   rw[hA]
  ·rw[if_neg (by simp [hne])] at hA
   exact⟨by rw[Zd];omega,Zf () hja rfl hA⟩
 ·have hj1:j=sig.length:=by omega
  subst hj1
  rw[List.drop_length,ZjY] at hA
  rw[hA]
def Zau(rd:ByteArray->Option Int)(ws:List ByteArray):Bool:=ws.all fun w=>(rd w).isSome
def Zac(rd:ByteArray->Option Int)(ws:List ByteArray):List Int:=if Zau rd ws=true then ws.map fun w=>(rd w).getD 0 else []
theorem ZjZ{rd:ByteArray->Option Int}{ws:List ByteArray}{j:Nat}(hj:j<ws.length)(h:(rd ws[j]).isSome=false):Zau rd ws=false:=by
 cases e:Zau rd ws
 ·rfl
 ·unfold Zau at e
  rw[List.all_eq_true] at e
  have:=e _ (List.getElem_mem hj)
  rw[h] at this
  cases this
theorem ZhS{rd:ByteArray->Option Int}{ws:List ByteArray}(h:∀ j (hj:j<ws.length),(rd ws[j]).isSome=true):Zau rd ws=true:=by
 unfold Zau
 rw[List.all_eq_true]
 intro w hw
 obtain⟨j,hj,rfl⟩:=List.getElem_of_mem hw
 exact h j hj
def ZgW(rd:ByteArray->Option Int)(ws:List ByteArray)(j:Nat):List Int:=(ws.take j).map fun w=>(rd w).getD 0
theorem ZbT{rd:ByteArray->Option Int}{ws:List ByteArray}{j:Nat}(hj:j<=ws.length):(ZgW rd ws j).length=j:=by
 unfold ZgW;rw[List.length_map,List.length_take];omega
theorem Zf1{rd:ByteArray->Option Int}{ws:List ByteArray}{j:Nat}(hj:j<ws.length):ZgW rd ws (j+1)=ZgW rd ws j++[(rd ws[j]).getD 0]:=by
 unfold ZgW;rw[List.take_succ_eq_append_getElem hj,List.map_append];rfl
theorem ZeQ{rd:ByteArray->Option Int}{ws:List ByteArray}:(Zac rd ws).length<=ws.length:=by
 unfold Zac;split <;> simp
theorem Q4(ws:List ByteArray)(hs:∀ w∈ws,w.size<=4000000000)(hl:ws.length<=3000000)(lvl:Nat)(S:Sto):Sem Proofs.Tryz.prog Jk lvl [tS ws] S (.tu [.ow 1 (rI (Zac rdI ws)) true,iB (Zau rdI ws)]) S:=by
 refine Ze DB (by simp [low,men,Zc]) ?_
 simp only[Xf,List.length_map,EVA,seval,Zc,men]
 refine ZE (α:=Unit) ws.length (fun j _=>[(4,.hd (lvl,288) [] 0 j none j),(12,iI j)]) (fun j _=>[(288,.ar 1 (rI (ZgW rdI ws j)) true j 0)]) (fun j _=>∀ i (hi:i<ws.length),i<j->(rdI ws[i]).isSome=true) () (by simp only[EVA,seval,Zc,men]) (by (simp only[EVA,seval,Zc,men]) <;> rfl) (fun i _ h=>absurd h (Nat.not_lt_zero i)) ?_
 intro j _ hj hA
 simp only[List.length_map,EVA,seval,Zc,men]
 refine Zk (fun hlt=>?_) (fun hge=>?_)
 ·have hja:j<ws.length:=by omega
  have ga:=Xo (c:=fun n:ByteArray=>[ts n]) hja
  have hmx:max j (j+1)=j+1:=by omega
  have htl:=ZbT (rd:=rdI) (ws:=ws) (j:=j) (by omega)
  have st:rI (ZgW rdI ws j)++[[tv ((rdI ws[j]).getD 0)]]=rI (ZgW rdI ws (j+1)):=by rw[Zf1 hja,Zdy];rfl
  simp only[ga,List.length_map,EVA,seval,Zc,men]
  refine Za (Q1 ws[j] (hs _ (List.getElem_mem hja))) ?_
  cases hb:(rdI ws[j]).isSome
  ·have hno:=ZjZ hja hb
   rw[Zac,hno]
   simp only[EVA,seval,Zc,men]
   try rfl
  ·simp only[htl,hmx,st,List.length_map,EVA,seval,Zc,men]
   exact⟨by omega,by rw[Zd];omega,Zf () hja rfl fun i hi hij=>by
    by_cases e:i=j
    ·subst e;exact hb
    ·exact hA i hi (by omega)⟩
 ·have hj1:j=ws.length:=by omega
  subst hj1
  have hyes:Zau rdI ws=true:=ZhS fun i hi=>hA i hi hi
  have ht:ZgW rdI ws ws.length=Zac rdI ws:=by unfold ZgW Zac;rw[if_pos hyes,List.take_length]
  have hln:(Zac rdI ws).length=ws.length:=by rw[<-ht];exact ZbT (Nat.le_refl _)
  rw[ht,hyes]
  simp only[hln,List.length_map,EVA,seval,Zc,men]
  try rfl
end Go.Fd

namespace Go.Fd
open Go.RowKit
set_option maxRecDepth 20000
theorem Zvk{n:Nat}(h0:10<=n):Zbb ((n / 10:Nat):Int)++DIG.extract (n % 10) (n % 10+1)=Zbb n:=Xq (by
 rw[JO,ZqO ⟨n % 10,by omega⟩,Zbb,Db,Int.toNat_natCast,Zbb,Db,Int.toNat_natCast]
 conv=>rhs;rw[Lib.decDigits,dif_neg (by omega)])
theorem ZhT(n:Nat):(Zbb n).size<=n+1:=by
 induction n using Nat.strongRecOn with
 | _ n ih0 =>
  by_cases h:n<10
  ·rw[<-ZO,Zbb,Db,Int.toNat_natCast,dd1 h]
   simp
  ·have ih:=ih0 (n / 10) (by omega)
   have e:=congrArg ByteArray.size (Zvk (n:=n) (by omega))
   rw[ByteArray.size_append] at e
   have e1:(DIG.extract (n % 10) (n % 10+1)).size=1:=by rw[<-ZO,ZqO ⟨n % 10,by omega⟩];rfl
   omega
theorem ZaS:∀(n:Nat),n<=9999999->∀(lvl:Nat) (S:Sto),Sem Proofs.Tryz.prog ZB lvl [iI n] S (iS (Zbb n)) S
 | n,hn,lvl,S=>by
  by_cases h:n<10
  ·exact ZaM h lvl S
  refine Ze V5 trivial ?_
  have g0:¬ (n:Int)<0:=by omega
  have g1:¬ (n:Int)<10:=by omega
  have e1:(n:Int) / 10=((n / 10:Nat):Int):=by omega
  have e2:(n:Int) % 10=((n % 10:Nat):Int):=by omega
  have e3:(((n % 10:Nat):Int)+1).toNat=n % 10+1:=by omega
  simp only[Vb,g0,g1,e1,e2,e3,EVA,seval,Zc,men]
  refine⟨by rw[Zd];omega,?_⟩
  refine Za (ZaS (n / 10) (by omega)) ?_
  simp only[e2,e3,EVA,seval,Zc,men]
  have d2:=Zvk (n:=n) (by omega)
  have s2:=ZhT n
  refine⟨by rw[Zd];omega,by omega,by omega,?_,?_,?_⟩
  ·show n % 10+1<=10
   omega
  ·have:=congrArg ByteArray.size d2
   rw[ByteArray.size_append] at this
   show (Zbb ((n / 10:Nat):Int)).size+(DIG.extract (n % 10) (n % 10+1)).size<=4294967296
   omega
  ·rw[<-d2]
theorem ZaT(n:Int)(hn:-9999999<=n/\n<=9999999)(lvl:Nat)(S:Sto):Sem Proofs.Tryz.prog ZB lvl [iI n] S (iS (ZH n)) S:=by
 by_cases h:0<=n
 ·rw[ZbN h]
  obtain⟨u,rfl⟩:=Int.eq_ofNat_of_zero_le h
  exact ZaS u (by omega) lvl S
 ·rw[D0 (by omega)]
  refine Ze V5 trivial ?_
  obtain⟨u,hu⟩:=Int.eq_ofNat_of_zero_le (show 0 <= -n by omega)
  have hlt:n<0:=by omega
  have z:=ZhT u
  have e:(⟨#[45]⟩:ByteArray).size=1:=rfl
  have hz:(0:Int)-n=u:=by omega
  have hz2:-n=u:=by omega
  rw[hz2]
  simp only[Vb,hlt,hz,hz2,EVA,seval,Zc,men]
  refine⟨by rw[Zd];omega,Za (ZaS u (by omega)) ?_⟩
  simp only[e,EVA,seval,Zc,men]
  try omega
def Zbr(l:List UInt8):Nat:=l.foldl (fun n c=>10*n+(c.toNat-48)) 0
theorem Zad{l:List UInt8}{j:Nat}(h:j<l.length):Zbr (l.take (j+1))=10*Zbr (l.take j)+(l[j].toNat-48):=by
 unfold Zbr
 rw[List.take_succ_eq_append_getElem h,List.foldl_append]
 rfl
theorem Ul{l:List UInt8}:∀{j:Nat},j<=l.length->(∀ i (hi:i<l.length),i<j->48<=l[i].toNat/\l[i].toNat<=57)->Zbr (l.take j)+1<=10 ^ j
 | 0,_,_=>by simp [Zbr]
 | j+1,hj,h=>by
  have ih:=Ul (l:=l) (j:=j) (by omega) fun i hi hij=>h i hi (by omega)
  have h1:=h j (by omega) (by omega)
  rw[Zad (by omega),Nat.pow_succ]
  omega
theorem Znp{j:Nat}(h:j<=6):10 ^ j<=1000000:=Nat.pow_le_pow_right (by decide) h
def ZqR(t:ByteArray):Prop:=∀ c∈bl t,48<=c.toNat/\c.toNat<=57
open Classical in
noncomputable def tR(s:ByteArray):ByteArray:=if 1<s.size/\(bl s)[0]? = some 45 then s.extract 1 s.size else s
open Classical in
noncomputable def ZeR(s:ByteArray):Int:=if (tR s).size<s.size then -(Zbr (bl (tR s)):Int) else ((Zbr (bl (tR s)):Nat):Int)
open Classical in
noncomputable def rdS(s:ByteArray):Option Int:=if (1<=(tR s).size/\(tR s).size<=6)/\ZqR (tR s)/\ZH (ZeR s)=s then some (ZeR s) else none
theorem Zj0{s:ByteArray}{v:Int}(h:rdS s=some v):n64 v:=by
 unfold rdS at h
 split at h
 ·rename_i g
  injection h with h
  subst h
  have hl:=ZO (tR s)
  have hv:=Ul (l:=bl (tR s)) (j:=(tR s).size) (by omega) fun i hi _=>g.2.1 _ (List.getElem_mem hi)
  rw[List.take_of_length_le (by omega)] at hv
  have hv2:=Znp (j:=(tR s).size) (by omega)
  unfold ZeR
  split <;> exact⟨by omega,by omega⟩
 ·cases h
theorem Zf2{s:ByteArray}(h:1<s.size):(s.extract 1 s.size).size=s.size-1:=by
 rw[ByteArray.size_extract];omega
theorem ZgX(s:ByteArray)(hs:s.size<=2000000)(h1:¬ 1<s.size)(lvl:Nat)(S:Sto):Sem Proofs.Tryz.prog ZZ lvl [iS s] S (.tu [iI ((rdS s).getD 0),iB (rdS s).isSome]) S:=by
 refine Ze X8 (by simp [low,men,Zc]) ?_
 have hT0:tR s=s:=if_neg fun g=>h1 g.1
 have f1:=eq_false (show ¬ (1:Int)<s.size by omega)
 simp only[Qw,f1,EVA,seval,Zc,men]
 have hT:tR s=s:=hT0
 have hTs:(s).size<=2000000:=hs
 by_cases hl:1<=(s).size/\(s).size<=6
 rotate_left
 ·have hin:inB ((s).size:Int) 1 6=false:=by
   cases e:inB ((s).size:Int) 1 6
   ·rfl
   ·simp [inB] at e;omega
  have hr:rdS s=none:=by unfold rdS;rw[hT];exact if_neg fun g=>hl g.1
  rw[hr]
  refine Za (Jt ((s).size) 1 6) ?_
  rw[hin]
  simp only[Option.isSome_none,EVA,seval,Zc,men]
  try rfl
 have hin:inB ((s).size:Int) 1 6=true:=by simp [inB];omega
 refine Za (Jt ((s).size) 1 6) ?_
 rw[hin]
 simp only[EVA,seval,Zc,men]
 refine ZE (α:=Unit) (s).size (fun j _=>[(5,iI (Zbr ((bl (s)).take j))),(6,iI j)]) (fun _ _=>[]) (fun j _=>∀ i (hi:i<(bl (s)).length),i<j->48<=(bl (s))[i].toNat/\(bl (s))[i].toNat<=57) () (by simp only[EVA,seval,Zc,men]) (by (simp only[EVA,seval,Zc,men]) <;> rfl) (fun i _ h=>absurd h (Nat.not_lt_zero i)) ?_
 intro j _ hj hA
 simp only[EVA,seval,Zc,men]
 refine Zk (fun hlt=>?_) (fun hge=>?_)
 ·have hja:j<(s).size:=by omega
  have hjl:j<(bl (s)).length:=by rw[ZO];exact hja
  have gb:(s).data.toList[j]? = some (bl (s))[j]:=List.getElem?_eq_getElem hjl
  by_cases c1:48<=(bl (s))[j].toNat
  rotate_left
  ·have e1:=eq_true (show ((bl (s))[j].toNat:Int)<48 by omega)
   have hr:rdS s=none:=by unfold rdS;rw[hT];exact if_neg fun g=>by have:=g.2.1 _ (List.getElem_mem hjl);omega
   rw[hr]
   simp only[gb,e1,Int.toNat_natCast,Option.isSome_none,EVA,seval,Zc,men]
   try rfl
  have e1:=eq_false (show ¬ ((bl (s))[j].toNat:Int)<48 by omega)
  by_cases c2:(bl (s))[j].toNat<=57
  rotate_left
  ·have e2:=eq_true (show (57:Int)<((bl (s))[j].toNat:Int) by omega)
   have hr:rdS s=none:=by unfold rdS;rw[hT];exact if_neg fun g=>by have:=g.2.1 _ (List.getElem_mem hjl);omega
   rw[hr]
   simp only[gb,e1,e2,Int.toNat_natCast,Option.isSome_none,EVA,seval,Zc,men]
   try rfl
  have e2:=eq_false (show ¬ (57:Int)<((bl (s))[j].toNat:Int) by omega)
  have hv:=Ul (l:=bl (s)) (j:=j) (by omega) hA
  have hv2:=Znp (j:=j) (by omega)
  have hw:IntKind.u8.wrap (((bl (s))[j].toNat:Int)-48)=(((bl (s))[j].toNat-48:Nat):Int):=by
   rw[YM (by constructor <;> simp [IntKind.min,IntKind.max,IntKind.signed,IntKind.bits] <;> omega)];omega
  have hs2:10*((Zbr ((bl (s)).take j):Nat):Int)+(((bl (s))[j].toNat-48:Nat):Int)=((Zbr ((bl (s)).take (j+1)):Nat):Int):=by rw[Zad hjl];omega
  simp only[gb,e1,e2,hw,hs2,Int.toNat_natCast,EVA,seval,Zc,men]
  exact⟨by rw[Zd];omega,by rw[Zd];omega,by rw[Zd];omega,by rw[Zd];omega,Zf () hja rfl fun i hi hij=>by
   by_cases e:i=j
   ·subst e;exact⟨c1,c2⟩
   ·exact hA i hi (by omega)⟩
 ·have hj1:j=(s).size:=by omega
  subst hj1
  have hd:ZqR (s):=fun c hc=>by
   obtain⟨i,hi,rfl⟩:=List.getElem_of_mem hc
   exact hA i hi (by rw[ZO] at hi;exact hi)
  have ht:(bl (s)).take (s).size=bl (s):=List.take_of_length_le (by rw[ZO];exact Nat.le_refl _)
  have hv:=Ul (l:=bl (s)) (j:=(s).size) (by rw[ZO];exact Nat.le_refl _) hA
  have hv2:=Znp (j:=(s).size) (by omega)
  rw[ht] at hv
  rw[ht]
  have e5:=eq_false (show ¬ ((s).size:Int)<s.size by omega)
  have hn:ZeR s=((Zbr (bl (s)):Nat):Int):=by unfold ZeR;rw[hT];exact if_neg (by omega)
  simp only[e5,EVA,seval,Zc,men]
  refine(Za (ZaT (((Zbr (bl (s)):Nat):Int)) (by omega)) ?_)
  by_cases he:ZH (ZeR s)=s
  ·have hr:rdS s=some (ZeR s):=by unfold rdS;rw[hT];exact if_pos ⟨hl,hd,he⟩
   rw[hn] at he hr
   have he':=eq_true he
   rw[hr]
   simp only[he',ne_eq,not_true_eq_false,Option.isSome_some,EVA,seval,Zc,men]
   try rfl
  ·have hr:rdS s=none:=by unfold rdS;rw[hT];exact if_neg fun g=>he g.2.2
   rw[hn] at he
   have he':=eq_false he
   rw[hr]
   simp only[he',ne_eq,not_false_eq_true,Option.isSome_none,EVA,seval,Zc,men]
   try rfl
theorem ZgY(s:ByteArray)(hs:s.size<=2000000)(h1:1<s.size)(h2:(bl s)[0]? ≠ some 45)(lvl:Nat)(S:Sto):Sem Proofs.Tryz.prog ZZ lvl [iS s] S (.tu [iI ((rdS s).getD 0),iB (rdS s).isSome]) S:=by
 refine Ze X8 (by simp [low,men,Zc]) ?_
 have hT0:tR s=s:=if_neg fun g=>h2 g.2
 have f1:=eq_true (show (1:Int)<s.size by omega)
 have f0:0<(bl s).length:=by rw[ZO];omega
 have g0':s.data.toList[0]? = some (bl s)[0]:=List.getElem?_eq_getElem f0
 have f2:=eq_false (show ¬ ((bl s)[0].toNat:Int)=45 from fun e=>h2 (by rw[List.getElem?_eq_getElem f0];exact congrArg some (UInt8.toNat_inj.1 (by show (bl s)[0].toNat=45;omega))))
 simp only[Qw,f1,g0',f2,EVA,seval,Zc,men]
 have hT:tR s=s:=hT0
 have hTs:(s).size<=2000000:=hs
 by_cases hl:1<=(s).size/\(s).size<=6
 rotate_left
 ·have hin:inB ((s).size:Int) 1 6=false:=by
   cases e:inB ((s).size:Int) 1 6
   ·rfl
   ·simp [inB] at e;omega
  have hr:rdS s=none:=by unfold rdS;rw[hT];exact if_neg fun g=>hl g.1
  rw[hr]
  refine Za (Jt ((s).size) 1 6) ?_
  rw[hin]
  simp only[Option.isSome_none,EVA,seval,Zc,men]
  try rfl
 have hin:inB ((s).size:Int) 1 6=true:=by simp [inB];omega
 refine Za (Jt ((s).size) 1 6) ?_
 rw[hin]
 simp only[EVA,seval,Zc,men]
 refine ZE (α:=Unit) (s).size (fun j _=>[(5,iI (Zbr ((bl (s)).take j))),(6,iI j)]) (fun _ _=>[]) (fun j _=>∀ i (hi:i<(bl (s)).length),i<j->48<=(bl (s))[i].toNat/\(bl (s))[i].toNat<=57) () (by simp only[EVA,seval,Zc,men]) (by (simp only[EVA,seval,Zc,men]) <;> rfl) (fun i _ h=>absurd h (Nat.not_lt_zero i)) ?_
 intro j _ hj hA
 simp only[EVA,seval,Zc,men]
 refine Zk (fun hlt=>?_) (fun hge=>?_)
 ·have hja:j<(s).size:=by omega
  have hjl:j<(bl (s)).length:=by rw[ZO];exact hja
  have gb:(s).data.toList[j]? = some (bl (s))[j]:=List.getElem?_eq_getElem hjl
  by_cases c1:48<=(bl (s))[j].toNat
  rotate_left
  ·have e1:=eq_true (show ((bl (s))[j].toNat:Int)<48 by omega)
   have hr:rdS s=none:=by unfold rdS;rw[hT];exact if_neg fun g=>by have:=g.2.1 _ (List.getElem_mem hjl);omega
   rw[hr]
   simp only[gb,e1,Int.toNat_natCast,Option.isSome_none,EVA,seval,Zc,men]
   try rfl
  have e1:=eq_false (show ¬ ((bl (s))[j].toNat:Int)<48 by omega)
  by_cases c2:(bl (s))[j].toNat<=57
  rotate_left
  ·have e2:=eq_true (show (57:Int)<((bl (s))[j].toNat:Int) by omega)
   have hr:rdS s=none:=by unfold rdS;rw[hT];exact if_neg fun g=>by have:=g.2.1 _ (List.getElem_mem hjl);omega
   rw[hr]
   simp only[gb,e1,e2,Int.toNat_natCast,Option.isSome_none,EVA,seval,Zc,men]
   try rfl
  have e2:=eq_false (show ¬ (57:Int)<((bl (s))[j].toNat:Int) by omega)
  have hv:=Ul (l:=bl (s)) (j:=j) (by omega) hA
  have hv2:=Znp (j:=j) (by omega)
  have hw:IntKind.u8.wrap (((bl (s))[j].toNat:Int)-48)=(((bl (s))[j].toNat-48:Nat):Int):=by
   rw[YM (by constructor <;> simp [IntKind.min,IntKind.max,IntKind.signed,IntKind.bits] <;> omega)];omega
  have hs2:10*((Zbr ((bl (s)).take j):Nat):Int)+(((bl (s))[j].toNat-48:Nat):Int)=((Zbr ((bl (s)).take (j+1)):Nat):Int):=by rw[Zad hjl];omega
  simp only[gb,e1,e2,hw,hs2,Int.toNat_natCast,EVA,seval,Zc,men]
  exact⟨by rw[Zd];omega,by rw[Zd];omega,by rw[Zd];omega,by rw[Zd];omega,Zf () hja rfl fun i hi hij=>by
   by_cases e:i=j
   ·subst e;exact⟨c1,c2⟩
   ·exact hA i hi (by omega)⟩
 ·have hj1:j=(s).size:=by omega
  subst hj1
  have hd:ZqR (s):=fun c hc=>by
   obtain⟨i,hi,rfl⟩:=List.getElem_of_mem hc
   exact hA i hi (by rw[ZO] at hi;exact hi)
  have ht:(bl (s)).take (s).size=bl (s):=List.take_of_length_le (by rw[ZO];exact Nat.le_refl _)
  have hv:=Ul (l:=bl (s)) (j:=(s).size) (by rw[ZO];exact Nat.le_refl _) hA
  have hv2:=Znp (j:=(s).size) (by omega)
  rw[ht] at hv
  rw[ht]
  have e5:=eq_false (show ¬ ((s).size:Int)<s.size by omega)
  have hn:ZeR s=((Zbr (bl (s)):Nat):Int):=by unfold ZeR;rw[hT];exact if_neg (by omega)
  simp only[e5,EVA,seval,Zc,men]
  refine(Za (ZaT (((Zbr (bl (s)):Nat):Int)) (by omega)) ?_)
  by_cases he:ZH (ZeR s)=s
  ·have hr:rdS s=some (ZeR s):=by unfold rdS;rw[hT];exact if_pos ⟨hl,hd,he⟩
   rw[hn] at he hr
   have he':=eq_true he
   rw[hr]
   simp only[he',ne_eq,not_true_eq_false,Option.isSome_some,EVA,seval,Zc,men]
   try rfl
  ·have hr:rdS s=none:=by unfold rdS;rw[hT];exact if_neg fun g=>he g.2.2
   rw[hn] at he
   have he':=eq_false he
   rw[hr]
   simp only[he',ne_eq,not_false_eq_true,Option.isSome_none,EVA,seval,Zc,men]
   try rfl
theorem ZgZ(s:ByteArray)(hs:s.size<=2000000)(h1:1<s.size)(h2:(bl s)[0]? = some 45)(lvl:Nat)(S:Sto):Sem Proofs.Tryz.prog ZZ lvl [iS s] S (.tu [iI ((rdS s).getD 0),iB (rdS s).isSome]) S:=by
 refine Ze X8 (by simp [low,men,Zc]) ?_
 have hT0:tR s=s.extract 1 s.size:=if_pos ⟨h1,h2⟩
 have hz:=Zf2 h1
 have f1:=eq_true (show (1:Int)<s.size by omega)
 have f0:0<(bl s).length:=by rw[ZO];omega
 have g0':s.data.toList[0]? = some 45:=h2
 have f2:((45:UInt8).toNat:Int)=45:=rfl
 have f3:1<=s.size:=by omega
 simp only[Qw,f1,g0',f2,f3,EVA,seval,Zc,men]
 have hT:tR s=s.extract 1 s.size:=hT0
 have hTs:(s.extract 1 s.size).size<=2000000:=by omega
 by_cases hl:1<=(s.extract 1 s.size).size/\(s.extract 1 s.size).size<=6
 rotate_left
 ·have hin:inB ((s.extract 1 s.size).size:Int) 1 6=false:=by
   cases e:inB ((s.extract 1 s.size).size:Int) 1 6
   ·rfl
   ·simp [inB] at e;omega
  have hr:rdS s=none:=by unfold rdS;rw[hT];exact if_neg fun g=>hl g.1
  rw[hr]
  refine Za (Jt ((s.extract 1 s.size).size) 1 6) ?_
  rw[hin]
  simp only[Option.isSome_none,EVA,seval,Zc,men]
  try rfl
 have hin:inB ((s.extract 1 s.size).size:Int) 1 6=true:=by simp [inB];omega
 refine Za (Jt ((s.extract 1 s.size).size) 1 6) ?_
 rw[hin]
 simp only[EVA,seval,Zc,men]
 refine ZE (α:=Unit) (s.extract 1 s.size).size (fun j _=>[(5,iI (Zbr ((bl (s.extract 1 s.size)).take j))),(6,iI j)]) (fun _ _=>[]) (fun j _=>∀ i (hi:i<(bl (s.extract 1 s.size)).length),i<j->48<=(bl (s.extract 1 s.size))[i].toNat/\(bl (s.extract 1 s.size))[i].toNat<=57) () (by simp only[EVA,seval,Zc,men]) (by (simp only[EVA,seval,Zc,men]) <;> rfl) (fun i _ h=>absurd h (Nat.not_lt_zero i)) ?_
 intro j _ hj hA
 simp only[EVA,seval,Zc,men]
 refine Zk (fun hlt=>?_) (fun hge=>?_)
 ·have hja:j<(s.extract 1 s.size).size:=by omega
  have hjl:j<(bl (s.extract 1 s.size)).length:=by rw[ZO];exact hja
  have gb:(s.extract 1 s.size).data.toList[j]? = some (bl (s.extract 1 s.size))[j]:=List.getElem?_eq_getElem hjl
  by_cases c1:48<=(bl (s.extract 1 s.size))[j].toNat
  rotate_left
  ·have e1:=eq_true (show ((bl (s.extract 1 s.size))[j].toNat:Int)<48 by omega)
   have hr:rdS s=none:=by unfold rdS;rw[hT];exact if_neg fun g=>by have:=g.2.1 _ (List.getElem_mem hjl);omega
   rw[hr]
   simp only[gb,e1,Int.toNat_natCast,Option.isSome_none,EVA,seval,Zc,men]
   try rfl
  have e1:=eq_false (show ¬ ((bl (s.extract 1 s.size))[j].toNat:Int)<48 by omega)
  by_cases c2:(bl (s.extract 1 s.size))[j].toNat<=57
  rotate_left
  ·have e2:=eq_true (show (57:Int)<((bl (s.extract 1 s.size))[j].toNat:Int) by omega)
   have hr:rdS s=none:=by unfold rdS;rw[hT];exact if_neg fun g=>by have:=g.2.1 _ (List.getElem_mem hjl);omega
   rw[hr]
   simp only[gb,e1,e2,Int.toNat_natCast,Option.isSome_none,EVA,seval,Zc,men]
   try rfl
  have e2:=eq_false (show ¬ (57:Int)<((bl (s.extract 1 s.size))[j].toNat:Int) by omega)
  have hv:=Ul (l:=bl (s.extract 1 s.size)) (j:=j) (by omega) hA
  have hv2:=Znp (j:=j) (by omega)
  have hw:IntKind.u8.wrap (((bl (s.extract 1 s.size))[j].toNat:Int)-48)=(((bl (s.extract 1 s.size))[j].toNat-48:Nat):Int):=by
   rw[YM (by constructor <;> simp [IntKind.min,IntKind.max,IntKind.signed,IntKind.bits] <;> omega)];omega
  have hs2:10*((Zbr ((bl (s.extract 1 s.size)).take j):Nat):Int)+(((bl (s.extract 1 s.size))[j].toNat-48:Nat):Int)=((Zbr ((bl (s.extract 1 s.size)).take (j+1)):Nat):Int):=by rw[Zad hjl];omega
  simp only[gb,e1,e2,hw,hs2,Int.toNat_natCast,EVA,seval,Zc,men]
  exact⟨by rw[Zd];omega,by rw[Zd];omega,by rw[Zd];omega,by rw[Zd];omega,Zf () hja rfl fun i hi hij=>by
   by_cases e:i=j
   ·subst e;exact⟨c1,c2⟩
   ·exact hA i hi (by omega)⟩
 ·have hj1:j=(s.extract 1 s.size).size:=by omega
  subst hj1
  have hd:ZqR (s.extract 1 s.size):=fun c hc=>by
   obtain⟨i,hi,rfl⟩:=List.getElem_of_mem hc
   exact hA i hi (by rw[ZO] at hi;exact hi)
  have ht:(bl (s.extract 1 s.size)).take (s.extract 1 s.size).size=bl (s.extract 1 s.size):=List.take_of_length_le (by rw[ZO];exact Nat.le_refl _)
  have hv:=Ul (l:=bl (s.extract 1 s.size)) (j:=(s.extract 1 s.size).size) (by rw[ZO];exact Nat.le_refl _) hA
  have hv2:=Znp (j:=(s.extract 1 s.size).size) (by omega)
  rw[ht] at hv
  rw[ht]
  have e5:=eq_true (show ((s.extract 1 s.size).size:Int)<s.size by omega)
  have hn:ZeR s = -(Zbr (bl (s.extract 1 s.size)):Int):=by unfold ZeR;rw[hT];exact if_pos (by omega)
  simp only[e5,EVA,seval,Zc,men]
  refine⟨by rw[Zd];omega,(Za (ZaT (-(Zbr (bl (s.extract 1 s.size)):Int)) (by omega)) ?_)⟩
  by_cases he:ZH (ZeR s)=s
  ·have hr:rdS s=some (ZeR s):=by unfold rdS;rw[hT];exact if_pos ⟨hl,hd,he⟩
   rw[hn] at he hr
   have he':=eq_true he
   rw[hr]
   simp only[he',ne_eq,not_true_eq_false,Option.isSome_some,EVA,seval,Zc,men]
   try rfl
  ·have hr:rdS s=none:=by unfold rdS;rw[hT];exact if_neg fun g=>he g.2.2
   rw[hn] at he
   have he':=eq_false he
   rw[hr]
   simp only[he',ne_eq,not_false_eq_true,Option.isSome_none,EVA,seval,Zc,men]
   try rfl
theorem Vc(s:ByteArray)(hs:s.size<=2000000)(lvl:Nat)(S:Sto):Sem Proofs.Tryz.prog ZZ lvl [iS s] S (.tu [iI ((rdS s).getD 0),iB (rdS s).isSome]) S:=by
 by_cases h1:1<s.size
 ·by_cases h2:(bl s)[0]? = some 45
  ·exact ZgZ s hs h1 h2 lvl S
  ·exact ZgY s hs h1 h2 lvl S
 ·exact ZgX s hs h1 lvl S
end Go.Fd

namespace Go.Fd
open Go.RowKit
set_option maxRecDepth 20000
theorem Wh(w0:ByteArray)(ws:List ByteArray)(hs:∀ w∈ws,w.size<=2000000)(hl:ws.length<=3000000)(lvl:Nat)(S:Sto):Sem Proofs.Tryz.prog JA lvl [tS (w0::ws)] S (.tu [.ow 1 (rI (Zac rdS ws)) true,iB (Zau rdS ws)]) S:=by
 refine Ze Zbk (by simp [low,men,Zc]) ?_
 simp only[Ww,List.length_map,EVA,↓reduceIte,Nat.reduceEqDiff,Nat.reduceMul,reduceCtorEq,Nat.reduceAdd,Nat.reduceSub,Nat.reduceLeDiff,Nat.reduceLT,Int.reduceToNat,Int.reduceLE,Int.reduceLT,Zc,men]
 refine ZE (α:=Unit) ws.length (fun j _=>[(4,.hd (lvl,256) [] 0 j none j),(5,iI ((j:Int)+1))]) (fun j _=>[(256,.ar 1 (rI (ZgW rdS ws j)) true j 0)]) (fun j _=>∀ i (hi:i<ws.length),i<j->(rdS ws[i]).isSome=true) () (by simp only[EVA,↓reduceIte,Nat.reduceEqDiff,Nat.reduceMul,reduceCtorEq,Nat.reduceAdd,Nat.reduceSub,Nat.reduceLeDiff,Nat.reduceLT,Int.reduceToNat,Int.reduceLE,Int.reduceLT,Zc,men]) (by (simp only[EVA,↓reduceIte,Nat.reduceEqDiff,Nat.reduceMul,reduceCtorEq,Nat.reduceAdd,Nat.reduceSub,Nat.reduceLeDiff,Nat.reduceLT,Int.reduceToNat,Int.reduceLE,Int.reduceLT,Zc,men]) <;> rfl) (fun i _ h=>absurd h (Nat.not_lt_zero i)) ?_
 intro j _ hj hA
 simp only[List.length_map,List.length_cons,EVA,↓reduceIte,Nat.reduceEqDiff,Nat.reduceMul,reduceCtorEq,Nat.reduceAdd,Nat.reduceSub,Nat.reduceLeDiff,Nat.reduceLT,Int.reduceToNat,Int.reduceLE,Int.reduceLT,Zc,men]
 have en:((ws.length+1:Nat):Int)=(ws.length:Int)+1:=by omega
 refine Zk (fun hlt=>?_) (fun hge=>?_)
 ·have hja:j<ws.length:=by omega
  have e1:((j:Int)+1).toNat=j+1:=by omega
  have p1:(0:Int)<=(j:Int)+1:=by omega
  have ga:=Xo (c:=fun n:ByteArray=>[ts n]) hja
  have hmx:max j (j+1)=j+1:=by omega
  have htl:=ZbT (rd:=rdS) (ws:=ws) (j:=j) (by omega)
  have st:rI (ZgW rdS ws j)++[[tv ((rdS ws[j]).getD 0)]]=rI (ZgW rdS ws (j+1)):=by rw[Zf1 hja,Zdy];rfl
  simp only[e1,p1,ga,hja,List.length_map,List.length_cons,EVA,↓reduceIte,Nat.reduceEqDiff,Nat.reduceMul,reduceCtorEq,Nat.reduceAdd,Nat.reduceSub,Nat.reduceLeDiff,Nat.reduceLT,Int.reduceToNat,Int.reduceLE,Int.reduceLT,Zc,men]
  refine Za (Vc ws[j] (hs _ (List.getElem_mem hja))) ?_
  cases hb:(rdS ws[j]).isSome
  ·have hno:=ZjZ hja hb
   rw[Zac,hno]
   simp only[EVA,↓reduceIte,Nat.reduceEqDiff,Nat.reduceMul,reduceCtorEq,Nat.reduceAdd,Nat.reduceSub,Nat.reduceLeDiff,Nat.reduceLT,Int.reduceToNat,Int.reduceLE,Int.reduceLT,Zc,men]
   try rfl
  ·simp only[htl,hmx,st,List.length_map,EVA,↓reduceIte,Nat.reduceEqDiff,Nat.reduceMul,reduceCtorEq,Nat.reduceAdd,Nat.reduceSub,Nat.reduceLeDiff,Nat.reduceLT,Int.reduceToNat,Int.reduceLE,Int.reduceLT,Zc,men]
   exact⟨by omega,by rw[Zd];omega,Zf () hja rfl fun i hi hij=>by
    by_cases e:i=j
    ·subst e;exact hb
    ·exact hA i hi (by omega)⟩
 ·have hj1:j=ws.length:=by omega
  subst hj1
  have hyes:Zau rdS ws=true:=ZhS fun i hi=>hA i hi hi
  have ht:ZgW rdS ws ws.length=Zac rdS ws:=by unfold ZgW Zac;rw[if_pos hyes,List.take_length]
  have hln:(Zac rdS ws).length=ws.length:=by rw[<-ht];exact ZbT (Nat.le_refl _)
  rw[ht,hyes]
  simp only[hln,List.length_map,EVA,↓reduceIte,Nat.reduceEqDiff,Nat.reduceMul,reduceCtorEq,Nat.reduceAdd,Nat.reduceSub,Nat.reduceLeDiff,Nat.reduceLT,Int.reduceToNat,Int.reduceLE,Int.reduceLT,Zc,men]
  try rfl
def hd0(s:ByteArray):ByteArray:=(spl s 32).headD ⟨#[]⟩
def tl0(s:ByteArray):List ByteArray:=(spl s 32).tail
theorem XQ{s:ByteArray}:spl s 32=hd0 s::tl0 s:=by
 unfold hd0 tl0
 cases h:spl s 32 with
 | nil=>exact absurd h ZhP
 | cons x r=>rfl
theorem ZhU{s:ByteArray}:(hd0 s).size<=s.size:=ZbS (b:=32) (by rw[XQ];simp)
theorem YZ{s:ByteArray}:∀ w∈tl0 s,w.size<=s.size:=fun w hw=>ZbS (b:=32) (by rw[XQ];simp [hw])
theorem Y5{s:ByteArray}:(tl0 s).length<=s.size:=by
 have:=ZgR (s:=s) (b:=32)
 rw[XQ,List.length_cons] at this
 omega
theorem Qy{s sep:ByteArray}:(V1 s sep).1.size<=s.size/\(V1 s sep).2.size<=s.size:=by
 rcases Lib.indexB_cases s sep with h | ⟨i,h,_⟩
 ·rw[ZgV h]
  exact⟨Nat.le_refl _,Nat.zero_le _⟩
 ·rw[ZgU h]
  refine⟨?_,?_⟩ <;> (simp only[ByteArray.size_extract];omega)
theorem Zf3{x:ByteArray}{r:List ByteArray}{n:Nat}(h:n=r.length):cut (rS (x::r)) 1 n=rS r:=by
 subst h
 show List.take r.length (List.drop 1 ((x::r).map fun n=>[ts n]))=_
 rw[List.map_cons,List.drop_succ_cons,List.drop_zero,List.take_of_length_le (by rw[List.length_map];exact Nat.le_refl _)]
def ndV(rd:ByteArray->Option Int)(sig:List TControl)(s:ByteArray):TNode:=⟨ZjX sig (V1 (hd0 s) (WC 64)).1,(rd (V1 (hd0 s) (WC 64)).2).getD 0,Zac rd (tl0 s)⟩
def ndB(rd:ByteArray->Option Int)(sig:List TControl)(s:ByteArray):Bool:=(Zau rd (tl0 s)&&(rd (V1 (hd0 s) (WC 64)).2).isSome)&&decide (0<=ZjX sig (V1 (hd0 s) (WC 64)).1)
theorem Zf4(sig:List TControl)(s:ByteArray)(hn:sig.length<=4294967296)(hs:s.size<=2000000)(lvl:Nat)(S:Sto):Sem Proofs.Tryz.prog VS lvl [.tr (.sl (sig.map Zg)),iS s] S (.tu [UJ (ndV rdI sig s),iB (ndB rdI sig s)]) S:=by
 refine Ze Zco (by simp [UJ,low,men,Zc]) ?_
 have z1:=ZhU (s:=s)
 have z2:=Qy (s:=hd0 s) (sep:=WC 64)
 have z3:=YZ (s:=s)
 have z4:=Y5 (s:=s)
 have gh:(rS (hd0 s::tl0 s))[0]? = some [ts (hd0 s)]:=rfl
 have hct:cut ([ts (hd0 s)]::List.map (fun n=>[ts n]) (tl0 s)) 1 ((tl0 s).length+1-1)=rS (tl0 s):=Zf3 (by omega)
 have hun:UnR 1 ([ts (hd0 s)]::List.map (fun n=>[ts n]) (tl0 s)):=QK (fun n:ByteArray=>[ts n]) (fun _=>rfl) (hd0 s::tl0 s)
 simp only[W9,List.length_map,EVA,↓reduceIte,Nat.reduceEqDiff,Nat.reduceMul,reduceCtorEq,Nat.reduceAdd,Nat.reduceSub,Nat.reduceLeDiff,Nat.reduceLT,Int.reduceToNat,Int.reduceLE,Int.reduceLT,Zc,men]
 refine Za (Q3 s 32 hs) ?_
 rw[XQ]
 simp only[gh,List.length_map,List.length_cons,EVA,↓reduceIte,Nat.reduceEqDiff,Nat.reduceMul,reduceCtorEq,Nat.reduceAdd,Nat.reduceSub,Nat.reduceLeDiff,Nat.reduceLT,Int.reduceToNat,Int.reduceLE,Int.reduceLT,Zc,men]
 refine Za (ZeN (hd0 s) (WC 64) (by omega)) ?_
 simp only[gh,List.length_map,List.length_cons,EVA,↓reduceIte,Nat.reduceEqDiff,Nat.reduceMul,reduceCtorEq,Nat.reduceAdd,Nat.reduceSub,Nat.reduceLeDiff,Nat.reduceLT,Int.reduceToNat,Int.reduceLE,Int.reduceLT,Zc,men]
 refine Za (ZeO sig (V1 (hd0 s) (WC 64)).1 hn) ?_
 simp only[gh,zfill,zobs,Zl,Zn,List.set_cons_zero,List.set_cons_succ,List.length_map,List.length_cons,EVA,↓reduceIte,Nat.reduceEqDiff,Nat.reduceMul,reduceCtorEq,Nat.reduceAdd,Nat.reduceSub,Nat.reduceLeDiff,Nat.reduceLT,Int.reduceToNat,Int.reduceLE,Int.reduceLT,Zc,men]
 refine Za (Q1 (V1 (hd0 s) (WC 64)).2 (by omega)) ?_
 simp only[gh,zfill,zobs,Zl,Zn,List.set_cons_zero,List.set_cons_succ,List.length_map,List.length_cons,EVA,↓reduceIte,Nat.reduceEqDiff,Nat.reduceMul,reduceCtorEq,Nat.reduceAdd,Nat.reduceSub,Nat.reduceLeDiff,Nat.reduceLT,Int.reduceToNat,Int.reduceLE,Int.reduceLT,Zc,men]
 rw[hct]
 refine⟨fun _=>hun,Za (Q4 (tl0 s) (fun w hw=>by have:=z3 w hw;omega) (by omega)) ?_⟩
 unfold ndB
 cases hb1:Zau rdI (tl0 s)
 ·simp only[UJ,ndV,List.set_cons_zero,List.set_cons_succ,EVA,↓reduceIte,Nat.reduceEqDiff,Nat.reduceMul,reduceCtorEq,Nat.reduceAdd,Nat.reduceSub,Nat.reduceLeDiff,Nat.reduceLT,Int.reduceToNat,Int.reduceLE,Int.reduceLT,Zc,men]
  try rfl
 cases hb2:(rdI (V1 (hd0 s) (WC 64)).2).isSome
 ·simp only[UJ,ndV,List.set_cons_zero,List.set_cons_succ,EVA,↓reduceIte,Nat.reduceEqDiff,Nat.reduceMul,reduceCtorEq,Nat.reduceAdd,Nat.reduceSub,Nat.reduceLeDiff,Nat.reduceLT,Int.reduceToNat,Int.reduceLE,Int.reduceLT,Zc,men]
  try rfl
 by_cases hb3:0<=ZjX sig (V1 (hd0 s) (WC 64)).1
 ·have e3:=eq_true hb3
  simp only[e3,UJ,ndV,List.set_cons_zero,List.set_cons_succ,EVA,↓reduceIte,Nat.reduceEqDiff,Nat.reduceMul,reduceCtorEq,Nat.reduceAdd,Nat.reduceSub,Nat.reduceLeDiff,Nat.reduceLT,Int.reduceToNat,Int.reduceLE,Int.reduceLT,Zc,men]
  try rfl
 ·have e3:=eq_false hb3
  simp only[e3,UJ,ndV,List.set_cons_zero,List.set_cons_succ,EVA,↓reduceIte,Nat.reduceEqDiff,Nat.reduceMul,reduceCtorEq,Nat.reduceAdd,Nat.reduceSub,Nat.reduceLeDiff,Nat.reduceLT,Int.reduceToNat,Int.reduceLE,Int.reduceLT,Zc,men]
  try rfl
theorem Zdg(sig:List TControl)(s:ByteArray)(hn:sig.length<=4294967296)(hs:s.size<=2000000)(lvl:Nat)(S:Sto):Sem Proofs.Tryz.prog Y3 lvl [.tr (.sl (sig.map Zg)),iS s] S (.tu [UJ (ndV rdS sig s),iB (ndB rdS sig s)]) S:=by
 refine Ze ZaI (by simp [UJ,low,men,Zc]) ?_
 have z1:=ZhU (s:=s)
 have z2:=Qy (s:=hd0 s) (sep:=WC 64)
 have z3:=YZ (s:=s)
 have z4:=Y5 (s:=s)
 simp only[XM,List.length_map,EVA,↓reduceIte,Nat.reduceEqDiff,Nat.reduceMul,reduceCtorEq,Nat.reduceAdd,Nat.reduceSub,Nat.reduceLeDiff,Nat.reduceLT,Int.reduceToNat,Int.reduceLE,Int.reduceLT,Zc,men]
 refine Za (VU s 32 hs) ?_
 rw[XQ]
 simp only[List.length_map,List.length_cons,EVA,↓reduceIte,Nat.reduceEqDiff,Nat.reduceMul,reduceCtorEq,Nat.reduceAdd,Nat.reduceSub,Nat.reduceLeDiff,Nat.reduceLT,Int.reduceToNat,Int.reduceLE,Int.reduceLT,Zc,men]
 refine Za (Uk (hd0 s) 64 (by omega)) ?_
 simp only[List.length_map,List.length_cons,EVA,↓reduceIte,Nat.reduceEqDiff,Nat.reduceMul,reduceCtorEq,Nat.reduceAdd,Nat.reduceSub,Nat.reduceLeDiff,Nat.reduceLT,Int.reduceToNat,Int.reduceLE,Int.reduceLT,Zc,men]
 refine Za (Wh (hd0 s) (tl0 s) (fun w hw=>by have:=z3 w hw;omega) (by omega)) ?_
 simp only[List.length_map,List.length_cons,EVA,↓reduceIte,Nat.reduceEqDiff,Nat.reduceMul,reduceCtorEq,Nat.reduceAdd,Nat.reduceSub,Nat.reduceLeDiff,Nat.reduceLT,Int.reduceToNat,Int.reduceLE,Int.reduceLT,Zc,men]
 refine Za (Vc (V1 (hd0 s) (WC 64)).2 (by omega)) ?_
 simp only[List.length_map,List.length_cons,EVA,↓reduceIte,Nat.reduceEqDiff,Nat.reduceMul,reduceCtorEq,Nat.reduceAdd,Nat.reduceSub,Nat.reduceLeDiff,Nat.reduceLT,Int.reduceToNat,Int.reduceLE,Int.reduceLT,Zc,men]
 refine Za (ZeP sig (V1 (hd0 s) (WC 64)).1 hn) ?_
 unfold ndB
 cases hb1:Zau rdS (tl0 s)
 ·simp only[UJ,ndV,zfill,zobs,Zl,Zn,List.set_cons_zero,List.set_cons_succ,EVA,↓reduceIte,Nat.reduceEqDiff,Nat.reduceMul,reduceCtorEq,Nat.reduceAdd,Nat.reduceSub,Nat.reduceLeDiff,Nat.reduceLT,Int.reduceToNat,Int.reduceLE,Int.reduceLT,Zc,men]
  try rfl
 cases hb2:(rdS (V1 (hd0 s) (WC 64)).2).isSome
 ·simp only[UJ,ndV,zfill,zobs,Zl,Zn,List.set_cons_zero,List.set_cons_succ,EVA,↓reduceIte,Nat.reduceEqDiff,Nat.reduceMul,reduceCtorEq,Nat.reduceAdd,Nat.reduceSub,Nat.reduceLeDiff,Nat.reduceLT,Int.reduceToNat,Int.reduceLE,Int.reduceLT,Zc,men]
  try rfl
 by_cases hb3:0<=ZjX sig (V1 (hd0 s) (WC 64)).1
 ·have e3:=eq_true hb3
  simp only[e3,UJ,ndV,zfill,zobs,Zl,Zn,List.set_cons_zero,List.set_cons_succ,EVA,↓reduceIte,Nat.reduceEqDiff,Nat.reduceMul,reduceCtorEq,Nat.reduceAdd,Nat.reduceSub,Nat.reduceLeDiff,Nat.reduceLT,Int.reduceToNat,Int.reduceLE,Int.reduceLT,Zc,men]
  try rfl
 ·have e3:=eq_false hb3
  simp only[e3,UJ,ndV,zfill,zobs,Zl,Zn,List.set_cons_zero,List.set_cons_succ,EVA,↓reduceIte,Nat.reduceEqDiff,Nat.reduceMul,reduceCtorEq,Nat.reduceAdd,Nat.reduceSub,Nat.reduceLeDiff,Nat.reduceLT,Int.reduceToNat,Int.reduceLE,Int.reduceLT,Zc,men]
  try rfl
def wrV(rd:ByteArray->Option Int)(w:ByteArray):TWire:=⟨(V1 w (WC 61)).1,(rd (V1 w (WC 61)).2).getD 0⟩
def wrO(rd:ByteArray->Option Int)(w:ByteArray):Bool:=(rd (V1 w (WC 61)).2).isSome
def wrB(rd:ByteArray->Option Int)(ws:List ByteArray):Bool:=ws.all (wrO rd)
def wrL(rd:ByteArray->Option Int)(ws:List ByteArray):List TWire:=if wrB rd ws=true then ws.map (wrV rd) else []
theorem ZlQ{rd:ByteArray->Option Int}{ws:List ByteArray}{j:Nat}(hj:j<ws.length)(h:wrO rd ws[j]=false):wrB rd ws=false:=by
 cases e:wrB rd ws
 ·rfl
 ·unfold wrB at e
  rw[List.all_eq_true] at e
  have:=e _ (List.getElem_mem hj)
  rw[h] at this
  cases this
theorem Zj1{rd:ByteArray->Option Int}{ws:List ByteArray}(h:∀ j (hj:j<ws.length),wrO rd ws[j]=true):wrB rd ws=true:=by
 unfold wrB
 rw[List.all_eq_true]
 intro w hw
 obtain⟨j,hj,rfl⟩:=List.getElem_of_mem hw
 exact h j hj
theorem ZhV{rd:ByteArray->Option Int}{ws:List ByteArray}{j:Nat}(hj:j<ws.length):((ws.take j).map (wrV rd)).map ZK++[ZK (wrV rd ws[j])]=((ws.take (j+1)).map (wrV rd)).map ZK:=by
 rw[List.take_succ_eq_append_getElem hj,List.map_append,List.map_append];rfl
theorem ZeS(ws:List ByteArray)(hs:∀ w∈ws,w.size<=2000000)(hl:ws.length<=3000000)(lvl:Nat)(S:Sto):Sem Proofs.Tryz.prog Vt lvl [tS ws] S (.tu [.ow 2 ((wrL rdI ws).map ZK) true,iB (wrB rdI ws)]) S:=by
 refine Ze Zbm (by simp [low,men,Zc]) ?_
 simp only[Wy,List.length_map,EVA,↓reduceIte,Nat.reduceEqDiff,Nat.reduceMul,reduceCtorEq,Nat.reduceAdd,Nat.reduceSub,Nat.reduceLeDiff,Nat.reduceLT,Int.reduceToNat,Int.reduceLE,Int.reduceLT,Zc,men]
 refine ZE (α:=Unit) ws.length (fun j _=>[(4,.hd (lvl,384) [] 0 j none j),(15,iI j)]) (fun j _=>[(384,.ar 2 (((ws.take j).map (wrV rdI)).map ZK) true j 0)]) (fun j _=>∀ i (hi:i<ws.length),i<j->wrO rdI ws[i]=true) () (by simp only[EVA,↓reduceIte,Nat.reduceEqDiff,Nat.reduceMul,reduceCtorEq,Nat.reduceAdd,Nat.reduceSub,Nat.reduceLeDiff,Nat.reduceLT,Int.reduceToNat,Int.reduceLE,Int.reduceLT,Zc,men]) (by (simp only[EVA,↓reduceIte,Nat.reduceEqDiff,Nat.reduceMul,reduceCtorEq,Nat.reduceAdd,Nat.reduceSub,Nat.reduceLeDiff,Nat.reduceLT,Int.reduceToNat,Int.reduceLE,Int.reduceLT,Zc,men]) <;> rfl) (fun i _ h=>absurd h (Nat.not_lt_zero i)) ?_
 intro j _ hj hA
 simp only[List.length_map,EVA,↓reduceIte,Nat.reduceEqDiff,Nat.reduceMul,reduceCtorEq,Nat.reduceAdd,Nat.reduceSub,Nat.reduceLeDiff,Nat.reduceLT,Int.reduceToNat,Int.reduceLE,Int.reduceLT,Zc,men]
 refine Zk (fun hlt=>?_) (fun hge=>?_)
 ·have hja:j<ws.length:=by omega
  have ga:=Xo (c:=fun n:ByteArray=>[ts n]) hja
  have hmx:max j (j+1)=j+1:=by omega
  have htl:((ws.take j).map (wrV rdI)).length=j:=by rw[List.length_map,List.length_take];omega
  have st:=ZhV (rd:=rdI) hja
  have hz:=hs _ (List.getElem_mem hja)
  have z2:=Qy (s:=ws[j]) (sep:=WC 61)
  simp only[ZK,wrV] at st
  simp only[ga,List.length_map,EVA,↓reduceIte,Nat.reduceEqDiff,Nat.reduceMul,reduceCtorEq,Nat.reduceAdd,Nat.reduceSub,Nat.reduceLeDiff,Nat.reduceLT,Int.reduceToNat,Int.reduceLE,Int.reduceLT,Zc,men]
  refine Za (ZeN ws[j] (WC 61) (by omega)) ?_
  simp only[List.length_map,EVA,↓reduceIte,Nat.reduceEqDiff,Nat.reduceMul,reduceCtorEq,Nat.reduceAdd,Nat.reduceSub,Nat.reduceLeDiff,Nat.reduceLT,Int.reduceToNat,Int.reduceLE,Int.reduceLT,Zc,men]
  refine Za (Q1 (V1 ws[j] (WC 61)).2 (by omega)) ?_
  cases hb:(rdI (V1 ws[j] (WC 61)).2).isSome
  ·have hno:=ZlQ (rd:=rdI) hja hb
   rw[wrL,hno]
   simp only[EVA,↓reduceIte,Nat.reduceEqDiff,Nat.reduceMul,reduceCtorEq,Nat.reduceAdd,Nat.reduceSub,Nat.reduceLeDiff,Nat.reduceLT,Int.reduceToNat,Int.reduceLE,Int.reduceLT,Zc,men]
   try rfl
  ·simp only[htl,hmx,st,List.length_map,EVA,↓reduceIte,Nat.reduceEqDiff,Nat.reduceMul,reduceCtorEq,Nat.reduceAdd,Nat.reduceSub,Nat.reduceLeDiff,Nat.reduceLT,Int.reduceToNat,Int.reduceLE,Int.reduceLT,Zc,men]
   exact⟨by omega,by rw[Zd];omega,Zf () hja rfl fun i hi hij=>by
    by_cases e:i=j
    ·subst e;exact hb
    ·exact hA i hi (by omega)⟩
 ·have hj1:j=ws.length:=by omega
  subst hj1
  have hyes:wrB rdI ws=true:=Zj1 fun i hi=>hA i hi hi
  have ht:(ws.take ws.length).map (wrV rdI)=wrL rdI ws:=by unfold wrL;rw[if_pos hyes,List.take_length]
  have hln:(wrL rdI ws).length=ws.length:=by rw[<-ht,List.length_map,List.length_take];omega
  rw[ht,hyes]
  simp only[hln,List.take_length,List.length_map,EVA,↓reduceIte,Nat.reduceEqDiff,Nat.reduceMul,reduceCtorEq,Nat.reduceAdd,Nat.reduceSub,Nat.reduceLeDiff,Nat.reduceLT,Int.reduceToNat,Int.reduceLE,Int.reduceLT,Zc,men]
  try rfl
end Go.Fd

namespace Go.Fd
open Go.RowKit
set_option maxRecDepth 20000
theorem Zlh{R:Row}{j k:Nat}{e:List Tr}{t:Tr}(h:R[j]? = some e):Y7 R [] j k t=R.set j (e.set k t):=by
 simp only[Y7,h]
def Zbs(x:ByteArray):ByteArray:=x.extract 1 x.size
def stp(r:List ByteArray)(j:Nat):List ByteArray:=(r.take j).map Zbs++r.drop j
theorem Znq{r:List ByteArray}{j:Nat}:(stp r j).length=r.length:=by
 unfold stp;rw[List.length_append,List.length_map,List.length_take,List.length_drop];omega
theorem Zj2{r:List ByteArray}{j:Nat}(h:j<r.length):(stp r j)[j]? = some r[j]:=by
 have hl:((r.take j).map Zbs).length=j:=by rw[List.length_map,List.length_take];omega
 unfold stp
 rw[List.getElem?_append_right (by omega),hl,Nat.sub_self,List.getElem?_drop,Nat.add_zero,List.getElem?_eq_getElem h]
theorem Zj3{r:List ByteArray}{j:Nat}(h:j<r.length):(stp r j).set j (Zbs r[j])=stp r (j+1):=by
 have hl:((r.take j).map Zbs).length=j:=by rw[List.length_map,List.length_take];omega
 unfold stp
 rw[List.set_append_right _ _ (by omega),hl,Nat.sub_self,DV h,List.set_cons_zero,List.take_succ_eq_append_getElem h,List.map_append,List.append_assoc]
 rfl
theorem Znr{r:List ByteArray}:stp r r.length=r.map Zbs:=by
 unfold stp;rw[List.take_length,List.drop_length,List.append_nil]
theorem Zj4{x:ByteArray}(h:x.size=0):Zbs x=x:=Xq (by
 have e:bl x=[]:=List.eq_nil_of_length_eq_zero (by rw[ZO];exact h)
 unfold Zbs
 rw[ZgQ,e]
 simp)
def ptS(s:ByteArray):List ByteArray:=(spl s 59).headD ⟨#[]⟩::(spl s 59).tail.map Zbs
theorem Zg0(s:ByteArray)(hs:s.size<=2000000)(lvl:Nat)(S:Sto):Sem Proofs.Tryz.prog Qd lvl [iS s] S (.ow 1 (rS (ptS s)) true) S:=by
 refine Ze Zc1 trivial ?_
 obtain⟨p0,r,hsp⟩:∃ p0 r,spl s 59=p0::r:=by
  cases h:spl s 59 with
  | nil=>exact absurd h ZhP
  | cons x r=>exact⟨x,r,rfl⟩
 have hP:ptS s=p0::r.map Zbs:=by unfold ptS;rw[hsp];rfl
 have hln:=ZgR (s:=s) (b:=59)
 rw[hsp,List.length_cons] at hln
 rw[hP]
 simp only[UU,EVA,↓reduceIte,Nat.reduceEqDiff,Nat.reduceMul,reduceCtorEq,Nat.reduceAdd,Nat.reduceSub,Nat.reduceLeDiff,Nat.reduceLT,Int.reduceToNat,Int.reduceLE,Int.reduceLT,Zc,men]
 refine Za (VU s 59 hs) ?_
 rw[hsp]
 simp only[List.length_map,List.length_cons,EVA,↓reduceIte,Nat.reduceEqDiff,Nat.reduceMul,reduceCtorEq,Nat.reduceAdd,Nat.reduceSub,Nat.reduceLeDiff,Nat.reduceLT,Int.reduceToNat,Int.reduceLE,Int.reduceLT,Zc,men]
 refine ZE (α:=Unit) r.length (fun j _=>[(4,iI ((j:Int)+1))]) (fun j _=>[(192,.ar 1 (rS (p0::stp r j)) true (r.length+1) 0)]) (fun _ _=>True) () (by simp only[EVA,↓reduceIte,Nat.reduceEqDiff,Nat.reduceMul,reduceCtorEq,Nat.reduceAdd,Nat.reduceSub,Nat.reduceLeDiff,Nat.reduceLT,Int.reduceToNat,Int.reduceLE,Int.reduceLT,Zc,men]) (by (simp only[EVA,↓reduceIte,Nat.reduceEqDiff,Nat.reduceMul,reduceCtorEq,Nat.reduceAdd,Nat.reduceSub,Nat.reduceLeDiff,Nat.reduceLT,Int.reduceToNat,Int.reduceLE,Int.reduceLT,Zc,men]) <;> rfl) trivial ?_
 intro j _ hj _
 simp only[List.length_map,List.length_cons,EVA,↓reduceIte,Nat.reduceEqDiff,Nat.reduceMul,reduceCtorEq,Nat.reduceAdd,Nat.reduceSub,Nat.reduceLeDiff,Nat.reduceLT,Int.reduceToNat,Int.reduceLE,Int.reduceLT,Zc,men]
 have en:((r.length+1:Nat):Int)=(r.length:Int)+1:=by omega
 refine Zk (fun hlt=>?_) (fun hge=>?_)
 ·have hja:j<r.length:=by omega
  have e1:((j:Int)+1).toNat=j+1:=by omega
  have p1:(0:Int)<=(j:Int)+1:=by omega
  have gs:(List.map (fun n:ByteArray=>[ts n]) (stp r j))[j]? = some [ts r[j]]:=by rw[List.getElem?_map,Zj2 hja];rfl
  have hl:=Znq (r:=r) (j:=j)
  by_cases hz:0<r[j].size
  ·have f1:=eq_true (show (0:Int)<(r[j].size:Int) by omega)
   have hst:Y7 ([Tr.v (Value.string p0)]::List.map (fun n=>[ts n]) (stp r j)) [] (j+1) 0 (Tr.v (Value.string (r[j].extract 1 r[j].size)))=[Tr.v (Value.string p0)]::List.map (fun n=>[ts n]) (stp r (j+1)):=by
    rw[Zlh (e:=[ts r[j]]) (by rw[List.getElem?_cons_succ];exact gs),List.set_cons_succ,<-Zj3 hja,List.map_set]
    rfl
   simp only[e1,p1,gs,f1,hja,hl,hst,List.length_map,List.length_cons,EVA,↓reduceIte,Nat.reduceEqDiff,Nat.reduceMul,reduceCtorEq,Nat.reduceAdd,Nat.reduceSub,Nat.reduceLeDiff,Nat.reduceLT,Int.reduceToNat,Int.reduceLE,Int.reduceLT,Zc,men]
   exact⟨by omega,by omega,by omega,by omega,by rw[Zd];omega,Zf () hja rfl trivial⟩
  ·have f1:=eq_false (show ¬ (0:Int)<(r[j].size:Int) by omega)
   have hst:stp r (j+1)=stp r j:=by
    rw[<-Zj3 hja,Zj4 (by omega)]
    refine List.ext_getElem? fun i=>?_
    rw[List.getElem?_set]
    split
    ·rename_i e
     subst e
     rw[Zj2 hja,if_pos (by omega)]
    ·rfl
   simp only[e1,p1,gs,f1,hja,hl,List.length_map,List.length_cons,EVA,↓reduceIte,Nat.reduceEqDiff,Nat.reduceMul,reduceCtorEq,Nat.reduceAdd,Nat.reduceSub,Nat.reduceLeDiff,Nat.reduceLT,Int.reduceToNat,Int.reduceLE,Int.reduceLT,Zc,men]
   exact⟨by omega,by rw[Zd];omega,Zf () hja (by rw[hst];rfl) trivial⟩
 ·have hj1:j=r.length:=by omega
  subst hj1
  rw[Znr]
  simp only[List.length_map,List.length_cons,EVA,↓reduceIte,Nat.reduceEqDiff,Nat.reduceMul,reduceCtorEq,Nat.reduceAdd,Nat.reduceSub,Nat.reduceLeDiff,Nat.reduceLT,Int.reduceToNat,Int.reduceLE,Int.reduceLT,Zc,men]
  try rfl
theorem Zli{f:ByteArray->Bool}:∀{ws:List ByteArray} {j:Nat},j<=ws.length->(∀ i (hi:i<ws.length),i<j->f ws[i]=true)->(∀ h:j<ws.length,f ws[j]=false)->ws.takeWhile f=ws.take j
 | [],j,_,_,_=>by simp
 | w::ws,0,_,_,h2=>by
  have:=h2 (by simp)
  rw[List.getElem_cons_zero] at this
  rw[List.takeWhile_cons,this]
  rfl
 | w::ws,j+1,hj,h1,h2=>by
  have e:=h1 0 (by simp) (by omega)
  rw[List.getElem_cons_zero] at e
  rw[List.takeWhile_cons,e,List.take_succ_cons,Zli (j:=j) (by simp at hj;omega) (fun i hi hij=>by
   have:=h1 (i+1) (by simp;omega) (by omega)
   rw[List.getElem_cons_succ] at this
   exact this) (fun h=>by
   have:=h2 (by simp;omega)
   rw[List.getElem_cons_succ] at this
   exact this)]
  rfl
def wrT(rd:ByteArray->Option Int)(ws:List ByteArray):List TWire:=(ws.takeWhile (wrO rd)).map (wrV rd)
def reB(p0 p1 p3:ByteArray)(rd:ByteArray->Option Int):Bool:=(Zau rd (tl0 p0)&&(rd p1).isSome)&&wrB rd (tl0 p3)
def Zns(lvl j:Nat):IV:=if j=0 then .cs [] else .hd (lvl,2368) [] 0 j none j
def ZuK(j:Nat)(R:Row):List (Nat×Ob):=if j=0 then [] else [(2368,.ar 2 R true j 0)]
set_option maxHeartbeats 2000000 in
theorem ZeT(roots:Int)(p0 p1 p2 p3:ByteArray)(h0:p0.size<=2000000)(h1:p1.size<=2000000)(h2:p2.size<=2000000)(h3:p3.size<=2000000)(lvl:Nat)(S:Sto):Sem Proofs.Tryz.prog Vs lvl [.ag [iI roots,.cs [],.cs [],iI 0,.cs [],.cs []],tS [p0,p1,p2,p3]] S
  (.tu [.ag [iI roots,.ow 3 [] true,.tr (.sl (rI (Zac rdS (tl0 p0)))),iI ((rdS p1).getD 0),.tr (.sl (rS (tl0 p2))),.tr (.sl ((wrT rdS (tl0 p3)).map ZK))],iB (reB p0 p1 p3 rdS)]) S:=by
 refine Ze Zbl (by simp [low,men,Zc]) ?_
 have a0:=YZ (s:=p0);have a1:=Y5 (s:=p0)
 have b0:=YZ (s:=p2);have b1:=Y5 (s:=p2)
 have c0:=YZ (s:=p3);have c1:=Y5 (s:=p3)
 have hun:UnR 1 ([ts (hd0 p3)]::List.map (fun n=>[ts n]) (tl0 p3)):=QK (fun n:ByteArray=>[ts n]) (fun _=>rfl) (hd0 p3::tl0 p3)
 have hct:cut ([ts (hd0 p3)]::List.map (fun n=>[ts n]) (tl0 p3)) 1 ((tl0 p3).length+1-1)=rS (tl0 p3):=Zf3 (by omega)
 simp only[Wx,List.length_map,EVA,↓reduceIte,Nat.reduceEqDiff,Nat.reduceMul,reduceCtorEq,Nat.reduceAdd,Nat.reduceSub,Nat.reduceLeDiff,Nat.reduceLT,Int.reduceToNat,Int.reduceLE,Int.reduceLT,Zc,men]
 refine Za (VU p0 32 h0) ?_
 rw[XQ]
 simp only[List.length_map,List.length_cons,EVA,↓reduceIte,Nat.reduceEqDiff,Nat.reduceMul,reduceCtorEq,Nat.reduceAdd,Nat.reduceSub,Nat.reduceLeDiff,Nat.reduceLT,Int.reduceToNat,Int.reduceLE,Int.reduceLT,Zc,men]
 refine Za (Wh (hd0 p0) (tl0 p0) (fun w hw=>by have:=a0 w hw;omega) (by omega)) ?_
 simp only[List.length_map,List.length_cons,EVA,↓reduceIte,Nat.reduceEqDiff,Nat.reduceMul,reduceCtorEq,Nat.reduceAdd,Nat.reduceSub,Nat.reduceLeDiff,Nat.reduceLT,Int.reduceToNat,Int.reduceLE,Int.reduceLT,Zc,men]
 refine Za (Vc p1 h1) ?_
 simp only[List.set_cons_zero,List.set_cons_succ,List.length_map,List.length_cons,EVA,↓reduceIte,Nat.reduceEqDiff,Nat.reduceMul,reduceCtorEq,Nat.reduceAdd,Nat.reduceSub,Nat.reduceLeDiff,Nat.reduceLT,Int.reduceToNat,Int.reduceLE,Int.reduceLT,Zc,men]
 refine Za (VU p2 32 h2) ?_
 rw[XQ]
 simp only[List.set_cons_zero,List.set_cons_succ,List.length_map,List.length_cons,EVA,↓reduceIte,Nat.reduceEqDiff,Nat.reduceMul,reduceCtorEq,Nat.reduceAdd,Nat.reduceSub,Nat.reduceLeDiff,Nat.reduceLT,Int.reduceToNat,Int.reduceLE,Int.reduceLT,Zc,men]
 refine Za (VU p3 32 h3) ?_
 rw[XQ]
 simp only[List.set_cons_zero,List.set_cons_succ,List.length_map,List.length_cons,EVA,↓reduceIte,Nat.reduceEqDiff,Nat.reduceMul,reduceCtorEq,Nat.reduceAdd,Nat.reduceSub,Nat.reduceLeDiff,Nat.reduceLT,Int.reduceToNat,Int.reduceLE,Int.reduceLT,Zc,men]
 rw[hct]
 refine⟨fun _=>hun,?_⟩
 obtain⟨ws,hws⟩:∃ ws,ws=tl0 p3:=⟨_,rfl⟩
 rw[<-hws] at c0 c1 ⊢
 have hct2:cut ([ts (hd0 p2)]::List.map (fun n=>[ts n]) (tl0 p2)) 1 ((tl0 p2).length+1-1)=rS (tl0 p2):=Zf3 (by omega)
 have hz0:Zns lvl 0 = .cs []:=rfl
 have hzs:∀ k,Zns lvl (k+1) = .hd (lvl,2368) [] 0 (k+1) none (k+1):=fun k=>if_neg (by omega)
 have ho0:∀ R,ZuK 0 R=[]:=fun _=>rfl
 have hos:∀ k R,ZuK (k+1) R=[(2368,.ar 2 R true (k+1) 0)]:=fun k _=>if_neg (by omega)
 have hcs:cut (rI (Zac rdS (tl0 p0))) 0 (Zac rdS (tl0 p0)).length=rI (Zac rdS (tl0 p0)):=Yn (by rw[List.length_map])
 refine ZE (α:=Unit) ws.length (fun j _=>[(11,iI j)]) (fun j _=>(64,.bx [iI roots,.cs [],.hd (lvl,672) [] 0 (Zac rdS (tl0 p0)).length none (Zac rdS (tl0 p0)).length,iI ((rdS p1).getD 0),.hd (lvl,1216) [] 1 ((tl0 p2).length+1-1) none ((tl0 p2).length+1),Zns lvl j])::ZuK j (((ws.take j).map (wrV rdS)).map ZK)) (fun j _=>∀ i (hi:i<ws.length),i<j->wrO rdS ws[i]=true) () (by simp only[EVA,↓reduceIte,Nat.reduceEqDiff,Nat.reduceMul,reduceCtorEq,Nat.reduceAdd,Nat.reduceSub,Nat.reduceLeDiff,Nat.reduceLT,Int.reduceToNat,Int.reduceLE,Int.reduceLT,Zc,men]) (by (simp only[hz0,ho0,EVA,↓reduceIte,Nat.reduceEqDiff,Nat.reduceMul,reduceCtorEq,Nat.reduceAdd,Nat.reduceSub,Nat.reduceLeDiff,Nat.reduceLT,Int.reduceToNat,Int.reduceLE,Int.reduceLT,Zc,men]) <;> rfl) (fun i _ h=>absurd h (Nat.not_lt_zero i)) ?_
 intro j _ hj hA
 have main:j<ws.length\/j=ws.length:=by omega
 rcases main with hja | hj1
 ·have ga:=Xo (c:=fun n:ByteArray=>[ts n]) hja
  have hz:=c0 _ (List.getElem_mem hja)
  have z2:=Qy (s:=ws[j]) (sep:=WC 61)
  have htl:((ws.take j).map (wrV rdS)).length=j:=by rw[List.length_map,List.length_take];omega
  have st:=ZhV (rd:=rdS) hja
  simp only[ZK,wrV] at st
  cases hb:(rdS (V1 ws[j] (WC 61)).2).isSome
  ·have hno:=ZlQ (rd:=rdS) hja hb
   have htw:wrT rdS ws=(ws.take j).map (wrV rdS):=by unfold wrT;rw[Zli hj hA fun _=>hb]
   have hre:reB p0 p1 p3 rdS=false:=by unfold reB;rw[<-hws,hno,Bool.and_false]
   have hcw:cut (((ws.take j).map (wrV rdS)).map ZK) 0 j=((ws.take j).map (wrV rdS)).map ZK:=Yn (by rw[List.length_map,htl])
   rw[htw,hre]
   cases j with
   | zero =>
    have hlt:=eq_true (show (0:Int)<(ws.length:Int) by omega)
    simp only[hz0,ho0,hlt,ga,List.length_map,EVA,↓reduceIte,Nat.reduceEqDiff,Nat.reduceMul,reduceCtorEq,Nat.reduceAdd,Nat.reduceSub,Nat.reduceLeDiff,Nat.reduceLT,Int.reduceToNat,Int.reduceLE,Int.reduceLT,Zc,men]
    refine Za (Uk ws[0] 61 (by omega)) ?_
    simp only[List.length_map,EVA,↓reduceIte,Nat.reduceEqDiff,Nat.reduceMul,reduceCtorEq,Nat.reduceAdd,Nat.reduceSub,Nat.reduceLeDiff,Nat.reduceLT,Int.reduceToNat,Int.reduceLE,Int.reduceLT,Zc,men]
    refine Za (Vc (V1 ws[0] (WC 61)).2 (by omega)) ?_
    rw[hb]
    simp only[hct2,hcs,htl,List.set_cons_zero,List.set_cons_succ,List.length_map,List.length_cons,EVA,↓reduceIte,Nat.reduceEqDiff,Nat.reduceMul,reduceCtorEq,Nat.reduceAdd,Nat.reduceSub,Nat.reduceLeDiff,Nat.reduceLT,Int.reduceToNat,Int.reduceLE,Int.reduceLT,Zc,men]
    repeat' first | omega | rfl | refine And.intro ?_ ?_
   | succ k =>
    have hlt:=eq_true (show ((k+1:Nat):Int)<(ws.length:Int) by omega)
    simp only[hzs,hos,hlt,ga,List.length_map,EVA,↓reduceIte,Nat.reduceEqDiff,Nat.reduceMul,reduceCtorEq,Nat.reduceAdd,Nat.reduceSub,Nat.reduceLeDiff,Nat.reduceLT,Int.reduceToNat,Int.reduceLE,Int.reduceLT,Zc,men]
    refine Za (Uk ws[k+1] 61 (by omega)) ?_
    simp only[List.length_map,EVA,↓reduceIte,Nat.reduceEqDiff,Nat.reduceMul,reduceCtorEq,Nat.reduceAdd,Nat.reduceSub,Nat.reduceLeDiff,Nat.reduceLT,Int.reduceToNat,Int.reduceLE,Int.reduceLT,Zc,men]
    refine Za (Vc (V1 ws[k+1] (WC 61)).2 (by omega)) ?_
    rw[hb]
    simp only[hct2,hcs,hcw,htl,List.set_cons_zero,List.set_cons_succ,List.length_map,List.length_cons,EVA,↓reduceIte,Nat.reduceEqDiff,Nat.reduceMul,reduceCtorEq,Nat.reduceAdd,Nat.reduceSub,Nat.reduceLeDiff,Nat.reduceLT,Int.reduceToNat,Int.reduceLE,Int.reduceLT,Zc,men]
    repeat' first | omega | rfl | refine And.intro ?_ ?_
  ·have hmx:max j (j+1)=j+1:=by omega
   have hin:∀ i (hi:i<ws.length),i<j+1->wrO rdS ws[i]=true:=fun i hi hij=>by
    by_cases e:i=j
    ·subst e;exact hb
    ·exact hA i hi (by omega)
   cases j with
   | zero =>
    have hlt:=eq_true (show (0:Int)<(ws.length:Int) by omega)
    simp only[hz0,ho0,hlt,ga,List.length_map,EVA,↓reduceIte,Nat.reduceEqDiff,Nat.reduceMul,reduceCtorEq,Nat.reduceAdd,Nat.reduceSub,Nat.reduceLeDiff,Nat.reduceLT,Int.reduceToNat,Int.reduceLE,Int.reduceLT,Zc,men]
    refine Za (Uk ws[0] 61 (by omega)) ?_
    simp only[List.length_map,EVA,↓reduceIte,Nat.reduceEqDiff,Nat.reduceMul,reduceCtorEq,Nat.reduceAdd,Nat.reduceSub,Nat.reduceLeDiff,Nat.reduceLT,Int.reduceToNat,Int.reduceLE,Int.reduceLT,Zc,men]
    refine Za (Vc (V1 ws[0] (WC 61)).2 (by omega)) ?_
    rw[hb]
    simp only[List.set_cons_zero,List.set_cons_succ,List.length_map,List.length_cons,EVA,↓reduceIte,Nat.reduceEqDiff,Nat.reduceMul,reduceCtorEq,Nat.reduceAdd,Nat.reduceSub,Nat.reduceLeDiff,Nat.reduceLT,Int.reduceToNat,Int.reduceLE,Int.reduceLT,Zc,men]
    exact⟨fun _ h=>by (cases h),by rw[Zd];omega,Zf () hja (by simp only[hzs,hos,<-st];rfl) hin⟩
   | succ k =>
    have hlt:=eq_true (show ((k+1:Nat):Int)<(ws.length:Int) by omega)
    simp only[hzs,hos,hlt,ga,List.length_map,EVA,↓reduceIte,Nat.reduceEqDiff,Nat.reduceMul,reduceCtorEq,Nat.reduceAdd,Nat.reduceSub,Nat.reduceLeDiff,Nat.reduceLT,Int.reduceToNat,Int.reduceLE,Int.reduceLT,Zc,men]
    refine Za (Uk ws[k+1] 61 (by omega)) ?_
    simp only[List.length_map,EVA,↓reduceIte,Nat.reduceEqDiff,Nat.reduceMul,reduceCtorEq,Nat.reduceAdd,Nat.reduceSub,Nat.reduceLeDiff,Nat.reduceLT,Int.reduceToNat,Int.reduceLE,Int.reduceLT,Zc,men]
    refine Za (Vc (V1 ws[k+1] (WC 61)).2 (by omega)) ?_
    rw[hb]
    simp only[st,hmx,htl,List.set_cons_zero,List.set_cons_succ,List.length_map,List.length_cons,EVA,↓reduceIte,Nat.reduceEqDiff,Nat.reduceMul,reduceCtorEq,Nat.reduceAdd,Nat.reduceSub,Nat.reduceLeDiff,Nat.reduceLT,Int.reduceToNat,Int.reduceLE,Int.reduceLT,Zc,men]
    exact⟨by omega,by rw[Zd];omega,Zf () hja (by simp only[hzs,hos];rfl) hin⟩
 ·have hyes:wrB rdS ws=true:=Zj1 fun i hi=>hA i hi (by omega)
  have htw:wrT rdS ws=(ws.take j).map (wrV rdS):=by unfold wrT;rw[Zli hj hA fun h=>absurd h (by omega)]
  have hre:reB p0 p1 p3 rdS=(Zau rdS (tl0 p0)&&(rdS p1).isSome):=by unfold reB;rw[<-hws,hyes,Bool.and_true]
  have htl:((ws.take j).map (wrV rdS)).length=j:=by rw[List.length_map,List.length_take];omega
  have hcw:cut (((ws.take j).map (wrV rdS)).map ZK) 0 j=((ws.take j).map (wrV rdS)).map ZK:=Yn (by rw[List.length_map,htl])
  rw[htw,hre]
  cases j with
  | zero =>
   have hlt:=eq_false (show ¬ (0:Int)<(ws.length:Int) by omega)
   cases hb:Zau rdS (tl0 p0)
   ·simp only[hz0,ho0,hlt,hct2,hcs,htl,List.set_cons_zero,List.set_cons_succ,List.length_map,List.length_cons,EVA,↓reduceIte,Nat.reduceEqDiff,Nat.reduceMul,reduceCtorEq,Nat.reduceAdd,Nat.reduceSub,Nat.reduceLeDiff,Nat.reduceLT,Int.reduceToNat,Int.reduceLE,Int.reduceLT,Zc,men]
    repeat' first | omega | rfl | refine And.intro ?_ ?_
   ·simp only[hz0,ho0,hlt,hct2,hcs,htl,List.set_cons_zero,List.set_cons_succ,List.length_map,List.length_cons,EVA,↓reduceIte,Nat.reduceEqDiff,Nat.reduceMul,reduceCtorEq,Nat.reduceAdd,Nat.reduceSub,Nat.reduceLeDiff,Nat.reduceLT,Int.reduceToNat,Int.reduceLE,Int.reduceLT,Zc,men]
    repeat' first | omega | rfl | refine And.intro ?_ ?_
  | succ k =>
   have hlt:=eq_false (show ¬ ((k+1:Nat):Int)<(ws.length:Int) by omega)
   cases hb:Zau rdS (tl0 p0)
   ·simp only[hzs,hos,hlt,hct2,hcs,hcw,htl,List.set_cons_zero,List.set_cons_succ,List.length_map,List.length_cons,EVA,↓reduceIte,Nat.reduceEqDiff,Nat.reduceMul,reduceCtorEq,Nat.reduceAdd,Nat.reduceSub,Nat.reduceLeDiff,Nat.reduceLT,Int.reduceToNat,Int.reduceLE,Int.reduceLT,Zc,men]
    repeat' first | omega | rfl | refine And.intro ?_ ?_
   ·simp only[hzs,hos,hlt,hct2,hcs,hcw,htl,List.set_cons_zero,List.set_cons_succ,List.length_map,List.length_cons,EVA,↓reduceIte,Nat.reduceEqDiff,Nat.reduceMul,reduceCtorEq,Nat.reduceAdd,Nat.reduceSub,Nat.reduceLeDiff,Nat.reduceLT,Int.reduceToNat,Int.reduceLE,Int.reduceLT,Zc,men]
    repeat' first | omega | rfl | refine And.intro ?_ ?_
end Go.Fd

namespace Go.Fd
set_option maxRecDepth 20000
def sfc(c:UInt8):Prop:=c.toNat=45\/(48<=c.toNat/\c.toNat<=57)\/(97<=c.toNat/\c.toNat<=122)
def sf(x:ByteArray):Prop:=∀ c∈bl x,sfc c
theorem Y6{x:ByteArray}{b:UInt8}(h:sf x)(hb:¬ sfc b):b ∉ bl x:=fun hm=>hb (h b hm)
theorem ZaU{x:ByteArray}(h:Zdv x):sf x:=fun c hc=>.inr (.inr (h.1 c hc))
theorem Zae{u:Nat}(h:u<100):(∃ a:Fin 10,u=a.val/\Lib.decDigits u=[UInt8.ofNat (48+a.val)])\/∃ a b:Fin 10,u=10*a.val+b.val/\Lib.decDigits u=[UInt8.ofNat (48+a.val),UInt8.ofNat (48+b.val)]:=by
 by_cases h1:u<10
 ·exact .inl ⟨⟨u,h1⟩,rfl,dd1 h1⟩
 ·exact .inr ⟨⟨u / 10,by omega⟩,⟨u % 10,by omega⟩,by simp only;omega,dd2 (by omega) h⟩
theorem Zg1{n:Int}(h:smN n):(∃ u:Nat,u<100/\n=u/\bl (ZH n)=Lib.decDigits u)\/∃ u:Nat,0<u/\u<100/\n = -(u:Int)/\bl (ZH n)=45::Lib.decDigits u:=by
 obtain⟨h1,h2⟩:=h
 by_cases h0:0<=n
 ·obtain⟨u,rfl⟩:=Int.eq_ofNat_of_zero_le h0
  refine .inl ⟨u,by omega,rfl,?_⟩
  rw[ZbN h0,Zbb,Db,Int.toNat_natCast]
 ·obtain⟨u,hu⟩:=Int.eq_ofNat_of_zero_le (show 0 <= -n by omega)
  refine .inr ⟨u,by omega,by omega,by omega,?_⟩
  rw[D0 (by omega),JO,hu,Zbb,Db,Int.toNat_natCast]
  rfl
theorem Zj5:∀ a:Fin 10,48<=(UInt8.ofNat (48+a.val)).toNat/\(UInt8.ofNat (48+a.val)).toNat<=57:=by decide
theorem ZeU{u:Nat}(h:u<100):∀ c∈Lib.decDigits u,48<=c.toNat/\c.toNat<=57:=by
 intro c hc
 rcases Zae h with ⟨a,_,e⟩ | ⟨a,b,_,e⟩
 ·rw[e,List.mem_singleton] at hc
  subst hc
  exact Zj5 a
 ·rw[e] at hc
  simp only[List.mem_cons,List.not_mem_nil,or_false] at hc
  rcases hc with rfl | rfl
  ·exact Zj5 a
  ·exact Zj5 b
theorem Wi{n:Int}(h:smN n):sf (ZH n):=by
 rcases Zg1 h with ⟨u,hu,_,e⟩ | ⟨u,_,hu,_,e⟩
 ·intro c hc
  rw[e] at hc
  exact .inr (.inl (ZeU hu c hc))
 ·intro c hc
  rw[e] at hc
  rcases List.mem_cons.1 hc with rfl | hc
  ·exact .inl rfl
  ·exact .inr (.inl (ZeU hu c hc))
def RD(rd:ByteArray->Option Int):Prop:=∀ n,smN n->rd (ZH n)=some n
theorem at1:∀ a:Fin 10,Lib.atoiAll [UInt8.ofNat (48+a.val)] = .ok (a.val:Int):=by decide +kernel
theorem at2:∀ a b:Fin 10,Lib.atoiAll [UInt8.ofNat (48+a.val),UInt8.ofNat (48+b.val)] = .ok ((10*a.val+b.val:Nat):Int):=by decide +kernel
theorem at3:∀ a:Fin 10,Lib.atoiAll [45,UInt8.ofNat (48+a.val)] = .ok (-(a.val:Int)):=by decide +kernel
theorem at4:∀ a b:Fin 10,Lib.atoiAll [45,UInt8.ofNat (48+a.val),UInt8.ofNat (48+b.val)] = .ok (-((10*a.val+b.val:Nat):Int)):=by decide +kernel
theorem ZqS:RD rdI:=fun n h=>by
 have key:Lib.atoiAll (bl (ZH n)) = .ok n:=by
  rcases Zg1 h with ⟨u,hu,hn,e⟩ | ⟨u,_,hu,hn,e⟩
  ·rw[e,hn]
   rcases Zae hu with ⟨a,ha,e2⟩ | ⟨a,b,hab,e2⟩
   ·rw[e2,ha];exact at1 a
   ·rw[e2,hab];exact at2 a b
  ·rw[e,hn]
   rcases Zae hu with ⟨a,ha,e2⟩ | ⟨a,b,hab,e2⟩
   ·rw[e2,ha];exact at3 a
   ·rw[e2,hab];exact at4 a b
 unfold rdI
 rw[key]
 exact if_pos rfl
theorem vd1:∀ a:Fin 10,Zbr [UInt8.ofNat (48+a.val)]=a.val:=by decide +kernel
theorem vd2:∀ a b:Fin 10,Zbr [UInt8.ofNat (48+a.val),UInt8.ofNat (48+b.val)]=10*a.val+b.val:=by decide +kernel
theorem Zj6{u:Nat}(h:u<100):1<=(Lib.decDigits u).length/\(Lib.decDigits u).length<=2/\Zbr (Lib.decDigits u)=u:=by
 rcases Zae h with ⟨a,ha,e2⟩ | ⟨a,b,hab,e2⟩
 ·rw[e2,vd1,ha];simp
 ·rw[e2,vd2,hab];simp
theorem Zvl:RD rdS:=fun n h=>by
 have hz:=ZO (ZH n)
 rcases Zg1 h with ⟨u,hu,hn,e⟩ | ⟨u,_,hu,hn,e⟩
 ·obtain⟨d1,d2,d3⟩:=Zj6 hu
  have hdd:=ZeU hu
  rw[e] at hz
  have h0:(bl (ZH n))[0]? ≠ some 45:=fun q=>by
   rw[e] at q
   have:=hdd _ (List.mem_of_getElem? q)
   revert this
   decide
  have ht:tR (ZH n)=ZH n:=if_neg fun g=>h0 g.2
  have hnum:ZeR (ZH n)=n:=by
   unfold ZeR
   rw[ht,if_neg (Nat.lt_irrefl _),e,d3,hn]
  unfold rdS
  rw[hnum,ht]
  exact if_pos ⟨⟨by omega,by omega⟩,fun c hc=>by rw[e] at hc;exact hdd c hc,rfl⟩
 ·obtain⟨d1,d2,d3⟩:=Zj6 hu
  have hdd:=ZeU hu
  rw[e,List.length_cons] at hz
  have ht:tR (ZH n)=(ZH n).extract 1 (ZH n).size:=if_pos ⟨by omega,by rw[e];rfl⟩
  have hsz:=Zf2 (s:=ZH n) (by omega)
  have hb:bl ((ZH n).extract 1 (ZH n).size)=Lib.decDigits u:=by
   rw[ZgQ,List.take_of_length_le (by rw[ZO];exact Nat.le_refl _),e]
   rfl
  have hnum:ZeR (ZH n)=n:=by
   unfold ZeR
   rw[ht,if_pos (by omega),hb,d3,hn]
  unfold rdS
  rw[hnum,ht]
  exact if_pos ⟨⟨by omega,by omega⟩,fun c hc=>by rw[hb] at hc;exact hdd c hc,rfl⟩
theorem ZlR{α:Type}{f:α->Bool}:∀{l:List α} {i:Nat} {j:Int} (hi:i<l.length),f l[i]=true->(∀ k (hk:k<i),f (l[k]'(by omega))=false)->ixF f l j=j+i
 | x::r,0,j,hi,h,_=>by
  rw[List.getElem_cons_zero] at h
  rw[Wb,if_pos h]
  omega
 | x::r,i+1,j,hi,h,hn=>by
  have e:=hn 0 (by omega)
  rw[List.getElem_cons_zero] at e
  rw[Wb,if_neg (by rw[e];exact Bool.false_ne_true),ZlR (i:=i) (by simp at hi;omega) (by rw[List.getElem_cons_succ] at h;exact h) fun k hk=>by
   have:=hn (k+1) (by omega)
   rw[List.getElem_cons_succ] at this
   exact this]
  omega
theorem Zlj{sig:List TControl}(hs:XC sig){k:Int}(h0:0<=k)(h1:k<sig.length):ZjX sig (Xr sig k)=k:=by
 obtain⟨m,rfl⟩:=Int.eq_ofNat_of_zero_le h0
 have hm:m<sig.length:=by omega
 rw[DY hm]
 unfold ZjX
 rw[ZlR hm (by simp) fun q hq=>by
  have:=(hs.1 m hm).2 q hq
  simp [this]]
 omega
theorem Zqt{sig:List TControl}(hs:XC sig){k:Int}(h0:0<=k)(h1:k<sig.length):Zdv (Xr sig k):=by
 obtain⟨m,rfl⟩:=Int.eq_ofNat_of_zero_le h0
 have hm:m<sig.length:=by omega
 rw[DY hm]
 exact(hs.1 m hm).1.1
theorem ZeV{rd:ByteArray->Option Int}(hr:RD rd){l:List Int}(h:smL l):Zau rd (l.map ZH)=true:=by
 unfold Zau
 rw[List.all_eq_true]
 intro w hw
 obtain⟨n,hn,rfl⟩:=List.mem_map.1 hw
 rw[hr n (h n hn)]
 rfl
theorem Zg2{rd:ByteArray->Option Int}(hr:RD rd){l:List Int}(h:smL l):Zac rd (l.map ZH)=l:=by
 unfold Zac
 rw[if_pos (ZeV hr h),List.map_map]
 conv=>rhs;rw[<-List.map_id l]
 refine List.map_congr_left fun n hn=>?_
 simp only[Function.comp,hr n (h n hn),Option.getD_some,id]
theorem ZaV{l:List Int}{w:ByteArray}:bl (YJ spI w l)=bl w++(l.map ZH).flatMap fun p=>32::bl p:=by
 rw[Wd,List.flatMap_map]
 rfl
theorem ZeW{l:List Int}{w:ByteArray}(hw:(32:UInt8) ∉ bl w)(h:smL l):hd0 (YJ spI w l)=w/\tl0 (YJ spI w l)=l.map ZH:=by
 have e:spl (YJ spI w l) 32=w::l.map ZH:=ZhO ZaV hw fun p hp=>by
  obtain⟨n,hn,rfl⟩:=List.mem_map.1 hp
  exact Y6 (Wi (h n hn)) (by unfold sfc;decide)
 unfold hd0 tl0
 rw[e]
 exact⟨rfl,rfl⟩
theorem Zlk{sig:List TControl}{x:TNode}(hn:Zdv (Xr sig x.control)):V1 (ZaQ sig x) (WC 64)=(Xr sig x.control,ZH x.parent) :=
 ZhR (p:=[]) (q:=[]) (c:=64) (by unfold ZaQ;rw[JO,JO,List.append_assoc]) rfl (Y6 (ZaU hn) (by unfold sfc;decide)) (by simp)
theorem Zf5{sig:List TControl}{x:TNode}(hn:Zdv (Xr sig x.control))(hp:smN x.parent){b:UInt8}(hb:¬ sfc b)(h64:b≠64):b ∉ bl (ZaQ sig x):=by
 unfold ZaQ
 rw[JO,JO]
 intro h
 rcases List.mem_append.1 h with h | h
 ·rcases List.mem_append.1 h with h | h
  ·exact Y6 (ZaU hn) hb h
  ·rw[show bl yAT=[64] from rfl,List.mem_singleton] at h
   exact h64 h
 ·exact Y6 (Wi hp) hb h
theorem Znt{rd:ByteArray->Option Int}(hr:RD rd){sig:List TControl}(hs:XC sig){x:TNode}(hc:0<=x.control/\x.control<sig.length)(hp:smN x.parent)(hl:smL x.links):ndV rd sig (Zaa sig x)=x/\ndB rd sig (Zaa sig x)=true:=by
 have hn:=Zqt hs hc.1 hc.2
 obtain⟨e1,e2⟩:=ZeW (w:=ZaQ sig x) (l:=x.links) (Zf5 hn hp (by unfold sfc;decide) (by decide)) hl
 have e3:=Zlk (x:=x) hn
 have e4:=Zlj hs hc.1 hc.2
 have e5:=hr _ hp
 have e6:=ZeV hr hl
 have e7:=Zg2 hr hl
 unfold ndV ndB Zaa
 rw[e1,e2,e3,e4,e5,e6,e7]
 refine⟨rfl,?_⟩
 simp [hc.1]
def Zbt(w:TWire):ByteArray:=(w.name++yEQ)++ZH w.link
theorem Zj7{rd:ByteArray->Option Int}(hr:RD rd){w:TWire}(hn:Zdv w.name)(hl:smN w.link):wrV rd (Zbt w)=w/\wrO rd (Zbt w)=true:=by
 have e:V1 (Zbt w) (WC 61)=(w.name,ZH w.link) :=
  ZhR (p:=[]) (q:=[]) (c:=61) (by unfold Zbt;rw[JO,JO,List.append_assoc]) rfl (Y6 (ZaU hn) (by unfold sfc;decide)) (by simp)
 unfold wrV wrO
 rw[e,hr _ hl]
 exact⟨rfl,rfl⟩
theorem Zf6{w:TWire}(hn:Zdv w.name)(hl:smN w.link){b:UInt8}(hb:¬ sfc b)(h61:b≠61):b ∉ bl (Zbt w):=by
 unfold Zbt
 rw[JO,JO]
 intro h
 rcases List.mem_append.1 h with h | h
 ·rcases List.mem_append.1 h with h | h
  ·exact Y6 (ZaU hn) hb h
  ·rw[show bl yEQ=[61] from rfl,List.mem_singleton] at h
   exact h61 h
 ·exact Y6 (Wi hl) hb h
theorem ZdK{l:List TWire}:∀{w:ByteArray},bl (WO w l)=bl w++(l.map Zbt).flatMap fun p=>32::bl p:=by
 intro w
 rw[ZeI,List.flatMap_map]
 congr 1
theorem Zqu{rd:ByteArray->Option Int}(hr:RD rd){l:List TWire}(h:∀ w∈l,Zdv w.name/\smN w.link):wrB rd (l.map Zbt)=true/\wrL rd (l.map Zbt)=l:=by
 have h1:wrB rd (l.map Zbt)=true:=by
  unfold wrB
  rw[List.all_eq_true]
  intro x hx
  obtain⟨w,hw,rfl⟩:=List.mem_map.1 hx
  exact(Zj7 hr (h w hw).1 (h w hw).2).2
 refine⟨h1,?_⟩
 unfold wrL
 rw[if_pos h1,List.map_map]
 conv=>rhs;rw[<-List.map_id l]
 exact List.map_congr_left fun w hw=>(Zj7 hr (h w hw).1 (h w hw).2).1
end Go.Fd

namespace Go.Fd
open Go.RowKit
set_option maxRecDepth 20000
theorem Zvm{l:List ByteArray}:ScR (rS l):=fun e he t ht=>by
 obtain⟨n,_,rfl⟩:=List.mem_map.1 he
 simp only[List.mem_cons,List.not_mem_nil,or_false] at ht
 subst ht
 rfl
theorem Zvn{l:List ByteArray}:UnR 1 (rS l):=QK (fun n:ByteArray=>[ts n]) (fun _=>rfl) l
set_option maxHeartbeats 1000000 in
theorem Q5(sig:List TControl)(b:TBigraph)(h:bigOK sig b)(lvl:Nat)(S:Sto):Sem Proofs.Tryz.prog Jm lvl [.tr (.sl (sig.map Zg)),.ag ((Zb b).map .tr)] S (iS (Ui sig b)) S:=by
 have hs:=h.sg
 have f:=ZiJ h
 have sm:=h.small
 have n1:=sm.nodes;have n2:=sm.sites;have n3:=sm.outer;have n4:=sm.inner
 refine Ze DH trivial ?_
 simp only[Xi,List.length_map,Zb,EVA,↓reduceIte,Nat.reduceEqDiff,Nat.reduceMul,reduceCtorEq,Nat.reduceAdd,Nat.reduceSub,Nat.reduceLeDiff,Nat.reduceLT,Int.reduceToNat,Int.reduceLE,Int.reduceLT,Zc,men]
 refine Za (D7 b.roots f.roots) ?_
 simp only[List.length_map,Zb,EVA,↓reduceIte,Nat.reduceEqDiff,Nat.reduceMul,reduceCtorEq,Nat.reduceAdd,Nat.reduceSub,Nat.reduceLeDiff,Nat.reduceLT,Int.reduceToNat,Int.reduceLE,Int.reduceLT,Zc,men]
 refine ZE (α:=Unit) b.nodes.length (fun j _=>[(5,.hd (lvl,448) [] 0 (j+1) none (j+1)),(18,iI j)]) (fun j _=>[(448,.ar 1 (rS (ZH b.roots::(JP sig b).take j)) true (j+1) 0)]) (fun _ _=>True) () (by simp only[EVA,↓reduceIte,Nat.reduceEqDiff,Nat.reduceMul,reduceCtorEq,Nat.reduceAdd,Nat.reduceSub,Nat.reduceLeDiff,Nat.reduceLT,Int.reduceToNat,Int.reduceLE,Int.reduceLT,Zc,men]) (by (simp only[EVA,↓reduceIte,Nat.reduceEqDiff,Nat.reduceMul,reduceCtorEq,Nat.reduceAdd,Nat.reduceSub,Nat.reduceLeDiff,Nat.reduceLT,Int.reduceToNat,Int.reduceLE,Int.reduceLT,Zc,men]) <;> rfl) trivial ?_
 intro j _ hj _
 simp only[List.length_map,Zb,EVA,↓reduceIte,Nat.reduceEqDiff,Nat.reduceMul,reduceCtorEq,Nat.reduceAdd,Nat.reduceSub,Nat.reduceLeDiff,Nat.reduceLT,Int.reduceToNat,Int.reduceLE,Int.reduceLT,Zc,men]
 refine Zk (fun hlt=>?_) (fun hge=>?_)
 ·have hja:j<b.nodes.length:=by omega
  have gn:=Xo (c:=ZA) hja
  have q:=h.nodes j hja
  have hmem:=List.getElem_mem hja
  obtain⟨m,hm⟩:∃ m:Nat,b.nodes[j].control=m:=⟨b.nodes[j].control.toNat,by have:=q.ctl;omega⟩
  have hms:m<sig.length:=by have:=q.ctl;omega
  have gs:=Xo (c:=Zg) hms
  have na:sig[m].name=Xr sig b.nodes[j].control:=by rw[hm];exact(DY hms).symm
  have z0:=Dc hs b.nodes[j].control
  have z1:=Jg (f.par _ hmem)
  have zc:(⟨#[64]⟩:ByteArray).size=1:=rfl
  have fl:=f.links _ hmem
  have hlm:(((JP sig b).take j).map fun n=>[ts n]).length=j:=by
   rw[List.length_map,List.length_take,JQ];omega
  have hh:(sig[m].name++(⟨#[64]⟩:ByteArray))++ZH b.nodes[j].parent=ZaQ sig b.nodes[j]:=by rw[na];rfl
  have st:((JP sig b).take j).map (fun n=>[ts n])++[[ts (YJ spI (ZaQ sig b.nodes[j]) b.nodes[j].links)]]=((JP sig b).take (j+1)).map fun n=>[ts n]:=by
   rw[List.take_succ_eq_append_getElem (by rw[JQ];exact hja)]
   simp [JP,Zaa]
  have zh:=ZdE hs (f.par _ hmem)
  rw[<-na] at z0
  simp only[gn,hm,gs,hms,ZA,Zg,List.length_map,Zb,EVA,↓reduceIte,Nat.reduceEqDiff,Nat.reduceMul,reduceCtorEq,Nat.reduceAdd,Nat.reduceSub,Nat.reduceLeDiff,Nat.reduceLT,Int.reduceToNat,Int.reduceLE,Int.reduceLT,Zc,men]
  refine⟨by rw[zc];omega,Za (D7 _ (f.par _ hmem)) ?_⟩
  simp only[hh,List.length_map,Zb,EVA,↓reduceIte,Nat.reduceEqDiff,Nat.reduceMul,reduceCtorEq,Nat.reduceAdd,Nat.reduceSub,Nat.reduceLeDiff,Nat.reduceLT,Int.reduceToNat,Int.reduceLE,Int.reduceLT,Zc,men]
  refine⟨by rw[ByteArray.size_append,zc];omega,Za (We (ZaQ sig b.nodes[j]) b.nodes[j].links fl.1 (by omega) fl.2) ?_⟩
  simp only[st,hlm,List.length_map,Zb,EVA,↓reduceIte,Nat.reduceEqDiff,Nat.reduceMul,reduceCtorEq,Nat.reduceAdd,Nat.reduceSub,Nat.reduceLeDiff,Nat.reduceLT,Int.reduceToNat,Int.reduceLE,Int.reduceLT,Zc,men]
  exact⟨by omega,by rw[Zd];omega,Zf () hja rfl trivial⟩
 ·have:j=b.nodes.length:=by omega
  subst this
  rw[List.take_of_length_le (by rw[JQ];omega)]
  refine Za (We ySITES b.sites f.sites (by decide) (by omega)) ?_
  simp only[List.length_map,Zb,EVA,↓reduceIte,Nat.reduceEqDiff,Nat.reduceMul,reduceCtorEq,Nat.reduceAdd,Nat.reduceSub,Nat.reduceLeDiff,Nat.reduceLT,Int.reduceToNat,Int.reduceLE,Int.reduceLT,Zc,men]
  refine Za (D7 b.edges f.edges) ?_
  simp only[List.length_map,Zb,EVA,↓reduceIte,Nat.reduceEqDiff,Nat.reduceMul,reduceCtorEq,Nat.reduceAdd,Nat.reduceSub,Nat.reduceLeDiff,Nat.reduceLT,Int.reduceToNat,Int.reduceLE,Int.reduceLT,Zc,men]
  refine⟨Zvm,Zvn,by omega,by omega,?_⟩
  have hco:cut ([ts U5]::rS b.outer) 0 (1+b.outer.length)=rS (U5::b.outer):=Yn (by simp;omega)
  have zo:=ZcF h f
  simp only[hco,List.length_map,Zb,EVA,↓reduceIte,Nat.reduceEqDiff,Nat.reduceMul,reduceCtorEq,Nat.reduceAdd,Nat.reduceSub,Nat.reduceLeDiff,Nat.reduceLT,Int.reduceToNat,Int.reduceLE,Int.reduceLT,Zc,men]
  refine Za (ZhC (U5::b.outer) ySP (by simp;omega) (by show (Xt b).size<=_;omega)) ?_
  have hrep:cut ((((List.replicate 3 [Tr.v (Value.string ⟨#[]⟩)]).set 0 [Tr.v (Value.string (YJ spI ySITES b.sites))]).set 1 [Tr.v (Value.string (ZH b.edges))]).set 2 [Tr.v (Value.string (Zdc (U5::b.outer) ySP))]) 0 3=rS (Zab b):=rfl
  have hl3:List.length (rS (Zab b))=3:=rfl
  have hsc:ScR (rS (Zab b)):=Zvm
  have hun:UnR 1 (rS (Zab b)):=Zvn
  have hl2:((JP sig b).map fun n=>[ts n]).length=b.nodes.length:=by rw[List.length_map,JQ]
  simp only[hrep,hl2,hl3,hsc,hun,JQ,List.length_set,List.length_replicate,List.length_map,Zb,EVA,↓reduceIte,Nat.reduceEqDiff,Nat.reduceMul,reduceCtorEq,Nat.reduceAdd,Nat.reduceSub,Nat.reduceLeDiff,Nat.reduceLT,Int.reduceToNat,Int.reduceLE,Int.reduceLT,Zc,men]
  refine⟨by omega,?_⟩
  refine ZE (α:=Unit) b.inner.length (fun i _=>[(8,iS (WO yINNER (b.inner.take i))),(57,iI i)]) (fun _ _=>[]) (fun _ _=>True) () (by simp only[EVA,↓reduceIte,Nat.reduceEqDiff,Nat.reduceMul,reduceCtorEq,Nat.reduceAdd,Nat.reduceSub,Nat.reduceLeDiff,Nat.reduceLT,Int.reduceToNat,Int.reduceLE,Int.reduceLT,Zc,men]) (by (simp only[EVA,↓reduceIte,Nat.reduceEqDiff,Nat.reduceMul,reduceCtorEq,Nat.reduceAdd,Nat.reduceSub,Nat.reduceLeDiff,Nat.reduceLT,Int.reduceToNat,Int.reduceLE,Int.reduceLT,Zc,men]) <;> rfl) trivial ?_
  intro i _ hi _
  simp only[List.length_map,Zb,EVA,↓reduceIte,Nat.reduceEqDiff,Nat.reduceMul,reduceCtorEq,Nat.reduceAdd,Nat.reduceSub,Nat.reduceLeDiff,Nat.reduceLT,Int.reduceToNat,Int.reduceLE,Int.reduceLT,Zc,men]
  refine Zk (fun hlt2=>?_) (fun hge2=>?_)
  ·have hia:i<b.inner.length:=by omega
   have gw:=Xo (c:=ZK) hia
   have fw:=f.wires _ (List.getElem_mem hia)
   have z1:=UF (B:=1005) (b.inner.take i) yINNER fun w hw=>UG (f.wires w (List.mem_of_mem_take hw))
   have z2:(b.inner.take i).length=i:=by rw[List.length_take];omega
   have z3:=Jg fw.1
   have z4:=UG fw
   have e0:yINNER.size=5:=rfl
   have e1:(⟨#[32]⟩:ByteArray).size=1:=rfl
   have e2:(⟨#[61]⟩:ByteArray).size=1:=rfl
   rw[z2,e0] at z1
   simp only[gw,ZK,List.length_map,Zb,EVA,↓reduceIte,Nat.reduceEqDiff,Nat.reduceMul,reduceCtorEq,Nat.reduceAdd,Nat.reduceSub,Nat.reduceLeDiff,Nat.reduceLT,Int.reduceToNat,Int.reduceLE,Int.reduceLT,Zc,men]
   refine⟨by rw[e1];omega,by rw[ByteArray.size_append,e1,e2];omega,Za (D7 _ fw.1) ?_⟩
   simp only[EVA,↓reduceIte,Nat.reduceEqDiff,Nat.reduceMul,reduceCtorEq,Nat.reduceAdd,Nat.reduceSub,Nat.reduceLeDiff,Nat.reduceLT,Int.reduceToNat,Int.reduceLE,Int.reduceLT,Zc,men]
   exact⟨by rw[ByteArray.size_append,ByteArray.size_append,e1,e2];omega,by show _+(ZaR b.inner[i]).size<=_;omega,by rw[Zd];omega,Zf () hia (by rw[Zio hia];rfl) trivial⟩
  ·have:i=b.inner.length:=by omega
   subst this
   rw[List.take_length]
   have hl4:(((JP sig b).map fun n=>[ts n])++rS (Zab b)).length=b.nodes.length+3:=by
    rw[List.length_append,hl2,hl3]
   have hcut:cut ([ts (ZH b.roots)]::(((JP sig b).map fun n=>[ts n])++rS (Zab b)++[[Tr.v (Value.string (WO yINNER b.inner))]])) 0 (b.nodes.length+1+3+1)=rS (Uh sig b):=by
    rw[Yn (by rw[List.length_cons,List.length_append,hl4];simp)]
    simp [Uh,Zab,Qp]
   have hwl:(Uh sig b).length<=4294967296:=by rw[Zip];omega
   have hz:=Uj h
   refine⟨by omega,by omega,by rw[List.length_append,hl4];simp,?_⟩
   rw[hcut]
   refine Za (ZhC (Uh sig b) ySEMI hwl (by show (Ui sig b).size<=_;omega)) ?_
   simp only[EVA,↓reduceIte,Nat.reduceEqDiff,Nat.reduceMul,reduceCtorEq,Nat.reduceAdd,Nat.reduceSub,Nat.reduceLeDiff,Nat.reduceLT,Int.reduceToNat,Int.reduceLE,Int.reduceLT,Zc,men]
   rfl
end Go.Fd

namespace Go.Fd
open Go.RowKit
set_option maxRecDepth 20000
def nsB(sig:List TControl)(b:TBigraph)(j:Nat):List UInt8:=(bl (ZH b.roots)++bl ySEMI)++((JP sig b).take j).flatMap fun y=>bl y++bl ySEMI
theorem Zll{sig:List TControl}{b:TBigraph}{x:ByteArray}{j:Nat}(hj:j<b.nodes.length)(h:bl x=nsB sig b j):bl x++(bl (Zaa sig b.nodes[j])++bl ySEMI)=nsB sig b (j+1):=by
 rw[h,nsB,nsB,List.take_succ_eq_append_getElem (by rw[JQ];exact hj),List.flatMap_append,<-List.append_assoc]
 simp [JP]
theorem ZhW{B:Nat}{s:List UInt8}:∀{r:List ByteArray},(∀ x∈r,x.size<=B)->(r.flatMap fun y=>bl y++s).length<=r.length*(B+s.length)
 | [],_=>by simp
 | x::r,h=>by
  have ih:=ZhW (r:=r) (s:=s) fun y hy=>h y (by simp [hy])
  have h1:=h x (by simp)
  rw[List.flatMap_cons,List.length_append,List.length_append,ZO,List.length_cons,Nat.succ_mul]
  omega
theorem ZhX{sig:List TControl}{b:TBigraph}{x:ByteArray}{j:Nat}(hb:bigOK sig b)(h:bl x=nsB sig b j):x.size<=50000:=by
 have f:=ZiJ hb
 have z1:=Jg f.roots
 have h2:=ZhW (B:=4008) (s:=bl ySEMI) (r:=(JP sig b).take j) fun y hy=>by
  obtain⟨k,hk,rfl⟩:=List.mem_map.1 (List.mem_of_mem_take hy)
  exact ZdF hb.sg f hk
 have h3:((JP sig b).take j).length<=8:=by
  have:=hb.nodesL
  rw[List.length_take,JQ]
  omega
 have h4:=congrArg List.length h
 rw[nsB,List.length_append,List.length_append,ZO,ZO,ZO,show ySEMI.size=2 from rfl] at h4
 rw[ZO,show ySEMI.size=2 from rfl] at h2
 have h5:((JP sig b).take j).length*(4008+2)<=8*4010:=Nat.mul_le_mul_right _ h3
 omega
def Zaf(w:ByteArray)(l:List ByteArray):ByteArray:=l.foldl (fun a x=>(a++ySP)++x) w
theorem Ziq{w:ByteArray}{l:List ByteArray}{j:Nat}(h:j<l.length):Zaf w (l.take (j+1))=(Zaf w (l.take j)++ySP)++l[j]:=by
 unfold Zaf
 rw[List.take_succ_eq_append_getElem h,List.foldl_append]
 rfl
theorem ZhY:∀(l:List ByteArray) (w:ByteArray),bl (Zaf w l)=bl w++l.flatMap fun x=>bl ySP++bl x
 | [],w=>by simp [Zaf]
 | x::r,w=>by
  have ih:=ZhY r ((w++ySP)++x)
  rw[show Zaf w (x::r)=Zaf ((w++ySP)++x) r from rfl,ih,JO,JO,List.flatMap_cons,List.append_assoc,List.append_assoc,List.append_assoc]
theorem ZaW{B:Nat}:∀(l:List ByteArray) (w:ByteArray),(∀ k∈l,k.size<=B)->(Zaf w l).size<=w.size+l.length*(B+1)
 | [],w,_=>by simp [Zaf]
 | x::r,w,h=>by
  have ih:=ZaW r ((w++ySP)++x) fun k hk=>h k (by simp [hk])
  have h1:=h x (by simp)
  rw[show Zaf w (x::r)=Zaf ((w++ySP)++x) r from rfl,List.length_cons,Nat.succ_mul]
  rw[ByteArray.size_append,ByteArray.size_append,show ySP.size=1 from rfl] at ih
  omega
def Zf7(w:ByteArray)(l:List TWire):ByteArray:=l.foldl (fun a x=>(((a++ySP)++x.name)++yEQ)++ZH x.link) w
theorem Zir{w:ByteArray}{l:List TWire}{j:Nat}(h:j<l.length):Zf7 w (l.take (j+1))=(((Zf7 w (l.take j)++ySP)++l[j].name)++yEQ)++ZH l[j].link:=by
 unfold Zf7
 rw[List.take_succ_eq_append_getElem h,List.foldl_append]
 rfl
theorem ZeX:∀(l:List TWire) (w:ByteArray),Zf7 w l=WO w l
 | [],w=>rfl
 | x::r,w=>by
  rw[show Zf7 w (x::r)=Zf7 ((((w++ySP)++x.name)++yEQ)++ZH x.link) r from rfl,ZeX r,show WO w (x::r)=WO (w++ZaR x) r from rfl]
  congr 1
  exact Xq (by unfold ZaR;simp only[JO,List.append_assoc])
theorem ZwH{sig:List TControl}{b:TBigraph}{x:ByteArray}(h:bl x=nsB sig b b.nodes.length) :
  Zf7 (Zaf ((((((x++ySITES)++YJ spI ⟨#[]⟩ b.sites)++ySEMI)++ZH b.edges)++⟨#[59,32,111,117,116,101,114]⟩)) b.outer++⟨#[59,32,105,110,110,101,114]⟩) b.inner=Ui sig b:=Xq (by
 rw[ZeX,Znl]
 rw[nsB,List.take_of_length_le (by rw[JQ];omega)] at h
 unfold XP Qp
 simp only[ZeI,ZhY,JO,Wd,h,List.append_assoc]
 rfl)
set_option maxHeartbeats 1000000 in
theorem ZaX(sig:List TControl)(b:TBigraph)(h:bigOK sig b)(lvl:Nat)(S:Sto):Sem Proofs.Tryz.prog Ym lvl [.tr (.sl (sig.map Zg)),.ag ((Zb b).map .tr)] S (iS (Ui sig b)) S:=by
 have hs:=h.sg
 have f:=ZiJ h
 have sm:=h.small
 have n1:=sm.nodes;have n2:=sm.sites;have n3:=sm.outer;have n4:=sm.inner
 have c2:(⟨#[59,32]⟩:ByteArray).size=2:=rfl
 have c1:(⟨#[64]⟩:ByteArray).size=1:=rfl
 have zr:=Jg f.roots
 have ze:=Jg f.edges
 refine Ze Zer trivial ?_
 simp only[DE,List.length_map,Zb,EVA,seval,Zc,men]
 refine Za (XO b.roots f.roots) ?_
 simp only[List.length_map,Zb,EVA,seval,Zc,men]
 refine⟨by rw[c2];omega,?_⟩
 refine ZE (α:=ByteArray) b.nodes.length (fun j x=>[(5,iS x),(6,iI j)]) (fun _ _=>[]) (fun j x=>bl x=nsB sig b j) (ZH b.roots++ySEMI) (by simp only[EVA,seval,Zc,men]) (by (simp only[EVA,seval,Zc,men]) <;> rfl) (by simp [nsB,JO]) ?_
 intro j x hj hA
 simp only[List.length_map,Zb,EVA,seval,Zc,men]
 refine Zk (fun hlt=>?_) (fun hge=>?_)
 ·have hja:j<b.nodes.length:=by omega
  have gn:=Xo (c:=ZA) hja
  have q:=h.nodes j hja
  have hmem:=List.getElem_mem hja
  obtain⟨m,hm⟩:∃ m:Nat,b.nodes[j].control=m:=⟨b.nodes[j].control.toNat,by have:=q.ctl;omega⟩
  have hms:m<sig.length:=by have:=q.ctl;omega
  have gs:=Xo (c:=Zg) hms
  have na:sig[m].name=Xr sig b.nodes[j].control:=by rw[hm];exact(DY hms).symm
  have z0:=Dc hs b.nodes[j].control
  have z1:=Jg (f.par _ hmem)
  have fl:=f.links _ hmem
  have hx:=ZhX h hA
  have zl:=Yz (f:=spI) (B:=4) b.nodes[j].links ⟨#[]⟩ fun k hk=>Xs (fl.1 k hk)
  rw[show (⟨#[]⟩:ByteArray).size=0 from rfl] at zl
  have fl2:=fl.2
  rw[<-na] at z0
  simp only[gn,hm,gs,hms,ZA,Zg,List.length_map,Zb,EVA,seval,Zc,men]
  refine⟨by omega,by rw[ByteArray.size_append,c1];omega,Za (XO _ (f.par _ hmem)) ?_⟩
  simp only[List.length_map,Zb,EVA,seval,Zc,men]
  refine⟨by rw[ByteArray.size_append,ByteArray.size_append,c1];omega,Za (Uf b.nodes[j].links fl.1 fl.2) ?_⟩
  simp only[List.length_map,Zb,EVA,seval,Zc,men]
  refine⟨by rw[ByteArray.size_append,ByteArray.size_append,ByteArray.size_append,c1];omega,by rw[ByteArray.size_append,ByteArray.size_append,ByteArray.size_append,ByteArray.size_append,c1,c2];omega,by rw[Zd];omega,Zf (((((x++Xr sig b.nodes[j].control)++yAT)++ZH b.nodes[j].parent)++YJ spI ⟨#[]⟩ b.nodes[j].links)++ySEMI) hja (by rw[<-na];rfl) ?_⟩
  rw[Zlc]
  exact Zll hja hA
 ·have:j=b.nodes.length:=by omega
  subst this
  have hx:=ZhX h hA
  have hT:=ZwH hA
  have zl:=Yz (f:=spI) (B:=4) b.sites ⟨#[]⟩ fun k hk=>Xs (f.sites k hk)
  rw[show (⟨#[]⟩:ByteArray).size=0 from rfl] at zl
  have k5:(⟨#[115,105,116,101,115]⟩:ByteArray).size=5:=rfl
  have k7:(⟨#[59,32,111,117,116,101,114]⟩:ByteArray).size=7:=rfl
  have k7i:(⟨#[59,32,105,110,110,101,114]⟩:ByteArray).size=7:=rfl
  refine⟨by rw[k5];omega,Za (Uf b.sites f.sites (by omega)) ?_⟩
  simp only[List.length_map,Zb,EVA,seval,Zc,men]
  refine⟨by rw[ByteArray.size_append,k5];omega,by rw[ByteArray.size_append,ByteArray.size_append,k5,c2];omega,Za (XO b.edges f.edges) ?_⟩
  simp only[List.length_map,Zb,EVA,seval,Zc,men]
  refine⟨by simp only[ByteArray.size_append,k5,c2];omega,by simp only[ByteArray.size_append,k5,c2,k7];omega,?_⟩
  obtain⟨y,hy⟩:∃ y,y=(((((x++ySITES)++YJ spI ⟨#[]⟩ b.sites)++ySEMI)++ZH b.edges)++(⟨#[59,32,111,117,116,101,114]⟩:ByteArray)):=⟨_,rfl⟩
  have hys:y.size<=60000:=by
   rw[hy]
   simp only[ByteArray.size_append,k5,c2,k7]
   omega
  rw[<-hy] at hT
  rw[<-hy]
  refine ZE (α:=Unit) b.outer.length (fun i _=>[(5,iS (Zaf y (b.outer.take i))),(8,iI i)]) (fun _ _=>[]) (fun _ _=>True) () (by simp only[EVA,seval,Zc,men]) (by (simp only[EVA,seval,Zc,men]) <;> rfl) trivial ?_
  intro i _ hi _
  simp only[List.length_map,Zb,EVA,seval,Zc,men]
  refine Zk (fun hlt2=>?_) (fun hge2=>?_)
  ·have hia:i<b.outer.length:=by omega
   have ga:=Xo (c:=fun n:ByteArray=>[ts n]) hia
   have fo:=f.outer _ (List.getElem_mem hia)
   have z1:=ZaW (B:=1000) (b.outer.take i) y fun w hw=>f.outer w (List.mem_of_mem_take hw)
   have z2:(b.outer.take i).length=i:=by rw[List.length_take];omega
   rw[z2] at z1
   simp only[ga,List.length_map,Zb,EVA,seval,Zc,men]
   exact⟨by rw[show (⟨#[32]⟩:ByteArray).size=1 from rfl];omega,by rw[ByteArray.size_append,show (⟨#[32]⟩:ByteArray).size=1 from rfl];omega,by rw[Zd];omega,Zf () hia (by rw[Ziq hia];rfl) trivial⟩
  ·have:i=b.outer.length:=by omega
   subst this
   rw[List.take_length]
   have z1:=ZaW (B:=1000) b.outer y f.outer
   refine⟨by rw[k7i];omega,?_⟩
   obtain⟨z,hz⟩:∃ z,z=Zaf y b.outer++(⟨#[59,32,105,110,110,101,114]⟩:ByteArray):=⟨_,rfl⟩
   have hzs:z.size<=100000:=by
    rw[hz,ByteArray.size_append,k7i]
    omega
   rw[<-hz] at hT
   rw[<-hz]
   refine ZE (α:=Unit) b.inner.length (fun i _=>[(5,iS (Zf7 z (b.inner.take i))),(9,iI i)]) (fun _ _=>[]) (fun _ _=>True) () (by simp only[EVA,seval,Zc,men]) (by (simp only[EVA,seval,Zc,men]) <;> rfl) trivial ?_
   intro i _ hi3 _
   simp only[List.length_map,Zb,EVA,seval,Zc,men]
   refine Zk (fun hlt3=>?_) (fun hge3=>?_)
   ·have hia:i<b.inner.length:=by omega
    have gw:=Xo (c:=ZK) hia
    have fw:=f.wires _ (List.getElem_mem hia)
    have z1:=UF (B:=1005) (b.inner.take i) z fun w hw=>UG (f.wires w (List.mem_of_mem_take hw))
    rw[<-ZeX] at z1
    have z2:(b.inner.take i).length=i:=by rw[List.length_take];omega
    have z3:=Jg fw.1
    have z4:=fw.2
    have e1:(⟨#[32]⟩:ByteArray).size=1:=rfl
    have e2:(⟨#[61]⟩:ByteArray).size=1:=rfl
    rw[z2] at z1
    simp only[gw,ZK,List.length_map,Zb,EVA,seval,Zc,men]
    refine⟨by simp only[ByteArray.size_append,e1,e2];omega,by simp only[ByteArray.size_append,e1,e2];omega,by simp only[ByteArray.size_append,e1,e2];omega,Za (XO _ fw.1) ?_⟩
    simp only[EVA,seval,Zc,men]
    exact⟨by simp only[ByteArray.size_append,e1,e2];omega,by rw[Zd];omega,Zf () hia (by rw[Zir hia];rfl) trivial⟩
   ·have:i=b.inner.length:=by omega
    subst this
    rw[List.take_length,hT]
end Go.Fd

namespace Go.Fd
open Go.RowKit
set_option maxRecDepth 20000
theorem Zag{sig:List TControl}{r:TRule}(h:ruleOK sig r):smL r.copies/\r.copies.length<=4:=by
 have h1:=h.red.sitesL
 have h2:=h.rea.sitesL
 have h3:=h.len
 refine⟨fun k hk=>?_,by omega⟩
 have q:=h.copies k hk
 unfold ZdC at q
 exact⟨by omega,by omega⟩
theorem Zf8(sig:List TControl)(r:TRule)(h:ruleOK sig r)(lvl:Nat)(S:Sto):Sem Proofs.Tryz.prog VP lvl [.tr (.sl (sig.map Zg)),.ag ((ZM r).map .tr)] S (iS (UL sig r)) S:=by
 have c1:=Zag h
 have z1:=Uj h.red
 have z2:=Uj h.rea
 have e4:(⟨#[32,45,62,32]⟩:ByteArray).size=4:=rfl
 have e2:(⟨#[32,124]⟩:ByteArray).size=2:=rfl
 have q1:=Q5 sig r.redex h.red
 have q2:=Q5 sig r.reactum h.rea
 simp only[Zb,List.map_cons,List.map_nil] at q1 q2
 have zl:=Yz (f:=spI) (B:=4) r.copies (Ui sig r.reactum++ZhI) fun k hk=>Xs (c1.1 k hk)
 rw[ByteArray.size_append,e2] at zl
 have c2:=c1.2
 refine Ze Zcl trivial ?_
 simp only[W7,ZM,EVA,seval,Zc,men]
 refine Za q1 ?_
 simp only[ZM,EVA,seval,Zc,men]
 refine⟨by rw[e4];omega,Za q2 ?_⟩
 simp only[ZM,List.length_map,EVA,seval,Zc,men]
 refine⟨by rw[e2];omega,Za (We (Ui sig r.reactum++ZhI) r.copies c1.1 (by rw[ByteArray.size_append,e2];omega) (by omega)) ?_⟩
 simp only[EVA,seval,Zc,men]
 exact⟨by rw[ByteArray.size_append,e4];omega,rfl⟩
theorem Zis(sig:List TControl)(r:TRule)(h:ruleOK sig r)(lvl:Nat)(S:Sto):Sem Proofs.Tryz.prog QN lvl [.tr (.sl (sig.map Zg)),.ag ((ZM r).map .tr)] S (iS (UL sig r)) S:=by
 have c1:=Zag h
 have z1:=Uj h.red
 have z2:=Uj h.rea
 have e4:(⟨#[32,45,62,32]⟩:ByteArray).size=4:=rfl
 have e2:(⟨#[32,124]⟩:ByteArray).size=2:=rfl
 have q1:=ZaX sig r.redex h.red
 have q2:=ZaX sig r.reactum h.rea
 simp only[Zb,List.map_cons,List.map_nil] at q1 q2
 have zl:=Yz (f:=spI) (B:=4) r.copies ⟨#[]⟩ fun k hk=>Xs (c1.1 k hk)
 rw[show (⟨#[]⟩:ByteArray).size=0 from rfl] at zl
 have c2:=c1.2
 rw[<-Zld]
 refine Ze Zeo trivial ?_
 simp only[DA,ZM,EVA,seval,Zc,men]
 refine Za q1 ?_
 simp only[ZM,EVA,seval,Zc,men]
 refine⟨by rw[e4];omega,Za q2 ?_⟩
 simp only[ZM,List.length_map,EVA,seval,Zc,men]
 refine⟨by simp only[ByteArray.size_append,e4];omega,by simp only[ByteArray.size_append,e4,e2];omega,Za (Uf r.copies c1.1 (by omega)) ?_⟩
 simp only[EVA,seval,Zc,men]
 simp only[ByteArray.size_append,e4,e2];omega
end Go.Fd

namespace Go.Fd
set_option maxRecDepth 20000
theorem ZwI{l:List ByteArray}:ScR (rS l)=True:=eq_true fun e he t ht=>by
 obtain⟨n,_,rfl⟩:=List.mem_map.1 he
 simp only[List.mem_cons,List.not_mem_nil,or_false] at ht
 subst ht
 rfl
theorem ZwJ{l:List ByteArray}:UnR 1 (rS l)=True:=eq_true (QK (fun n:ByteArray=>[ts n]) (fun _=>rfl) l)
theorem ZuL{l:List Int}:ScR (rI l)=True:=eq_true fun e he t ht=>by
 obtain⟨n,_,rfl⟩:=List.mem_map.1 he
 simp only[List.mem_cons,List.not_mem_nil,or_false] at ht
 subst ht
 rfl
theorem ZuM{l:List Int}:UnR 1 (rI l)=True:=eq_true (QK (fun n:Int=>[tv n]) (fun _=>rfl) l)
theorem ZwK{l:List TWire}:ScR (l.map ZK)=True:=eq_true fun e he t ht=>by
 obtain⟨n,_,rfl⟩:=List.mem_map.1 he
 simp only[ZK,List.mem_cons,List.not_mem_nil,or_false] at ht
 rcases ht with rfl | rfl <;> rfl
theorem ZwL{l:List TWire}:UnR 2 (l.map ZK)=True:=eq_true (QK ZK (fun _=>rfl) l)
theorem ZcJ(l:List Int)(hl:l.length<=4294967296)(lvl:Nat)(S:Sto):Sem Proofs.Tryz.prog Jf lvl [tI l] S (.ow 1 (rI l) true) S:=by
 refine Ze WN trivial ?_
 simp only[VL,List.length_map,ZuL,ZuM,EVA,seval,Zc,men]
 exact⟨hl,fun h=>by rw[h]⟩
theorem Zit(l:List ByteArray)(hl:l.length<=4294967296)(lvl:Nat)(S:Sto):Sem Proofs.Tryz.prog Jd lvl [.tr (.sl (rS l))] S (.ow 1 (rS l) true) S:=by
 refine Ze Qx trivial ?_
 simp only[Yc,List.length_map,ZwI,ZwJ,EVA,seval,Zc,men]
 exact⟨hl,fun h=>by rw[h]⟩
theorem Ziu(l:List TWire)(hl:l.length<=4294967296)(lvl:Nat)(S:Sto):Sem Proofs.Tryz.prog Z2 lvl [.tr (.sl (l.map ZK))] S (.ow 2 (l.map ZK) true) S:=by
 refine Ze Vf trivial ?_
 simp only[Jv,List.length_map,ZwK,ZwL,EVA,seval,Zc,men]
 exact⟨hl,fun h=>by rw[h]⟩
theorem Zdh(b:TBigraph)(hb:ZP 4294967290 b)(lvl:Nat)(S:Sto):Sem Proofs.Tryz.prog Y4 lvl [.ag ((Zb b).map .tr)] S (Zv b) S:=by
 obtain⟨b1,b2,b3,b4,b5,b6,b7⟩:=hb
 refine Ze ZaJ (by simp [Zv,low,men,Zc]) ?_
 simp only[XN,Zb,EVA,seval,Zc,men]
 refine Za (ZcJ b.sites (by omega)) ?_
 simp only[List.length_map,EVA,seval,Zc,men]
 refine Za (Zit b.outer (by omega)) ?_
 simp only[List.length_map,EVA,seval,Zc,men]
 refine Za (Ziu b.inner (by omega)) ?_
 simp only[List.length_map,EVA,seval,Zc,men]
 refine ZE (α:=Unit) b.nodes.length (fun j _=>[(23,iI j)]) (fun j _=>[(96,.bx [iI b.roots,.hd (lvl,608) [] 0 j none j,.hd (lvl,320) [] 0 b.sites.length none b.sites.length,iI b.edges,.hd (lvl,480) [] 0 b.outer.length none b.outer.length,.hd (lvl,576) [] 0 b.inner.length none b.inner.length]),(608,.ar 3 ((b.nodes.take j).map ZA) true j 0)]) (fun _ _=>True) () (by simp only[EVA,seval,Zc,men]) (by (simp only[EVA,seval,Zc,men]) <;> rfl) trivial ?_
 intro j _ hj _
 simp only[List.length_map,EVA,seval,Zc,men]
 refine Zk (fun hlt=>?_) (fun hge=>?_)
 ·have hja:j<b.nodes.length:=by omega
  have ga:=Xo (c:=ZA) hja
  have k2:b.nodes[j].links.length<=4294967290:=b2 _ (List.getElem_mem hja)
  have hl1:((b.nodes.take j).map ZA).length=j:=by rw[List.length_map,List.length_take];omega
  have st1:(b.nodes.take j).map ZA++[[Tr.v (Value.int .i64 b.nodes[j].control),Tr.v (Value.int .i64 b.nodes[j].parent),Tr.sl (rI b.nodes[j].links)]]=(b.nodes.take (j+1)).map ZA:=by
   rw[List.take_succ_eq_append_getElem hja,List.map_append]
   rfl
  simp only[ga,hja,ZA,EVA,seval,Zc,men]
  refine Za (ZcJ b.nodes[j].links (by omega)) ?_
  have hl2:(List.map (fun x=>[Tr.v (Value.int .i64 x.control),Tr.v (Value.int .i64 x.parent),Tr.sl (rI x.links)]) (b.nodes.take j)).length=j:=by rw[List.length_map,List.length_take];omega
  simp only[hl1,st1,ZA,EVA,seval,Zc,men]
  exact⟨by omega,by rw[Zd];omega,Zf () hja rfl trivial⟩
 ·have:j=b.nodes.length:=by omega
  subst this
  rw[List.take_length]
  exact⟨rfl,rfl⟩
end Go.Fd

namespace Go.Fd
open Go.RowKit
set_option maxRecDepth 20000
def ZL:TBigraph:=⟨0,[],[],0,[],[]⟩
def Jo:TRule:=⟨ZL,ZL,[]⟩
theorem ZeY{a c:Nat}{b:TBigraph}(h:a<=c)(hb:ZP a b):ZP c b:=by
 obtain⟨b1,b2,b3,b4,b5,b6,b7⟩:=hb
 exact⟨by omega,fun y hy=>Nat.le_trans (b2 y hy) h,by omega,by omega,fun y hy=>Nat.le_trans (b5 y hy) h,by omega,fun y hy=>Nat.le_trans (b7 y hy) h⟩
theorem ZhZ{sig:List TControl}{b:TBigraph}(h:bigOK sig b):ZP 1000 b:=by
 have hs:=h.small
 have s1:=hs.nodes;have s2:=hs.sites;have s3:=hs.inner;have s4:=hs.outer
 refine⟨by omega,fun y hy=>hs.links y hy,by omega,by omega,fun y hy=>?_,by omega,fun w hw=>?_⟩
 ·have:=Wg h.outer hy;omega
 ·have hn:w.name∈inn b:=List.mem_map.2 ⟨w,hw,rfl⟩
  have:=Wg h.inn hn
  simp only[UR]
  omega
theorem ZlS{sig:List TControl}{b:TBigraph}(h:bigOK sig b):ZP 4294967290 b:=ZeY (by omega) (ZhZ h)
theorem Ziv{b:TBigraph}{sig:List TControl}(f:FitY sig b){c:UInt8}(hc:¬ sfc c)(h32:c≠32):c ∉ bl (XP b):=by
 unfold XP
 rw[ZaV]
 intro h
 rcases List.mem_append.1 h with h | h
 ·have:∀ c∈bl ySITES,sfc c:=by unfold sfc;decide
  exact hc (this c h)
 ·obtain⟨p,hp,hm⟩:=List.mem_flatMap.1 h
  obtain⟨n,hn,rfl⟩:=List.mem_map.1 hp
  rcases List.mem_cons.1 hm with h | h
  ·exact h32 h
  ·exact Y6 (Wi (f.sites n hn)) hc h
theorem Zj8{b:TBigraph}{sig:List TControl}(hs:bigOK sig b){x:TNode}(hx:x∈b.nodes){c:UInt8}(hc:¬ sfc c)(h32:c≠32)(h64:c≠64):c ∉ bl (Zaa sig x):=by
 have f:=ZiJ hs
 obtain⟨i,hi,rfl⟩:=List.getElem_of_mem hx
 have q:=(hs.nodes i hi).ctl
 unfold Zaa
 rw[ZaV]
 intro h
 rcases List.mem_append.1 h with h | h
 ·exact Zf5 (Zqt hs.sg q.1 (by omega)) (f.par _ hx) hc h64 h
 ·obtain⟨p,hp,hm⟩:=List.mem_flatMap.1 h
  obtain⟨n,hn,rfl⟩:=List.mem_map.1 hp
  rcases List.mem_cons.1 hm with h | h
  ·exact h32 h
  ·exact Y6 (Wi ((f.links _ hx).1 n hn)) hc h
theorem ZeZ{l:List ByteArray}(h:VH l){s:ByteArray}(hs:s∈l):Zdv s:=by
 obtain⟨i,hi,rfl⟩:=List.getElem_of_mem hs
 exact(h.1 i hi).1
theorem ZdL{b:TBigraph}:bl (Xt b)=bl U5++b.outer.flatMap fun p=>32::bl p:=by
 unfold Xt
 rw[DZ]
 rfl
theorem Ziw{b:TBigraph}{sig:List TControl}(hs:bigOK sig b){c:UInt8}(hc:¬ sfc c)(h32:c≠32):c ∉ bl (Xt b):=by
 rw[ZdL]
 intro h
 rcases List.mem_append.1 h with h | h
 ·have:∀ c∈bl U5,sfc c:=by unfold sfc;decide
  exact hc (this c h)
 ·obtain⟨p,hp,hm⟩:=List.mem_flatMap.1 h
  rcases List.mem_cons.1 hm with h | h
  ·exact h32 h
  ·exact Y6 (ZaU (ZeZ hs.outer hp)) hc h
theorem Zah{b:TBigraph}{sig:List TControl}(hs:bigOK sig b):∀ w∈b.inner,Zdv w.name/\smN w.link:=fun w hw =>
 ⟨ZeZ hs.inn (List.mem_map.2 ⟨w,hw,rfl⟩:w.name∈inn b),((ZiJ hs).wires w hw).1⟩
theorem Zix{b:TBigraph}{sig:List TControl}(hs:bigOK sig b){c:UInt8}(hc:¬ sfc c)(h32:c≠32)(h61:c≠61):c ∉ bl (Qp b):=by
 unfold Qp
 rw[ZdK]
 intro h
 rcases List.mem_append.1 h with h | h
 ·have:∀ c∈bl yINNER,sfc c:=by unfold sfc;decide
  exact hc (this c h)
 ·obtain⟨p,hp,hm⟩:=List.mem_flatMap.1 h
  obtain⟨w,hw,rfl⟩:=List.mem_map.1 hp
  rcases List.mem_cons.1 hm with h | h
  ·exact h32 h
  ·exact Zf6 (Zah hs w hw).1 (Zah hs w hw).2 hc h61 h
def Um(sig:List TControl)(b:TBigraph):List ByteArray:=JP sig b++[XP b,ZH b.edges,Xt b,Qp b]
theorem Zlm{sig:List TControl}{b:TBigraph}:Uh sig b=ZH b.roots::Um sig b:=by
 simp [Uh,Um,Zab]
theorem ZcK{b:TBigraph}{sig:List TControl}(hs:bigOK sig b){c:UInt8}(hc:¬ sfc c)(h32:c≠32)(h61:c≠61)(h64:c≠64):∀ p∈Um sig b,c ∉ bl p:=by
 have f:=ZiJ hs
 intro p hp
 rcases List.mem_append.1 hp with hp | hp
 ·obtain⟨x,hx,rfl⟩:=List.mem_map.1 hp
  exact Zj8 hs hx hc h32 h64
 ·simp only[List.mem_cons,List.not_mem_nil,or_false] at hp
  rcases hp with rfl | rfl | rfl | rfl
  ·exact Ziv f hc h32
  ·exact Y6 (Wi f.edges) hc
  ·exact Ziw hs hc h32
  ·exact Zix hs hc h32 h61
theorem Ze0{sig:List TControl}{b:TBigraph}:bl (Ui sig b)=bl (ZH b.roots)++(Um sig b).flatMap fun p=>bl ySEMI++bl p:=by
 unfold Ui
 rw[Zlm,DZ]
theorem ZcL{sig:List TControl}{b:TBigraph}(hs:bigOK sig b):ZdG (Ui sig b) ySEMI=ZH b.roots::Um sig b :=
 Znm (c:=59) (q:=[32]) rfl Ze0 (Y6 (Wi (ZiJ hs).roots) (by unfold sfc;decide)) (ZcK hs (by unfold sfc;decide) (by decide) (by decide) (by decide))
theorem Zln{x:ByteArray}:Zbs (ySP++x)=x:=Xq (by
 unfold Zbs
 rw[ZgQ,List.take_of_length_le (by rw[ZO];exact Nat.le_refl _),JO]
 rfl)
theorem Zj9{sig:List TControl}{b:TBigraph}(hs:bigOK sig b):ptS (Ui sig b)=ZH b.roots::Um sig b:=by
 have e:spl (Ui sig b) 59=ZH b.roots::(Um sig b).map fun p=>ySP++p:=ZhO (by
  rw[Ze0,List.flatMap_map]
  refine congrArg (fun f=>_++List.flatMap f (Um sig b)) (funext fun p=>?_)
  rw[JO]
  rfl) (Y6 (Wi (ZiJ hs).roots) (by unfold sfc;decide)) fun p hp=>by
  obtain⟨q,hq,rfl⟩:=List.mem_map.1 hp
  rw[JO]
  intro h
  rcases List.mem_append.1 h with h | h
  ·revert h;decide
  ·exact ZcK hs (by unfold sfc;decide) (by decide) (by decide) (by decide) q hq h
 unfold ptS
 rw[e]
 simp only[List.headD_cons,List.tail_cons,List.map_map]
 congr 1
 conv=>rhs;rw[<-List.map_id (Um sig b)]
 exact List.map_congr_left fun p _=>Zln
def bI(rd:ByteArray->Option Int)(sig:List TControl)(p0:ByteArray)(Q:List ByteArray)(a b c d:ByteArray):TBigraph:=⟨(rd p0).getD 0,Q.map (ndV rd sig),Zac rd (tl0 a),(rd b).getD 0,tl0 c,wrL rd (tl0 d)⟩
def okI(rd:ByteArray->Option Int)(sig:List TControl)(p0:ByteArray)(Q:List ByteArray)(a b d:ByteArray):Prop:=(rd p0).isSome=true/\(∀ q∈Q,ndB rd sig q=true)/\Zau rd (tl0 a)=true/\(rd b).isSome=true/\wrB rd (tl0 d)=true
theorem Zqv{rd:ByteArray->Option Int}(hr:RD rd){sig:List TControl}{b:TBigraph}(hs:bigOK sig b):okI rd sig (ZH b.roots) (JP sig b) (XP b) (ZH b.edges) (Qp b)/\bI rd sig (ZH b.roots) (JP sig b) (XP b) (ZH b.edges) (Xt b) (Qp b)=b:=by
 have f:=ZiJ hs
 have e0:=hr _ f.roots
 have e1:=hr _ f.edges
 have hn:∀ x∈b.nodes,ndV rd sig (Zaa sig x)=x/\ndB rd sig (Zaa sig x)=true:=fun x hx=>by
  obtain⟨i,hi,rfl⟩:=List.getElem_of_mem hx
  have q:=(hs.nodes i hi).ctl
  exact Znt hr hs.sg ⟨q.1,by omega⟩ (f.par _ hx) (f.links _ hx).1
 obtain⟨_,t1⟩:=ZeW (w:=ySITES) (l:=b.sites) (by decide) f.sites
 have t2:tl0 (Xt b)=b.outer:=by
  have e:spl (Xt b) 32=U5::b.outer:=ZhO ZdL (by decide) fun p hp=>Y6 (ZaU (ZeZ hs.outer hp)) (by unfold sfc;decide)
  unfold tl0
  rw[e]
  rfl
 have t3:tl0 (Qp b)=b.inner.map Zbt:=by
  have e:spl (Qp b) 32=yINNER::b.inner.map Zbt:=ZhO ZdK (by decide) fun p hp=>by
   obtain⟨w,hw,rfl⟩:=List.mem_map.1 hp
   exact Zf6 (Zah hs w hw).1 (Zah hs w hw).2 (by unfold sfc;decide) (by decide)
  unfold tl0
  rw[e]
  rfl
 obtain⟨w1,w2⟩:=Zqu hr (Zah hs)
 refine⟨⟨by rw[e0];rfl,fun q hq=>?_,?_,by rw[e1];rfl,by rw[t3];exact w1⟩,?_⟩
 ·obtain⟨x,hx,rfl⟩:=List.mem_map.1 hq
  exact(hn x hx).2
 ·show Zau rd (tl0 (YJ spI ySITES b.sites))=true
  rw[t1]
  exact ZeV hr f.sites
 ·unfold bI
  rw[e0,e1,t2,t3,w2,show tl0 (XP b)=b.sites.map ZH from t1,Zg2 hr f.sites]
  have:(JP sig b).map (ndV rd sig)=b.nodes:=by
   unfold JP
   rw[List.map_map]
   conv=>rhs;rw[<-List.map_id b.nodes]
   exact List.map_congr_left fun x hx=>(hn x hx).1
  rw[this]
  rfl
def PBg(sig:List TControl)(s:ByteArray)(b:TBigraph):Prop:=bigOK sig b/\Ui sig b=s
theorem Zlo{rd:ByteArray->Option Int}(hr:RD rd){sig:List TControl}{s p0:ByteArray}{Q:List ByteArray}{a b c d:ByteArray}{B:TBigraph}(h:PBg sig s B)(hp:ZH B.roots::Um sig B=p0::(Q++[a,b,c,d])):okI rd sig p0 Q a b d/\bI rd sig p0 Q a b c d=B:=by
 injection hp with h1 h2
 unfold Um at h2
 obtain⟨h3,h4⟩:=List.append_inj' h2 rfl
 injection h4 with h5 h6
 injection h6 with h7 h8
 injection h8 with h9 h10
 injection h10 with h11 _
 have:=Zqv hr h.1
 rw[h1,h3,h5,h7,h9,h11] at this
 exact this
end Go.Fd

namespace Go.Fd
open Go.RowKit
set_option maxRecDepth 20000
theorem Zf9(sep:ByteArray):∀(k:Nat) (s p:ByteArray),p∈Lib.splitB sep 0 k s->p.size<=s.size
 | 0,s,p,h=>by
  rw[Lib.splitB_zero,List.mem_singleton] at h
  rw[h]
  exact Nat.le_refl _
 | k+1,s,p,h=>by
  rcases Lib.indexB_cases s sep with hi | ⟨i,hi,_⟩
  ·rw[Lib.splitB_miss _ _ _ _ hi,List.mem_singleton] at h
   rw[h]
   exact Nat.le_refl _
  ·rw[Lib.splitB_hit _ _ _ _ _ hi] at h
   rcases List.mem_cons.1 h with rfl | h
   ·simp only[ByteArray.size_extract];omega
   ·have:=Zf9 sep k _ p h
    simp only[ByteArray.size_extract] at this
    omega
theorem Znu{s sep:ByteArray}:∀ p∈ZdG s sep,p.size<=s.size:=fun p hp=>Zf9 sep _ s p hp
theorem Zlp{s sep:ByteArray}(h1:1<=sep.size):(ZdG s sep).length<=s.size+1:=by
 have:=Lib.splitB_all sep h1 0 _ s rfl
 have h2:=Lib.countB_le sep h1 s.size s (Nat.le_refl _)
 unfold ZdG
 omega
theorem Zvo{P:List ByteArray}(h:5<=P.length):∃ p0 Q a b c d,P=p0::(Q++[a,b,c,d]):=by
 cases P with
 | nil=>simp at h
 | cons p0 R =>
  have hl:(R.drop (R.length-4)).length=4:=by rw[List.length_drop];simp at h;omega
  match hd:R.drop (R.length-4),hl with
  | [a,b,c,d],_=>exact⟨p0,R.take (R.length-4),a,b,c,d,by rw[<-hd,List.take_append_drop]⟩
open Classical in
noncomputable def pbV(sig:List TControl)(s:ByteArray):TBigraph:=if h:∃ b,PBg sig s b then h.choose else ZL
noncomputable def pbB(sig:List TControl)(s:ByteArray):Bool:=dc (∃ b,PBg sig s b)
theorem ZaY{sig:List TControl}{s:ByteArray}(h:∀ b,¬ PBg sig s b):pbV sig s=ZL/\pbB sig s=false:=by
 have hn:¬ ∃ b,PBg sig s b:=fun⟨b,hb⟩=>h b hb
 exact⟨dif_neg hn,Zh hn⟩
theorem Zka{sig:List TControl}{s:ByteArray}{b:TBigraph}(h:PBg sig s b)(hu:∀ b',PBg sig s b'->b=b'):pbV sig s=b/\pbB sig s=true:=by
 have hy:∃ b,PBg sig s b:=⟨b,h⟩
 refine⟨?_,JF hy⟩
 unfold pbV
 rw[dif_pos hy]
 exact(hu _ hy.choose_spec).symm
theorem Zqw{rd:ByteArray->Option Int}{sig:List TControl}{p0 a b c d:ByteArray}{Q:List ByteArray}{n:Nat}(hQ:Q.length<=n)(hq:∀ q∈Q,q.size<=n)(ha:a.size<=n)(hc:c.size<=n)(hd:d.size<=n):ZP n (bI rd sig p0 Q a b c d):=by
 have l1:=ZeQ (rd:=rd) (ws:=tl0 a)
 have l2:=Y5 (s:=a)
 have l3:=Y5 (s:=c)
 have l4:=Y5 (s:=d)
 have l5:(wrL rd (tl0 d)).length<=(tl0 d).length:=by unfold wrL;split <;> simp
 refine⟨by simp [bI];exact hQ,fun y hy=>?_,by simp only[bI];omega,by simp only[bI];omega,fun y hy=>?_,by simp only[bI];omega,fun y hy=>?_⟩
 ·obtain⟨q,hqm,rfl⟩:=List.mem_map.1 hy
  have h1:=ZeQ (rd:=rd) (ws:=tl0 q)
  have h2:=Y5 (s:=q)
  have h3:=hq q hqm
  simp only[Za6,ndV]
  omega
 ·have:=YZ (s:=c) y hy
  omega
 ·simp only[bI] at hy
  unfold wrL at hy
  split at hy
  ·obtain⟨w,hw,rfl⟩:=List.mem_map.1 hy
   have h1:=YZ (s:=d) w hw
   have h2:=(Qy (s:=w) (sep:=WC 61)).1
   simp only[UR,wrV]
   omega
  ·cases hy
theorem Znv{w x y z:Bool}{F:IV->Prop}:eq2 [1,1,1,1] (.ag [iB w,iB x,iB y,iB z]) (.ag [.tr (.v (.bool true)),.tr (.v (.bool true)),.tr (.v (.bool true)),.tr (.v (.bool true))]) true F=F (iB (!(((w&&x)&&y)&&z))):=by
 cases w <;> cases x <;> cases y <;> cases z <;> rfl
set_option maxHeartbeats 2000000 in
theorem V8(sig:List TControl)(s:ByteArray)(hn:sig.length<=4294967296)(hbs:∀ y∈sig,Zz 4294967296 y)(hs:s.size<=1048576)(lvl:Nat)(S:Sto):Sem Proofs.Tryz.prog JB lvl [.tr (.sl (sig.map Zg)),iS s] S (.tu [Zv (pbV sig s),iB (pbB sig s)]) S:=by
 refine Ze Da (by simp [Zv,low,men,Zc]) ?_
 have hl:=Zlp (s:=s) (sep:=ySEMI) (by decide)
 have hz:=Znu (s:=s) (sep:=ySEMI)
 have hbs2:∀ y∈sig,Zz 9223372036854775807 y:=fun y hy=>Nat.le_trans (hbs y hy) (by omega)
 have hw:∀ b,PBg sig s b->ZdG s ySEMI=ZH b.roots::Um sig b:=fun b hb=>by rw[<-hb.2];exact ZcL hb.1
 simp only[QY,List.length_map,EVA,↓reduceIte,Nat.reduceEqDiff,Nat.reduceMul,reduceCtorEq,Nat.reduceAdd,Nat.reduceSub,Nat.reduceLeDiff,Nat.reduceLT,Int.reduceToNat,Int.reduceLE,Int.reduceLT,Zc,men]
 refine Za (ZjU s ySEMI (by omega) (by decide)) ?_
 generalize ZdG s ySEMI=P at hl hz hw
 by_cases h5:5<=P.length
 rotate_left
 ·have hno:∀ b,¬ PBg sig s b:=fun b hb=>h5 (by rw[hw b hb];simp [Um])
  obtain⟨v1,v2⟩:=ZaY hno
  rw[v1,v2]
  have e5:=eq_true (show (P.length:Int)-5<0 by omega)
  simp only[List.length_map,EVA,↓reduceIte,Nat.reduceEqDiff,Nat.reduceMul,reduceCtorEq,Nat.reduceAdd,Nat.reduceSub,Nat.reduceLeDiff,Nat.reduceLT,Int.reduceToNat,Int.reduceLE,Int.reduceLT,Zc,men]
  refine⟨by rw[Zd];omega,Za (YI sig (by omega) hbs2) ?_⟩
  cases dc (XC sig)
  ·simp only[Zv,ZL,zfill,zobs,Zl,Zn,List.set_cons_zero,List.set_cons_succ,List.map_nil,EVA,↓reduceIte,Nat.reduceEqDiff,Nat.reduceMul,reduceCtorEq,Nat.reduceAdd,Nat.reduceSub,Nat.reduceLeDiff,Nat.reduceLT,Int.reduceToNat,Int.reduceLE,Int.reduceLT,Zc,men]
   try rfl
  ·simp only[e5,Zv,ZL,zfill,zobs,Zl,Zn,List.set_cons_zero,List.set_cons_succ,List.map_nil,EVA,↓reduceIte,Nat.reduceEqDiff,Nat.reduceMul,reduceCtorEq,Nat.reduceAdd,Nat.reduceSub,Nat.reduceLeDiff,Nat.reduceLT,Int.reduceToNat,Int.reduceLE,Int.reduceLT,Zc,men]
   try rfl
 obtain⟨p0,Q,a,b,c,d,rfl⟩:=Zvo h5
 obtain⟨R,hR⟩:∃ R,R=Q++[a,b,c,d]:=⟨_,rfl⟩
 have hRl:R.length=Q.length+4:=by rw[hR];simp
 have hrt:∀ B,PBg sig s B->okI rdI sig p0 Q a b d/\bI rdI sig p0 Q a b c d=B:=fun B hB=>Zlo ZqS hB (hw B hB).symm
 rw[<-hR] at hl hz ⊢
 have e5:=eq_false (show ¬ ((R.length+1:Nat):Int)-5<0 by omega)
 have e6:((R.length+1:Nat):Int)-5=(Q.length:Int):=by omega
 simp only[List.length_cons] at hl
 simp only[List.length_map,List.length_cons,EVA,↓reduceIte,Nat.reduceEqDiff,Nat.reduceMul,reduceCtorEq,Nat.reduceAdd,Nat.reduceSub,Nat.reduceLeDiff,Nat.reduceLT,Int.reduceToNat,Int.reduceLE,Int.reduceLT,Zc,men]
 refine⟨by rw[Zd];omega,Za (YI sig (by omega) hbs2) ?_⟩
 by_cases hsg:XC sig
 rotate_left
 ·obtain⟨v1,v2⟩:=ZaY (sig:=sig) (s:=s) fun b hb=>hsg hb.1.sg
  rw[v1,v2,Zh hsg]
  simp only[Zv,ZL,zfill,zobs,Zl,Zn,List.set_cons_zero,List.set_cons_succ,List.map_nil,EVA,↓reduceIte,Nat.reduceEqDiff,Nat.reduceMul,reduceCtorEq,Nat.reduceAdd,Nat.reduceSub,Nat.reduceLeDiff,Nat.reduceLT,Int.reduceToNat,Int.reduceLE,Int.reduceLT,Zc,men]
  try rfl
 rw[JF hsg]
 have z0:=hz p0 (by simp)
 have e40:(1+(Q.length:Int)).toNat=Q.length+1:=by omega
 have e41:(0:Int)<=1+(Q.length:Int):=by omega
 have hcq:cut ([ts p0]::List.map (fun n=>[ts n]) R) 1 (Q.length+1-1)=rS Q:=by
  show List.take (Q.length+1-1) (List.drop 1 ([ts p0]::List.map (fun n=>[ts n]) R))=_
  rw[List.drop_succ_cons,List.drop_zero,Nat.add_sub_cancel,<-List.map_take,hR,List.take_left]
 have hun:UnR 1 ([ts p0]::List.map (fun n=>[ts n]) R):=QK (fun n:ByteArray=>[ts n]) (fun _=>rfl) (p0::R)
 have hzQ:∀ q∈Q,q.size<=s.size:=fun q hq=>hz q (by rw[hR];simp [hq])
 have hcl:∀ j,j<=Q.length->((Q.take j).map (ndV rdI sig)).length=j:=fun j hj=>by rw[List.length_map,List.length_take];omega
 simp only[e5,e6,zfill,zobs,Zl,Zn,List.set_cons_zero,List.set_cons_succ,List.length_map,List.length_cons,EVA,↓reduceIte,Nat.reduceEqDiff,Nat.reduceMul,reduceCtorEq,Nat.reduceAdd,Nat.reduceSub,Nat.reduceLeDiff,Nat.reduceLT,Int.reduceToNat,Int.reduceLE,Int.reduceLT,Zc,men]
 refine Za (Q1 p0 (by omega)) ?_
 simp only[e5,e6,zfill,zobs,Zl,Zn,List.set_cons_zero,List.set_cons_succ,List.length_map,List.length_cons,EVA,↓reduceIte,Nat.reduceEqDiff,Nat.reduceMul,reduceCtorEq,Nat.reduceAdd,Nat.reduceSub,Nat.reduceLeDiff,Nat.reduceLT,Int.reduceToNat,Int.reduceLE,Int.reduceLT,Zc,men]
 rw[e40,hcq]
 refine⟨by rw[Zd];omega,fun _=>hun,e41,by omega,by omega,?_⟩
 refine ZE (α:=Unit) Q.length (fun j _=>[(43,iI j)]) (fun j _=>[(256,.bx [iI ((rdI p0).getD 0),.hd (lvl,864) [] 0 j none j,.cs [],iI 0,.cs [],.cs []]),(864,.ar 3 (((Q.take j).map (ndV rdI sig)).map ZA) true j 0)]) (fun j _=>∀ i (hi:i<Q.length),i<j->ndB rdI sig Q[i]=true) () (by simp only[EVA,↓reduceIte,Nat.reduceEqDiff,Nat.reduceMul,reduceCtorEq,Nat.reduceAdd,Nat.reduceSub,Nat.reduceLeDiff,Nat.reduceLT,Int.reduceToNat,Int.reduceLE,Int.reduceLT,Zc,men]) (by (simp only[EVA,↓reduceIte,Nat.reduceEqDiff,Nat.reduceMul,reduceCtorEq,Nat.reduceAdd,Nat.reduceSub,Nat.reduceLeDiff,Nat.reduceLT,Int.reduceToNat,Int.reduceLE,Int.reduceLT,Zc,men]) <;> rfl) (fun i _ h=>absurd h (Nat.not_lt_zero i)) ?_
 intro j _ hj hA
 simp only[List.length_map,EVA,↓reduceIte,Nat.reduceEqDiff,Nat.reduceMul,reduceCtorEq,Nat.reduceAdd,Nat.reduceSub,Nat.reduceLeDiff,Nat.reduceLT,Int.reduceToNat,Int.reduceLE,Int.reduceLT,Zc,men]
 refine Zk (fun hlt=>?_) (fun hge=>?_)
 ·have hja:j<Q.length:=by omega
  have gq:=Xo (c:=fun n:ByteArray=>[ts n]) hja
  have zq:=hzQ _ (List.getElem_mem hja)
  simp only[gq,List.length_map,EVA,↓reduceIte,Nat.reduceEqDiff,Nat.reduceMul,reduceCtorEq,Nat.reduceAdd,Nat.reduceSub,Nat.reduceLeDiff,Nat.reduceLT,Int.reduceToNat,Int.reduceLE,Int.reduceLT,Zc,men]
  refine Za (Zf4 sig Q[j] hn (by omega)) ?_
  cases hb:ndB rdI sig Q[j]
  ·obtain⟨v1,v2⟩:=ZaY (sig:=sig) (s:=s) fun B hB=>by
    have:=(hrt B hB).1.2.1 _ (List.getElem_mem hja)
    rw[hb] at this
    cases this
   rw[v1,v2]
   simp only[UJ,Zv,ZL,zfill,zobs,Zl,Zn,List.set_cons_zero,List.set_cons_succ,List.map_nil,EVA,↓reduceIte,Nat.reduceEqDiff,Nat.reduceMul,reduceCtorEq,Nat.reduceAdd,Nat.reduceSub,Nat.reduceLeDiff,Nat.reduceLT,Int.reduceToNat,Int.reduceLE,Int.reduceLT,Zc,men]
   try rfl
  ·have hl1:=hcl j hj
   have hmx:max j (j+1)=j+1:=by omega
   have st1:((Q.take j).map (ndV rdI sig)).map ZA++[[Tr.v (Value.int .i64 (ndV rdI sig Q[j]).control),Tr.v (Value.int .i64 (ndV rdI sig Q[j]).parent),Tr.sl (rI (ndV rdI sig Q[j]).links)]]=((Q.take (j+1)).map (ndV rdI sig)).map ZA:=by
    rw[List.take_succ_eq_append_getElem hja,List.map_append,List.map_append]
    rfl
   simp only[UJ,hl1,hmx,st1,zfill,zobs,Zl,Zn,List.set_cons_zero,List.set_cons_succ,List.length_map,EVA,↓reduceIte,Nat.reduceEqDiff,Nat.reduceMul,reduceCtorEq,Nat.reduceAdd,Nat.reduceSub,Nat.reduceLeDiff,Nat.reduceLT,Int.reduceToNat,Int.reduceLE,Int.reduceLT,Zc,men]
   exact⟨by omega,by rw[Zd];omega,Zf () hja rfl fun i hi hij=>by
    by_cases e:i=j
    ·subst e;exact hb
    ·exact hA i hi (by omega)⟩
 ·have hj1:j=Q.length:=by omega
  subst hj1
  rw[show Q.take Q.length=Q from List.take_length]
  have hG:∀ q∈Q,ndB rdI sig q=true:=fun q hq=>by
   obtain⟨i,hi,rfl⟩:=List.getElem_of_mem hq
   exact hA i hi hi
  have gk:∀ k x,[a,b,c,d][k]? = some x->(List.map (fun n:ByteArray=>[ts n]) R)[Q.length+k]? = some [ts x]:=fun k x h=>by
   rw[List.getElem?_map,hR,List.getElem?_append_right (by omega),Nat.add_sub_cancel_left,h];rfl
  have g0:=gk 0 a rfl
  have g1:=gk 1 b rfl
  have g2:=gk 2 c rfl
  have g3:=gk 3 d rfl
  rw[Nat.add_zero] at g0
  have i0:((Q.length:Int)+1).toNat=Q.length+1:=by omega
  have i1:((Q.length:Int)+2).toNat=Q.length+2:=by omega
  have i2:((Q.length:Int)+3).toNat=Q.length+3:=by omega
  have i3:((Q.length:Int)+4).toNat=Q.length+4:=by omega
  have q0:(0:Int)<=(Q.length:Int)+1:=by omega
  have q1:(0:Int)<=(Q.length:Int)+2:=by omega
  have q2:(0:Int)<=(Q.length:Int)+3:=by omega
  have q3:(0:Int)<=(Q.length:Int)+4:=by omega
  have za:=hz a (by rw[hR];simp)
  have zb:=hz b (by rw[hR];simp)
  have zc:=hz c (by rw[hR];simp)
  have zd:=hz d (by rw[hR];simp)
  have hun2:∀ x:ByteArray,UnR 1 ([ts (hd0 x)]::List.map (fun n=>[ts n]) (tl0 x)):=fun x=>QK (fun n:ByteArray=>[ts n]) (fun _=>rfl) (hd0 x::tl0 x)
  have hct:∀ x:ByteArray,cut ([ts (hd0 x)]::List.map (fun n=>[ts n]) (tl0 x)) 1 ((tl0 x).length+1-1)=rS (tl0 x):=fun x=>Zf3 (by omega)
  have a0:=YZ (s:=a);have a1:=Y5 (s:=a)
  have c0:=YZ (s:=c);have c1:=Y5 (s:=c)
  have d0:=YZ (s:=d);have d1:=Y5 (s:=d)
  simp only[g0,i0,q0,List.length_map,List.length_cons,EVA,↓reduceIte,Nat.reduceEqDiff,Nat.reduceMul,reduceCtorEq,Nat.reduceAdd,Nat.reduceSub,Nat.reduceLeDiff,Nat.reduceLT,Int.reduceToNat,Int.reduceLE,Int.reduceLT,Zc,men]
  refine⟨by rw[Zd];omega,Za (Q3 a 32 (by omega)) ?_⟩
  rw[XQ]
  simp only[zfill,zobs,Zl,Zn,List.set_cons_zero,List.set_cons_succ,List.length_map,List.length_cons,EVA,↓reduceIte,Nat.reduceEqDiff,Nat.reduceMul,reduceCtorEq,Nat.reduceAdd,Nat.reduceSub,Nat.reduceLeDiff,Nat.reduceLT,Int.reduceToNat,Int.reduceLE,Int.reduceLT,Zc,men]
  rw[hct]
  refine⟨fun _=>hun2 a,Za (Q4 (tl0 a) (fun w hw=>by have:=a0 w hw;omega) (by omega)) ?_⟩
  simp only[g1,i1,q1,zfill,zobs,Zl,Zn,List.set_cons_zero,List.set_cons_succ,List.length_map,List.length_cons,EVA,↓reduceIte,Nat.reduceEqDiff,Nat.reduceMul,reduceCtorEq,Nat.reduceAdd,Nat.reduceSub,Nat.reduceLeDiff,Nat.reduceLT,Int.reduceToNat,Int.reduceLE,Int.reduceLT,Zc,men]
  refine⟨by rw[Zd];omega,Za (Q1 b (by omega)) ?_⟩
  simp only[g2,i2,q2,zfill,zobs,Zl,Zn,List.set_cons_zero,List.set_cons_succ,List.length_map,List.length_cons,EVA,↓reduceIte,Nat.reduceEqDiff,Nat.reduceMul,reduceCtorEq,Nat.reduceAdd,Nat.reduceSub,Nat.reduceLeDiff,Nat.reduceLT,Int.reduceToNat,Int.reduceLE,Int.reduceLT,Zc,men]
  refine⟨by rw[Zd];omega,Za (Q3 c 32 (by omega)) ?_⟩
  rw[XQ]
  simp only[g3,i3,q3,zfill,zobs,Zl,Zn,List.set_cons_zero,List.set_cons_succ,List.length_map,List.length_cons,EVA,↓reduceIte,Nat.reduceEqDiff,Nat.reduceMul,reduceCtorEq,Nat.reduceAdd,Nat.reduceSub,Nat.reduceLeDiff,Nat.reduceLT,Int.reduceToNat,Int.reduceLE,Int.reduceLT,Zc,men]
  refine⟨by rw[Zd];omega,Za (Q3 d 32 (by omega)) ?_⟩
  rw[XQ]
  simp only[zfill,zobs,Zl,Zn,List.set_cons_zero,List.set_cons_succ,List.length_map,List.length_cons,EVA,↓reduceIte,Nat.reduceEqDiff,Nat.reduceMul,reduceCtorEq,Nat.reduceAdd,Nat.reduceSub,Nat.reduceLeDiff,Nat.reduceLT,Int.reduceToNat,Int.reduceLE,Int.reduceLT,Zc,men]
  rw[hct]
  refine⟨fun _=>hun2 d,Za (ZeS (tl0 d) (fun w hw=>by have:=d0 w hw;omega) (by omega)) ?_⟩
  simp only[zfill,zobs,Zl,Zn,List.set_cons_zero,List.set_cons_succ,List.length_map,List.length_cons,EVA,↓reduceIte,Nat.reduceEqDiff,Nat.reduceMul,reduceCtorEq,Nat.reduceAdd,Nat.reduceSub,Nat.reduceLeDiff,Nat.reduceLT,Int.reduceToNat,Int.reduceLE,Int.reduceLT,Zc,men]
  rw[Znv]
  have hcs:∀ l:List Int,cut (rI l) 0 l.length=rI l:=fun l=>Yn (by rw[List.length_map])
  have hcw:cut ((wrL rdI (tl0 d)).map ZK) 0 (wrL rdI (tl0 d)).length=(wrL rdI (tl0 d)).map ZK:=Yn (by rw[List.length_map])
  have hcn:cut ((Q.map (ndV rdI sig)).map ZA) 0 Q.length=(Q.map (ndV rdI sig)).map ZA:=Yn (by rw[List.length_map,List.length_map])
  have hbd:∀ n,s.size+1<=n->ZP n (bI rdI sig p0 Q a b c d):=fun n hn=>Zqw (by omega) (fun q hq=>by have:=hzQ q hq;omega) (by omega) (by omega) (by omega)
  have qB:=VI sig (bI rdI sig p0 Q a b c d) hn hbs (hbd _ (by omega))
  have hok:((((rdI p0).isSome&&Zau rdI (tl0 a))&&(rdI b).isSome)&&wrB rdI (tl0 d))=true->okI rdI sig p0 Q a b d:=fun h=>by
   simp only[Bool.and_eq_true] at h
   exact⟨h.1.1.1,hG,h.1.1.2,h.1.2,h.2⟩
  have hno0:((((rdI p0).isSome&&Zau rdI (tl0 a))&&(rdI b).isSome)&&wrB rdI (tl0 d))=false->∀ B,¬ PBg sig s B:=fun h B hB=>by
   obtain⟨k1,_,k3,k4,k5⟩:=(hrt B hB).1
   rw[k1,k3,k4,k5] at h
   cases h
  generalize ((((rdI p0).isSome&&Zau rdI (tl0 a))&&(rdI b).isSome)&&wrB rdI (tl0 d))=all at hok hno0
  cases all
  ·obtain⟨v1,v2⟩:=ZaY (hno0 rfl)
   rw[v1,v2]
   simp only[Zv,ZL,zfill,zobs,Zl,Zn,List.set_cons_zero,List.set_cons_succ,List.length_map,List.length_cons,List.map_nil,EVA,↓reduceIte,Nat.reduceEqDiff,Nat.reduceMul,reduceCtorEq,Nat.reduceAdd,Nat.reduceSub,Nat.reduceLeDiff,Nat.reduceLT,Int.reduceToNat,Int.reduceLE,Int.reduceLT,Zc,men]
   try rfl
  have hok2:=hok rfl
  simp only[Zb,bI,List.map_cons,List.map_nil] at qB
  change ∀ lvl S,Sem Proofs.Tryz.prog _ lvl _ S (iB (dc (bigOK sig (bI rdI sig p0 Q a b c d)))) S at qB
  simp only[hcs,hcw,hcn,hct,zfill,zobs,Zl,Zn,List.set_cons_zero,List.set_cons_succ,List.length_map,List.length_cons,EVA,↓reduceIte,Nat.reduceEqDiff,Nat.reduceMul,reduceCtorEq,Nat.reduceAdd,Nat.reduceSub,Nat.reduceLeDiff,Nat.reduceLT,Int.reduceToNat,Int.reduceLE,Int.reduceLT,Zc,men]
  refine⟨by omega,Za qB ?_⟩
  by_cases hB:bigOK sig (bI rdI sig p0 Q a b c d)
  rotate_left
  ·obtain⟨v1,v2⟩:=ZaY (sig:=sig) (s:=s) fun B hB2=>hB (by rw[(hrt B hB2).2];exact hB2.1)
   rw[v1,v2,Zh hB]
   simp only[Zv,ZL,zfill,zobs,Zl,Zn,List.set_cons_zero,List.set_cons_succ,List.length_map,List.length_cons,List.map_nil,EVA,↓reduceIte,Nat.reduceEqDiff,Nat.reduceMul,reduceCtorEq,Nat.reduceAdd,Nat.reduceSub,Nat.reduceLeDiff,Nat.reduceLT,Int.reduceToNat,Int.reduceLE,Int.reduceLT,Zc,men]
   try rfl
  rw[JF hB]
  have qT:=Q5 sig (bI rdI sig p0 Q a b c d) hB
  have qO:=Zdh (bI rdI sig p0 Q a b c d) (ZlS hB)
  simp only[Zb,bI,List.map_cons,List.map_nil] at qT qO
  change ∀ lvl S,Sem Proofs.Tryz.prog _ lvl _ S (iS (Ui sig (bI rdI sig p0 Q a b c d))) S at qT
  change ∀ lvl S,Sem Proofs.Tryz.prog _ lvl _ S (Zv (bI rdI sig p0 Q a b c d)) S at qO
  simp only[hcs,hcw,hcn,hct,zfill,zobs,Zl,Zn,List.set_cons_zero,List.set_cons_succ,List.length_map,List.length_cons,EVA,↓reduceIte,Nat.reduceEqDiff,Nat.reduceMul,reduceCtorEq,Nat.reduceAdd,Nat.reduceSub,Nat.reduceLeDiff,Nat.reduceLT,Int.reduceToNat,Int.reduceLE,Int.reduceLT,Zc,men]
  refine⟨by omega,Za qT ?_⟩
  by_cases hT:Ui sig (bI rdI sig p0 Q a b c d)=s
  rotate_left
  ·have eT:=eq_false hT
   obtain⟨v1,v2⟩:=ZaY (sig:=sig) (s:=s) fun B hB2=>hT (by rw[(hrt B hB2).2];exact hB2.2)
   rw[v1,v2]
   simp only[eT,Zv,ZL,ne_eq,not_false_eq_true,zfill,zobs,Zl,Zn,List.set_cons_zero,List.set_cons_succ,List.length_map,List.length_cons,List.map_nil,EVA,↓reduceIte,Nat.reduceEqDiff,Nat.reduceMul,reduceCtorEq,Nat.reduceAdd,Nat.reduceSub,Nat.reduceLeDiff,Nat.reduceLT,Int.reduceToNat,Int.reduceLE,Int.reduceLT,Zc,men]
   try rfl
  have eT:=eq_true hT
  obtain⟨v1,v2⟩:=Zka (sig:=sig) (s:=s) ⟨hB,hT⟩ fun B hB2=>(hrt B hB2).2
  rw[v1,v2]
  simp only[eT,ne_eq,not_true_eq_false,hcs,hcw,hcn,hct,zfill,zobs,Zl,Zn,List.set_cons_zero,List.set_cons_succ,List.length_map,List.length_cons,EVA,↓reduceIte,Nat.reduceEqDiff,Nat.reduceMul,reduceCtorEq,Nat.reduceAdd,Nat.reduceSub,Nat.reduceLeDiff,Nat.reduceLT,Int.reduceToNat,Int.reduceLE,Int.reduceLT,Zc,men]
  refine⟨by omega,Za qO ?_⟩
  simp only[Zv,zfill,zobs,Zl,Zn,List.set_cons_zero,List.set_cons_succ,List.length_map,List.length_cons,EVA,↓reduceIte,Nat.reduceEqDiff,Nat.reduceMul,reduceCtorEq,Nat.reduceAdd,Nat.reduceSub,Nat.reduceLeDiff,Nat.reduceLT,Int.reduceToNat,Int.reduceLE,Int.reduceLT,Zc,men]
  trace_state
  try rfl
end Go.Fd
