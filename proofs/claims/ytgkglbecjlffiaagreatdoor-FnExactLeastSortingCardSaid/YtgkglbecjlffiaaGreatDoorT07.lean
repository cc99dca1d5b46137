/-
  WHAT HOLDS OF THE HELPERS OF THE LAWS: to.. (printed by lawgen.py). Own work.
-/
import Derived.Test.YtgkglbecjlffiaaGreatDoorT06
import Derived.KernelRfl
import Derived.Test.YtgkglbecjlffiaaGreatDoorProg
set_option linter.all false
namespace Go.Fd
open Go.Proofs.Tryz renaming prog->UbR
set_option maxRecDepth 20000
theorem ZxO(x:TControl)(hb:Yd 4294967296 x)(lvl:Nat)(S:Zc):Sem UbR Zdm lvl [.ag ((ZB x).map .tr)] S (ZaS x) S:=by
 have b0:x.name.size<=4294967296:=hb
 refine Zv Zw0 (by simp [ZaS,low,men,Za]) ?_
 simp only[Zjy,ZB,zfill,zobs,UaB,UaX,QC,QD,List.set_cons_zero,List.set_cons_succ,Zb,seval,Za,men]
 rfl
theorem ZbI(a:(List TControl))(ha:a.length<=4294967296)(hb:∀ y∈a,Yd 4294967296 y)(lvl:Nat)(S:Zc):Sem UbR Ue lvl [.tr (.sl (a.map ZB))] S (.ow 3 (a.map ZB) true) S:=by
 refine Zv ZwU trivial ?_
 simp only[Zjs,Uab,bigN,Uah,Zb,seval,Za,men]
 refine⟨by omega,?_⟩
 refine Jf (α:=Unit) a.length (fun j _=>⟨lvl,[(0,.tr (.sl (a.map ZB))),(3,.hd (lvl,224) [] 0 a.length none a.length),(4,iI j)],[(224,.ar 3 (JI ZB [ts ⟨#[]⟩,tv 0,tv 0] a j) true a.length (j*0))],S⟩) (fun _ _=>True) () ⟨by simp only[Zb,seval,Za,men],by (simp only[We,Zb,seval,Za,men]) <;> rfl⟩ trivial ?_
 intro j _ hj _
 simp only[Uab,Zb,seval,Za,men]
 refine Zl (fun hlt=>?_) (fun hge=>?_)
 ·have hja:j<a.length:=by omega
  have ga:(a.map ZB)[j]? = some (ZB a[j]):=by simp [hja]
  have gz:(JI ZB [ts ⟨#[]⟩,tv 0,tv 0] a j)[j]? = some [ts ⟨#[]⟩,tv 0,tv 0]:=Wg hja
  have hfl:(JI ZB [ts ⟨#[]⟩,tv 0,tv 0] a j).length=a.length:=U9 hj
  have hsem:=fun lvl S=>ZxO a[j] (hb a[j] (Ual hja)) lvl S
  simp only[ga,gz,Uah,Uag,hja,ZB,ZaS,Nat.reduceLeDiff,Zb,↓reduceIte,Nat.reduceEqDiff,Nat.reduceMul,reduceCtorEq,Nat.reduceAdd,Nat.reduceSub,Nat.reduceLT,Int.reduceToNat,Int.reduceLE,Int.reduceLT,Za,men]
  refine Zi hsem ?_
  simp only[ZaS,gz,Uah,Uag,hja,hfl,ZG,UaY,Ubb,UaN,List.set_cons_zero,List.set_cons_succ,Ua0,ne_eq,not_false_eq_true,Zb,seval,Za,men]
  refine⟨by rw[Zh];omega,Zr () hja ?_ trivial⟩
  have hse:=Wh (c:=ZB) (z:=[ts ⟨#[]⟩,tv 0,tv 0]) (e:=[ts a[j].name,tv a[j].ports,tv a[j].kind_]) hja rfl
  rw[hse,show (j+1)*0=j*0 from by omega]
  rfl
 ·have:j=a.length:=by omega
  subst this
  rw[Wf]
  simp
theorem ZxP:Zo UbR Df (W8 (.int .i64 0))=true:=by kernel_rfl
theorem ZeA(a:(List Int))(ha:a.length<=4294967296)(lvl:Nat)(S:Zc):Sem UbR Df lvl [.tr (.sl (rI a))] S (.ow 1 (rI a) true) S:=Zuk ZxP a ha lvl S
theorem ZxQ(x:TNode)(hb:VQ 4294967296 x)(lvl:Nat)(S:Zc):Sem UbR Zd0 lvl [.ag ((ZH x).map .tr)] S (ZaT x) S:=by
 have b0:x.links.length<=4294967296:=hb
 refine Zv Zw9 (by simp [ZaT,low,men,Za]) ?_
 simp only[ZjH,ZH,zfill,zobs,UaB,UaX,QC,QD,List.set_cons_zero,List.set_cons_succ,Zb,seval,Za,men]
 refine Zi (ZeA x.links b0) ?_
 simp only[QC,QD,List.set_cons_zero,List.set_cons_succ,Ua0,Zb,seval,Za,men]
 rfl
theorem ZxR(a:(List TNode))(ha:a.length<=4294967296)(hb:∀ y∈a,VQ 4294967296 y)(lvl:Nat)(S:Zc):Sem UbR ZdH lvl [.tr (.sl (a.map ZH))] S (.ow 3 (a.map ZH) true) S:=by
 refine Zv Zw4 trivial ?_
 simp only[ZjC,Uab,bigN,Uah,Zb,seval,Za,men]
 refine⟨by omega,?_⟩
 refine Jf (α:=Unit) a.length (fun j _=>⟨lvl,[(0,.tr (.sl (a.map ZH))),(3,.hd (lvl,224) [] 0 a.length none a.length),(4,iI j)],[(224,.ar 3 (JI ZH [tv 0,tv 0,.sl []] a j) true a.length (j*1))],S⟩) (fun _ _=>True) () ⟨by simp only[Zb,seval,Za,men],by (simp only[We,Zb,seval,Za,men]) <;> rfl⟩ trivial ?_
 intro j _ hj _
 simp only[Uab,Zb,seval,Za,men]
 refine Zl (fun hlt=>?_) (fun hge=>?_)
 ·have hja:j<a.length:=by omega
  have ga:(a.map ZH)[j]? = some (ZH a[j]):=by simp [hja]
  have gz:(JI ZH [tv 0,tv 0,.sl []] a j)[j]? = some [tv 0,tv 0,.sl []]:=Wg hja
  have hfl:(JI ZH [tv 0,tv 0,.sl []] a j).length=a.length:=U9 hj
  have hsem:=fun lvl S=>ZxQ a[j] (hb a[j] (Ual hja)) lvl S
  simp only[ga,gz,Uah,Uag,hja,ZH,ZaT,Nat.reduceLeDiff,Zb,↓reduceIte,Nat.reduceEqDiff,Nat.reduceMul,reduceCtorEq,Nat.reduceAdd,Nat.reduceSub,Nat.reduceLT,Int.reduceToNat,Int.reduceLE,Int.reduceLT,Za,men]
  refine Zi hsem ?_
  simp only[ZaT,gz,Uah,Uag,hja,hfl,ZG,UaY,Ubb,UaN,List.set_cons_zero,List.set_cons_succ,Ua0,ne_eq,not_false_eq_true,Zb,seval,Za,men]
  refine⟨by rw[Zh];omega,Zr () hja ?_ trivial⟩
  have hse:=Wh (c:=ZH) (z:=[tv 0,tv 0,.sl []]) (e:=[tv a[j].control,tv a[j].parent,.sl (rI a[j].links)]) hja rfl
  rw[hse,show (j+1)*1=j*1+1 from by omega]
  rfl
 ·have:j=a.length:=by omega
  subst this
  rw[Wf]
  simp
theorem ZxS(x:TWire)(hb:VB 4294967296 x)(lvl:Nat)(S:Zc):Sem UbR Zd1 lvl [.ag ((Jc x).map .tr)] S (ZaU x) S:=by
 have b0:x.name.size<=4294967296:=hb
 refine Zv Zxa (by simp [ZaU,low,men,Za]) ?_
 simp only[ZjI,Jc,zfill,zobs,UaB,UaX,QC,QD,List.set_cons_zero,List.set_cons_succ,Zb,seval,Za,men]
 rfl
theorem ZxT(a:(List TWire))(ha:a.length<=4294967296)(hb:∀ y∈a,VB 4294967296 y)(lvl:Nat)(S:Zc):Sem UbR ZdJ lvl [.tr (.sl (a.map Jc))] S (.ow 2 (a.map Jc) true) S:=by
 refine Zv Zw5 trivial ?_
 simp only[ZjD,Uab,bigN,Uah,Zb,seval,Za,men]
 refine⟨by omega,?_⟩
 refine Jf (α:=Unit) a.length (fun j _=>⟨lvl,[(0,.tr (.sl (a.map Jc))),(3,.hd (lvl,224) [] 0 a.length none a.length),(4,iI j)],[(224,.ar 2 (JI Jc [ts ⟨#[]⟩,tv 0] a j) true a.length (j*0))],S⟩) (fun _ _=>True) () ⟨by simp only[Zb,seval,Za,men],by (simp only[We,Zb,seval,Za,men]) <;> rfl⟩ trivial ?_
 intro j _ hj _
 simp only[Uab,Zb,seval,Za,men]
 refine Zl (fun hlt=>?_) (fun hge=>?_)
 ·have hja:j<a.length:=by omega
  have ga:(a.map Jc)[j]? = some (Jc a[j]):=by simp [hja]
  have gz:(JI Jc [ts ⟨#[]⟩,tv 0] a j)[j]? = some [ts ⟨#[]⟩,tv 0]:=Wg hja
  have hfl:(JI Jc [ts ⟨#[]⟩,tv 0] a j).length=a.length:=U9 hj
  have hsem:=fun lvl S=>ZxS a[j] (hb a[j] (Ual hja)) lvl S
  simp only[ga,gz,Uah,Uag,hja,Jc,ZaU,Nat.reduceLeDiff,Zb,↓reduceIte,Nat.reduceEqDiff,Nat.reduceMul,reduceCtorEq,Nat.reduceAdd,Nat.reduceSub,Nat.reduceLT,Int.reduceToNat,Int.reduceLE,Int.reduceLT,Za,men]
  refine Zi hsem ?_
  simp only[ZaU,gz,Uah,Uag,hja,hfl,ZG,UaY,Ubb,UaN,List.set_cons_zero,List.set_cons_succ,Ua0,ne_eq,not_false_eq_true,Zb,seval,Za,men]
  refine⟨by rw[Zh];omega,Zr () hja ?_ trivial⟩
  have hse:=Wh (c:=Jc) (z:=[ts ⟨#[]⟩,tv 0]) (e:=[ts a[j].name,tv a[j].link]) hja rfl
  rw[hse,show (j+1)*0=j*0 from by omega]
  rfl
 ·have:j=a.length:=by omega
  subst this
  rw[Wf]
  simp
theorem ZxU:Zo UbR ZdI (W8 (.string ⟨#[]⟩))=true:=by kernel_rfl
theorem ZxV(a:(List ByteArray))(ha:a.length<=4294967296)(lvl:Nat)(S:Zc):Sem UbR ZdI lvl [.tr (.sl (rS a))] S (.ow 1 (rS a) true) S:=Zul ZxU a ha lvl S
theorem ZxW(x:TBigraph)(hb:YD 4294967296 x)(lvl:Nat)(S:Zc):Sem UbR Zdn lvl [.ag ((Zk x).map .tr)] S (ZaV x) S:=by
 obtain⟨b0,b1,b2,b3,b4,b5,b6⟩:=hb
 refine Zv Zw1 (by simp [ZaV,low,men,Za]) ?_
 simp only[Zjz,Zk,zfill,zobs,UaB,UaX,QC,QD,List.set_cons_zero,List.set_cons_succ,Zb,seval,Za,men]
 refine Zi (ZxR x.nodes b0 b1) ?_
 simp only[QC,QD,List.set_cons_zero,List.set_cons_succ,Ua0,Zb,seval,Za,men]
 refine Zi (ZeA x.sites b2) ?_
 simp only[QC,QD,List.set_cons_zero,List.set_cons_succ,Ua0,Zb,seval,Za,men]
 refine Zi (ZxV x.outer b3) ?_
 simp only[QC,QD,List.set_cons_zero,List.set_cons_succ,Ua0,Zb,seval,Za,men]
 refine Zi (ZxT x.inner b5 b6) ?_
 simp only[QC,QD,List.set_cons_zero,List.set_cons_succ,Ua0,Zb,seval,Za,men]
 rfl
theorem ZbJ(a:(List TBigraph))(ha:a.length<=4294967296)(hb:∀ y∈a,YD 4294967296 y)(lvl:Nat)(S:Zc):Sem UbR Ug lvl [.tr (.sl (a.map Zk))] S (.ow 6 (a.map Zk) true) S:=by
 refine Zv ZwW trivial ?_
 simp only[Zju,Uab,bigN,Uah,Zb,seval,Za,men]
 refine⟨by omega,?_⟩
 refine Jf (α:=Unit) a.length (fun j _=>⟨lvl,[(0,.tr (.sl (a.map Zk))),(3,.hd (lvl,224) [] 0 a.length none a.length),(4,iI j)],[(224,.ar 6 (JI Zk [tv 0,.sl [],.sl [],tv 0,.sl [],.sl []] a j) true a.length (j*4))],S⟩) (fun _ _=>True) () ⟨by simp only[Zb,seval,Za,men],by (simp only[We,Zb,seval,Za,men]) <;> rfl⟩ trivial ?_
 intro j _ hj _
 simp only[Uab,Zb,seval,Za,men]
 refine Zl (fun hlt=>?_) (fun hge=>?_)
 ·have hja:j<a.length:=by omega
  have ga:(a.map Zk)[j]? = some (Zk a[j]):=by simp [hja]
  have gz:(JI Zk [tv 0,.sl [],.sl [],tv 0,.sl [],.sl []] a j)[j]? = some [tv 0,.sl [],.sl [],tv 0,.sl [],.sl []]:=Wg hja
  have hfl:(JI Zk [tv 0,.sl [],.sl [],tv 0,.sl [],.sl []] a j).length=a.length:=U9 hj
  have hsem:=fun lvl S=>ZxW a[j] (hb a[j] (Ual hja)) lvl S
  simp only[ga,gz,Uah,Uag,hja,Zk,ZaV,Nat.reduceLeDiff,Zb,↓reduceIte,Nat.reduceEqDiff,Nat.reduceMul,reduceCtorEq,Nat.reduceAdd,Nat.reduceSub,Nat.reduceLT,Int.reduceToNat,Int.reduceLE,Int.reduceLT,Za,men]
  refine Zi hsem ?_
  simp only[ZaV,gz,Uah,Uag,hja,hfl,ZG,UaY,Ubb,UaN,List.set_cons_zero,List.set_cons_succ,Ua0,ne_eq,not_false_eq_true,Zb,seval,Za,men]
  refine⟨by rw[Zh];omega,Zr () hja ?_ trivial⟩
  have hse:=Wh (c:=Zk) (z:=[tv 0,.sl [],.sl [],tv 0,.sl [],.sl []]) (e:=[tv a[j].roots,.sl ((a[j].nodes).map ZH),.sl (rI a[j].sites),tv a[j].edges,.sl (rS a[j].outer),.sl ((a[j].inner).map Jc)]) hja rfl
  rw[hse,show (j+1)*4=j*4+1+1+1+1 from by omega]
  rfl
 ·have:j=a.length:=by omega
  subst this
  rw[Wf]
  simp
theorem ZbK(a:(List (List Int)))(ha:a.length<=4294967296)(hb:∀ y∈a,y.length<=4294967296)(lvl:Nat)(S:Zc):Sem UbR Uf lvl [.tr (.sl (a.map (fun l=>[Tr.sl (rI l)])))] S (.ow 1 (a.map (fun l=>[Tr.sl (rI l)])) true) S:=by
 refine Zv ZwV trivial ?_
 simp only[Zjt,Uab,bigN,Uah,Zb,seval,Za,men]
 refine⟨by omega,?_⟩
 refine Jf (α:=Unit) a.length (fun j _=>⟨lvl,[(0,.tr (.sl (a.map (fun l=>[Tr.sl (rI l)])))),(3,.hd (lvl,224) [] 0 a.length none a.length),(4,iI j)],[(224,.ar 1 (JI (fun l=>[Tr.sl (rI l)]) [.sl []] a j) true a.length (j*1))],S⟩) (fun _ _=>True) () ⟨by simp only[Zb,seval,Za,men],by (simp only[We,Zb,seval,Za,men]) <;> rfl⟩ trivial ?_
 intro j _ hj _
 simp only[Uab,Zb,seval,Za,men]
 refine Zl (fun hlt=>?_) (fun hge=>?_)
 ·have hja:j<a.length:=by omega
  have ga:(a.map (fun l=>[Tr.sl (rI l)]))[j]? = some ((fun l=>[Tr.sl (rI l)]) a[j]):=by simp [hja]
  have gz:(JI (fun l=>[Tr.sl (rI l)]) [.sl []] a j)[j]? = some [.sl []]:=Wg hja
  have hfl:(JI (fun l=>[Tr.sl (rI l)]) [.sl []] a j).length=a.length:=U9 hj
  have hsem:=fun lvl S=>ZeA a[j] (hb a[j] (Ual hja)) lvl S
  simp only[ga,gz,Uah,Uag,hja,Nat.reduceLeDiff,Zb,↓reduceIte,Nat.reduceEqDiff,Nat.reduceMul,reduceCtorEq,Nat.reduceAdd,Nat.reduceSub,Nat.reduceLT,Int.reduceToNat,Int.reduceLE,Int.reduceLT,Za,men]
  refine Zi hsem ?_
  simp only[gz,Uah,Uag,hja,hfl,ZG,UaY,Ubb,UaN,List.set_cons_zero,List.set_cons_succ,Ua0,ne_eq,not_false_eq_true,Zb,seval,Za,men]
  refine⟨by rw[Zh];omega,Zr () hja ?_ trivial⟩
  have hse:=Wh (c:=(fun l=>[Tr.sl (rI l)])) (z:=[.sl []]) (e:=[.sl (rI a[j])]) hja rfl
  rw[hse,show (j+1)*1=j*1+1 from by omega]
  rfl
 ·have:j=a.length:=by omega
  subst this
  rw[Wf]
  simp
theorem ZjY:∀ l:List A2,nL Jl l=2*l.length
 | []=>rfl
 | x::r=>by
  simp only[nL,Jl,ZjY r,List.length_cons]
  omega
theorem ZxX{a b:Nat}{x:TSorting}(hab:a<=b)(h:VC a x):VC b x :=
 ⟨UaA h.1 hab,UaA h.2.1 hab,fun y hy=>UaA (h.2.2.1 y hy) hab,UaA h.2.2.2.1 hab,fun y hy=>UaA (h.2.2.2.2.1 y hy) hab,UaA h.2.2.2.2.2.1 hab,UaA h.2.2.2.2.2.2 hab⟩
theorem ZxY{x:TSorting}(h:VC 12 x):VC 4294967296 x/\1+(YZ x:Int)<=4611686018427387904:=by
 refine⟨ZxX (by omega) h,?_⟩
 obtain⟨b1,b2,b3,b4,b5,b6,b7⟩:=h
 have n1:=ZjP (B:=12) x.nest b3
 have n2:=ZjP (B:=12) x.sorts b5
 simp only[YZ,Zex,ZjY] at *
 omega
theorem ZxZ(sig:List TControl)(sorts:List (List Int))(many:Int)(gs:List TBigraph)(_hn:sig.length<=4294967296)(_hbs:∀ y∈sig,Yd 4294967296 y)(_hs:sorts.length<=4294967296)(_hss:∀ y∈sorts,y.length<=4294967296)(_hg:gs.length<=4294967296)(_hgb:∀ y∈gs,YD 4294967296 y):VC 4294967296 (J1 sig sorts many gs)/\1+(YZ (J1 sig sorts many gs):Int)<=4611686018427387904:=by
 refine ZxY ?_
 unfold J1
 split
 ·rename_i h
  obtain⟨h1,h2,h3,h4⟩:=h
  have ht:allOK sig (gs.take gs.length):=by rw[Uaz];exact h4
  have e1:=ZbC ht (Uag _)
  have e2:=DD ht (Uag _)
  have e3:=XT (n:=sig.length) (gs:=gs) (Uag _)
  have e4:=Ww (s0:=J0 sig sorts many.toNat) (gs:=gs) (Uag _)
  rw[Uaz] at e1 e2 e3 e4
  rw[XU] at e4
  have hs6:=h3.sg.2.2
  have hb:=base_iff.1 h3
  have hM4:many.toNat<=4:=by omega
  refine⟨UaA e1.len (by omega),by show (nG sig.length gs).length<=12;omega,fun y hy=>UaA (e2 y hy).len (by omega),by show sorts.length<=12;have:=hb.2.1.1;omega,fun y hy=>?_,by show (mG _ gs).length<=12;omega,Zi2 (by rw[XU];exact hM4)⟩
  obtain⟨k,hk,rfl⟩:=UaU hy
  have hk':k<sorts.length:=hk
  have hk2:k<sig.length:=by have:=hb.2.1.1;omega
  have g1:=(hb.2.1.2 k hk' hk2).1
  have g2:=((hb.1.1 k hk2).1).2.1
  show sorts[k].length<=12
  omega
 ·exact⟨by simp [VY],by simp [VY],by simp [VY],by simp [VY],by simp [VY],by simp [VY],by simp [VY]⟩
set_option maxHeartbeats 4000000 in
theorem Zx0(x0:(List TControl))(x1:(List (List Int)))(x2:Int)(x3:(List TBigraph))(hb0_0:x0.length<=9223372036854775807)(hb0_1:∀ y∈x0,Yd 9223372036854775807 y)(hb1_0:x1.length<=9223372036854775807)(hb1_1:∀ y∈x1,y.length<=9223372036854775807)(hb3_0:x3.length<=9223372036854775807)(hb3_1:∀ y∈x3,YD 9223372036854775807 y)(hf3:∀ y∈x3,Ud y)(lvl:Nat)(S:Zc):Sem UbR Zhe lvl [.tr (.sl (x0.map ZB)),.tr (.sl (x1.map (fun l=>[Tr.sl (rI l)]))),iI x2,.tr (.sl (x3.map Zk))] S (iB true) S:=by
 refine Zv Zwx trivial ?_
 simp only[Zjd,Uab,JC,JB,Jm,ne_eq,not_true_eq_false,bne_self_eq_false,ZJ,Jt,Zb,seval,Za,men]
 have ul:(1048576:Int)<=1048576:=Ubd _
 obtain⟨_,ha0⟩:=Zxm x0 hb0_0 hb0_1 (1048576) (by omega) (by omega)
 refine Zi ha0 ?_
 simp only[Uab,JC,JB,Jm,ne_eq,not_true_eq_false,bne_self_eq_false,ZJ,Jt,Zb,seval,Za,men]
 refine Zl (fun _=>trivial) (fun hz0=>?_)
 have zp0:=(Ui (f:=YC) (fun y=>(Zvs y)) x0) (1048576) (by omega) (by omega)
 have zq0:=(Uc (f:=YC) (n:=Y8) (fun y=>Xa (Zxg y) (by omega)) x0) (1048576) (by omega) (by omega)
 simp only at zp0 zq0
 have hp0:=zp0.2 (by omega)
 have hq0:=zq0.2 (by omega)
 obtain⟨hs0_0,hs0_1⟩:=hp0
 obtain⟨_,ha1⟩:=Zxu x1 hb1_0 hb1_1 (Jn YC x0 (1048576)) (by omega) (by omega)
 refine Zi ha1 ?_
 simp only[Uab,JC,JB,Jm,ne_eq,not_true_eq_false,bne_self_eq_false,ZJ,Jt,Zb,seval,Za,men]
 refine Zl (fun _=>trivial) (fun hz1=>?_)
 have zp1:=(Ui (f:=fun y m=>(Yf y.length m)) (P:=fun y=>y.length<=4294967296) (fun y=>(Zei y.length)) x1) (Jn YC x0 (1048576)) (by omega) (by omega)
 have zq1:=(Uc (f:=fun x m=>(Yf x.length m)) (n:=ZM) (fun y=>Xa (Zc4 ZF (fun _=>(by decide:1<=256)) y) (by simp only[ZM];omega)) x1) (Jn YC x0 (1048576)) (by omega) (by omega)
 simp only at zp1 zq1
 have hp1:=zp1.2 (by omega)
 have hq1:=zq1.2 (by omega)
 obtain⟨hs1_0,hs1_1⟩:=hp1
 obtain⟨_,ha3⟩:=Zxs x3 hb3_0 hb3_1 (Jn (fun x m=>(Yf x.length m)) x1 (Jn YC x0 (1048576))) (by omega) (by omega)
 refine Zi ha3 ?_
 simp only[Uab,JC,JB,Jm,ne_eq,not_true_eq_false,bne_self_eq_false,ZJ,Jt,Zb,seval,Za,men]
 refine Zl (fun _=>trivial) (fun hz3=>?_)
 have zp3:=(Ui (f:=VU) (fun y=>(Zvv y)) x3) (Jn (fun x m=>(Yf x.length m)) x1 (Jn YC x0 (1048576))) (by omega) (by omega)
 have zq3:=(Uc (f:=VU) (n:=Vq) (fun y=>Xa (Zxj y) (by omega)) x3) (Jn (fun x m=>(Yf x.length m)) x1 (Jn YC x0 (1048576))) (by omega) (by omega)
 simp only at zp3 zq3
 have hp3:=zp3.2 (by omega)
 have hq3:=zq3.2 (by omega)
 obtain⟨hs3_0,hs3_1⟩:=hp3
 refine Zi (ZbI x0 hs0_0 hs0_1) ?_
 simp only[Uab,JC,JB,Jm,ne_eq,not_true_eq_false,bne_self_eq_false,ZJ,Jt,Zb,seval,Za,men]
 refine Zi (ZbK x1 hs1_0 hs1_1) ?_
 simp only[Uab,JC,JB,Jm,ne_eq,not_true_eq_false,bne_self_eq_false,ZJ,Jt,Zb,seval,Za,men]
 refine Zi (ZbJ x3 hs3_0 hs3_1) ?_
 simp only[Uab,JC,JB,Jm,ne_eq,not_true_eq_false,bne_self_eq_false,ZJ,Jt,Zb,seval,Za,men]
 refine Zi (Zww x0 x1 x2 x3 hs0_0 hs0_1 hs1_0 hs1_1 hs3_0 hs3_1 hf3) ?_
 simp only[Uab,JC,JB,Jm,ne_eq,not_true_eq_false,bne_self_eq_false,ZJ,Jt,Zb,seval,Za,men]
 refine Zi (ZbI x0 hs0_0 hs0_1) ?_
 simp only[Uab,JC,JB,Jm,ne_eq,not_true_eq_false,bne_self_eq_false,ZJ,Jt,Zb,seval,Za,men]
 refine Zi (ZbK x1 hs1_0 hs1_1) ?_
 simp only[Uab,JC,JB,Jm,ne_eq,not_true_eq_false,bne_self_eq_false,ZJ,Jt,Zb,seval,Za,men]
 refine Zi (ZbJ x3 hs3_0 hs3_1) ?_
 simp only[Uab,JC,JB,Jm,ne_eq,not_true_eq_false,bne_self_eq_false,ZJ,Jt,Zb,seval,Za,men]
 refine Zi (Zja x0 x1 x2 x3 hs0_0 hs0_1 hs1_0 hs1_1 hs3_0 hs3_1 hf3) ?_
 simp only[Uab,JC,JB,Jm,ne_eq,not_true_eq_false,bne_self_eq_false,ZJ,Jt,Zb,seval,Za,men]
 obtain⟨hr0_0,hrn⟩:=ZxZ x0 x1 x2 x3 hs0_0 hs0_1 hs1_0 hs1_1 hs3_0 hs3_1
 refine Zi (Zez (J1 x0 x1 x2 x3) (J1 x0 x1 x2 x3) (Zek hr0_0)) ?_
 simp only[Uab,JC,JB,Jm,ne_eq,not_true_eq_false,bne_self_eq_false,ZJ,Jt,Zb,seval,Za,men]
 refine Zi (ZbI x0 hs0_0 hs0_1) ?_
 simp only[Uab,JC,JB,Jm,ne_eq,not_true_eq_false,bne_self_eq_false,ZJ,Jt,Zb,seval,Za,men]
 refine Zi (Zxx x0 x0 hb0_0 hb0_1) ?_
 simp only[Uab,JC,JB,Jm,ne_eq,not_true_eq_false,bne_self_eq_false,ZJ,Jt,Zb,seval,Za,men]
 refine Zi (ZbK x1 hs1_0 hs1_1) ?_
 simp only[Uab,JC,JB,Jm,ne_eq,not_true_eq_false,bne_self_eq_false,ZJ,Jt,Zb,seval,Za,men]
 refine Zi (Zey x1 x1 hb1_0 hb1_1) ?_
 simp only[Uab,JC,JB,Jm,ne_eq,not_true_eq_false,bne_self_eq_false,ZJ,Jt,Zb,seval,Za,men]
 refine Zi (ZbJ x3 hs3_0 hs3_1) ?_
 simp only[Uab,JC,JB,Jm,ne_eq,not_true_eq_false,bne_self_eq_false,ZJ,Jt,Zb,seval,Za,men]
 refine Zi (ZxJ x3 x3 hb3_0 hb3_1) ?_
 simp only[Uab,JC,JB,Jm,ne_eq,not_true_eq_false,bne_self_eq_false,ZJ,Jt,Zb,seval,Za,men]
 simp only[J2]
 refine Zc3 ZwS (a:=x0) rfl (by omega) (by omega) hs0_0 hs0_1 ?_
 simp only[Uab,JC,JB,Jm,ne_eq,not_true_eq_false,bne_self_eq_false,ZJ,Jt,Zb,seval,Za,men]
 simp only[J2]
 refine Zc3 Zeu (a:=x1) rfl (by omega) (by omega) hs1_0 hs1_1 ?_
 simp only[Uab,JC,JB,Jm,ne_eq,not_true_eq_false,bne_self_eq_false,ZJ,Jt,Zb,seval,Za,men]
 simp only[J2]
 refine Zc3 ZwT (a:=x3) rfl (by omega) (by omega) hs3_0 hs3_1 ?_
 simp only[Uab,JC,JB,Jm,ne_eq,not_true_eq_false,bne_self_eq_false,ZJ,Jt,Zb,seval,Za,men]
 have hk0:¬ (1+(nL Y8 x0:Nat)+(nL ZM x1:Nat)+(nL Vq x3:Nat)<(0:Int)):=by omega
 simp only[hk0,Uab,JC,JB,Jm,ne_eq,not_true_eq_false,bne_self_eq_false,ZJ,Jt,Zb,seval,Za,men]
 refine Zi (Zez (J1 x0 x1 x2 x3) (J1 x0 x1 x2 x3) (Zek hr0_0)) ?_
 simp only[Uab,JC,JB,Jm,ne_eq,not_true_eq_false,bne_self_eq_false,ZJ,Jt,Zb,seval,Za,men]
 simp only[J2]
 refine Zxe (x:=(J1 x0 x1 x2 x3)) (by decide) (by decide) (by decide) (by decide) (by decide) (by decide) (by decide) (by decide) (by decide) (by decide) rfl rfl rfl rfl rfl (by omega) (by omega) hr0_0 ?_
 simp only[Uab,JC,JB,Jm,ne_eq,not_true_eq_false,bne_self_eq_false,ZJ,Jt,Zb,seval,Za,men]
 refine Zi (ZjN (J1 x0 x1 x2 x3) (1) hr0_0 (by omega) (by omega)) ?_
 have hh0:¬ (1+(YZ (J1 x0 x1 x2 x3):Nat)<(0:Int)):=by omega
 simp only[hh0,Uab,JC,JB,Jm,ne_eq,not_true_eq_false,bne_self_eq_false,ZJ,Jt,Zb,seval,Za,men]
 refine Zi (ZbI x0 hs0_0 hs0_1) ?_
 simp only[Uab,JC,JB,Jm,ne_eq,not_true_eq_false,bne_self_eq_false,ZJ,Jt,Zb,seval,Za,men]
 refine Zi (ZbK x1 hs1_0 hs1_1) ?_
 simp only[Uab,JC,JB,Jm,ne_eq,not_true_eq_false,bne_self_eq_false,ZJ,Jt,Zb,seval,Za,men]
 refine Zi (ZbJ x3 hs3_0 hs3_1) ?_
 simp only[Uab,JC,JB,Jm,ne_eq,not_true_eq_false,bne_self_eq_false,ZJ,Jt,Zb,seval,Za,men]
 refine Zi (Zja x0 x1 x2 x3 hs0_0 hs0_1 hs1_0 hs1_1 hs3_0 hs3_1 hf3) ?_
 simp only[Uab,JC,JB,Jm,ne_eq,not_true_eq_false,bne_self_eq_false,ZJ,Jt,Zb,seval,Za,men]
 refine Zi (Zez (J1 x0 x1 x2 x3) (J1 x0 x1 x2 x3) (Zek hr0_0)) ?_
 simp only[Uab,JC,JB,Jm,ne_eq,not_true_eq_false,bne_self_eq_false,ZJ,Jt,Zb,seval,Za,men]
 refine Zi (ZjN (J1 x0 x1 x2 x3) (1) hr0_0 (by omega) (by omega)) ?_
 have hh0:¬ (1+(YZ (J1 x0 x1 x2 x3):Nat)<(0:Int)):=by omega
 simp only[hh0,Uab,JC,JB,Jm,ne_eq,not_true_eq_false,bne_self_eq_false,ZJ,Jt,Zb,seval,Za,men]
theorem ZeB:J4 UbR 9 (fun n:ByteArray=>[ts n]) (fun n=>n.size<=9223372036854775807):=ZtA Proofs.Tryz.underlying9
theorem XX:J4 UbR 3 (fun n:Int=>[tv n]) (Jq .i64):=Ztz Proofs.Tryz.underlying3
theorem Zx1:J4 UbR 49 ZB (fun x=>Yd 9223372036854775807 x/\Zhd x):=ZaM (ZaL Proofs.Tryz.underlying49 (show XG UbR 0 [(0,9),(1,3),(2,3)] _ _ from (Vk (k:=1) (by kernel_rfl) (fun _=>rfl) ZeB (Vk (k:=1) (by kernel_rfl) (fun _=>rfl) XX (Vk (k:=1) (by kernel_rfl) (fun _=>rfl) XX ZaK))))) (fun p=>TControl.mk p.1 p.2.1 p.2.2.1) (fun _=>rfl) (fun x h=>⟨h.1,⟨h.2.1,h.2.2.1⟩⟩)
theorem Zx2:J4 UbR 22 (fun l:List TControl=>[Tr.sl (l.map ZB)]) (fun l=>l.length<=9223372036854775807/\∀ x∈l,(fun x=>Yd 9223372036854775807 x/\Zhd x) x):=Wd (k:=2) Proofs.Tryz.underlying22 (by kernel_rfl) (fun _=>rfl) Zx1
theorem ZeC:J4 UbR 28 (fun l:List Int=>[Tr.sl (l.map (fun n:Int=>[tv n]))]) (fun l=>l.length<=9223372036854775807/\∀ x∈l,(Jq .i64) x):=Wd (k:=0) Proofs.Tryz.underlying28 (by kernel_rfl) (fun _=>rfl) XX
theorem Zx3:J4 UbR 23 (fun l:List (List Int)=>[Tr.sl (l.map (fun l:List Int=>[Tr.sl (l.map (fun n:Int=>[tv n]))]))]) (fun l=>l.length<=9223372036854775807/\∀ x∈l,(fun l=>l.length<=9223372036854775807/\∀ x∈l,(Jq .i64) x) x):=Wd (k:=0) Proofs.Tryz.underlying23 (by kernel_rfl) (fun _=>rfl) ZeC
theorem Zx4:J4 UbR 127 ZH (fun x=>VQ 9223372036854775807 x/\Zc5 x):=ZaM (ZaL Proofs.Tryz.underlying127 (show XG UbR 0 [(0,3),(1,3),(2,28)] _ _ from (Vk (k:=1) (by kernel_rfl) (fun _=>rfl) XX (Vk (k:=1) (by kernel_rfl) (fun _=>rfl) XX (Vk (k:=1) (by kernel_rfl) (fun _=>rfl) ZeC ZaK))))) (fun p=>TNode.mk p.1 p.2.1 p.2.2.1) (fun _=>rfl) (fun x h=>⟨h.2.2.1.1,⟨h.1,h.2.1,(fun y hy=>(h.2.2.1.2 y hy))⟩⟩)
theorem Zx5:J4 UbR 52 (fun l:List TNode=>[Tr.sl (l.map ZH)]) (fun l=>l.length<=9223372036854775807/\∀ x∈l,(fun x=>VQ 9223372036854775807 x/\Zc5 x) x):=Wd (k:=2) Proofs.Tryz.underlying52 (by kernel_rfl) (fun _=>rfl) Zx4
theorem Zx6:J4 UbR 53 (fun l:List ByteArray=>[Tr.sl (l.map (fun n:ByteArray=>[ts n]))]) (fun l=>l.length<=9223372036854775807/\∀ x∈l,(fun n=>n.size<=9223372036854775807) x):=Wd (k:=0) Proofs.Tryz.underlying53 (by kernel_rfl) (fun _=>rfl) ZeB
theorem Zx7:J4 UbR 129 Jc (fun x=>VB 9223372036854775807 x/\Zc6 x):=ZaM (ZaL Proofs.Tryz.underlying129 (show XG UbR 0 [(0,9),(1,3)] _ _ from (Vk (k:=1) (by kernel_rfl) (fun _=>rfl) ZeB (Vk (k:=1) (by kernel_rfl) (fun _=>rfl) XX ZaK)))) (fun p=>TWire.mk p.1 p.2.1) (fun _=>rfl) (fun x h=>⟨h.1,h.2.1⟩)
theorem Zx8:J4 UbR 54 (fun l:List TWire=>[Tr.sl (l.map Jc)]) (fun l=>l.length<=9223372036854775807/\∀ x∈l,(fun x=>VB 9223372036854775807 x/\Zc6 x) x):=Wd (k:=1) Proofs.Tryz.underlying54 (by kernel_rfl) (fun _=>rfl) Zx7
theorem Zx9:J4 UbR 56 Zk (fun x=>YD 9223372036854775807 x/\Ud x):=ZaM (ZaL Proofs.Tryz.underlying56 (show XG UbR 0 [(0,3),(1,52),(2,28),(3,3),(4,53),(5,54)] _ _ from (Vk (k:=1) (by kernel_rfl) (fun _=>rfl) XX (Vk (k:=1) (by kernel_rfl) (fun _=>rfl) Zx5 (Vk (k:=1) (by kernel_rfl) (fun _=>rfl) ZeC (Vk (k:=1) (by kernel_rfl) (fun _=>rfl) XX (Vk (k:=1) (by kernel_rfl) (fun _=>rfl) Zx6 (Vk (k:=1) (by kernel_rfl) (fun _=>rfl) Zx8 ZaK)))))))) (fun p=>TBigraph.mk p.1 p.2.1 p.2.2.1 p.2.2.2.1 p.2.2.2.2.1 p.2.2.2.2.2.1) (fun _=>rfl) (fun x h=>⟨⟨h.2.1.1,(fun y hy=>(h.2.1.2 y hy).1),h.2.2.1.1,h.2.2.2.2.1.1,(fun y hy=>(h.2.2.2.2.1.2 y hy)),h.2.2.2.2.2.1.1,(fun y hy=>(h.2.2.2.2.2.1.2 y hy).1)⟩,⟨h.1,(fun y hy=>(h.2.1.2 y hy).2),(fun y hy=>(h.2.2.1.2 y hy)),h.2.2.2.1,(fun y hy=>(h.2.2.2.2.2.1.2 y hy).2)⟩⟩)
theorem Zya:J4 UbR 24 (fun l:List TBigraph=>[Tr.sl (l.map Zk)]) (fun l=>l.length<=9223372036854775807/\∀ x∈l,(fun x=>YD 9223372036854775807 x/\Ud x) x):=Wd (k:=5) Proofs.Tryz.underlying24 (by kernel_rfl) (fun _=>rfl) Zx9
end Go.Fd
