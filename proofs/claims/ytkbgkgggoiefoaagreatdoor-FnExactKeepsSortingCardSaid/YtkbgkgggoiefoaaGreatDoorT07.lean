/-
  WHAT HOLDS OF THE HELPERS OF THE LAWS: to.. (printed by lawgen.py). Own work.
-/
import Derived.Test.YtkbgkgggoiefoaaGreatDoorT06
import Derived.KernelRfl
import Derived.Test.YtkbgkgggoiefoaaGreatDoorProg
set_option linter.all false
namespace Go.Fd
set_option maxRecDepth 20000
theorem Zkv:ZH Proofs.Tryz.prog Jb (ZmC (.int .i64 0))=true:=by kernel_rfl
theorem QU(a:(List Int))(ha:a.length<=4294967296)(lvl:Nat)(S:Sto):Sem Proofs.Tryz.prog Jb lvl [.tr (.sl (rI a))] S (.ow 1 (rI a) true) S:=Zmd Zkv a ha lvl S
theorem ZcB(a:(List (List Int)))(ha:a.length<=4294967296)(hb:∀ y∈a,y.length<=4294967296)(lvl:Nat)(S:Sto):Sem Proofs.Tryz.prog YL lvl [.tr (.sl (a.map (fun l=>[Tr.sl (rI l)])))] S (.ow 1 (a.map (fun l=>[Tr.sl (rI l)])) true) S:=by
 refine Zb ZcU trivial ?_
 simp only[U7,List.length_map,bigN,Int.natCast_nonneg,EVA,seval,Zc,men]
 refine⟨by omega,?_⟩
 refine ZI (α:=Unit) a.length (fun j _=>⟨lvl,[(0,.tr (.sl (a.map (fun l=>[Tr.sl (rI l)])))),(3,.hd (lvl,224) [] 0 a.length none a.length),(4,iI j)],[(224,.ar 1 (Jo (fun l=>[Tr.sl (rI l)]) [.sl []] a j) true a.length (j*1))],S⟩) (fun _ _=>True) () ⟨by simp only[EVA,seval,Zc,men],by (simp only[YU,EVA,seval,Zc,men]) <;> rfl⟩ trivial ?_
 intro j _ hj _
 simp only[List.length_map,EVA,seval,Zc,men]
 refine Zj (fun hlt=>?_) (fun hge=>?_)
 ·have hja:j<a.length:=by omega
  have ga:(a.map (fun l=>[Tr.sl (rI l)]))[j]? = some ((fun l=>[Tr.sl (rI l)]) a[j]):=by simp [hja]
  have gz:(Jo (fun l=>[Tr.sl (rI l)]) [.sl []] a j)[j]? = some [.sl []]:=VU hja
  have hfl:(Jo (fun l=>[Tr.sl (rI l)]) [.sl []] a j).length=a.length:=Vl hj
  have hsem:=fun lvl S=>QU a[j] (hb a[j] (List.getElem_mem hja)) lvl S
  simp only[ga,gz,Int.natCast_nonneg,Nat.le_refl,hja,Nat.reduceLeDiff,EVA,↓reduceIte,Nat.reduceEqDiff,Nat.reduceMul,reduceCtorEq,Nat.reduceAdd,Nat.reduceSub,Nat.reduceLT,Int.reduceToNat,Int.reduceLE,Int.reduceLT,Zc,men]
  refine Za hsem ?_
  simp only[gz,Int.natCast_nonneg,Nat.le_refl,hja,hfl,Y2,List.getElem?_set_self,List.set_set,List.length_set,List.set_cons_zero,List.set_cons_succ,Prod.mk.injEq,ne_eq,not_false_eq_true,EVA,seval,Zc,men]
  refine⟨by rw[Zd];omega,Ze () hja ?_ trivial⟩
  have hse:=VV (c:=(fun l=>[Tr.sl (rI l)])) (z:=[.sl []]) (e:=[.sl (rI a[j])]) hja rfl
  rw[hse,show (j+1)*1=j*1+1 from by omega]
  rfl
 ·have:j=a.length:=by omega
  subst this
  rw[VT]
  simp
def oA2(x:(Int×Int)):IV:=.ag [iI x.1,iI x.2]
theorem ZgA(x:(Int×Int))(lvl:Nat)(S:Sto):Sem Proofs.Tryz.prog Qv lvl [.ag ((cA2 x).map .tr)] S (oA2 x) S:=by
 refine Zb ZcV (by simp [oA2,low,men,Zc]) ?_
 simp only[U8,cA2,zfill,zobs,List.map_cons,List.map_nil,EVA,seval,Zc,men]
 refine ZI (α:=Unit) 2 (fun j _=>⟨lvl,[(1,.ta (cA2 x)),(2,.ab (lvl,64) 0),(3,.ab (lvl,96) 0),(4,iI j)],[(64,.bx [iI 0,iI 0]),(96,.bx ([iI x.1,iI x.2].take j++[iI 0,iI 0].drop j))],S⟩) (fun _ _=>True) () ⟨by simp only[EVA,seval,Zc,men],by (simp only[EVA,seval,Zc,men]) <;> rfl⟩ trivial ?_
 intro j _ hj _
 have hc:j=0\/j=1\/j=2:=by omega
 rcases hc with rfl | rfl | rfl
 ·simp only[cA2,Int.cast_ofNat_Int,Int.natCast_zero,Nat.zero_mul,Nat.one_mul,Nat.mul_one,ZM,ZN,List.set_cons_zero,List.set_cons_succ,EVA,seval,Zc,men]
  exact⟨by rw[Zd];omega,Ze (N:=2) (k:=0) () (by omega) rfl trivial⟩
 ·simp only[cA2,Int.cast_ofNat_Int,Int.natCast_zero,Nat.zero_mul,Nat.one_mul,Nat.mul_one,ZM,ZN,List.set_cons_zero,List.set_cons_succ,EVA,seval,Zc,men]
  exact⟨by rw[Zd];omega,Ze (N:=2) (k:=1) () (by omega) rfl trivial⟩
 ·simp only[cA2,Int.cast_ofNat_Int,ZM,ZN,List.set_cons_zero,List.set_cons_succ,EVA,seval,Zc,men]
  rfl
theorem ZfP(a:(List (Int×Int)))(ha:a.length<=4294967296)(lvl:Nat)(S:Sto):Sem Proofs.Tryz.prog VY lvl [.tr (.sl (a.map cA2))] S (.ow 2 (a.map cA2) true) S:=by
 refine Zb Zcx trivial ?_
 simp only[Ut,List.length_map,bigN,Int.natCast_nonneg,EVA,seval,Zc,men]
 refine⟨by omega,?_⟩
 refine ZI (α:=Unit) a.length (fun j _=>⟨lvl,[(0,.tr (.sl (a.map cA2))),(3,.hd (lvl,224) [] 0 a.length none a.length),(4,iI j)],[(224,.ar 2 (Jo cA2 [tv 0,tv 0] a j) true a.length (j*0))],S⟩) (fun _ _=>True) () ⟨by simp only[EVA,seval,Zc,men],by (simp only[YU,EVA,seval,Zc,men]) <;> rfl⟩ trivial ?_
 intro j _ hj _
 simp only[List.length_map,EVA,seval,Zc,men]
 refine Zj (fun hlt=>?_) (fun hge=>?_)
 ·have hja:j<a.length:=by omega
  have ga:(a.map cA2)[j]? = some (cA2 a[j]):=by simp [hja]
  have gz:(Jo cA2 [tv 0,tv 0] a j)[j]? = some [tv 0,tv 0]:=VU hja
  have hfl:(Jo cA2 [tv 0,tv 0] a j).length=a.length:=Vl hj
  have hsem:=fun lvl S=>ZgA a[j] lvl S
  simp only[ga,gz,Int.natCast_nonneg,Nat.le_refl,hja,cA2,oA2,Nat.reduceLeDiff,EVA,↓reduceIte,Nat.reduceEqDiff,Nat.reduceMul,reduceCtorEq,Nat.reduceAdd,Nat.reduceSub,Nat.reduceLT,Int.reduceToNat,Int.reduceLE,Int.reduceLT,Zc,men]
  refine Za hsem ?_
  simp only[oA2,gz,Int.natCast_nonneg,Nat.le_refl,hja,hfl,Y2,List.getElem?_set_self,List.set_set,List.length_set,List.set_cons_zero,List.set_cons_succ,Prod.mk.injEq,ne_eq,not_false_eq_true,EVA,seval,Zc,men]
  refine⟨by rw[Zd];omega,Ze () hja ?_ trivial⟩
  have hse:=VV (c:=cA2) (z:=[tv 0,tv 0]) (e:=[tv a[j].1,tv a[j].2]) hja rfl
  rw[hse,show (j+1)*0=j*0 from by omega]
  rfl
 ·have:j=a.length:=by omega
  subst this
  rw[VT]
  simp
theorem Wu(x:TSorting)(hb:Jv 4294967296 x)(lvl:Nat)(S:Sto):Sem Proofs.Tryz.prog Jx lvl [.ag ((Zh x).map .tr)] S (Je x) S:=by
 obtain⟨b0,b1,b2,b3,b4,b5,b6⟩:=hb
 refine Zb Zbf (by simp [Je,low,men,Zc]) ?_
 simp only[WH,Zh,zfill,zobs,List.map_cons,List.map_nil,ZM,ZN,List.set_cons_zero,List.set_cons_succ,EVA,seval,Zc,men]
 refine Za (QU x.tops b0) ?_
 simp only[ZM,ZN,List.set_cons_zero,List.set_cons_succ,Prod.mk.injEq,EVA,seval,Zc,men]
 refine Za (ZcB x.nest b1 b2) ?_
 simp only[ZM,ZN,List.set_cons_zero,List.set_cons_succ,Prod.mk.injEq,EVA,seval,Zc,men]
 refine Za (ZcB x.sorts b3 b4) ?_
 simp only[ZM,ZN,List.set_cons_zero,List.set_cons_succ,Prod.mk.injEq,EVA,seval,Zc,men]
 refine Za (QU x.most b5) ?_
 simp only[ZM,ZN,List.set_cons_zero,List.set_cons_succ,Prod.mk.injEq,EVA,seval,Zc,men]
 refine Za (ZfP x.apart b6) ?_
 simp only[ZM,ZN,List.set_cons_zero,List.set_cons_succ,Prod.mk.injEq,EVA,seval,Zc,men]
 rfl
theorem ZhO(x:TNode)(hb:W5 4294967296 x)(lvl:Nat)(S:Sto):Sem Proofs.Tryz.prog Xg lvl [.ag ((ZE x).map .tr)] S (Zkb x) S:=by
 have b0:x.links.length<=4294967296:=hb
 refine Zb ZeD (by simp [Zkb,low,men,Zc]) ?_
 simp only[Zan,ZE,zfill,zobs,List.map_cons,List.map_nil,ZM,ZN,List.set_cons_zero,List.set_cons_succ,EVA,seval,Zc,men]
 refine Za (QU x.links b0) ?_
 simp only[ZM,ZN,List.set_cons_zero,List.set_cons_succ,Prod.mk.injEq,EVA,seval,Zc,men]
 rfl
theorem ZgB(a:(List TNode))(ha:a.length<=4294967296)(hb:∀ y∈a,W5 4294967296 y)(lvl:Nat)(S:Sto):Sem Proofs.Tryz.prog Qw lvl [.tr (.sl (a.map ZE))] S (.ow 3 (a.map ZE) true) S:=by
 refine Zb ZcW trivial ?_
 simp only[U9,List.length_map,bigN,Int.natCast_nonneg,EVA,seval,Zc,men]
 refine⟨by omega,?_⟩
 refine ZI (α:=Unit) a.length (fun j _=>⟨lvl,[(0,.tr (.sl (a.map ZE))),(3,.hd (lvl,224) [] 0 a.length none a.length),(4,iI j)],[(224,.ar 3 (Jo ZE [tv 0,tv 0,.sl []] a j) true a.length (j*1))],S⟩) (fun _ _=>True) () ⟨by simp only[EVA,seval,Zc,men],by (simp only[YU,EVA,seval,Zc,men]) <;> rfl⟩ trivial ?_
 intro j _ hj _
 simp only[List.length_map,EVA,seval,Zc,men]
 refine Zj (fun hlt=>?_) (fun hge=>?_)
 ·have hja:j<a.length:=by omega
  have ga:(a.map ZE)[j]? = some (ZE a[j]):=by simp [hja]
  have gz:(Jo ZE [tv 0,tv 0,.sl []] a j)[j]? = some [tv 0,tv 0,.sl []]:=VU hja
  have hfl:(Jo ZE [tv 0,tv 0,.sl []] a j).length=a.length:=Vl hj
  have hsem:=fun lvl S=>ZhO a[j] (hb a[j] (List.getElem_mem hja)) lvl S
  simp only[ga,gz,Int.natCast_nonneg,Nat.le_refl,hja,ZE,Zkb,Nat.reduceLeDiff,EVA,↓reduceIte,Nat.reduceEqDiff,Nat.reduceMul,reduceCtorEq,Nat.reduceAdd,Nat.reduceSub,Nat.reduceLT,Int.reduceToNat,Int.reduceLE,Int.reduceLT,Zc,men]
  refine Za hsem ?_
  simp only[Zkb,gz,Int.natCast_nonneg,Nat.le_refl,hja,hfl,Y2,List.getElem?_set_self,List.set_set,List.length_set,List.set_cons_zero,List.set_cons_succ,Prod.mk.injEq,ne_eq,not_false_eq_true,EVA,seval,Zc,men]
  refine⟨by rw[Zd];omega,Ze () hja ?_ trivial⟩
  have hse:=VV (c:=ZE) (z:=[tv 0,tv 0,.sl []]) (e:=[tv a[j].control,tv a[j].parent,.sl (rI a[j].links)]) hja rfl
  rw[hse,show (j+1)*1=j*1+1 from by omega]
  rfl
 ·have:j=a.length:=by omega
  subst this
  rw[VT]
  simp
theorem ZhP(x:TWire)(hb:WA 4294967296 x)(lvl:Nat)(S:Sto):Sem Proofs.Tryz.prog Xh lvl [.ag ((JA x).map .tr)] S (Zkc x) S:=by
 have b0:x.name.size<=4294967296:=hb
 refine Zb ZeE (by simp [Zkc,low,men,Zc]) ?_
 simp only[Zao,JA,zfill,zobs,List.map_cons,List.map_nil,ZM,ZN,List.set_cons_zero,List.set_cons_succ,EVA,seval,Zc,men]
 rfl
theorem ZgC(a:(List TWire))(ha:a.length<=4294967296)(hb:∀ y∈a,WA 4294967296 y)(lvl:Nat)(S:Sto):Sem Proofs.Tryz.prog Qx lvl [.tr (.sl (a.map JA))] S (.ow 2 (a.map JA) true) S:=by
 refine Zb ZcX trivial ?_
 simp only[Da,List.length_map,bigN,Int.natCast_nonneg,EVA,seval,Zc,men]
 refine⟨by omega,?_⟩
 refine ZI (α:=Unit) a.length (fun j _=>⟨lvl,[(0,.tr (.sl (a.map JA))),(3,.hd (lvl,224) [] 0 a.length none a.length),(4,iI j)],[(224,.ar 2 (Jo JA [ts ⟨#[]⟩,tv 0] a j) true a.length (j*0))],S⟩) (fun _ _=>True) () ⟨by simp only[EVA,seval,Zc,men],by (simp only[YU,EVA,seval,Zc,men]) <;> rfl⟩ trivial ?_
 intro j _ hj _
 simp only[List.length_map,EVA,seval,Zc,men]
 refine Zj (fun hlt=>?_) (fun hge=>?_)
 ·have hja:j<a.length:=by omega
  have ga:(a.map JA)[j]? = some (JA a[j]):=by simp [hja]
  have gz:(Jo JA [ts ⟨#[]⟩,tv 0] a j)[j]? = some [ts ⟨#[]⟩,tv 0]:=VU hja
  have hfl:(Jo JA [ts ⟨#[]⟩,tv 0] a j).length=a.length:=Vl hj
  have hsem:=fun lvl S=>ZhP a[j] (hb a[j] (List.getElem_mem hja)) lvl S
  simp only[ga,gz,Int.natCast_nonneg,Nat.le_refl,hja,JA,Zkc,Nat.reduceLeDiff,EVA,↓reduceIte,Nat.reduceEqDiff,Nat.reduceMul,reduceCtorEq,Nat.reduceAdd,Nat.reduceSub,Nat.reduceLT,Int.reduceToNat,Int.reduceLE,Int.reduceLT,Zc,men]
  refine Za hsem ?_
  simp only[Zkc,gz,Int.natCast_nonneg,Nat.le_refl,hja,hfl,Y2,List.getElem?_set_self,List.set_set,List.length_set,List.set_cons_zero,List.set_cons_succ,Prod.mk.injEq,ne_eq,not_false_eq_true,EVA,seval,Zc,men]
  refine⟨by rw[Zd];omega,Ze () hja ?_ trivial⟩
  have hse:=VV (c:=JA) (z:=[ts ⟨#[]⟩,tv 0]) (e:=[ts a[j].name,tv a[j].link]) hja rfl
  rw[hse,show (j+1)*0=j*0 from by omega]
  rfl
 ·have:j=a.length:=by omega
  subst this
  rw[VT]
  simp
theorem ZgD:ZH Proofs.Tryz.prog Vw (ZmC (.string ⟨#[]⟩))=true:=by kernel_rfl
theorem ZeL(a:(List ByteArray))(ha:a.length<=4294967296)(lvl:Nat)(S:Sto):Sem Proofs.Tryz.prog Vw lvl [.tr (.sl (rS a))] S (.ow 1 (rS a) true) S:=Zme ZgD a ha lvl S
theorem Zau(x:TBigraph)(hb:JD 4294967296 x)(lvl:Nat)(S:Sto):Sem Proofs.Tryz.prog J2 lvl [.ag ((Zg x).map .tr)] S (Z3 x) S:=by
 obtain⟨b0,b1,b2,b3,b4,b5,b6⟩:=hb
 refine Zb Zbk (by simp [Z3,low,men,Zc]) ?_
 simp only[WM,Zg,zfill,zobs,List.map_cons,List.map_nil,ZM,ZN,List.set_cons_zero,List.set_cons_succ,EVA,seval,Zc,men]
 refine Za (ZgB x.nodes b0 b1) ?_
 simp only[ZM,ZN,List.set_cons_zero,List.set_cons_succ,Prod.mk.injEq,EVA,seval,Zc,men]
 refine Za (QU x.sites b2) ?_
 simp only[ZM,ZN,List.set_cons_zero,List.set_cons_succ,Prod.mk.injEq,EVA,seval,Zc,men]
 refine Za (ZeL x.outer b3) ?_
 simp only[ZM,ZN,List.set_cons_zero,List.set_cons_succ,Prod.mk.injEq,EVA,seval,Zc,men]
 refine Za (ZgC x.inner b5 b6) ?_
 simp only[ZM,ZN,List.set_cons_zero,List.set_cons_succ,Prod.mk.injEq,EVA,seval,Zc,men]
 rfl
theorem ZaQ(x:TRule)(hb:WB 4294967296 x)(lvl:Nat)(S:Sto):Sem Proofs.Tryz.prog Ya lvl [.ag ((ZO x).map .tr)] S (X1 x) S:=by
 obtain⟨b0,b1,b2⟩:=hb
 refine Zb Zez (by simp [X1,low,men,Zc]) ?_
 simp only[Zaj,ZO,zfill,zobs,List.map_cons,List.map_nil,ZM,ZN,List.set_cons_zero,List.set_cons_succ,EVA,seval,Zc,men]
 refine Za (Zau x.redex b0) ?_
 simp only[Z3,JB,ZM,ZN,List.set_cons_zero,List.set_cons_succ,Prod.mk.injEq,EVA,seval,Zc,men]
 refine Za (Zau x.reactum b1) ?_
 simp only[Z3,JB,ZM,ZN,List.set_cons_zero,List.set_cons_succ,Prod.mk.injEq,EVA,seval,Zc,men]
 refine Za (QU x.copies b2) ?_
 simp only[JB,ZM,ZN,List.set_cons_zero,List.set_cons_succ,Prod.mk.injEq,EVA,seval,Zc,men]
 rfl
theorem ZeM(x:TControl)(hb:ZF 4294967296 x)(lvl:Nat)(S:Sto):Sem Proofs.Tryz.prog Vp lvl [.ag ((Zi x).map .tr)] S (Zbw x) S:=by
 have b0:x.name.size<=4294967296:=hb
 refine Zb Zbj (by simp [Zbw,low,men,Zc]) ?_
 simp only[WL,Zi,zfill,zobs,List.map_cons,List.map_nil,ZM,ZN,List.set_cons_zero,List.set_cons_succ,EVA,seval,Zc,men]
 rfl
theorem XQ(a:(List TControl))(ha:a.length<=4294967296)(hb:∀ y∈a,ZF 4294967296 y)(lvl:Nat)(S:Sto):Sem Proofs.Tryz.prog Jk lvl [.tr (.sl (a.map Zi))] S (.ow 3 (a.map Zi) true) S:=by
 refine Zb ZaP trivial ?_
 simp only[X8,List.length_map,bigN,Int.natCast_nonneg,EVA,seval,Zc,men]
 refine⟨by omega,?_⟩
 refine ZI (α:=Unit) a.length (fun j _=>⟨lvl,[(0,.tr (.sl (a.map Zi))),(3,.hd (lvl,224) [] 0 a.length none a.length),(4,iI j)],[(224,.ar 3 (Jo Zi [ts ⟨#[]⟩,tv 0,tv 0] a j) true a.length (j*0))],S⟩) (fun _ _=>True) () ⟨by simp only[EVA,seval,Zc,men],by (simp only[YU,EVA,seval,Zc,men]) <;> rfl⟩ trivial ?_
 intro j _ hj _
 simp only[List.length_map,EVA,seval,Zc,men]
 refine Zj (fun hlt=>?_) (fun hge=>?_)
 ·have hja:j<a.length:=by omega
  have ga:(a.map Zi)[j]? = some (Zi a[j]):=by simp [hja]
  have gz:(Jo Zi [ts ⟨#[]⟩,tv 0,tv 0] a j)[j]? = some [ts ⟨#[]⟩,tv 0,tv 0]:=VU hja
  have hfl:(Jo Zi [ts ⟨#[]⟩,tv 0,tv 0] a j).length=a.length:=Vl hj
  have hsem:=fun lvl S=>ZeM a[j] (hb a[j] (List.getElem_mem hja)) lvl S
  simp only[ga,gz,Int.natCast_nonneg,Nat.le_refl,hja,Zi,Zbw,Nat.reduceLeDiff,EVA,↓reduceIte,Nat.reduceEqDiff,Nat.reduceMul,reduceCtorEq,Nat.reduceAdd,Nat.reduceSub,Nat.reduceLT,Int.reduceToNat,Int.reduceLE,Int.reduceLT,Zc,men]
  refine Za hsem ?_
  simp only[Zbw,gz,Int.natCast_nonneg,Nat.le_refl,hja,hfl,Y2,List.getElem?_set_self,List.set_set,List.length_set,List.set_cons_zero,List.set_cons_succ,Prod.mk.injEq,ne_eq,not_false_eq_true,EVA,seval,Zc,men]
  refine⟨by rw[Zd];omega,Ze () hja ?_ trivial⟩
  have hse:=VV (c:=Zi) (z:=[ts ⟨#[]⟩,tv 0,tv 0]) (e:=[ts a[j].name,tv a[j].ports,tv a[j].kind_]) hja rfl
  rw[hse,show (j+1)*0=j*0 from by omega]
  rfl
 ·have:j=a.length:=by omega
  subst this
  rw[VT]
  simp
end Go.Fd

/-
  WHAT THE LAWS' ARGUMENTS READ AS (printed by lawgen.py). Own work.
-/
namespace Go.Fd
set_option maxRecDepth 20000
theorem Ztv:Va Proofs.Tryz.prog 9 (fun n:ByteArray=>[ts n]) (fun n=>n.size<=9223372036854775807):=Zfb Proofs.Tryz.underlying9
theorem Zjn:Va Proofs.Tryz.prog 3 (fun n:Int=>[tv n]) (VJ .i64):=ZiA Proofs.Tryz.underlying3
theorem Ztw:Va Proofs.Tryz.prog 57 Zi (fun x=>ZF 9223372036854775807 x/\Zfg x):=Wm (Y6 Proofs.Tryz.underlying57 (show XZ Proofs.Tryz.prog 0 [(0,9),(1,3),(2,3)] _ _ from (Zv (k:=1) (by kernel_rfl) (fun _=>rfl) Ztv (Zv (k:=1) (by kernel_rfl) (fun _=>rfl) Zjn (Zv (k:=1) (by kernel_rfl) (fun _=>rfl) Zjn VS))))) (fun p=>TControl.mk p.1 p.2.1 p.2.2.1) (fun _=>rfl) (fun x h=>⟨h.1,⟨h.2.1,h.2.2.1⟩⟩)
theorem Ztx:Va Proofs.Tryz.prog 22 (fun l:List TControl=>[Tr.sl (l.map Zi)]) (fun l=>l.length<=9223372036854775807/\∀ x∈l,(fun x=>ZF 9223372036854775807 x/\Zfg x) x):=YT (k:=2) Proofs.Tryz.underlying22 (by kernel_rfl) (fun _=>rfl) Ztw
theorem ZhQ:Va Proofs.Tryz.prog 23 (fun l:List Int=>[Tr.sl (l.map (fun n:Int=>[tv n]))]) (fun l=>l.length<=9223372036854775807/\∀ x∈l,(VJ .i64) x):=YT (k:=0) Proofs.Tryz.underlying23 (by kernel_rfl) (fun _=>rfl) Zjn
theorem Zps:Va Proofs.Tryz.prog 24 (fun l:List (List Int)=>[Tr.sl (l.map (fun l:List Int=>[Tr.sl (l.map (fun n:Int=>[tv n]))]))]) (fun l=>l.length<=9223372036854775807/\∀ x∈l,(fun l=>l.length<=9223372036854775807/\∀ x∈l,(VJ .i64) x) x):=YT (k:=0) Proofs.Tryz.underlying24 (by kernel_rfl) (fun _=>rfl) ZhQ
theorem Zty:Va Proofs.Tryz.prog 86 cA2 (fun x=>VJ .i64 x.1/\VJ .i64 x.2):=Wm (Zfc (k:=1) Proofs.Tryz.underlying86 (by kernel_rfl) (show XZ Proofs.Tryz.prog 0 [(0,3),(1,3)] _ _ from (Zv (k:=1) (by kernel_rfl) (fun _=>rfl) Zjn (Zv (k:=1) (by kernel_rfl) (fun _=>rfl) Zjn VS)))) (fun p=>(p.1,p.2.1)) (fun _=>rfl) (fun x h=>⟨h.1,h.2.1⟩)
theorem Ztz:Va Proofs.Tryz.prog 25 (fun l:List (Int×Int)=>[Tr.sl (l.map cA2)]) (fun l=>l.length<=9223372036854775807/\∀ x∈l,(fun x=>VJ .i64 x.1/\VJ .i64 x.2) x):=YT (k:=1) Proofs.Tryz.underlying25 (by kernel_rfl) (fun _=>rfl) Zty
theorem ZtA:Va Proofs.Tryz.prog 27 Zh (fun x=>Jv 9223372036854775807 x/\ZiG x):=Wm (Y6 Proofs.Tryz.underlying27 (show XZ Proofs.Tryz.prog 0 [(0,23),(1,24),(2,24),(3,23),(4,25)] _ _ from (Zv (k:=1) (by kernel_rfl) (fun _=>rfl) ZhQ (Zv (k:=1) (by kernel_rfl) (fun _=>rfl) Zps (Zv (k:=1) (by kernel_rfl) (fun _=>rfl) Zps (Zv (k:=1) (by kernel_rfl) (fun _=>rfl) ZhQ (Zv (k:=1) (by kernel_rfl) (fun _=>rfl) Ztz VS))))))) (fun p=>TSorting.mk p.1 p.2.1 p.2.2.1 p.2.2.2.1 p.2.2.2.2.1) (fun _=>rfl) (fun x h=>⟨⟨h.1.1,h.2.1.1,(fun y hy=>(h.2.1.2 y hy).1),h.2.2.1.1,(fun y hy=>(h.2.2.1.2 y hy).1),h.2.2.2.1.1,h.2.2.2.2.1.1⟩,⟨(fun y hy=>(h.1.2 y hy)),(fun y hy=>(fun yy hyy=>((h.2.1.2 y hy).2 yy hyy))),(fun y hy=>(fun yy hyy=>((h.2.2.1.2 y hy).2 yy hyy))),(fun y hy=>(h.2.2.2.1.2 y hy)),(fun y hy=>⟨(h.2.2.2.2.1.2 y hy).1,(h.2.2.2.2.1.2 y hy).2⟩)⟩⟩)
theorem Zpt:Va Proofs.Tryz.prog 113 ZE (fun x=>W5 9223372036854775807 x/\ZiI x):=Wm (Y6 Proofs.Tryz.underlying113 (show XZ Proofs.Tryz.prog 0 [(0,3),(1,3),(2,23)] _ _ from (Zv (k:=1) (by kernel_rfl) (fun _=>rfl) Zjn (Zv (k:=1) (by kernel_rfl) (fun _=>rfl) Zjn (Zv (k:=1) (by kernel_rfl) (fun _=>rfl) ZhQ VS))))) (fun p=>TNode.mk p.1 p.2.1 p.2.2.1) (fun _=>rfl) (fun x h=>⟨h.2.2.1.1,⟨h.1,h.2.1,(fun y hy=>(h.2.2.1.2 y hy))⟩⟩)
theorem ZtB:Va Proofs.Tryz.prog 28 (fun l:List TNode=>[Tr.sl (l.map ZE)]) (fun l=>l.length<=9223372036854775807/\∀ x∈l,(fun x=>W5 9223372036854775807 x/\ZiI x) x):=YT (k:=2) Proofs.Tryz.underlying28 (by kernel_rfl) (fun _=>rfl) Zpt
theorem ZtC:Va Proofs.Tryz.prog 29 (fun l:List ByteArray=>[Tr.sl (l.map (fun n:ByteArray=>[ts n]))]) (fun l=>l.length<=9223372036854775807/\∀ x∈l,(fun n=>n.size<=9223372036854775807) x):=YT (k:=0) Proofs.Tryz.underlying29 (by kernel_rfl) (fun _=>rfl) Ztv
theorem Zpu:Va Proofs.Tryz.prog 116 JA (fun x=>WA 9223372036854775807 x/\ZiK x):=Wm (Y6 Proofs.Tryz.underlying116 (show XZ Proofs.Tryz.prog 0 [(0,9),(1,3)] _ _ from (Zv (k:=1) (by kernel_rfl) (fun _=>rfl) Ztv (Zv (k:=1) (by kernel_rfl) (fun _=>rfl) Zjn VS)))) (fun p=>TWire.mk p.1 p.2.1) (fun _=>rfl) (fun x h=>⟨h.1,h.2.1⟩)
theorem ZtD:Va Proofs.Tryz.prog 30 (fun l:List TWire=>[Tr.sl (l.map JA)]) (fun l=>l.length<=9223372036854775807/\∀ x∈l,(fun x=>WA 9223372036854775807 x/\ZiK x) x):=YT (k:=1) Proofs.Tryz.underlying30 (by kernel_rfl) (fun _=>rfl) Zpu
theorem Zpv:Va Proofs.Tryz.prog 32 Zg (fun x=>JD 9223372036854775807 x/\W8 x):=Wm (Y6 Proofs.Tryz.underlying32 (show XZ Proofs.Tryz.prog 0 [(0,3),(1,28),(2,23),(3,3),(4,29),(5,30)] _ _ from (Zv (k:=1) (by kernel_rfl) (fun _=>rfl) Zjn (Zv (k:=1) (by kernel_rfl) (fun _=>rfl) ZtB (Zv (k:=1) (by kernel_rfl) (fun _=>rfl) ZhQ (Zv (k:=1) (by kernel_rfl) (fun _=>rfl) Zjn (Zv (k:=1) (by kernel_rfl) (fun _=>rfl) ZtC (Zv (k:=1) (by kernel_rfl) (fun _=>rfl) ZtD VS)))))))) (fun p=>TBigraph.mk p.1 p.2.1 p.2.2.1 p.2.2.2.1 p.2.2.2.2.1 p.2.2.2.2.2.1) (fun _=>rfl) (fun x h=>⟨⟨h.2.1.1,(fun y hy=>(h.2.1.2 y hy).1),h.2.2.1.1,h.2.2.2.2.1.1,(fun y hy=>(h.2.2.2.2.1.2 y hy)),h.2.2.2.2.2.1.1,(fun y hy=>(h.2.2.2.2.2.1.2 y hy).1)⟩,⟨h.1,(fun y hy=>(h.2.1.2 y hy).2),(fun y hy=>(h.2.2.1.2 y hy)),h.2.2.2.1,(fun y hy=>(h.2.2.2.2.2.1.2 y hy).2)⟩⟩)
theorem ZtE:Va Proofs.Tryz.prog 34 ZO (fun x=>WB 9223372036854775807 x/\Zdd x):=Wm (Y6 Proofs.Tryz.underlying34 (show XZ Proofs.Tryz.prog 0 [(0,32),(6,32),(12,23)] _ _ from (Zv (k:=6) (by kernel_rfl) (fun _=>rfl) Zpv (Zv (k:=6) (by kernel_rfl) (fun _=>rfl) Zpv (Zv (k:=1) (by kernel_rfl) (fun _=>rfl) ZhQ VS))))) (fun p=>TRule.mk p.1 p.2.1 p.2.2.1) (fun _=>rfl) (fun x h=>⟨⟨h.1.1,h.2.1.1,h.2.2.1.1⟩,⟨h.1.2,h.2.1.2,(fun y hy=>(h.2.2.1.2 y hy))⟩⟩)
end Go.Fd
