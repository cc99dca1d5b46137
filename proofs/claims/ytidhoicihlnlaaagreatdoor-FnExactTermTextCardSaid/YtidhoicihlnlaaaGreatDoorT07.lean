/-
  A BIGRAPH NESTED IN ANOTHER: BOTH SIDES. Own work.
-/
import Derived.Test.YtidhoicihlnlaaaGreatDoorT06
import Derived.Shelf.SlSortCmp.WholeK
set_option linter.all false
namespace Go.Fd
set_option maxRecDepth 20000
theorem Zdi(a:TBigraph)(p:Int)(hp:-4294967296<=p/\p<0)(hl:(-1-p).toNat<a.sites.length)(lvl:Nat)(S:Sto):Sem Proofs.Tryz.prog JZ lvl [iI p,.ta (Zb a)] S (iI (g0 a.sites (-1-p).toNat)) S:=by
 obtain⟨k,hk⟩:∃ k:Nat,-1-p=k:=⟨(-1-p).toNat,by omega⟩
 rw[hk] at hl ⊢
 rw[Int.toNat_natCast] at hl ⊢
 have ga:=V5 hl
 refine Zc ZaR trivial ?_
 simp only[Wc,Zb,hk,ga,hl,EVA,↓reduceIte,Nat.reduceEqDiff,Nat.reduceMul,reduceCtorEq,Nat.reduceAdd,Nat.reduceSub,Nat.reduceLeDiff,Nat.reduceLT,Int.reduceToNat,Int.reduceLE,Int.reduceLT,Zd,men]
 rw[Ze];omega
theorem Zhx(s:ByteArray)(lvl:Nat)(S:Sto):Sem Proofs.Tryz.prog YQ lvl [iS s] S (oE (0,s)) S:=by
 refine Zc ZiF (by simp [low,men,Zd]) ?_
 simp only[Zc3,EVA,↓reduceIte,Nat.reduceEqDiff,Nat.reduceMul,reduceCtorEq,Nat.reduceAdd,Nat.reduceSub,Nat.reduceLeDiff,Nat.reduceLT,Int.reduceToNat,Int.reduceLE,Int.reduceLT,Zd,men]
theorem Zpe(n:Nat)(hn:n<=4294967296)(lvl:Nat)(S:Sto):Sem Proofs.Tryz.prog JT lvl [.cs [],iI n] S (.ow 1 [] true) S:=by
 refine Zc Uf trivial ?_
 simp only[VH,EVA,↓reduceIte,Nat.reduceEqDiff,Nat.reduceMul,reduceCtorEq,Nat.reduceAdd,Nat.reduceSub,Nat.reduceLeDiff,Nat.reduceLT,Int.reduceToNat,Int.reduceLE,Int.reduceLT,Zd,men]
 rw[if_neg (by omega)]
 refine⟨by rw[Ze];omega,by rw[Ze];omega,?_⟩
 split
 ·exact⟨fun e he=>by (cases he),by omega,by omega,by omega⟩
 ·trivial
theorem Zkg{α:Type}{ls:List (List α)}{j:Nat}(h:j<ls.length):(ls.take (j+1)).flatten=(ls.take j).flatten++ls[j]:=by
 rw[List.take_succ_eq_append_getElem h,List.flatten_append]
 simp
theorem ZeC{α:Type}{ls:List (List α)}{j:Nat}:((ls.take j).flatten).length<=ls.flatten.length:=by
 have h:=congrArg (fun l=>l.flatten.length) (List.take_append_drop j ls)
 simp only[List.flatten_append,List.length_append] at h
 omega
abbrev eSS(l:List ByteArray):List Tr:=[Tr.sl (rS l)]
theorem Zgl(ls:List (List ByteArray))(hl:ls.length<=4294967296)(ht:ls.flatten.length<=4294967296)(lvl:Nat)(S:Sto):Sem Proofs.Tryz.prog Je lvl [.tr (.sl (ls.map eSS))] S (.ow 1 (rS ls.flatten) true) S:=by
 refine Zc Wu trivial ?_
 simp only[Ve,List.length_map,EVA,↓reduceIte,Nat.reduceEqDiff,Nat.reduceMul,reduceCtorEq,Nat.reduceAdd,Nat.reduceSub,Nat.reduceLeDiff,Nat.reduceLT,Int.reduceToNat,Int.reduceLE,Int.reduceLT,Zd,men]
 refine Zz (α:=Unit) ls.length (fun j _=>[(3,iI ((ls.take j).flatten).length),(11,iI j)]) (fun _ _=>[]) (fun _ _=>True) () (by simp only[EVA,↓reduceIte,Nat.reduceEqDiff,Nat.reduceMul,reduceCtorEq,Nat.reduceAdd,Nat.reduceSub,Nat.reduceLeDiff,Nat.reduceLT,Int.reduceToNat,Int.reduceLE,Int.reduceLT,Zd,men]) (by (simp only[EVA,↓reduceIte,Nat.reduceEqDiff,Nat.reduceMul,reduceCtorEq,Nat.reduceAdd,Nat.reduceSub,Nat.reduceLeDiff,Nat.reduceLT,Int.reduceToNat,Int.reduceLE,Int.reduceLT,Zd,men]) <;> rfl) trivial ?_
 intro j _ hj _
 simp only[List.length_map,EVA,↓reduceIte,Nat.reduceEqDiff,Nat.reduceMul,reduceCtorEq,Nat.reduceAdd,Nat.reduceSub,Nat.reduceLeDiff,Nat.reduceLT,Int.reduceToNat,Int.reduceLE,Int.reduceLT,Zd,men]
 refine Zl (fun hlt=>?_) (fun hge=>?_)
 ·have hja:j<ls.length:=by omega
  have ga:=WH (c:=eSS) hja
  have h1:=Zkg (ls:=ls) hja
  have h2:=ZeC (ls:=ls) (j:=j+1)
  rw[h1,List.length_append] at h2
  simp only[ga,List.length_map,EVA,↓reduceIte,Nat.reduceEqDiff,Nat.reduceMul,reduceCtorEq,Nat.reduceAdd,Nat.reduceSub,Nat.reduceLeDiff,Nat.reduceLT,Int.reduceToNat,Int.reduceLE,Int.reduceLT,Zd,men]
  refine⟨by rw[Ze];omega,?_⟩
  rw[if_neg (by omega)]
  exact⟨by rw[Ze];omega,Zf () hja (by rw[h1,List.length_append];rfl) trivial⟩
 ·have:j=ls.length:=by omega
  subst this
  rw[List.take_length]
  refine Zov (Zpe _ ht _ _) ?_
  simp only[List.length_map,EVA,↓reduceIte,Nat.reduceEqDiff,Nat.reduceMul,reduceCtorEq,Nat.reduceAdd,Nat.reduceSub,Nat.reduceLeDiff,Nat.reduceLT,Int.reduceToNat,Int.reduceLE,Int.reduceLT,Zd,men]
  refine Zz (α:=Unit) ls.length (fun j _=>[(6,.hd (lvl,768) [] 0 ((ls.take j).flatten).length none ((ls.take j).flatten).length),(27,iI j)]) (fun j _=>[(768,.ar 1 (rS (ls.take j).flatten) true ((ls.take j).flatten).length 0)]) (fun _ _=>True) () (by simp only[EVA,↓reduceIte,Nat.reduceEqDiff,Nat.reduceMul,reduceCtorEq,Nat.reduceAdd,Nat.reduceSub,Nat.reduceLeDiff,Nat.reduceLT,Int.reduceToNat,Int.reduceLE,Int.reduceLT,Zd,men]) (by (simp only[EVA,↓reduceIte,Nat.reduceEqDiff,Nat.reduceMul,reduceCtorEq,Nat.reduceAdd,Nat.reduceSub,Nat.reduceLeDiff,Nat.reduceLT,Int.reduceToNat,Int.reduceLE,Int.reduceLT,Zd,men]) <;> rfl) trivial ?_
  intro j _ hj _
  simp only[List.length_map,EVA,↓reduceIte,Nat.reduceEqDiff,Nat.reduceMul,reduceCtorEq,Nat.reduceAdd,Nat.reduceSub,Nat.reduceLeDiff,Nat.reduceLT,Int.reduceToNat,Int.reduceLE,Int.reduceLT,Zd,men]
  refine Zl (fun hlt2=>?_) (fun hge2=>?_)
  ·have hja:j<ls.length:=by omega
   have ga:=WH (c:=eSS) hja
   have h1:=Zkg (ls:=ls) hja
   have h2:=ZeC (ls:=ls) (j:=j+1)
   rw[h1,List.length_append] at h2
   simp only[ga,ZnN,ZnO,List.length_map,EVA,↓reduceIte,Nat.reduceEqDiff,Nat.reduceMul,reduceCtorEq,Nat.reduceAdd,Nat.reduceSub,Nat.reduceLeDiff,Nat.reduceLT,Int.reduceToNat,Int.reduceLE,Int.reduceLT,Zd,men]
   exact⟨by omega,by rw[Ze];omega,Zf () hja (by rw[h1,List.length_append,Zf2,Nat.max_eq_right (Nat.le_add_right _ _)];rfl) trivial⟩
  ·have:j=ls.length:=by omega
   subst this
   rw[List.take_length]
theorem We{a b:TBigraph}:(YG a b).length<=a.outer.length+b.outer.length:=Nat.le_trans Zbl (by rw[List.length_append];omega)
def ZBP(sig:List TControl)(a b:TBigraph):Prop:=bigOK sig a/\bigOK sig b/\a.inner.length=0/\(a.sites.length:Int)=b.roots
def Zdj(sig:List TControl)(a b:TBigraph):Prop:=ZBP sig a b/\bigOK sig (Dj a b)
theorem Zpf{sig:List TControl}{a b:TBigraph}(ha:bigOK sig a)(hb:bigOK sig b):Zt 4294967290 (Dj a b):=by
 have a4:=ha.small.outer;have b4:=hb.small.outer
 have hl:=We (a:=a) (b:=b)
 refine Zpa ha hb (by simp) (by omega) fun y hy=>?_
 rcases List.mem_append.1 (setS_mem.1 hy) with hy | hy
 ·have:=Yr ha.outer hy;omega
 ·have:=Yr hb.outer hy;omega
theorem Zpg{sig:List TControl}{a b:TBigraph}(ha:bigOK sig a)(hb:bigOK sig b)(hf:(a.sites.length:Int)=b.roots)(fa:ZB a)(fb:ZB b):ZB (Dj a b):=by
 have a4:=ha.small.outer;have b4:=hb.small.outer
 have ea:=ha.edges;have eb:=hb.edges
 have ra:=ha.roots
 have hl:=We (a:=a) (b:=b)
 refine Zpb ha hb fa fb (by unfold sm;omega) (by simp) (fun l hl2=>Zpd ha hb (by omega) l hl2) (fun l hl2=>Zpc ha hb (fun x hx=>?_) hl2) fun p h1 h2=>Zxn ha hb hf h1 h2
 have:=Zga (l:=YG a b) (s:=x)
 have:=Zey (l:=YG a b) (s:=x)
 unfold sm
 omega
open Classical in
noncomputable def Ul(sig:List TControl)(a b:TBigraph):TBigraph:=if Zdj sig a b then Dj a b else J3
noncomputable def Um(sig:List TControl)(a b:TBigraph):Bool:=dc (Zdj sig a b)
theorem Zni(sig:List TControl)(a b:TBigraph)(ha:bigOK sig a)(hb:bigOK sig b)(hf:(a.sites.length:Int)=b.roots)(lvl:Nat)(S:Sto):Sem Proofs.Tryz.prog W6 lvl [.ag ((Zb a).map .tr),.ag ((Zb b).map .tr)] S (Zra (Dj a b) false) S:=by
 have ea:=ha.edges;have eb:=hb.edges
 have sa:=ha.small;have sb:=hb.small
 have a4:=sa.outer;have b4:=sb.outer
 have hol:=We (a:=a) (b:=b)
 refine Zc Ziz (by simp [low,men,Zd]) ?_
 simp only[ZcW,Zb,ZnN,ZnO,Nat.zero_max,List.length_map,EVA,↓reduceIte,Nat.reduceEqDiff,Nat.reduceMul,reduceCtorEq,Nat.reduceAdd,Nat.reduceSub,Nat.reduceLeDiff,Nat.reduceLT,Int.reduceToNat,Int.reduceLE,Int.reduceLT,Zd,men]
 rw[show cut (rS a.outer++rS b.outer) 0 (a.outer.length+b.outer.length)=rS (a.outer++b.outer) from by
  rw[<-Zf2]
  exact Yg (by simp [rS])]
 refine⟨by omega,by omega,by simp [rS],Za (UI (a.outer++b.outer) (by rw[List.length_append];omega)) ?_⟩
 rw[show Vt (a.outer++b.outer)=YG a b from rfl]
 simp only[Zb,List.length_map,EVA,↓reduceIte,Nat.reduceEqDiff,Nat.reduceMul,reduceCtorEq,Nat.reduceAdd,Nat.reduceSub,Nat.reduceLeDiff,Nat.reduceLT,Int.reduceToNat,Int.reduceLE,Int.reduceLT,Zd,men]
 refine⟨by rw[Ze];omega,?_⟩
 refine Za (Uk a.outer (a.edges+b.edges) (YG a b) (by omega) (by omega) (by omega)) ?_
 simp only[Zb,List.length_map,EVA,↓reduceIte,Nat.reduceEqDiff,Nat.reduceMul,reduceCtorEq,Nat.reduceAdd,Nat.reduceSub,Nat.reduceLeDiff,Nat.reduceLT,Int.reduceToNat,Int.reduceLE,Int.reduceLT,Zd,men]
 refine Za (Uk b.outer (a.edges+b.edges) (YG a b) (by omega) (by omega) (by omega)) ?_
 simp only[Zb,List.length_map,EVA,↓reduceIte,Nat.reduceEqDiff,Nat.reduceMul,reduceCtorEq,Nat.reduceAdd,Nat.reduceSub,Nat.reduceLeDiff,Nat.reduceLT,Int.reduceToNat,Int.reduceLE,Int.reduceLT,Zd,men]
 have q:=Zlh sig a b (YG a b) (a.outer.map fun x=>a.edges+b.edges+ixS (YG a b) x) (b.outer.map fun x=>a.edges+b.edges+ixS (YG a b) x) ha hb hf (by simp) (by simp) (by omega) (Zmp a (a.edges+b.edges) (YG a b)) (Zo5 a b fun x=>a.edges+b.edges+ixS (YG a b) x) (fun n hn=>Zo7 hn) (fun n hn=>Zo8 hn)
 rw[show Zmr a b (YG a b) (Zmp a (a.edges+b.edges) (YG a b)) (Zo5 a b fun x=>a.edges+b.edges+ixS (YG a b) x)=Dj a b from rfl] at q
 simp only[Zb,Zra,List.map_cons,List.map_nil] at q
 refine Za q ?_
 simp only[Zb,List.length_map,EVA,↓reduceIte,Nat.reduceEqDiff,Nat.reduceMul,reduceCtorEq,Nat.reduceAdd,Nat.reduceSub,Nat.reduceLeDiff,Nat.reduceLT,Int.reduceToNat,Int.reduceLE,Int.reduceLT,Zd,men]
theorem ZaZ(sig:List TControl)(a b:TBigraph)(hn:sig.length<=4294967296)(hbs:∀ y∈sig,Zp 4294967296 y)(hba:Zt 4294967296 a)(hbb:Zt 4294967296 b)(fa:ZB a)(fb:ZB b)(lvl:Nat)(S:Sto):Sem Proofs.Tryz.prog VA lvl [.tr (.sl (sig.map Zh)),.ag ((Zb a).map .tr),.ag ((Zb b).map .tr)] S (.tu [Zi (Ul sig a b),iB (Um sig a b)]) S:=by
 refine Zc Zb9 (by simp [Zi,low,men,Zd]) ?_
 simp only[Uc,Zb,EVA,↓reduceIte,Nat.reduceEqDiff,Nat.reduceMul,reduceCtorEq,Nat.reduceAdd,Nat.reduceSub,Nat.reduceLeDiff,Nat.reduceLT,Int.reduceToNat,Int.reduceLE,Int.reduceLT,Zd,men]
 have i1:=Jz sig a hn hbs hba
 have i2:=Jz sig b hn hbs hbb
 simp only[Zb,List.map_cons,List.map_nil] at i1 i2
 refine Za i1 ?_
 unfold Ul Um
 cases h1:dc (bigOK sig a)
 ·have hno:¬ Zdj sig a b:=fun g=>dc_not.1 h1 g.1.1
  rw[if_neg hno,Zj hno]
  simp only[EVA,↓reduceIte,Nat.reduceEqDiff,Nat.reduceMul,reduceCtorEq,Nat.reduceAdd,Nat.reduceSub,Nat.reduceLeDiff,Nat.reduceLT,Int.reduceToNat,Int.reduceLE,Int.reduceLT,Zd,men]
  rfl
 have hA:=dc_iff.1 h1
 simp only[Zb,EVA,↓reduceIte,Nat.reduceEqDiff,Nat.reduceMul,reduceCtorEq,Nat.reduceAdd,Nat.reduceSub,Nat.reduceLeDiff,Nat.reduceLT,Int.reduceToNat,Int.reduceLE,Int.reduceLT,Zd,men]
 refine Za i2 ?_
 cases h2:dc (bigOK sig b)
 ·have hno:¬ Zdj sig a b:=fun g=>dc_not.1 h2 g.1.2.1
  rw[if_neg hno,Zj hno]
  simp only[EVA,↓reduceIte,Nat.reduceEqDiff,Nat.reduceMul,reduceCtorEq,Nat.reduceAdd,Nat.reduceSub,Nat.reduceLeDiff,Nat.reduceLT,Int.reduceToNat,Int.reduceLE,Int.reduceLT,Zd,men]
  rfl
 have hB:=dc_iff.1 h2
 have sa:=hA.small;have sb:=hB.small
 have a2:=sa.sites;have a3:=sa.inner;have a4:=sa.outer;have b4:=sb.outer
 have ra:=hA.roots;have rb:=hB.roots
 simp only[Zb,List.length_map,EVA,↓reduceIte,Nat.reduceEqDiff,Nat.reduceMul,reduceCtorEq,Nat.reduceAdd,Nat.reduceSub,Nat.reduceLeDiff,Nat.reduceLT,Int.reduceToNat,Int.reduceLE,Int.reduceLT,Zd,men]
 by_cases h3:(0:Int)<a.inner.length
 ·have hno:¬ Zdj sig a b:=fun g=>by have:=g.1.2.2.1;omega
  rw[if_neg hno,Zj hno]
  simp only[h3,List.length_map,EVA,↓reduceIte,Nat.reduceEqDiff,Nat.reduceMul,reduceCtorEq,Nat.reduceAdd,Nat.reduceSub,Nat.reduceLeDiff,Nat.reduceLT,Int.reduceToNat,Int.reduceLE,Int.reduceLT,Zd,men]
  rfl
 by_cases h4:(a.sites.length:Int)=b.roots
 ·simp only[h3,h4,List.length_map,EVA,↓reduceIte,Nat.reduceEqDiff,Nat.reduceMul,reduceCtorEq,Nat.reduceAdd,Nat.reduceSub,Nat.reduceLeDiff,Nat.reduceLT,Int.reduceToNat,Int.reduceLE,Int.reduceLT,Zd,men]
  have hfl:[a.outer,b.outer].flatten=a.outer++b.outer:=by simp
  have hc:=Zgl [a.outer,b.outer] (by simp) (by rw[hfl,List.length_append];omega)
  rw[hfl] at hc
  refine⟨by simp,by simp,Za hc ?_⟩
  simp only[Zb,List.length_map,EVA,↓reduceIte,Nat.reduceEqDiff,Nat.reduceMul,reduceCtorEq,Nat.reduceAdd,Nat.reduceSub,Nat.reduceLeDiff,Nat.reduceLT,Int.reduceToNat,Int.reduceLE,Int.reduceLT,Zd,men]
  have qj:=Zgk sig a b (Dj a b) hA hB a.roots [] (by simp) (a.outer++b.outer) (by rw[List.length_append];omega) JZ [Zb a] (fun p=>g0 a.sites (-1-p).toNat) YQ [] (fun s=>(0,s)) (fun p h1 h2 lvl S=>Zdi a p (by omega) (by omega) lvl S) (fun x _ lvl S=>Zhx x lvl S) (by rw[ZtU];exact ZtS hA hB)
  simp only[Zb,ZBO,List.map_cons,List.map_nil] at qj
  refine Za qj ?_
  simp only[Zb,List.length_map,EVA,↓reduceIte,Nat.reduceEqDiff,Nat.reduceMul,reduceCtorEq,Nat.reduceAdd,Nat.reduceSub,Nat.reduceLeDiff,Nat.reduceLT,Int.reduceToNat,Int.reduceLE,Int.reduceLT,Zd,men]
  have qv:=Zde sig (Dj a b) hn hbs (Zpf hA hB) (Zpg hA hB h4 fa fb)
  simp only[Zb,List.map_cons,List.map_nil] at qv
  refine Za qv ?_
  cases h6:dc (bigOK sig (Dj a b))
  ·have hno:¬ Zdj sig a b:=fun g=>dc_not.1 h6 g.2
   rw[if_neg hno,Zj hno,if_neg (dc_not.1 h6)]
   simp only[Zi,List.length_map,EVA,↓reduceIte,Nat.reduceEqDiff,Nat.reduceMul,reduceCtorEq,Nat.reduceAdd,Nat.reduceSub,Nat.reduceLeDiff,Nat.reduceLT,Int.reduceToNat,Int.reduceLE,Int.reduceLT,Zd,men]
   rfl
  ·have hyes:Zdj sig a b:=⟨⟨hA,hB,by omega,h4⟩,dc_iff.1 h6⟩
   rw[if_pos hyes,ZN hyes,if_pos (dc_iff.1 h6)]
   simp only[Zi,List.length_map,EVA,↓reduceIte,Nat.reduceEqDiff,Nat.reduceMul,reduceCtorEq,Nat.reduceAdd,Nat.reduceSub,Nat.reduceLeDiff,Nat.reduceLT,Int.reduceToNat,Int.reduceLE,Int.reduceLT,Zd,men]
 ·have hno:¬ Zdj sig a b:=fun g=>h4 g.1.2.2.2
  rw[if_neg hno,Zj hno]
  simp only[h3,h4,List.length_map,EVA,↓reduceIte,Nat.reduceEqDiff,Nat.reduceMul,reduceCtorEq,Nat.reduceAdd,Nat.reduceSub,Nat.reduceLeDiff,Nat.reduceLT,Int.reduceToNat,Int.reduceLE,Int.reduceLT,Zd,men]
  rfl
end Go.Fd

/-
  BIGRAPHS SIDE BY SIDE: IN PLAIN TERMS, AND THE REFERENCE'S SIDE. Own work.
-/
namespace Go.Fd
set_option maxRecDepth 20000
def wlt(x y:TWire):Prop:=ltS x.name y.name
open Classical in
noncomputable def ZnP:List TWire->TWire->List TWire
 | [],w=>[w]
 | x::r,w=>if wlt x w then x::ZnP r w else w::x::r
theorem Zph{w:TWire}:∀{O:List TWire} {k:Nat},k<=O.length->(∀ y∈O.take k,wlt y w)->(∀ h:k<O.length,¬ wlt O[k] w)->ZnP O w=O.take k++([w]++O.drop k)
 | [],0,_,_,_=>rfl
 | [],k+1,h,_,_=>by simp at h
 | x::r,0,_,_,h2=>by
  have:¬ wlt x w:=h2 (by simp)
  rw[ZnP,if_neg this]
  rfl
 | x::r,k+1,h,h1,h2=>by
  have:wlt x w:=h1 x (by simp)
  rw[ZnP,if_pos this,Zph (k:=k) (by simpa using h) (fun y hy=>h1 y (by simp [hy])) (fun h3=>by
   have:=h2 (by simpa using h3)
   simpa using this)]
  simp
theorem insW_perm{w:TWire}:∀{O:List TWire},(ZnP O w).Perm (w::O)
 | []=>List.Perm.refl _
 | x::r=>by
  rw[ZnP]
  split
  ·exact(List.Perm.cons x insW_perm).trans (List.Perm.swap w x r)
  ·exact List.Perm.refl _
theorem Zpi{w:TWire}:∀{O:List TWire},O.Pairwise wlt->(∀ x∈O,x.name≠w.name)->(ZnP O w).Pairwise wlt
 | [],_,_=>List.pairwise_singleton ..
 | x::r,h,hn=>by
  have hc:=List.pairwise_cons.1 h
  rw[ZnP]
  split
  ·rename_i hlt
   refine List.pairwise_cons.2 ⟨fun y hy=>?_,Zpi hc.2 fun z hz=>hn z (by simp [hz])⟩
   rcases List.mem_cons.1 (insW_perm.mem_iff.1 hy) with rfl | hy
   ·exact hlt
   ·exact hc.1 y hy
  ·rename_i hlt
   have hwx:wlt w x:=by
    rcases ordsS.tri x.name w.name with q | q | q
    ·exact absurd q hlt
    ·exact absurd q (hn x (by simp))
    ·exact q
   refine List.pairwise_cons.2 ⟨fun y hy=>?_,h⟩
   rcases List.mem_cons.1 hy with rfl | hy
   ·exact hwx
   ·exact ordsS.tr _ _ _ hwx (hc.1 y hy)
noncomputable def UY(a b:List TWire):List TWire:=b.foldl ZnP a
theorem wjoin_perm:∀{b a:List TWire},(UY a b).Perm (a++b)
 | [],a=>by simp [UY]
 | w::r,a=>by
  have h:=wjoin_perm (b:=r) (a:=ZnP a w)
  refine h.trans ?_
  refine(insW_perm.append_right r).trans ?_
  exact List.perm_middle.symm
theorem Zdk{a b:List TWire}:(UY a b).length=a.length+b.length:=by rw[wjoin_perm.length_eq,List.length_append]
theorem Znj{a b:List TWire}{j:Nat}(h:j<b.length):UY a (b.take (j+1))=ZnP (UY a (b.take j)) b[j]:=by
 unfold UY
 rw[List.take_succ_eq_append_getElem h,List.foldl_append]
 rfl
theorem Zmw:∀{b a:List TWire},a.Pairwise wlt->b.Pairwise wlt->(∀ x∈a,∀ y∈b,x.name≠y.name)->(UY a b).Pairwise wlt
 | [],a,ha,_,_=>ha
 | w::r,a,ha,hb,hd=>by
  have hc:=List.pairwise_cons.1 hb
  refine Zmw (b:=r) (a:=ZnP a w) (Zpi ha fun x hx=>hd x hx w (by simp)) hc.2 fun x hx y hy=>?_
  rcases List.mem_cons.1 (insW_perm.mem_iff.1 hx) with rfl | hx
  ·intro e
   have:=hc.1 y hy
   unfold wlt at this
   rw[e] at this
   exact ordsS.irr _ this
  ·exact hd x hx y (by simp [hy])
theorem Zxo{l:List TWire}{j:Nat}:cut (l.map Ji) 0 (j-0)=(l.take j).map Ji:=by simp [cut,List.map_take]
theorem Zxp{l:List TWire}{j:Nat}:cut (l.map Ji) j (l.length-j)=(l.drop j).map Ji:=by
 simp only[cut,<-List.map_drop]
 rw[List.take_of_length_le (by rw[List.length_map,List.length_drop];omega)]
theorem Zr9{a b:List TWire}{x:TWire}:a.map Ji++[[Tr.v (Value.string x.name),Tr.v (Value.int .i64 x.link)]]++b.map Ji=(a++([x]++b)).map Ji:=by simp [Ji]
theorem Zlj(a b:List TWire)(hl:a.length+b.length<=4294967290)(lvl:Nat)(S:Sto):Sem Proofs.Tryz.prog Ws lvl [.tr (.sl (a.map Ji)),.tr (.sl (b.map Ji))] S (.ow 2 ((UY a b).map Ji) true) S:=by
 refine Zc ZgV (by simp [low,men,Zd]) ?_
 simp only[ZbV,Zxf,Zxg,Nat.zero_max,List.length_map,EVA,seval,Zd,men]
 refine⟨by omega,?_⟩
 refine Zz (α:=Unit) b.length (fun j _=>[(5,.hd (lvl,160) [] 0 (UY a (b.take j)).length none (UY a (b.take j)).length),(6,iI j)]) (fun j _=>[(160,.ar 2 ((UY a (b.take j)).map Ji) true (UY a (b.take j)).length 0)]) (fun _ _=>True) () (by simp only[EVA,seval,Zd,men]) (by simp only[List.take_zero,UY,List.foldl_nil]; (simp only[EVA,seval,Zd,men]) <;> rfl) trivial ?_
 intro j _ hj _
 simp only[List.length_map,EVA,seval,Zd,men]
 refine Zl (fun hlt=>?_) (fun hge=>?_)
 ·have hja:j<b.length:=by omega
  have ga:=WH (c:=Ji) hja
  obtain⟨O,hO⟩:∃ O,O=UY a (b.take j):=⟨_,rfl⟩
  have hOl:O.length=a.length+j:=by rw[hO,Zdk,List.length_take];omega
  have hsucc:=Znj (a:=a) hja
  rw[<-hO] at hsucc
  rw[<-hO]
  refine Zz (α:=Unit) O.length (fun k _=>[(7,iI k)]) (fun _ _=>[]) (fun k _=>∀ y∈O.take k,wlt y b[j]) () (by simp only[EVA,seval,Zd,men]) (by (simp only[EVA,seval,Zd,men]) <;> rfl) (by simp) ?_
  intro k _ hk hK
  have hput:=Zph (w:=b[j]) hk hK
  have hpl:(O.take k++([b[j]]++O.drop k)).length=O.length+1:=by
   simp only[List.length_append,List.length_take,List.length_drop,List.length_cons,List.length_nil]
   omega
  have hm:min k O.length=k:=by omega
  have hq1:k+1+(O.length-k)=O.length+1:=by omega
  have hq2:max (max (max 0 k) (k+1)) (O.length+1)=O.length+1:=by omega
  have hq3:k+(O.length-k)=O.length:=by omega
  have hfit:XE .i64 ((j:Int)+1):=by rw[Ze];omega
  simp only[List.length_map,EVA,seval,Zd,men]
  refine Zl (fun hlt2=>?_) (fun hge2=>?_)
  ·have hka:k<O.length:=by omega
   have gk:=WH (c:=Ji) hka
   simp only[ga,gk,Ji,hja,hka,hm,hq1,hq2,hq3,Zxo,Zxp,Zxf,Zxg,List.length_append,List.length_take,List.length_drop,List.length_map,EVA,seval,Zd,men]
   refine Zl (fun h1=>?_) (fun h1=>?_)
   ·exact⟨by rw[Ze];omega,Zf () hka rfl fun y hy=>by
     rw[List.take_succ_eq_append_getElem hka] at hy
     rcases List.mem_append.1 hy with hy | hy
     ·exact hK y hy
     ·rw[List.mem_singleton.1 hy];exact h1⟩
   ·have hp:=hput fun _=>h1
    exact⟨by omega,by omega,by omega,by omega,by omega,by omega,by omega,by omega,hfit,Zf () hja (by rw[hsucc,hp,hpl,<-Zr9];rfl) trivial⟩
  ·have:k=O.length:=by omega
   subst this
   simp only[ga,Ji,hja,hm,hq1,hq2,hq3,Zxo,Zxp,Zxf,Zxg,List.length_append,List.length_take,List.length_drop,List.length_map,EVA,seval,Zd,men]
   have hp:=hput fun h=>absurd h (by omega)
   rw[List.take_length] at hp hpl
   exact⟨by omega,by omega,by omega,by omega,by omega,hfit,Zf () hja (by rw[hsucc,hp,hpl,<-Zr9];rfl) trivial⟩
 ·have:j=b.length:=by omega
  subst this
  rw[List.take_length]
def ZtV(J:TBigraph)(w:List TWire):TBigraph:=⟨J.roots,J.nodes,J.sites,J.edges,J.outer,w⟩
def Zlk(a:TBigraph)(p:Int):Int:=if 0<=p then p+a.nodes.length else p-a.roots
noncomputable def Znk(a b:TBigraph):List Int:=Zmp a (a.edges+b.edges) (YG a b)
noncomputable def Zpj(a b:TBigraph):List Int:=Zo5 a b fun x=>a.edges+b.edges+ixS (YG a b) x
noncomputable def Zui(a b:TBigraph):TBigraph:=ZaY a b (a.roots+b.roots) a.sites (YG a b) (fun l=>g0 (Znk a b) l.toNat) (fun l=>g0 (Zpj a b) l.toNat) (Zlk a)
noncomputable def Zdy(a b:TBigraph):TBigraph:=ZtV (Zui a b) (UY (a.inner.map (Zbk fun l=>g0 (Znk a b) l.toNat)) (b.inner.map (Zbk fun l=>g0 (Zpj a b) l.toNat)))
theorem Zll{r:Int}{n:Nat}{k:Nat}(h:k<n):g0 (JI r n) k = -1-r-(k:Int):=by
 show (JI r n).getD k 0=_
 rw[List.getD_eq_getElem?_getD,JI,List.getElem?_map,List.getElem?_range h]
 simp
theorem Zmx{a b:TBigraph}{n:Nat}(hn:b.roots=n){p:Int}(h:-b.roots<=p):ZdX a.nodes.length (JI a.roots n) p=Zlk a p:=by
 unfold ZdX Zlk
 by_cases h0:0<=p
 ·rw[if_neg (by omega),if_pos h0]
 ·rw[if_pos (by omega),if_neg h0,Zll (by omega)]
  omega
theorem Zpk{sig:List TControl}{a b:TBigraph}(h:bigOK sig b){n:Nat}(hn:b.roots=n){ls:List Int}:b.nodes.map (Zf9 a.nodes.length (JI a.roots n) ls)=b.nodes.map (fun x=>({ control:=x.control,parent:=Zlk a x.parent,links:=x.links.map fun l=>g0 ls l.toNat }:TNode)):=List.map_congr_left fun x hx=>by
 obtain⟨k,hk,rfl⟩:=List.getElem_of_mem hx
 unfold Zf9
 rw[Zmx hn (Ju h.roots.1 (h.nodes k hk).par)]
theorem Zpl{sig:List TControl}{a b:TBigraph}(h:bigOK sig b){n:Nat}(hn:b.roots=n):b.sites.map (ZdX a.nodes.length (JI a.roots n))=b.sites.map (Zlk a):=List.map_congr_left fun p hp=>Zmx hn (Ju h.roots.1 (h.sites p hp))
theorem Znl(sig:List TControl)(a b:TBigraph)(ha:bigOK sig a)(hb:bigOK sig b)(lvl:Nat)(S:Sto):Sem Proofs.Tryz.prog W7 lvl [.ag ((Zb a).map .tr),.ag ((Zb b).map .tr)] S (Zra (Zdy a b) false) S:=by
 have ra:=ha.roots;have rb:=hb.roots
 have ea:=ha.edges;have eb:=hb.edges
 have sa:=ha.small;have sb:=hb.small
 have a1:=sa.nodes;have a2:=sa.sites;have a3:=sa.inner;have a4:=sa.outer
 have b1:=sb.nodes;have b2:=sb.sites;have b3:=sb.inner;have b4:=sb.outer
 have hol:=We (a:=a) (b:=b)
 obtain⟨n,hn⟩:∃ n:Nat,a.roots=n:=⟨a.roots.toNat,by omega⟩
 obtain⟨n2,hn2⟩:∃ n:Nat,b.roots=n:=⟨b.roots.toNat,by omega⟩
 obtain⟨m,hm⟩:∃ m:Nat,a.edges=m:=⟨a.edges.toNat,by omega⟩
 obtain⟨k,hk⟩:∃ k:Nat,b.edges=k:=⟨b.edges.toNat,by omega⟩
 obtain⟨L,hL⟩:∃ L,L=Znk a b:=⟨_,rfl⟩
 obtain⟨R,hR⟩:∃ R,R=Zpj a b:=⟨_,rfl⟩
 have lenL:(L.length:Int)=a.edges+a.outer.length:=by rw[hL];exact Zmq ea.1
 have lenR:(R.length:Int)=b.edges+b.outer.length:=by rw[hR];exact Zmq eb.1
 have w1:rI (Ur 0 m)++rI (a.outer.map fun x=>(m:Int)+k+ixS (YG a b) x)=rI L:=by rw[<-YA,hL,Znk,<-Zo7 hm,hm,hk]
 have w2:m+a.outer.length=L.length:=by omega
 have w3:rI (Ur (m:Int) k)++rI (b.outer.map fun x=>(m:Int)+k+ixS (YG a b) x)=rI R:=by rw[<-YA,hR,Zpj,<-Zo8 hk,hm,hk]
 have w4:k+b.outer.length=R.length:=by omega
 have w5:max m L.length=L.length:=by omega
 have w6:max k R.length=R.length:=by omega
 have c1:cut (rI L) 0 L.length=rI L:=Yg (by rw[List.length_map])
 have c2:cut (rI R) 0 R.length=rI R:=Yg (by rw[List.length_map])
 refine Zc ZiA (by simp [low,men,Zd]) ?_
 simp only[ZcX,Zb,ZnN,ZnO,hn,hn2,hm,hk,Nat.zero_max,List.length_map,EVA,seval,Zd,men]
 rw[show cut (rS a.outer++rS b.outer) 0 (a.outer.length+b.outer.length)=rS (a.outer++b.outer) from by
  rw[<-Zf2]
  exact Yg (by simp [rS])]
 refine⟨by omega,by omega,by simp [rS],Za (UI (a.outer++b.outer) (by rw[List.length_append];omega)) ?_⟩
 rw[show Vt (a.outer++b.outer)=YG a b from rfl]
 simp only[Zb,hm,hk,List.length_map,EVA,seval,Zd,men]
 have c0:cut (rS (YG a b)) 0 (YG a b).length=rS (YG a b):=Yg (by rw[List.length_map])
 refine⟨by rw[Ze];omega,Za (Uh 0 m (by omega) (by omega)) ?_⟩
 simp only[Zb,c0,hm,hk,fromN_len,List.length_map,EVA,seval,Zd,men]
 refine Za (Uk a.outer (m+k) (YG a b) (by omega) (by omega) (by omega)) ?_
 simp only[Zb,c0,Zbt,Zbu,hm,hk,w1,w2,w5,fromN_len,List.length_append,List.length_map,EVA,seval,Zd,men]
 refine⟨by omega,Za (Uh m k (by omega) (by omega)) ?_⟩
 simp only[Zb,c0,hm,hk,fromN_len,List.length_map,EVA,seval,Zd,men]
 refine Za (Uk b.outer (m+k) (YG a b) (by omega) (by omega) (by omega)) ?_
 simp only[Zb,c0,Zbt,Zbu,hm,hk,w3,w4,w6,fromN_len,List.length_append,List.length_map,EVA,seval,Zd,men]
 refine⟨by omega,Za (DQ 0 n (by omega) (by omega)) ?_⟩
 simp only[Zb,hm,hk,List.length_map,EVA,seval,Zd,men]
 refine Za (DQ n n2 (by omega) (by omega)) ?_
 simp only[Zb,hm,hk,c1,c2,List.length_map,EVA,seval,Zd,men]
 refine⟨by rw[Ze];omega,?_⟩
 have q2:=Ui a 0 (JI 0 n) L (by omega) (by omega) (Zms ha (by rw[rootsN_len];omega) lenL)
 rw[Zmu ha hn] at q2
 simp only[Zb,hn,hm,List.map_cons,List.map_nil] at q2
 refine Za q2 ?_
 simp only[Zb,hm,hk,c1,c2,List.length_map,EVA,seval,Zd,men]
 have q3:=Ui b a.nodes.length (JI a.roots n2) R (by omega) (by omega) (Zms hb (by rw[rootsN_len];omega) lenR)
 rw[Zpk hb hn2] at q3
 simp only[Zb,hn,hn2,hk,List.map_cons,List.map_nil] at q3
 refine Za q3 ?_
 simp only[Zb,ZCm,hm,hk,c1,c2,List.length_append,List.length_map,EVA,seval,Zd,men]
 refine⟨by omega,?_⟩
 have q4:=XW a 0 (JI 0 n) (by omega) (by omega) (Zmt ha (by rw[rootsN_len];omega))
 rw[Zmv ha hn] at q4
 simp only[Zb,hn,hm,List.map_cons,List.map_nil] at q4
 refine Za q4 ?_
 simp only[Zb,hm,hk,c1,c2,List.length_append,List.length_map,EVA,seval,Zd,men]
 have q5:=XW b a.nodes.length (JI a.roots n2) (by omega) (by omega) (Zmt hb (by rw[rootsN_len];omega))
 rw[Zpl hb hn2] at q5
 simp only[Zb,hn,hn2,hk,List.map_cons,List.map_nil] at q5
 refine Za q5 ?_
 simp only[Zb,Zbt,Zbu,hm,hk,c1,c2,List.length_append,List.length_map,EVA,seval,Zd,men]
 refine⟨by omega,?_⟩
 have q6:=DR a L (by omega) (Zo9 ha lenL)
 simp only[Zb,hn,hm,List.map_cons,List.map_nil] at q6
 refine Za q6 ?_
 simp only[Zb,hm,hk,c1,c2,List.length_append,List.length_map,EVA,seval,Zd,men]
 have q7:=DR b R (by omega) (Zo9 hb lenR)
 simp only[Zb,hn2,hk,List.map_cons,List.map_nil] at q7
 refine Za q7 ?_
 simp only[Zb,hm,hk,c1,c2,List.length_append,List.length_map,EVA,seval,Zd,men]
 have q8:=Zlj (a.inner.map (Zj7 L)) (b.inner.map (Zj7 R)) (by rw[List.length_map,List.length_map];omega)
 refine Za q8 ?_
 simp only[Zb,hm,hk,c1,c2,Zdk,List.length_append,List.length_map,EVA,seval,Zd,men]
 simp only[Zra,Zdy,Zui,ZtV,ZaY,<-hL,<-hR,List.map_append,YA,hn,hn2,hm,hk]
 rfl
end Go.Fd

/-
  SORTING WIRES BY NAME: THE LIBRARY'S CONTRACT AT THIS PROGRAM. Own work.
-/
namespace Go.Proofs
open Go.Shelf Go.RowKit Go.Lib Go.Sort
instance:Inhabited Go.Fd.TWire:=⟨⟨⟨#[]⟩,0⟩⟩
def Zxq(w:Go.Fd.TWire):List Value:=[.string w.name,.int .i64 w.link]
def Zrb(x y:Go.Fd.TWire):Int:=if Op.bytesLess x.name.data.toList y.name.data.toList then -1 else 1
set_option maxHeartbeats 1000000 in
theorem ZBQ(x y:Go.Fd.TWire)(W:World):Calls Tryz.prog 260 #[.agg #[.string x.name,.int .i64 x.link],.agg #[.string y.name,.int .i64 y.link]] W fun e w' => e = .returned (.int .i64 (Zrb x y))/\∃ q os',w'=grow (W.drewN q) os':=by
 have hr:Zrb x y=if Op.bytesLess x.name.toList y.name.toList then -1 else 1:=by
  unfold Zrb
  rw[ByteArray.toList_eq,ByteArray.toList_eq]
 generalize Zrb x y=r at hr ⊢
 go_enter Tryz.func260,Tryz.ntmps260
 go_wp2
 ·rename_i h
  rw[h] at hr
  have hr:r = -1:=hr
  subst hr
  go_ret
  exact⟨rfl,0,_,by rw[alloc_eq_grow,alloc_eq_grow,grow_grow];rfl⟩
 ·rename_i h
  rw[h] at hr
  have hr:r=1:=hr
  subst hr
  go_ret
  exact⟨rfl,0,_,by rw[alloc_eq_grow,alloc_eq_grow,grow_grow];rfl⟩
theorem Zmy(x y:Go.Fd.TWire):ltOf Zrb x y=Op.bytesLess x.name.data.toList y.name.data.toList:=by
 unfold ltOf Zrb
 cases Op.bytesLess x.name.data.toList y.name.data.toList <;> rfl
theorem ZDH:SWO (ltOf Zrb) where
 irrefl x:=by rw[Zmy];exact Go.Fd.bl_irr _
 trans x y z h1 h2:=by
  rw[Zmy] at *
  exact Go.Fd.ordsS.tr _ _ _ h1 h2
 ntrans x y z h1 h2:=by
  rw[Zmy] at *
  have:=Go.Fd.ltS_tr z.name y.name x.name
  have k:¬ Go.Fd.ltS x.name z.name:=Go.Fd.ltS_tr z.name y.name x.name (by unfold Go.Fd.ltS;rw[h2];decide) (by unfold Go.Fd.ltS;rw[h1];decide)
  unfold Go.Fd.ltS at k
  simpa using k
theorem Zrc(blk off size:Nat)(w:World):CmpLays Tryz.prog 260 #[] Zxq 2 Zrb blk off size w :=
 fun _ _ _ _ x y=>ZBQ x y _
end Go.Proofs
namespace Go.Fd
open Go.Sort Go.Proofs
theorem ZCn:∀{x y:List TWire},x.Pairwise wlt->y.Pairwise wlt->x.Perm y->x=y
 | [],y,_,_,h=>(List.Perm.nil_eq h)
 | a::r,[],_,_,h=>by simp at h
 | a::r,b::t,hx,hy,h=>by
  have hcx:=List.pairwise_cons.1 hx
  have hcy:=List.pairwise_cons.1 hy
  have hab:a=b:=by
   have h1:a∈b::t:=h.mem_iff.1 (by simp)
   have h2:b∈a::r:=h.mem_iff.2 (by simp)
   rcases List.mem_cons.1 h1 with e | h1
   ·exact e
   ·rcases List.mem_cons.1 h2 with e | h2
    ·exact e.symm
    ·exact absurd (hcx.1 b h2) (ordsS.asym _ _ (hcy.1 a h1))
  subst hab
  rw[ZCn hcx.2 hcy.2 h.cons_inv]
theorem ZDI{x y:List TWire}(hy:y.Pairwise wlt)(hp:x.Perm y)(hx:∀ i j (hi:i<x.length) (hj:j<x.length),i<j -> ¬ wlt x[j] x[i]):x.Pairwise wlt:=by
 have hnd:x.Nodup:=hp.nodup_iff.2 (hy.imp fun {a b} h e=>by subst e;exact ordsS.irr _ h)
 refine List.pairwise_iff_getElem.2 fun i j hi hj hij=>?_
 rcases ordsS.tri (x[i]).name (x[j]).name with q | q | q
 ·exact q
 ·have h1:x[i]∈y:=hp.mem_iff.1 (List.getElem_mem hi)
  have h2:x[j]∈y:=hp.mem_iff.1 (List.getElem_mem hj)
  obtain⟨a,ha,ea⟩:=List.getElem_of_mem h1
  obtain⟨b,hb,eb⟩:=List.getElem_of_mem h2
  have hpg:=List.pairwise_iff_getElem.1 hy
  have hab:a=b:=by
   rcases Nat.lt_trichotomy a b with g | g | g
   ·have:=hpg a b ha hb g
    unfold wlt at this
    rw[ea,eb,q] at this
    exact absurd this (ordsS.irr _)
   ·exact g
   ·have:=hpg b a hb ha g
    unfold wlt at this
    rw[ea,eb,q] at this
    exact absurd this (ordsS.irr _)
  subst hab
  have e:x[i]=x[j]:=ea.symm.trans eb
  have:=List.pairwise_iff_getElem.1 hnd i j hi hj hij
  exact absurd e this
 ·exact absurd q (hx i j hi hj hij)
theorem Zpm(lvl:Nat)(S:Sto)(id:Oid)(hw:Nat)(hid:id.1<lvl):Sem Tryz.prog Z4 lvl [.hd id [] 0 0 none hw,iI 0,iI 0,.fn Js []] S (.tu []) S:=by
 have hne:id.1≠lvl:=by omega
 refine Zc VJ trivial ?_
 simp only[JM,EVA,seval,Zd,men]
 refine⟨by rw[Ze];omega,?_⟩
 refine Z8 (α:=Unit) 0 (fun _ _=>⟨lvl,[(0,.hd id [] 0 0 none hw),(1,iI 0),(2,iI 0),(3,.fn Js []),(8,iI 1)],[],S⟩) (fun _ _=>True) () ⟨by simp only[Jv hne,EVA,seval,Zd,men],by (simp only[EVA,seval,Zd,men]) <;> rfl⟩ trivial ?_
 intro _ _ _ _
 simp only[EVA,seval,Zd,men]
theorem Zpn(r:Int)(lvl:Nat)(S:Sto)(id:Oid)(hw:Nat)(hid:id.1<lvl):Sem Tryz.prog ZI lvl [.hd id [] 0 0 none hw,iI 0,iI 0,iI r,.fn Js []] S (.tu []) S:=by
 have hne:id.1≠lvl:=by omega
 refine Zc Xz trivial ?_
 simp only[Yy,EVA,seval,Zd,men]
 refine Z8 (α:=Unit) 0 (fun _ _=>⟨lvl,[(0,.hd id [] 0 0 none hw),(1,iI 0),(2,iI 0),(3,iI r),(4,.fn Js []),(10,iB true),(11,iB true)],[],S⟩) (fun _ _=>True) () ⟨by simp only[Jv hne,EVA,seval,Zd,men],by (simp only[EVA,seval,Zd,men]) <;> rfl⟩ trivial ?_
 intro _ _ _ _
 simp only[EVA,seval,Zd,men]
 refine⟨by rw[Ze];omega,?_⟩
 simp only[Zjf]
 refine Xc [] S (fun _ _=>rfl) (Zpm (lvl+1) (ZG lvl [] S) id hw (by omega)) ?_
 simp only[Jv hne,EVA,seval,Zd,men]
theorem Znm(lvl:Nat)(S:Sto)(id:Oid)(u:Bool)(hw ver:Nat)(hid:id.1<lvl)(hS:S id=some (.ar 2 [] u hw ver)):Sem Tryz.prog ZM lvl [.hd id [] 0 0 none hw,.fn Js []] S (.tu []) (ZP S id (.ar 2 [] u hw ver)):=by
 rw[Xd hS]
 have hne:id.1≠lvl:=by omega
 obtain⟨r,hr⟩:=Zlc (v:=0) (by omega) (by omega)
 refine Zc Qe trivial ?_
 simp only[JW,EVA,seval,Zd,men]
 refine⟨⟨by decide,by decide⟩,Za hr ?_⟩
 simp only[EVA,seval,Zd,men]
 refine Xc [] S (fun _ _=>rfl) (Zpn r (lvl+1) (ZG lvl [] S) id hw (by omega)) ?_
 simp only[Jv hne,EVA,seval,Zd,men]
theorem Zpo(l ys:List TWire)(hp:ys.Perm l)(hs:ys.Pairwise wlt)(hl:l.length<=4294967296)(lvl:Nat)(S:Sto)(id:Oid)(u:Bool)(hw ver:Nat)(hid:id.1<lvl)(hS:S id=some (.ar 2 (l.map Ji) u hw ver)) :
  Sem Tryz.prog ZM lvl [.hd id [] 0 l.length none hw,.fn Js []] S (.tu []) (ZP S id (.ar 2 (ys.map Ji) u hw ver)):=by
 by_cases h0:l=[]
 ·subst h0
  have hy:ys=[]:=List.length_eq_zero_iff.1 (by simpa using hp.length_eq)
  subst hy
  exact Znm lvl S id u hw ver hid hS
 ·have hpos:0<l.length:=List.length_pos_iff.2 h0
  refine Zig (enc:=Zxq) (k:=2) (fun _=>rfl) (by decide) (Zc8 (by kernel_rfl)) hid hS (fun x v hv=>by simp [Zxq] at hv;rcases hv with rfl | rfl <;> rfl) hp.length_eq hpos fun b cap w hH hb=>?_
  have hcon:=AnyQ.slices_SortFunc Tryz.sortW 2 Tryz.isAgg132 Tryz.sizeOf132 Zxq (fun _=>rfl) (fun x v hv=>by simp [Zxq] at hv;rcases hv with rfl | rfl <;> rfl) Zrb ZDH 260 #[] b 0 cap l.toArray w (enters_of Tryz.func260 (by kernel_rfl) rfl) (Zrc b 0 _ w) hH hb (by simp;omega)
  have hsz:l.toArray.size=l.length:=by simp
  rw[hsz] at hcon
  refine Calls.mono hcon ?_
  rintro e w' ⟨rfl,d',n,os,hperm,hsort,rfl⟩
  refine⟨rfl,n,os,?_⟩
  have hds:d'.size=l.length:=by rw[hperm.1,hsz]
  have hd:d'.toList=ys:=by
   have h1:d'.toList.Perm l:=by
    have:=hperm.2.2
    rw[show d'.extract 0 l.length=d' from by rw[<-hds];exact Array.extract_size,show l.toArray.extract 0 l.length=l.toArray from by rw[<-hsz];exact Array.extract_size] at this
    simpa using this
   refine ZCn (ZDI hs (h1.trans hp.symm) fun i j hi hj hij hlt=>?_) hs (h1.trans hp.symm)
   have hjj:j<d'.size:=by simpa using hj
   have hii:i<d'.size:=by simpa using hi
   have:=hsort i j (Nat.zero_le _) hij (by omega)
   rw[Zmy] at this
   have h2:d'[j]! = d'.toList[j]:=by simp [hjj]
   have h3:d'[i]! = d'.toList[i]:=by simp [hii]
   rw[h2,h3] at this
   unfold wlt ltS at hlt
   rw[this] at hlt
   cases hlt
  rw[<-hd]
end Go.Fd

/-
  BIGRAPHS SIDE BY SIDE, THE PROGRAM'S SIDE. Own work.
-/
namespace Go.Fd
set_option maxRecDepth 20000
theorem Zpp:ZK Proofs.Tryz.prog Z3 (ZoD 1 none)=true:=by kernel_rfl
theorem Zsa:ZK Proofs.Tryz.prog ZC (ZrU Z3)=true:=by kernel_rfl
theorem ZeQ(b:List ByteArray)(s:ByteArray)(hb:b.length<=4294967296)(lvl:Nat)(S:Sto):Sem Proofs.Tryz.prog Yv lvl [iS s,.ta [Tr.sl (rS b)]] S (iB (dc (s∈b))) S:=by
 refine Zc Zca trivial ?_
 simp only[Ud,EVA,↓reduceIte,Nat.reduceEqDiff,Nat.reduceMul,reduceCtorEq,Nat.reduceAdd,Nat.reduceSub,Nat.reduceLeDiff,Nat.reduceLT,Int.reduceToNat,Int.reduceLE,Int.reduceLT,Zd,men]
 refine Za (DS b s hb) ?_
 simp only[EVA,↓reduceIte,Nat.reduceEqDiff,Nat.reduceMul,reduceCtorEq,Nat.reduceAdd,Nat.reduceSub,Nat.reduceLeDiff,Nat.reduceLT,Int.reduceToNat,Int.reduceLE,Int.reduceLT,Zd,men]
theorem Zg1(a b:List ByteArray)(ha:a.length<=4294967296)(hb:b.length<=4294967296)(lvl:Nat)(S:Sto):Sem Proofs.Tryz.prog QO lvl [.tr (.sl (rS a)),.tr (.sl (rS b))] S (iB (!dc (∀ x∈a,x ∉ b))) S:=by
 have q:=Ze8 (P:=Proofs.Tryz.prog) Zsa Zpp (t:=fun n:ByteArray=>ts n) (f:=fun s=>dc (s∈b)) (fe:=Yv) (cs:=[[Tr.sl (rS b)]]) a (by omega) (fun x _ lvl S=>ZeQ b x hb lvl S)
 have e:a.any (fun s=>dc (s∈b)) = !dc (∀ x∈a,x ∉ b):=by
  cases h:dc (∀ x∈a,x ∉ b)
  ·have h1:=dc_not.1 h
   have:∃ x∈a,x∈b:=Classical.byContradiction fun g=>h1 fun x hx hb=>g ⟨x,hx,hb⟩
   obtain⟨x,hx,hxb⟩:=this
   simp only[Bool.not_false,List.any_eq_true]
   exact⟨x,hx,ZN hxb⟩
  ·have h1:=dc_iff.1 h
   simp only[Bool.not_true,List.any_eq_false]
   intro x hx
   rw[Zj (h1 x hx)]
   decide
 rw[e] at q
 refine Zc ZdQ trivial ?_
 simp only[Dc,EVA,↓reduceIte,Nat.reduceEqDiff,Nat.reduceMul,reduceCtorEq,Nat.reduceAdd,Nat.reduceSub,Nat.reduceLeDiff,Nat.reduceLT,Int.reduceToNat,Int.reduceLE,Int.reduceLT,Zd,men]
 refine Za q ?_
 simp only[EVA,↓reduceIte,Nat.reduceEqDiff,Nat.reduceMul,reduceCtorEq,Nat.reduceAdd,Nat.reduceSub,Nat.reduceLeDiff,Nat.reduceLT,Int.reduceToNat,Int.reduceLE,Int.reduceLT,Zd,men]
theorem Zg2(a:TBigraph)(p:Int)(hp:-4294967296<=p/\p<=4294967296)(ha:0<=a.roots/\a.roots<=4)(lvl:Nat)(S:Sto):Sem Proofs.Tryz.prog Y4 lvl [iI p,.ta (Zb a)] S (iI (p-a.roots)) S:=by
 refine Zc ZdR trivial ?_
 simp only[Dd,Zb,EVA,↓reduceIte,Nat.reduceEqDiff,Nat.reduceMul,reduceCtorEq,Nat.reduceAdd,Nat.reduceSub,Nat.reduceLeDiff,Nat.reduceLT,Int.reduceToNat,Int.reduceLE,Int.reduceLT,Zd,men]
 rw[Ze];omega
theorem Zg3(e:Int×ByteArray)(lvl:Nat)(S:Sto):Sem Proofs.Tryz.prog Y5 lvl [oE e] S (oE e) S:=by
 refine Zc ZdS (by simp [low,men,Zd]) ?_
 simp only[De,EVA,↓reduceIte,Nat.reduceEqDiff,Nat.reduceMul,reduceCtorEq,Nat.reduceAdd,Nat.reduceSub,Nat.reduceLeDiff,Nat.reduceLT,Int.reduceToNat,Int.reduceLE,Int.reduceLT,Zd,men]
theorem ZCo{b:TBigraph}{F:Int->Int}:(b.inner.map (Zbk F)).map TWire.name=inn b:=by simp [inn,Zbk]
theorem Zmz{sig:List TControl}{b:TBigraph}(h:bigOK sig b){F:Int->Int}:(b.inner.map (Zbk F)).Pairwise wlt:=by
 have hp:=ZiO h.inn
 unfold inn at hp
 rw[List.pairwise_map] at hp ⊢
 exact hp
theorem Zxr{sig:List TControl}{a b:TBigraph}(ha:bigOK sig a)(hb:bigOK sig b)(hd:∀ x∈inn a,x ∉ inn b){F F':Int->Int}:(UY (a.inner.map (Zbk F)) (b.inner.map (Zbk F'))).Pairwise wlt :=
 Zmw (Zmz ha) (Zmz hb) fun x hx y hy e=>by
  refine hd x.name ?_ ?_
  ·rw[<-ZCo (F:=F)];exact List.mem_map.2 ⟨x,hx,rfl⟩
  ·rw[<-ZCo (F:=F'),e];exact List.mem_map.2 ⟨y,hy,rfl⟩
theorem Zrd{a:TBigraph}:Zr8 a.nodes.length (fun p=>p-a.roots)=Zlk a:=rfl
theorem ZtW{sig:List TControl}{a b:TBigraph}(ha:bigOK sig a)(hb:bigOK sig b) :
  ZaY a b (a.roots+b.roots) a.sites (YG a b) (Zda a (a.edges+b.edges) (YG a b) fun x=>x) (Zda b (a.edges+b.edges) (YG a b) (ZeP a fun s=>(0,s))) (Zlk a)=Zui a b :=
 Zgj ha hb (fun l hl=>Zxm ha hl) (fun l hl=>ZCl hb (fun i hi=>if_neg (Zbi hb.outer (List.getElem_mem hi))) hl) fun p _=>rfl
theorem ZtX{sig:List TControl}{a b:TBigraph}(ha:bigOK sig a):a.inner.map (Zbk (Zda a (a.edges+b.edges) (YG a b) fun x=>x))=a.inner.map (Zbk fun l=>g0 (Znk a b) l.toNat):=List.map_congr_left fun w hw=>by
 unfold Zbk
 rw[Zxm ha (ha.inner w hw)]
 rfl
theorem Zkh(sig:List TControl)(a b:TBigraph)(ha:bigOK sig a)(hb:bigOK sig b)(hd:∀ x∈inn a,x ∉ inn b)(lvl:Nat)(S:Sto):Sem Proofs.Tryz.prog XR lvl [.ag ((Zb a).map .tr),.ag ((Zb b).map .tr)] S (Zra (Zdy a b) (decide (b.nodes.length=0))) S:=by
 have ra:=ha.roots;have rb:=hb.roots
 have ea:=ha.edges;have eb:=hb.edges
 have sa:=ha.small;have sb:=hb.small
 have a1:=sa.nodes;have a2:=sa.sites;have a3:=sa.inner;have a4:=sa.outer
 have b1:=sb.nodes;have b2:=sb.sites;have b3:=sb.inner;have b4:=sb.outer
 have hol:=We (a:=a) (b:=b)
 have lnA:∀ x∈a.nodes,∀ l∈x.links,ZV a l:=fun x hx l hl=>by
  obtain⟨k,hk,rfl⟩:=List.getElem_of_mem hx
  exact(ha.nodes k hk).links l hl
 have hfl:[a.outer,b.outer].flatten=a.outer++b.outer:=by simp
 have hc:=Zgl [a.outer,b.outer] (by simp) (by rw[hfl,List.length_append];omega)
 rw[hfl] at hc
 have qj:=Zgk sig a b (Zui a b) ha hb (a.roots+b.roots) a.sites (by omega) (a.outer++b.outer) (by rw[List.length_append];omega) Y4 [Zb a] (fun p=>p-a.roots) YQ [] (fun s=>(0,s)) (fun p h1 h2 lvl S=>Zg2 a p (by omega) ra lvl S) (fun x _ lvl S=>Zhx x lvl S) (by rw[Zrd];exact ZtW ha hb)
 have qr:=UH a (a.edges+b.edges) (a.outer++b.outer) Y5 [] (fun x=>x) ea.1 (QT (by omega) (XC ha)) (by omega) (by omega) (by rw[List.length_append];omega) lnA ha.inner (fun l _ lvl S=>Zg3 (Ze9 a l) lvl S)
 refine Zc ZfQ (by simp [low,men,Zd]) ?_
 simp only[ZaN,Zb,EVA,↓reduceIte,Nat.reduceEqDiff,Nat.reduceMul,reduceCtorEq,Nat.reduceAdd,Nat.reduceSub,Nat.reduceLeDiff,Nat.reduceLT,Int.reduceToNat,Int.reduceLE,Int.reduceLT,Zd,men]
 refine⟨by simp,by simp,Za hc ?_⟩
 simp only[Zb,List.length_map,EVA,↓reduceIte,Nat.reduceEqDiff,Nat.reduceMul,reduceCtorEq,Nat.reduceAdd,Nat.reduceSub,Nat.reduceLeDiff,Nat.reduceLT,Int.reduceToNat,Int.reduceLE,Int.reduceLT,Zd,men]
 simp only[Zb,ZBO,List.map_cons,List.map_nil] at qj
 refine⟨by rw[Ze];omega,Za qj ?_⟩
 simp only[Zb,List.length_map,EVA,↓reduceIte,Nat.reduceEqDiff,Nat.reduceMul,reduceCtorEq,Nat.reduceAdd,Nat.reduceSub,Nat.reduceLeDiff,Nat.reduceLT,Int.reduceToNat,Int.reduceLE,Int.reduceLT,Zd,men]
 rw[show Vt (a.outer++b.outer)=YG a b from rfl] at qr
 have hA1:a.inner.map (fun w=>({ name:=w.name,link:=Zda a (a.edges+b.edges) (YG a b) (fun x=>x) w.link }:TWire))=a.inner.map (Zbk fun l=>g0 (Znk a b) l.toNat):=ZtX ha
 simp only[Zb,Zi,U1,List.map_cons,List.map_nil] at qr
 simp only[hA1] at qr
 obtain⟨A1,hA⟩:∃ l,l=a.inner.map (Zbk fun l=>g0 (Znk a b) l.toNat):=⟨_,rfl⟩
 obtain⟨B1,hB⟩:∃ l,l=(Zui a b).inner:=⟨_,rfl⟩
 have hBb:B1=b.inner.map (Zbk fun l=>g0 (Zpj a b) l.toNat):=hB
 have lA:A1.length=a.inner.length:=by rw[hA,List.length_map]
 have lB:B1.length=b.inner.length:=by rw[hBb,List.length_map]
 have hpw:(UY A1 B1).Pairwise wlt:=by rw[hA,hBb];exact Zxr ha hb hd
 have hmx:max a.inner.length (a.inner.length+b.inner.length)=a.inner.length+b.inner.length:=by omega
 have hpi:(Zdy a b).inner=UY A1 B1:=by rw[hA,hBb];rfl
 rw[<-hA] at qr
 rw[<-hB]
 refine Za qr ?_
 simp only[Zb,Zxf,Zxg,lA,lB,hmx,List.length_append,List.length_map,EVA,↓reduceIte,Nat.reduceEqDiff,Nat.reduceMul,reduceCtorEq,Nat.reduceAdd,Nat.reduceSub,Nat.reduceLeDiff,Nat.reduceLT,Int.reduceToNat,Int.reduceLE,Int.reduceLT,Zd,men]
 rw[<-List.map_append]
 refine⟨by omega,?_⟩
 have hab:(A1++B1).length=a.inner.length+b.inner.length:=by rw[List.length_append];omega
 have s1:=fun S' hS=>Zpo (A1++B1) (UY A1 B1) wjoin_perm hpw (by omega) (lvl+1) S' (lvl,963) true (a.inner.length+b.inner.length) 0 (Nat.lt_succ_self _) hS
 rw[hab] at s1
 refine ZiI 963 _ (s1 _ ?_) ?_
 ·rw[YV];rfl
 simp only[Zdk,lA,lB,List.length_map,EVA,↓reduceIte,Nat.reduceEqDiff,Nat.reduceMul,reduceCtorEq,Nat.reduceAdd,Nat.reduceSub,Nat.reduceLeDiff,Nat.reduceLT,Int.reduceToNat,Int.reduceLE,Int.reduceLT,Zd,men]
 simp only[Zra,hpi]
 rfl
theorem Zpq{sig:List TControl}{a b:TBigraph}(ha:bigOK sig a)(hb:bigOK sig b):∀ l,ZV b l->sm (g0 (Zpj a b) l.toNat):=fun l hl=>by
 have ea:=ha.edges;have eb:=hb.edges
 have a4:=ha.small.outer;have b4:=hb.small.outer
 have hol:=We (a:=a) (b:=b)
 refine Zpc ha hb (fun x hx=>?_) hl
 have:=Zga (l:=YG a b) (s:=x)
 have:=Zey (l:=YG a b) (s:=x)
 unfold sm
 omega
theorem Zpr{sig:List TControl}{a b:TBigraph}(ha:bigOK sig a)(hb:bigOK sig b):∀ l,ZV a l->sm (g0 (Znk a b) l.toNat):=fun l hl=>by
 have a4:=ha.small.outer;have b4:=hb.small.outer
 have hol:=We (a:=a) (b:=b)
 exact Zpd ha hb (by omega) l hl
theorem Zlm{a b:TBigraph}{w:TWire}(h:w∈(Zdy a b).inner):w∈a.inner.map (Zbk fun l=>g0 (Znk a b) l.toNat)\/w∈b.inner.map (Zbk fun l=>g0 (Zpj a b) l.toNat):=List.mem_append.1 (wjoin_perm.mem_iff.1 h)
theorem ZmA{sig:List TControl}{a b:TBigraph}(ha:bigOK sig a)(hb:bigOK sig b):Zt 4294967290 (Zdy a b):=by
 have sa:=ha.small;have sb:=hb.small
 have a2:=sa.sites;have a3:=sa.inner;have b3:=sb.inner;have a4:=sa.outer;have b4:=sb.outer
 have hol:=We (a:=a) (b:=b)
 obtain⟨b1,b2,b3',b4',b5,b6,b7⟩:=Zpa (roots:=a.roots+b.roots) (ss:=a.sites) (o:=YG a b) (FL:=fun l=>g0 (Znk a b) l.toNat) (FR:=fun l=>g0 (Zpj a b) l.toNat) (mv:=Zlk a) ha hb (by omega) (by omega) fun y hy=>by
  rcases List.mem_append.1 (setS_mem.1 hy) with hy | hy
  ·have:=Yr ha.outer hy;omega
  ·have:=Yr hb.outer hy;omega
 refine⟨b1,b2,b3',b4',b5,?_,fun w hw=>?_⟩
 ·show (UY _ _).length<=_
  rw[Zdk,List.length_map,List.length_map]
  omega
 ·rcases Zlm hw with h | h
  ·obtain⟨x,hx,rfl⟩:=List.mem_map.1 h
   have:=Yr ha.inn (List.mem_map.2 ⟨x,hx,rfl⟩)
   simp only[Zej,Zbk]
   omega
  ·obtain⟨x,hx,rfl⟩:=List.mem_map.1 h
   have:=Yr hb.inn (List.mem_map.2 ⟨x,hx,rfl⟩)
   simp only[Zej,Zbk]
   omega
theorem Zxs{sig:List TControl}{a b:TBigraph}(ha:bigOK sig a)(hb:bigOK sig b){p:Int}(h1:-b.roots<=p)(h2:p<b.nodes.length):sm (Zlk a p):=by
 have a1:=ha.small.nodes;have b1:=hb.small.nodes
 have ra:=ha.roots;have rb:=hb.roots
 unfold Zlk sm
 split <;> omega
theorem ZtY{sig:List TControl}{a:TBigraph}(ha:bigOK sig a):∀ p∈a.sites,sm p:=fun p hp=>by
 have h1:=Ju ha.roots.1 (ha.sites p hp)
 have h2:=X6 ha hp
 have ra:=ha.roots
 have a1:=ha.small.nodes
 unfold sm
 omega
theorem Zsb{sig:List TControl}{a b:TBigraph}(ha:bigOK sig a)(hb:bigOK sig b)(fa:ZB a)(fb:ZB b):ZB (Zdy a b):=by
 have ra:=ha.roots;have rb:=hb.roots
 obtain⟨f1,f2,f3,f4,f5⟩:=Zpb (roots:=a.roots+b.roots) (ss:=a.sites) (o:=YG a b) (FL:=fun l=>g0 (Znk a b) l.toNat) (FR:=fun l=>g0 (Zpj a b) l.toNat) (mv:=Zlk a) ha hb fa fb (by unfold sm;omega) (ZtY ha) (Zpr ha hb) (Zpq ha hb) fun p h1 h2=>Zxs ha hb h1 h2
 refine⟨f1,f2,f3,f4,fun w hw=>?_⟩
 rcases Zlm hw with h | h
 ·obtain⟨x,hx,rfl⟩:=List.mem_map.1 h
  exact Zdh (Zpr ha hb _ (ha.inner x hx))
 ·obtain⟨x,hx,rfl⟩:=List.mem_map.1 h
  exact Zdh (Zpq ha hb _ (hb.inner x hx))
def Un(sig:List TControl)(a b:TBigraph):Prop:=bigOK sig a/\bigOK sig b/\(∀ x∈inn a,x ∉ inn b)/\bigOK sig (Zdy a b)
open Classical in
noncomputable def YB(sig:List TControl)(a b:TBigraph):TBigraph:=if Un sig a b then Zdy a b else J3
noncomputable def YC(sig:List TControl)(a b:TBigraph):Bool:=dc (Un sig a b)
theorem QY(sig:List TControl)(a b:TBigraph)(hn:sig.length<=4294967296)(hbs:∀ y∈sig,Zp 4294967296 y)(hba:Zt 4294967296 a)(hbb:Zt 4294967296 b)(fa:ZB a)(fb:ZB b)(lvl:Nat)(S:Sto):Sem Proofs.Tryz.prog JO lvl [.tr (.sl (sig.map Zh)),.ag ((Zb a).map .tr),.ag ((Zb b).map .tr)] S (.tu [Zi (YB sig a b),iB (YC sig a b)]) S:=by
 refine Zc Zam (by simp [Zi,low,men,Zd]) ?_
 simp only[XH,Zb,EVA,↓reduceIte,Nat.reduceEqDiff,Nat.reduceMul,reduceCtorEq,Nat.reduceAdd,Nat.reduceSub,Nat.reduceLeDiff,Nat.reduceLT,Int.reduceToNat,Int.reduceLE,Int.reduceLT,Zd,men]
 have i1:=Jz sig a hn hbs hba
 have i2:=Jz sig b hn hbs hbb
 simp only[Zb,List.map_cons,List.map_nil] at i1 i2
 refine Za i1 ?_
 unfold YB YC
 cases h1:dc (bigOK sig a)
 ·have hno:¬ Un sig a b:=fun g=>dc_not.1 h1 g.1
  rw[if_neg hno,Zj hno]
  simp only[EVA,↓reduceIte,Nat.reduceEqDiff,Nat.reduceMul,reduceCtorEq,Nat.reduceAdd,Nat.reduceSub,Nat.reduceLeDiff,Nat.reduceLT,Int.reduceToNat,Int.reduceLE,Int.reduceLT,Zd,men]
  rfl
 have hA:=dc_iff.1 h1
 simp only[Zb,EVA,↓reduceIte,Nat.reduceEqDiff,Nat.reduceMul,reduceCtorEq,Nat.reduceAdd,Nat.reduceSub,Nat.reduceLeDiff,Nat.reduceLT,Int.reduceToNat,Int.reduceLE,Int.reduceLT,Zd,men]
 refine Za i2 ?_
 cases h2:dc (bigOK sig b)
 ·have hno:¬ Un sig a b:=fun g=>dc_not.1 h2 g.2.1
  rw[if_neg hno,Zj hno]
  simp only[EVA,↓reduceIte,Nat.reduceEqDiff,Nat.reduceMul,reduceCtorEq,Nat.reduceAdd,Nat.reduceSub,Nat.reduceLeDiff,Nat.reduceLT,Int.reduceToNat,Int.reduceLE,Int.reduceLT,Zd,men]
  rfl
 have hB:=dc_iff.1 h2
 have sa:=hA.small;have sb:=hB.small
 have a3:=sa.inner;have b3:=sb.inner
 simp only[Zb,EVA,↓reduceIte,Nat.reduceEqDiff,Nat.reduceMul,reduceCtorEq,Nat.reduceAdd,Nat.reduceSub,Nat.reduceLeDiff,Nat.reduceLT,Int.reduceToNat,Int.reduceLE,Int.reduceLT,Zd,men]
 have n1:=UW a (by omega)
 have n2:=UW b (by omega)
 simp only[Zb,List.map_cons,List.map_nil] at n1 n2
 refine Za n1 ?_
 simp only[Zb,List.length_map,EVA,↓reduceIte,Nat.reduceEqDiff,Nat.reduceMul,reduceCtorEq,Nat.reduceAdd,Nat.reduceSub,Nat.reduceLeDiff,Nat.reduceLT,Int.reduceToNat,Int.reduceLE,Int.reduceLT,Zd,men]
 refine Za n2 ?_
 simp only[Zb,List.length_map,EVA,↓reduceIte,Nat.reduceEqDiff,Nat.reduceMul,reduceCtorEq,Nat.reduceAdd,Nat.reduceSub,Nat.reduceLeDiff,Nat.reduceLT,Int.reduceToNat,Int.reduceLE,Int.reduceLT,Zd,men]
 refine Za (Zg1 (inn a) (inn b) (by rw[ZdW];omega) (by rw[ZdW];omega)) ?_
 cases h3:dc (∀ x∈inn a,x ∉ inn b)
 ·have hno:¬ Un sig a b:=fun g=>dc_not.1 h3 g.2.2.1
  rw[if_neg hno,Zj hno]
  simp only[EVA,↓reduceIte,Nat.reduceEqDiff,Nat.reduceMul,reduceCtorEq,Nat.reduceAdd,Nat.reduceSub,Nat.reduceLeDiff,Nat.reduceLT,Int.reduceToNat,Int.reduceLE,Int.reduceLT,Zd,men]
  rfl
 have hD:=dc_iff.1 h3
 simp only[Zb,EVA,↓reduceIte,Nat.reduceEqDiff,Nat.reduceMul,reduceCtorEq,Nat.reduceAdd,Nat.reduceSub,Nat.reduceLeDiff,Nat.reduceLT,Int.reduceToNat,Int.reduceLE,Int.reduceLT,Zd,men]
 have qc:=Zkh sig a b hA hB hD
 simp only[Zb,Zra,List.map_cons,List.map_nil] at qc
 refine Za qc ?_
 simp only[Zb,List.length_map,EVA,↓reduceIte,Nat.reduceEqDiff,Nat.reduceMul,reduceCtorEq,Nat.reduceAdd,Nat.reduceSub,Nat.reduceLeDiff,Nat.reduceLT,Int.reduceToNat,Int.reduceLE,Int.reduceLT,Zd,men]
 have qv:=Zde sig (Zdy a b) hn hbs (ZmA hA hB) (Zsb hA hB fa fb)
 simp only[Zb,List.map_cons,List.map_nil] at qv
 refine Za qv ?_
 cases h6:dc (bigOK sig (Zdy a b))
 ·have hno:¬ Un sig a b:=fun g=>dc_not.1 h6 g.2.2.2
  rw[if_neg hno,Zj hno,if_neg (dc_not.1 h6)]
  simp only[Zi,List.length_map,EVA,↓reduceIte,Nat.reduceEqDiff,Nat.reduceMul,reduceCtorEq,Nat.reduceAdd,Nat.reduceSub,Nat.reduceLeDiff,Nat.reduceLT,Int.reduceToNat,Int.reduceLE,Int.reduceLT,Zd,men]
  rfl
 ·have hyes:Un sig a b:=⟨hA,hB,hD,dc_iff.1 h6⟩
  rw[if_pos hyes,ZN hyes,if_pos (dc_iff.1 h6)]
  simp only[Zi,List.length_map,EVA,↓reduceIte,Nat.reduceEqDiff,Nat.reduceMul,reduceCtorEq,Nat.reduceAdd,Nat.reduceSub,Nat.reduceLeDiff,Nat.reduceLT,Int.reduceToNat,Int.reduceLE,Int.reduceLT,Zd,men]
end Go.Fd

/-
  BIGRAPHS SIDE BY SIDE: THE REFERENCE'S ANSWERS; JUXTAPOSITION (printed by mkpar.py). Own work.
-/
namespace Go.Fd
set_option maxRecDepth 20000
end Go.Fd

/-
  THE MERGED PRODUCT, IN PLAIN TERMS. Own work.
-/
namespace Go.Fd
set_option maxRecDepth 20000
def ZkC(p:Int):Int:=max (-1) p
def Zsc(x:TNode):TNode:=⟨x.control,ZkC x.parent,x.links⟩
def Zln(b:TBigraph):TBigraph:=⟨1,b.nodes.map Zsc,b.sites.map ZkC,b.edges,b.outer,b.inner⟩
def Zps(b:TBigraph):Prop:=0<=b.roots/\(∀ x∈b.nodes,-b.roots<=x.parent)/\∀ p∈b.sites,-b.roots<=p
theorem Zbm{sig:List TControl}{b:TBigraph}{p below:Int}(h:-b.roots<=p):Uq sig (Zln b) (ZkC p) below↔Uq sig b p below:=by
 unfold Uq ZkC
 by_cases h0:0<=p
 ·rw[show max (-1) p=p by omega]
  have e:ZgX (Zln b) p=ZgX b p:=by
   unfold ZgX Zln
   rw[List.getElem?_map]
   cases b.nodes[p.toNat]? <;> rfl
  rw[e]
  constructor
  ·rintro(q | q)
   ·omega
   ·exact .inr q
  ·rintro(q | q)
   ·omega
   ·exact .inr q
 ·have e:max (-1) p = -1:=by omega
  rw[e]
  constructor
  ·intro _
   exact .inl ⟨by omega,h⟩
  ·intro _
   refine .inl ⟨by omega,?_⟩
   show -(1:Int) <= -1
   omega
theorem Zpt{sig:List TControl}{b:TBigraph}(h:Zps b):bigOK sig (Zln b)/\b.roots<=4↔bigOK sig b:=by
 obtain⟨h0,h1,h2⟩:=h
 have hl:(Zln b).nodes.length=b.nodes.length:=List.length_map ..
 have hs:(Zln b).sites.length=b.sites.length:=List.length_map ..
 constructor
 ·rintro⟨g,hr⟩
  refine⟨g.sg,⟨h0,hr⟩,by rw[<-hl];exact g.nodesL,by rw[<-hs];exact g.sitesL,g.edges,g.outer,g.inn,fun i hi=>?_,fun p hp=>?_,g.inner⟩
  ·have q:=g.nodes i (by rw[hl];exact hi)
   have e:(Zln b).nodes[i]'(by rw[hl];exact hi)=Zsc b.nodes[i]:=by simp [Zln]
   rw[e] at q
   exact⟨q.ctl,(Zbm (h1 _ (List.getElem_mem hi))).1 q.par,q.ports,q.links⟩
  ·have q:=g.sites (ZkC p) (List.mem_map.2 ⟨p,hp,rfl⟩)
   rw[hl] at q
   exact(Zbm (h2 p hp)).1 q
 ·intro g
  refine⟨⟨g.sg,by show (0:Int)<=1/\(1:Int)<=4;omega,by rw[hl];exact g.nodesL,by rw[hs];exact g.sitesL,g.edges,g.outer,g.inn,fun i hi=>?_,fun p hp=>?_,g.inner⟩,g.roots.2⟩
  ·have hi2:i<b.nodes.length:=by rw[<-hl];exact hi
   have q:=g.nodes i hi2
   have e:(Zln b).nodes[i]=Zsc b.nodes[i]:=by simp [Zln]
   rw[e]
   exact⟨q.ctl,(Zbm (h1 _ (List.getElem_mem hi2))).2 q.par,q.ports,q.links⟩
  ·obtain⟨p0,hp0,rfl⟩:=List.mem_map.1 hp
   rw[hl]
   exact(Zbm (h2 p0 hp0)).2 (g.sites p0 hp0)
theorem Zd0{sig:List TControl}{a b:TBigraph}(ha:bigOK sig a)(hb:bigOK sig b):Zps (Zdy a b):=by
 have ra:=ha.roots;have rb:=hb.roots
 have hbes:∀ p,-b.roots<=p -> -(a.roots+b.roots)<=Zlk a p:=fun p hp=>by
  unfold Zlk
  split <;> omega
 refine⟨?_,fun x hx=>?_,fun p hp=>?_⟩
 ·show 0<=a.roots+b.roots
  omega
 ·show -(a.roots+b.roots)<=x.parent
  rcases List.mem_append.1 hx with hx | hx
  ·obtain⟨y,hy,rfl⟩:=List.mem_map.1 hx
   obtain⟨k,hk,rfl⟩:=List.getElem_of_mem hy
   have:=Ju ra.1 (ha.nodes k hk).par
   show _<=(a.nodes[k]).parent
   omega
  ·obtain⟨y,hy,rfl⟩:=List.mem_map.1 hx
   obtain⟨k,hk,rfl⟩:=List.getElem_of_mem hy
   exact hbes _ (Ju rb.1 (hb.nodes k hk).par)
 ·show -(a.roots+b.roots)<=p
  rcases List.mem_append.1 hp with hp | hp
  ·have:=Ju ra.1 (ha.sites p hp)
   omega
  ·obtain⟨y,hy,rfl⟩:=List.mem_map.1 hp
   exact hbes _ (Ju rb.1 (hb.sites y hy))
theorem ZmB{b:TBigraph}{n:Nat}(hn:b.roots=n){p:Int}(h:-b.roots<=p):ZdX 0 (List.replicate n (-1)) p=ZkC p:=by
 unfold ZdX ZkC
 by_cases h0:0<=p
 ·rw[if_neg (by omega)]
  omega
 ·rw[if_pos (by omega)]
  have hk:(-1-p).toNat<n:=by omega
  show (List.replicate n (-1:Int)).getD _ 0=_
  rw[List.getD_eq_getElem?_getD,List.getElem?_replicate,if_pos hk]
  show (-1:Int)=_
  omega
noncomputable def Zhy(a b:TBigraph):TBigraph:=Zln (Zdy a b)
open Classical in
noncomputable def VL(sig:List TControl)(a b:TBigraph):TBigraph:=if Un sig a b then Zhy a b else J3
noncomputable def VM(sig:List TControl)(a b:TBigraph):Bool:=dc (Un sig a b)
end Go.Fd

/-
  SMALL WORDS FOR MARKS. Own work.
-/
namespace Go.Fd
theorem Zsd{α:Type}{m:α->Int->α}{n:α->Nat}:∀{a:List α} {k:Int} {j:Nat} (h:j<a.length),(mL m n a k)[j]? = some (m a[j] (kJ n a k j))
 | [],_,_,h=>by cases h
 | x::r,k,0,_=>by simp [mL,kJ,nL]
 | x::r,k,j+1,h=>by
  simp only[mL,List.getElem?_cons_succ,List.getElem_cons_succ]
  rw[Zsd (by simpa using h)]
  simp only[kJ,List.take_succ_cons,nL]
  congr 2
  omega
theorem Zxt{α:Type}{c:α->List Tr}{m:α->Int->α}{n:α->Nat}{a:List α}{k:Int}{j:Nat}(h:j<a.length):((mL m n a k).map c)[j]? = some (c (m a[j] (kJ n a k j))):=by
 rw[List.getElem?_map,Zsd h];rfl
theorem JB{α:Type}{c:α->List Tr}{m:α->Int->α}{n:α->Nat}{a:List α}{k:Int}:cut ((mL m n a k).map c) 0 a.length=(mL m n a k).map c:=by
 simp only[cut,List.drop_zero]
 exact List.take_of_length_le (by rw[List.length_map,Zs];exact Nat.le_refl _)
theorem ZF{α:Type}{c:α->List Tr}{a:List α}:cut (a.map c) 0 a.length=a.map c:=by
 simp only[cut,List.drop_zero]
 exact List.take_of_length_le (by rw[List.length_map];exact Nat.le_refl _)
end Go.Fd

/-
  THE MERGED PRODUCT, BOTH SIDES. Own work.
-/
namespace Go.Fd
set_option maxRecDepth 20000
def prt{α:Type}(f:α->α)(l:List α)(j:Nat):List α:=(l.take j).map f++l.drop j
theorem ZtZ{α:Type}{f:α->α}{l:List α}:prt f l 0=l:=by simp [prt]
theorem Zt0{α:Type}{f:α->α}{l:List α}:prt f l l.length=l.map f:=by simp [prt]
theorem Zd1{α:Type}{f:α->α}{l:List α}{j:Nat}:(prt f l j).length=l.length:=by simp [prt];omega
theorem Zpu{α:Type}{f:α->α}{l:List α}{j:Nat}(h:j<l.length):(prt f l j)[j]? = some l[j]:=by
 have:((l.take j).map f).length=j:=by rw[List.length_map,List.length_take];omega
 rw[prt,List.getElem?_append_right (by omega),this,List.getElem?_drop]
 simp [h]
theorem Zpv{α:Type}{f:α->α}{l:List α}{j:Nat}(h:j<l.length):(prt f l j).set j (f l[j])=prt f l (j+1):=by
 have hl:((l.take j).map f).length=j:=by rw[List.length_map,List.length_take];omega
 unfold prt
 rw[List.set_append_right _ _ (by omega),hl,Nat.sub_self,List.drop_eq_getElem_cons h,List.set_cons_zero,List.take_succ_eq_append_getElem h,List.map_append,List.append_assoc]
 rfl
theorem Zlo{l:List TNode}{j:Nat}(h:j<l.length):((prt Zsc l j).map ZX)[j]? = some [tv l[j].control,tv l[j].parent,Tr.sl (rI l[j].links)]:=by rw[List.getElem?_map,Zpu h];rfl
theorem Zpw{l:List TNode}{j:Nat}(h:j<l.length):YU ((prt Zsc l j).map ZX) [] j 1 (Tr.v (.int .i64 (max (-1) l[j].parent)))=(prt Zsc l (j+1)).map ZX:=by
 rw[ZiT (Zlo h),<-Zpv h,List.map_set]
 rfl
theorem Zre{l:List Int}{j:Nat}(h:j<l.length):(rI (prt ZkC l j))[j]? = some [tv l[j]]:=by
 show ((prt ZkC l j).map _)[j]? = _
 rw[List.getElem?_map,Zpu h]
 rfl
theorem Zrf{l:List Int}{j:Nat}(h:j<l.length):YU (rI (prt ZkC l j)) [] j 0 (Tr.v (.int .i64 (max (-1) l[j])))=rI (prt ZkC l (j+1)):=by
 rw[ZoW (by rw[Zd1];exact h),show max (-1) l[j]=ZkC l[j] from rfl,Zpv h]
theorem Zgm(b:TBigraph)(hb:Zt 4294967290 b)(lvl:Nat)(S:Sto):Sem Proofs.Tryz.prog JY lvl [.ag ((Zb b).map .tr)] S (Zi (Zln b)) S:=by
 refine Zc Up (by simp [Zi,low,men,Zd]) ?_
 simp only[V4,Zb,EVA,seval,Zd,men]
 have q:=X5 b hb
 simp only[Zb,List.map_cons,List.map_nil] at q
 obtain⟨b1,b2,b3,b4,b5,b6,b7⟩:=hb
 refine Za q ?_
 simp only[Zi,Zb,List.length_map,EVA,seval,Zd,men]
 refine Zz (α:=Unit) b.nodes.length (fun j _=>[(14,iI j)]) (fun j _=>[(288,.ar 3 ((prt Zsc b.nodes j).map ZX) true b.nodes.length 0)]) (fun _ _=>True) () (by simp only[EVA,seval,Zd,men]) (by (simp only[ZtZ,EVA,seval,Zd,men]) <;> rfl) trivial ?_
 intro j _ hj _
 simp only[List.length_map,EVA,seval,Zd,men]
 refine Zl (fun hlt=>?_) (fun hge=>?_)
 ·have hja:j<b.nodes.length:=by omega
  have ga:=Zlo hja
  have hst:=Zpw hja
  simp only[ga,hst,hja,Zd1,List.length_map,EVA,seval,Zd,men]
  exact⟨by rw[Ze];omega,Zf () hja rfl trivial⟩
 ·have:j=b.nodes.length:=by omega
  subst this
  rw[Zt0]
  refine Zz (α:=Unit) b.sites.length (fun j _=>[(31,iI j)]) (fun j _=>[(289,.ar 1 (rI (prt ZkC b.sites j)) true b.sites.length 0)]) (fun _ _=>True) () (by simp only[EVA,seval,Zd,men]) (by (simp only[ZtZ,EVA,seval,Zd,men]) <;> rfl) trivial ?_
  intro j _ hj _
  simp only[List.length_map,EVA,seval,Zd,men]
  refine Zl (fun hlt=>?_) (fun hge=>?_)
  ·have hja:j<b.sites.length:=by omega
   have ga:=Zre hja
   have hst:=Zrf hja
   simp only[ga,hst,hja,Zd1,List.length_map,EVA,seval,Zd,men]
   exact⟨by rw[Ze];omega,Zf () hja rfl trivial⟩
  ·have:j=b.sites.length:=by omega
   subst this
   rw[Zt0]
   simp only[Zd1,List.length_map,EVA,seval,Zd,men]
   try rfl
structure easy (b:TBigraph):Prop where
 root:Zps b
 bd:Zt 4294967290 b
 r4:b.roots<=4294967290
 edges:0<=b.edges/\b.edges<=4294967290
 par:∀ x∈b.nodes,x.parent<b.nodes.length/\∀ l∈x.links,0<=l
 site:∀ p∈b.sites,p<b.nodes.length
 link:∀ w∈b.inner,0<=w.link
theorem Zpx{n:Nat}:rI (List.replicate n (-1))++[[tv (-1)]]=rI (List.replicate (n+1) (-1)):=by
 rw[List.replicate_succ',YA]
 rfl
theorem Zpy(b:TBigraph)(h:easy b)(lvl:Nat)(S:Sto):Sem Proofs.Tryz.prog UR lvl [.ag ((Zb b).map .tr)] S (Zi (Zln b)) S:=by
 obtain⟨E,hE⟩:∃ E:Nat,b.edges=E:=⟨b.edges.toNat,by have:=h.edges;omega⟩
 obtain⟨R,hR⟩:∃ R:Nat,b.roots=R:=⟨b.roots.toNat,by have:=h.root.1;omega⟩
 have hr4:=h.r4;have he4:=h.edges
 have hbd:=h.bd
 obtain⟨b1,b2,b3,b4,b5,b6,b7⟩:=h.bd
 refine Zc ZjV (by simp [Zi,low,men,Zd]) ?_
 simp only[Zes,Zb,EVA,seval,Zd,men]
 have q:=Zgi b E hE hbd (by omega) h.par h.site h.link
 simp only[Zb,List.map_cons,List.map_nil] at q
 refine Za q ?_
 simp only[Zi,Zb,List.length_map,EVA,seval,Zd,men]
 refine Zz (α:=Unit) R (fun j _=>[(4,.hd (lvl,288) [] 0 j none j),(5,iI j)]) (fun j _=>[(288,.ar 1 (rI (List.replicate j (-1))) true j 0)]) (fun _ _=>True) () (by simp only[EVA,seval,Zd,men]) (by (simp only[EVA,seval,Zd,men]) <;> rfl) trivial ?_
 intro j _ hj _
 simp only[hR,List.length_map,EVA,seval,Zd,men]
 refine Zl (fun hlt=>?_) (fun hge=>?_)
 ·have hja:j<R:=by omega
  simp only[Zpx,hja,List.length_map,EVA,seval,Zd,men]
  exact⟨by omega,by rw[Ze];omega,Zf () hja rfl trivial⟩
 ·have:j=R:=by omega
  subst this
  have hlr:(List.replicate j (-1:Int)).length=j:=List.length_replicate
  have hcr:cut (rI (List.replicate j (-1))) 0 j=rI (List.replicate j (-1)):=Yg (by rw[List.length_map,hlr])
  have hroot:=h.root
  have hpar:∀ p,-b.roots<=p->p<4294967296->(-4294967296<=p/\p<=4294967296)/\(p<0->(-1-p).toNat<(List.replicate j (-1:Int)).length):=fun p h1 h2=>⟨by omega,fun h3=>by rw[hlr];omega⟩
  refine Zz (α:=Unit) b.nodes.length (fun j _=>[(6,iI j)]) (fun j _=>[(256,.ar 3 ((prt Zsc b.nodes j).map ZX) true b.nodes.length 0)]) (fun _ _=>True) () (by simp only[EVA,seval,Zd,men]) (by (simp only[ZtZ,EVA,seval,Zd,men]) <;> rfl) trivial ?_
  intro i _ hi _
  simp only[List.length_map,EVA,seval,Zd,men]
  refine Zl (fun hlt=>?_) (fun hge=>?_)
  ·have hia:i<b.nodes.length:=by omega
   have ga:=Zlo hia
   have hst:=Zpw hia
   have hx:=List.getElem_mem hia
   have hp1:=hroot.2.1 _ hx
   have hp2:=(h.par _ hx).1
   obtain⟨g1,g2⟩:=hpar _ hp1 (by omega)
   have e:=ZmB hR hp1
   simp only[ga,hcr,hia,Zd1,List.length_map,EVA,seval,Zd,men]
   refine Za (ZaW b.nodes[i].parent 0 (List.replicate j (-1)) g1 (by omega) g2) ?_
   rw[e]
   unfold ZkC
   simp only[ga,hst,hia,Zd1,List.length_map,EVA,seval,Zd,men]
   exact⟨by rw[Ze];omega,Zf () hia rfl trivial⟩
  ·have:i=b.nodes.length:=by omega
   subst this
   rw[Zt0]
   have qs:=XW b 0 (List.replicate j (-1)) (by omega) (by omega) fun p hp=>by
    have:=h.site p hp
    exact hpar p (hroot.2.2 p hp) (by omega)
   rw[show b.sites.map (ZdX 0 (List.replicate j (-1)))=b.sites.map ZkC from List.map_congr_left fun p hp=>ZmB hR (hroot.2.2 p hp)] at qs
   simp only[Zb,hR,List.map_cons,List.map_nil] at qs
   simp only[Zb,hcr,hR,List.length_map,EVA,seval,Zd,men]
   refine Za qs ?_
   simp only[Zln,List.length_map,EVA,seval,Zd,men]
   try rfl
theorem Zpz{sig:List TControl}{a b:TBigraph}(ha:bigOK sig a)(hb:bigOK sig b){l:Int}(hl:ZV a l):0<=g0 (Znk a b) l.toNat:=by
 have ea:=ha.edges;have eb:=hb.edges
 unfold Znk Zmp
 rcases Ya hl with ⟨h0,h1⟩ | ⟨i,hi,rfl⟩
 ·rw[ZbX h0 h1];omega
 ·rw[ZbY ea.1 hi]
  have:a.outer[i]∈YG a b:=setS_mem.2 (List.mem_append.2 (.inl (List.getElem_mem hi)))
  have:=ixS_nn.2 this
  omega
theorem ZpA{sig:List TControl}{a b:TBigraph}(ha:bigOK sig a)(hb:bigOK sig b){l:Int}(hl:ZV b l):0<=g0 (Zpj a b) l.toNat:=by
 have ea:=ha.edges;have eb:=hb.edges
 unfold Zpj Zo5
 rcases Ya hl with ⟨h0,h1⟩ | ⟨i,hi,rfl⟩
 ·rw[ZbX h0 h1];omega
 ·rw[ZbY eb.1 hi]
  have:b.outer[i]∈YG a b:=setS_mem.2 (List.mem_append.2 (.inr (List.getElem_mem hi)))
  have:=ixS_nn.2 this
  omega
theorem Zrg{sig:List TControl}{a b:TBigraph}(ha:bigOK sig a)(hb:bigOK sig b):easy (Zdy a b):=by
 have ra:=ha.roots;have rb:=hb.roots
 have ea:=ha.edges;have eb:=hb.edges
 have a1:=ha.small.nodes;have b1:=hb.small.nodes
 have hlen:(Zdy a b).nodes.length=a.nodes.length+b.nodes.length:=by
  simp [Zdy,ZtV,Zui,ZaY]
 have hbes:∀ p:Int,p<b.nodes.length->Zlk a p<(a.nodes.length+b.nodes.length:Nat):=fun p hp=>by
  unfold Zlk
  split <;> omega
 refine⟨Zd0 ha hb,ZmA ha hb,by show a.roots+b.roots<=_;omega,by show 0<=a.edges+b.edges/\a.edges+b.edges<=_;omega,fun x hx=>?_,fun p hp=>?_,fun w hw=>?_⟩
 ·rw[hlen]
  rcases List.mem_append.1 hx with hx | hx
  ·obtain⟨y,hy,rfl⟩:=List.mem_map.1 hx
   obtain⟨k,hk,rfl⟩:=List.getElem_of_mem hy
   have h1:=(UX ha hy).1
   refine⟨by show (a.nodes[k]).parent<_;omega,fun l hl=>?_⟩
   obtain⟨l0,hl0,rfl⟩:=List.mem_map.1 hl
   exact Zpz ha hb ((ha.nodes k hk).links l0 hl0)
  ·obtain⟨y,hy,rfl⟩:=List.mem_map.1 hx
   obtain⟨k,hk,rfl⟩:=List.getElem_of_mem hy
   have h1:=(UX hb hy).1
   refine⟨hbes _ h1,fun l hl=>?_⟩
   obtain⟨l0,hl0,rfl⟩:=List.mem_map.1 hl
   exact ZpA ha hb ((hb.nodes k hk).links l0 hl0)
 ·rw[hlen]
  rcases List.mem_append.1 hp with hp | hp
  ·have:=X6 ha hp
   omega
  ·obtain⟨y,hy,rfl⟩:=List.mem_map.1 hp
   exact hbes _ (X6 hb hy)
 ·rcases Zlm hw with h | h
  ·obtain⟨x,hx,rfl⟩:=List.mem_map.1 h
   exact Zpz ha hb (ha.inner x hx)
  ·obtain⟨x,hx,rfl⟩:=List.mem_map.1 h
   exact ZpA ha hb (hb.inner x hx)
theorem Wf(sig:List TControl)(a b:TBigraph)(hn:sig.length<=4294967296)(hbs:∀ y∈sig,Zp 4294967296 y)(hba:Zt 4294967296 a)(hbb:Zt 4294967296 b)(fa:ZB a)(fb:ZB b)(lvl:Nat)(S:Sto):Sem Proofs.Tryz.prog Yt lvl [.tr (.sl (sig.map Zh)),.ag ((Zb a).map .tr),.ag ((Zb b).map .tr)] S (.tu [Zi (VL sig a b),iB (VM sig a b)]) S:=by
 refine Zc Zb8 (by simp [Zi,low,men,Zd]) ?_
 simp only[Ub,Zb,EVA,seval,Zd,men]
 have q:=QY sig a b hn hbs hba hbb fa fb
 unfold YB YC at q
 simp only[Zb,List.map_cons,List.map_nil] at q
 unfold VL VM
 by_cases hq:Un sig a b
 ·rw[if_pos hq,ZN hq] at q
  rw[if_pos hq,ZN hq]
  refine Za q ?_
  have qm:=Zgm (Zdy a b) (ZmA hq.1 hq.2.1)
  simp only[Zb,List.map_cons,List.map_nil] at qm
  simp only[Zi,ZF,List.length_map,EVA,seval,Zd,men]
  refine Za qm ?_
  simp only[Zi,List.length_map,EVA,seval,Zd,men]
  try rfl
 ·rw[if_neg hq,Zj hq] at q
  rw[if_neg hq,Zj hq]
  refine Za q ?_
  simp only[Zi,List.length_map,EVA,seval,Zd,men]
  try rfl
end Go.Fd

/-
  EACH NUMBER ONCE. Own work.
-/
namespace Go.Fd
set_option maxRecDepth 20000
def Zbx(n:Nat)(l:List Int):Prop:=l.length=n/\∀ i:Nat,i<n->(i:Int)∈l
theorem Zrh:Ords (fun a b:Int=>a<b):=⟨fun a=>Int.lt_irrefl a,fun a b c=>Int.lt_trans,fun a b=>Int.lt_trichotomy a b⟩
theorem upto_mem{n:Nat}{x:Int}:x∈Wz n↔0<=x/\x<n:=by
 unfold Wz
 rw[List.mem_map]
 constructor
 ·rintro⟨i,hi,rfl⟩
  have:=List.mem_range.1 hi
  omega
 ·rintro⟨h1,h2⟩
  exact⟨x.toNat,List.mem_range.2 (by omega),by omega⟩
theorem upto_pw{n:Nat}:(Wz n).Pairwise (fun a b=>a<b):=by
 unfold Wz
 rw[List.pairwise_map]
 exact List.pairwise_lt_range.imp fun h=>by omega
theorem Znn{n:Nat}:(Wz n).Nodup:=upto_pw.imp fun h e=>by omega
theorem ZmC:∀{x y:List Int},x.Nodup->(∀ c∈x,c∈y)->x.length<=y.length/\(y.length<=x.length->x.Perm y)
 | [],y,_,_=>⟨Nat.zero_le _,fun h=>by rw[List.length_eq_zero_iff.1 (Nat.le_zero.1 h)]⟩
 | a::r,y,hd,hs=>by
  have hc:=List.nodup_cons.1 hd
  have ha:a∈y:=hs a (by simp)
  have hp:=List.perm_cons_erase ha
  obtain⟨h1,h2⟩:=ZmC (x:=r) (y:=y.erase a) hc.2 fun c hcr=>(List.mem_erase_of_ne (fun e=>hc.1 (by rw[<-e];exact hcr))).2 (hs c (by simp [hcr]))
  have hl:=hp.length_eq
  simp only[List.length_cons] at hl ⊢
  exact⟨by omega,fun h=>((h2 (by omega)).cons a).trans hp.symm⟩
theorem ordOK_perm{n:Nat}{l:List Int}:Zbx n l↔l.Perm (Wz n):=by
 constructor
 ·rintro⟨h1,h2⟩
  refine((ZmC (x:=Wz n) (y:=l) Znn fun x hx=>?_).2 (by rw[h1,Y8];exact Nat.le_refl _)).symm
  have:=upto_mem.1 hx
  have h3:=h2 x.toNat (by omega)
  rwa [show ((x.toNat:Nat):Int)=x by omega] at h3
 ·intro h
  refine⟨by rw[h.length_eq,Y8],fun i hi=>h.mem_iff.2 (upto_mem.2 (by omega))⟩
theorem ZpB{n:Nat}{l:List Int}:Zbx n l↔Zlb (fun a b:Int=>a<b) l=Wz n:=by
 rw[ordOK_perm]
 constructor
 ·intro h
  exact Zf6 Zrh (Zf7 Zrh) (upto_pw.imp fun h=>by omega) (srtG_perm.trans h)
 ·intro h
  rw[<-h]
  exact srtG_perm.symm
theorem Zki{n:Nat}{l:List Int}(h:Zbx n l){x:Int}(hx:x∈l):0<=x/\x<n:=upto_mem.1 ((ordOK_perm.1 h).mem_iff.1 hx)
end Go.Fd

/-
  TERMS, IN PLAIN TERMS. Own work.
-/
namespace Go.Fd
set_option maxRecDepth 20000
def Zp4:TBigraph:=⟨1,[],[],0,[],[]⟩
def Zp5:TBigraph:=⟨1,[],[-1],0,[],[]⟩
abbrev Q3:=TBigraph×List Int
def Jn(k:Int):Nat:=if k=4\/k=5 then 2 else if k=3\/k=6\/k=7 then 1 else 0
structure stepOK (sig:List TControl) (s:TTermStep):Prop where
 kind:0<=s.kind_/\s.kind_<=7
 ctl0:s.kind_≠3->s.control=0
 site0:s.kind_≠2->s.site=0
 nms:∀ n∈s.names,Zcb n
 site:s.kind_=2->0<=s.site/\s.site<=3
 ctl:s.kind_=3->0<=s.control/\s.control<=(sig.length:Int)-1
 ports:s.kind_=3->(s.names.length:Int)=Y7 sig s.control
 one:s.kind_=6\/s.kind_=7->s.names.length=1
 non:s.kind_≠3->s.kind_≠6->s.kind_≠7->s.names.length=0
noncomputable def Zdl(s:TTermStep):TBigraph:=⟨1,[⟨s.control,-1,s.names.map fun n=>ixS (Vt s.names) n⟩],[],0,Vt s.names,[]⟩
noncomputable def ZeR(s:TTermStep):TBigraph:=⟨1,[⟨s.control,-1,s.names.map fun n=>ixS (Vt s.names) n⟩],[0],0,Vt s.names,[]⟩
def XI(sig:List TControl)(s:TTermStep)(x:TBigraph):Prop:=x.roots=1/\(Qv sig s.control=2->x.nodes=[]/\x.sites=[])/\bigOK sig (Dj (ZeR s) x)
noncomputable def adN(b:TBigraph)(n:ByteArray):List ByteArray:=Vt (b.outer++[n])
noncomputable def Zje(b:TBigraph)(n:ByteArray):TBigraph:=U1 b (Zda b b.edges (adN b n) fun x=>x) b.edges (adN b n)
def UZ(sig:List TControl)(b:TBigraph)(n:ByteArray):Prop:=bigOK sig b/\n ∉ b.outer/\bigOK sig (Zje b n)
open Classical in
noncomputable def mkR(sig:List TControl)(s:TTermStep)(xs:List Q3):Option Q3 :=
 if s.kind_=0 then some (J3,[])
 else if s.kind_=1 then some (Zp4,[])
 else if s.kind_=2 then some (Zp5,[s.site])
 else match xs with
 | [x] =>
  if s.kind_=3 then (if XI sig s x.1 then some (Dj (ZeR s) x.1,x.2) else none)
  else if s.kind_=6 then (if QR sig x.1 (gS s.names 0) then some (XB x.1 (gS s.names 0),x.2) else none)
  else (if UZ sig x.1 (gS s.names 0) then some (Zje x.1 (gS s.names 0),x.2) else none)
 | [x,y]=>if Un sig x.1 y.1 then some (if s.kind_=4 then Zhy x.1 y.1 else Zdy x.1 y.1,x.2++y.2) else none
 | _=>none
structure partOK (sig:List TControl) (x:Q3):Prop where
 big:bigOK sig x.1
 inn:x.1.inner=[]
 len:x.2.length=x.1.sites.length
 num:∀ k∈x.2,0<=k/\k<=3
abbrev Stk:=List Q3×Nat
open Classical in
noncomputable def stT(sig:List TControl)(z:Stk)(s:TTermStep):Option Stk :=
 if stepOK sig s/\Jn s.kind_<=z.1.length then
  match mkR sig s (z.1.drop (z.1.length-Jn s.kind_)) with
  | some x=>some (z.1.take (z.1.length-Jn s.kind_)++[x],max z.2 (z.1.length-Jn s.kind_+1))
  | none=>none
 else none
noncomputable def Zby(sig:List TControl)(t:List TTermStep):Option Stk:=t.foldlM (stT sig) ([],0)
theorem ZmD{sig:List TControl}:Zby sig []=some ([],0):=rfl
theorem Za0{sig:List TControl}{t:List TTermStep}{j:Nat}(h:j<t.length):Zby sig (t.take (j+1))=(Zby sig (t.take j)).bind fun z=>stT sig z t[j]:=by
 unfold Zby
 rw[List.take_succ_eq_append_getElem h,List.foldlM_append]
 cases List.foldlM (stT sig) (([],0):Stk) (t.take j) with
 | none=>rfl
 | some z =>
  show List.foldlM (stT sig) z [t[j]]=_
  simp
theorem Zdm{sig:List TControl}{t:List TTermStep}{j:Nat}(h:Zby sig (t.take j)=none):Zby sig t=none:=by
 have e:t=t.take j++t.drop j:=(List.take_append_drop j t).symm
 rw[e]
 unfold Zby at *
 rw[List.foldlM_append,h]
 rfl
theorem ZmE{sig:List TControl}{z:Stk}{s:TTermStep}{x:Q3}(h:stepOK sig s)(hn:Jn s.kind_<=z.1.length)(hx:mkR sig s (z.1.drop (z.1.length-Jn s.kind_))=some x):stT sig z s=some (z.1.take (z.1.length-Jn s.kind_)++[x],max z.2 (z.1.length-Jn s.kind_+1)):=by
 unfold stT
 rw[if_pos ⟨h,hn⟩,hx]
theorem Zgn{sig:List TControl}{z:Stk}{s:TTermStep}(h:¬ (stepOK sig s/\Jn s.kind_<=z.1.length)):stT sig z s=none:=by
 unfold stT
 rw[if_neg h]
theorem ZmF{sig:List TControl}{z:Stk}{s:TTermStep}(hx:mkR sig s (z.1.drop (z.1.length-Jn s.kind_))=none):stT sig z s=none:=by
 unfold stT
 split
 ·rw[hx]
 ·rfl
theorem Zno{l:List ByteArray}(hp:l.Pairwise ltS)(hn:∀ n∈l,Zcb n)(hl:l.length<=16):VK l:=by
 refine⟨fun i h=>⟨hn _ (List.getElem_mem h),fun h0=>?_⟩,hl⟩
 exact List.pairwise_iff_getElem.1 hp (i-1) i (by omega) h (by omega)
theorem ZpC{sig:List TControl}(h:Yl sig){x:TControl}(hx:x∈sig):ZqW x:=by
 obtain⟨i,hi,rfl⟩:=List.getElem_of_mem hx
 exact(h.1 i hi).1
theorem Zbn{sig:List TControl}(h:Yl sig){c:Int}:Y7 sig c<=3:=by
 unfold Y7
 cases hc:sig[c.toNat]? with
 | none=>simp
 | some x =>
  have hx:x∈sig:=List.mem_of_getElem? hc
  have:=(ZpC h hx).2.1
  simp only[Option.map_some,Option.getD_some]
  omega
theorem Zkj{sig:List TControl}{s:TTermStep}(hs:Yl sig)(h:stepOK sig s)(h3:s.kind_=3):VK (Vt s.names):=by
 refine Zno ZiV (fun n hn=>h.nms n (setS_mem.1 hn)) ?_
 have h1:=Zbl (l:=s.names)
 have h2:=h.ports h3
 have h4:=Zbn hs (c:=s.control)
 omega
theorem Zkk{sig:List TControl}{s:TTermStep}(h:stepOK sig s)(h3:s.kind_=3){b:TBigraph}(hr:b.roots=1)(he:b.edges=0)(ho:b.outer=Vt s.names):nodeOK sig b ⟨s.control,-1,s.names.map fun n=>ixS (Vt s.names) n⟩ 0:=by
 refine⟨h.ctl h3,.inl ⟨by show (-1:Int)<0;omega,by show -b.roots <= -1;omega⟩,by rw[<-h.ports h3,List.length_map],fun l hl=>?_⟩
 obtain⟨n,hn,rfl⟩:=List.mem_map.1 hl
 have hm:=setS_mem.2 hn
 have h1:=ixS_nn.2 hm
 have h2:=Zmm hm
 unfold ZV
 rw[he,ho]
 omega
theorem Zt1{sig:List TControl}{s:TTermStep}(hs:Yl sig)(h:stepOK sig s)(h3:s.kind_=3):bigOK sig (Zdl s):=by
 refine⟨hs,by show (0:Int)<=1/\(1:Int)<=4;omega,by show 1<=8;omega,by show 0<=4;omega,by show (0:Int)<=0/\(0:Int)<=8;omega,Zkj hs h h3,?_,fun i hi=>?_,fun p hp=>?_,fun w hw=>?_⟩
 ·exact⟨fun i hi=>by simp [inn,Zdl] at hi,by simp [inn,Zdl]⟩
 ·have hi2:i<1:=hi
  have:i=0:=by omega
  subst this
  exact Zkk h h3 rfl rfl rfl
 ·simp [Zdl] at hp
 ·simp [Zdl] at hw
theorem ZpD{sig:List TControl}{s:TTermStep}(hs:Yl sig)(h:stepOK sig s)(h3:s.kind_=3)(hk:¬ Qv sig s.control=2):bigOK sig (ZeR s):=by
 refine⟨hs,by show (0:Int)<=1/\(1:Int)<=4;omega,by show 1<=8;omega,by show 1<=4;omega,by show (0:Int)<=0/\(0:Int)<=8;omega,Zkj hs h h3,?_,fun i hi=>?_,fun p hp=>?_,fun w hw=>?_⟩
 ·exact⟨fun i hi=>by simp [inn,ZeR] at hi,by simp [inn,ZeR]⟩
 ·have hi2:i<1:=hi
  have:i=0:=by omega
  subst this
  exact Zkk h h3 rfl rfl rfl
 ·have hp2:p=0:=by simpa [ZeR] using hp
  subst hp2
  refine .inr ⟨by omega,by show (0:Int)<((1:Nat):Int);omega,?_⟩
  show ¬ Qv sig (ZgX (ZeR s) 0)=2
  have e:ZgX (ZeR s) 0=s.control:=rfl
  rw[e]
  exact hk
 ·simp [ZeR] at hw
theorem ZiW{sig:List TControl}(hs:Yl sig){b:TBigraph}(hr:0<=b.roots/\b.roots<=4)(hn:b.nodes=[])(he:b.edges=0)(ho:b.outer=[])(hi:b.inner=[])(hp:∀ p∈b.sites,p<0/\-b.roots<=p)(hl:b.sites.length<=4):bigOK sig b:=by
 refine⟨hs,hr,by rw[hn];simp,hl,by rw[he];omega,?_,?_,fun i h=>by rw[hn] at h;simp at h,fun p h=>.inl (hp p h),fun w h=>by rw[hi] at h;simp at h⟩
 ·rw[ho];exact⟨fun i h=>by simp at h,by simp⟩
 ·unfold inn
  rw[hi];exact⟨fun i h=>by simp at h,by simp⟩
theorem ZpE{sig:List TControl}(hs:Yl sig):bigOK sig J3:=ZiW hs (by show (0:Int)<=0/\(0:Int)<=4;omega) rfl rfl rfl rfl (fun p hp=>by simp [J3] at hp) (by simp [J3])
theorem Zt2{sig:List TControl}(hs:Yl sig):bigOK sig Zp4:=ZiW hs (by show (0:Int)<=1/\(1:Int)<=4;omega) rfl rfl rfl rfl (fun p hp=>by simp [Zp4] at hp) (by simp [Zp4])
theorem Zt3{sig:List TControl}(hs:Yl sig):bigOK sig Zp5:=ZiW hs (by show (0:Int)<=1/\(1:Int)<=4;omega) rfl rfl rfl rfl (fun p hp=>by
 have:p = -1:=by simpa [Zp5] using hp
 subst this
 exact⟨by omega,by show -(1:Int) <= -1;omega⟩) (by simp [Zp5])
theorem ZpF{a b:TBigraph}(ha:a.inner=[])(hb:b.inner=[]):(Zdy a b).inner=[]:=by
 show UY (a.inner.map _) (b.inner.map _)=[]
 rw[ha,hb]
 rfl
theorem Zt4{s:TTermStep}{x:TBigraph}(hr:x.roots=1)(hn:x.nodes=[])(hs:x.sites=[])(hi:x.inner=[]):Zhy (Zdl s) x=Dj (ZeR s) x:=by
 obtain⟨r,ns,ss,e,o,i⟩:=x
 simp only at hr hn hs hi
 subst hr hn hs hi
 rfl
theorem Zxu{sig:List TControl}(hs:Yl sig){s:TTermStep}(h:stepOK sig s){xs:List Q3}(hx:∀ x∈xs,partOK sig x){y:Q3}(hy:mkR sig s xs=some y):partOK sig y:=by
 unfold mkR at hy
 split at hy
 ·cases hy;exact⟨ZpE hs,rfl,rfl,fun k hk=>by simp at hk⟩
 split at hy
 ·cases hy;exact⟨Zt2 hs,rfl,rfl,fun k hk=>by simp at hk⟩
 split at hy
 ·rename_i h2
  cases hy
  refine⟨Zt3 hs,rfl,rfl,fun k hk=>?_⟩
  have:k=s.site:=by simpa using hk
  subst this
  exact h.site h2
 split at hy
 ·rename_i x
  have hx0:=hx x (by simp)
  split at hy
  ·split at hy
   ·rename_i hA
    cases hy
    refine⟨hA.2.2,?_,?_,hx0.num⟩
    ·show (x.1.inner.map _)=[]
     rw[hx0.inn]
     rfl
    ·rw[hx0.len]
     show _=([]++x.1.sites.map _).length
     simp
   ·cases hy
  split at hy
  ·split at hy
   ·rename_i hA
    cases hy
    refine⟨hA.2.2,?_,?_,hx0.num⟩
    ·show (x.1.inner.map _)=[]
     rw[hx0.inn]
     rfl
    ·exact hx0.len
   ·cases hy
  ·split at hy
   ·rename_i hA
    cases hy
    refine⟨hA.2.2,?_,?_,hx0.num⟩
    ·show (x.1.inner.map _)=[]
     rw[hx0.inn]
     rfl
    ·exact hx0.len
   ·cases hy
 ·rename_i x z
  have hx0:=hx x (by simp)
  have hx1:=hx z (by simp)
  split at hy
  ·rename_i hA
   cases hy
   have hlen:(x.2++z.2).length=(Zdy x.1 z.1).sites.length:=by
    show _=(x.1.sites++z.1.sites.map _).length
    simp only[List.length_append,List.length_map,hx0.len,hx1.len]
   have hnum:∀ k∈x.2++z.2,0<=k/\k<=3:=fun k hk=>by
    rcases List.mem_append.1 hk with hk | hk
    ·exact hx0.num k hk
    ·exact hx1.num k hk
   split
   ·refine⟨((Zpt (Zd0 hA.1 hA.2.1)).2 hA.2.2.2).1,ZpF hx0.inn hx1.inn,?_,hnum⟩
    rw[hlen]
    show _=((Zdy x.1 z.1).sites.map ZkC).length
    rw[List.length_map]
   ·exact⟨hA.2.2.2,ZpF hx0.inn hx1.inn,hlen,hnum⟩
  ·cases hy
 ·cases hy
theorem Zxv{sig:List TControl}(hs:Yl sig){s:TTermStep}{z z':Stk}(hx:∀ x∈z.1,partOK sig x)(h:stT sig z s=some z'):(∀ x∈z'.1,partOK sig x)/\z'.1.length<=z.1.length+1/\z'.2<=max z.2 (z.1.length+1)/\z'.1.length<=z'.2:=by
 unfold stT at h
 split at h
 ·rename_i hA
  split at h
  ·rename_i y hy
   cases h
   refine⟨fun x hx2=>?_,?_,?_,?_⟩
   ·rcases List.mem_append.1 hx2 with q | q
    ·exact hx x (List.mem_of_mem_take q)
    ·rw[List.mem_singleton.1 q]
     exact Zxu hs hA.1 (fun x hx3=>hx x (List.mem_of_mem_drop hx3)) hy
   ·simp only[List.length_append,List.length_take,List.length_cons,List.length_nil]
    omega
   ·show max z.2 _<=_
    omega
   ·simp only[List.length_append,List.length_take,List.length_cons,List.length_nil]
    omega
  ·cases h
 ·cases h
theorem Zcd{sig:List TControl}(hs:Yl sig){t:List TTermStep}:∀{j:Nat} {z:Stk},j<=t.length->Zby sig (t.take j)=some z->(∀ x∈z.1,partOK sig x)/\z.1.length<=j/\z.2<=j/\z.1.length<=z.2
 | 0,z,_,h=>by
  rw[List.take_zero,ZmD] at h
  cases h
  exact⟨fun x hx=>by simp at hx,Nat.le_refl _,Nat.le_refl _,Nat.le_refl _⟩
 | j+1,z,hj,h=>by
  rw[Za0 (by omega)] at h
  cases hp:Zby sig (t.take j) with
  | none=>rw[hp] at h;cases h
  | some z0 =>
   rw[hp] at h
   obtain⟨a1,a2,a3,a4⟩:=Zcd hs (j:=j) (by omega) hp
   obtain⟨b1,b2,b3,b4⟩:=Zxv hs a1 h
   exact⟨b1,by omega,by omega,b4⟩
def ZiX(l v ini:List Int):Nat->List Int
 | 0=>ini
 | j+1=>(ZiX l v ini j).set (g0 l j).toNat (g0 v j)
theorem QF{l v ini:List Int}:∀{j:Nat},(ZiX l v ini j).length=ini.length
 | 0=>rfl
 | j+1=>by rw[ZiX,List.length_set,QF]
theorem Zkl{l v a b:List Int}(hl:a.length=b.length):∀{j:Nat},j<=l.length->∀ i:Nat,i<a.length->(∃ k,k<j/\(g0 l k).toNat=i)->(ZiX l v a j)[i]? = (ZiX l v b j)[i]?
 | 0,_,i,_,h=>by obtain⟨k,hk,_⟩:=h;omega
 | j+1,hj,i,hi,h=>by
  have la:=QF (l:=l) (v:=v) (ini:=a) (j:=j)
  have lb:=QF (l:=l) (v:=v) (ini:=b) (j:=j)
  rw[ZiX,ZiX,List.getElem?_set,List.getElem?_set,la,lb,hl]
  by_cases e:(g0 l j).toNat=i
  ·rw[if_pos e,if_pos e]
  ·rw[if_neg e,if_neg e]
   obtain⟨k,hk,hke⟩:=h
   refine Zkl hl (by omega) i hi ⟨k,?_,hke⟩
   by_cases q:k=j
   ·subst q;exact absurd hke e
   ·omega
theorem Zri{l v a b:List Int}{n:Nat}(ho:Zbx n l)(ha:a.length=n)(hb:b.length=n):ZiX l v a n=ZiX l v b n:=by
 refine List.ext_getElem? fun i=>?_
 by_cases hi:i<n
 ·refine Zkl (by omega) (by rw[ho.1];omega) i (by omega) ?_
  obtain⟨k,hk,e⟩:=List.getElem_of_mem (ho.2 i hi)
  refine⟨k,by rw[<-ho.1];exact hk,?_⟩
  have:g0 l k=l[k]:=by simp [hk]
  rw[this,e]
  omega
 ·rw[List.getElem?_eq_none (by rw[QF];omega),List.getElem?_eq_none (by rw[QF];omega)]
def Zse(x:Q3):TBigraph:=⟨x.1.roots,x.1.nodes,ZiX x.2 x.1.sites x.1.sites x.2.length,x.1.edges,x.1.outer,x.1.inner⟩
open Classical in
noncomputable def Zdn(sig:List TControl)(t:List TTermStep):Option TBigraph :=
 if Yl sig/\t.length<=60 then
  match Zby sig t with
  | some ([x],_)=>if Zbx x.2.length x.2 then some (Zse x) else none
  | _=>none
 else none
end Go.Fd

/-
  ONE MORE NAME, BOTH SIDES. Own work.
-/
namespace Go.Fd
set_option maxRecDepth 20000
theorem ZiY{b:TBigraph}{s:ByteArray}:(adN b s).length<=b.outer.length+1:=Nat.le_trans Zbl (by simp)
theorem Zrj{sig:List TControl}{b:TBigraph}{s:ByteArray}(h:bigOK sig b){l:Int}(hl:ZV b l):0<=Zda b b.edges (adN b s) (fun x=>x) l/\Zda b b.edges (adN b s) (fun x=>x) l<=100:=by
 have he:=h.edges
 have h4:=h.small.outer
 have ho:=ZiY (b:=b) (s:=s)
 rw[Zxm h hl]
 unfold Zmp
 rcases Ya hl with ⟨h0,h1⟩ | ⟨i,hi,rfl⟩
 ·rw[ZbX h0 h1];omega
 ·rw[ZbY he.1 hi]
  have x2:=Zey (l:=adN b s) (s:=b.outer[i])
  have x4:0<=ixS (adN b s) b.outer[i]:=ixS_nn.2 (setS_mem.2 (by simp))
  omega
theorem Zxw{sig:List TControl}{b:TBigraph}{s:ByteArray}(h:bigOK sig (Zje b s)):Zcb s:=by
 have hm:s∈(Zje b s).outer:=setS_mem.2 (by simp)
 obtain⟨i,hi,e⟩:=List.getElem_of_mem hm
 have:=(h.outer.1 i hi).1
 rwa [e] at this
theorem Zxx{sig:List TControl}{b:TBigraph}{s:ByteArray}(h:bigOK sig b)(hs:s.size<=4294967290):Zt 4294967290 (Zje b s) :=
 Zlf h (QT (by omega) (XC h)) (Nat.le_trans ZiY (by have:=h.outer.2;omega)) fun y hy=>by
  rcases List.mem_append.1 (setS_mem.1 hy) with hy | hy
  ·have:=Yr h.outer hy
   omega
  ·rw[List.mem_singleton.1 hy];exact hs
theorem ZpG{sig:List TControl}{b:TBigraph}{s:ByteArray}(h:bigOK sig b)(hs:s.size<=4294967296):Zt 4294967296 (Zje b s) :=
 Zq9 h (Nat.le_trans ZiY (by have:=h.outer.2;omega)) fun y hy=>by
  rcases List.mem_append.1 (setS_mem.1 hy) with hy | hy
  ·have:=Yr h.outer hy
   omega
  ·rw[List.mem_singleton.1 hy];exact hs
theorem ZpH{sig:List TControl}{b:TBigraph}{s:ByteArray}(h:bigOK sig b)(hf:ZB b):ZB (Zje b s) :=
 ZoY h hf (fun l hl=>Zrj h hl) (by have:=h.edges;rw[Ze];omega)
theorem Zt5{sig:List TControl}{b:TBigraph}{s:ByteArray}(h:bigOK sig b):U1 b (Zp3 b b.outer (adN b s)) b.edges (adN b s)=Zje b s:=by
 refine Zht h fun l hl=>?_
 have he:=h.edges
 rw[Zxm h hl]
 unfold Zmp
 rcases Ya hl with ⟨h0,h1⟩ | ⟨i,hi,rfl⟩
 ·rw[ZbX h0 h1,Zp3,if_neg (by omega)]
 ·rw[ZbY he.1 hi,Zp3,if_pos (by omega),show b.edges+(i:Int)-b.edges=i by omega,Int.toNat_natCast,show gS b.outer i=b.outer[i] from XV hi]
theorem Zrk(e:Int×ByteArray)(lvl:Nat)(S:Sto):Sem Proofs.Tryz.prog WE lvl [oE e] S (oE e) S:=by
 refine Zc Zk6 (by simp [low,men,Zd]) ?_
 simp only[ZfR,EVA,seval,Zd,men]
noncomputable def ZxX(sig:List TControl)(b:TBigraph)(s:ByteArray):TBigraph:=@ite _ (UZ sig b s) (Classical.propDecidable _) (Zje b s) J3
theorem Zlp(sig:List TControl)(b:TBigraph)(s:ByteArray)(hn:sig.length<=4294967296)(hbs:∀ y∈sig,Zp 4294967296 y)(hb:Zt 4294967296 b)(hs:s.size<=4294967296)(hf:ZB b)(lvl:Nat)(S:Sto):Sem Proofs.Tryz.prog Wp lvl [.tr (.sl (sig.map Zh)),.ag ((Zb b).map .tr),iS s] S (.tu [Zi (ZxX sig b s),iB (dc (UZ sig b s))]) S:=by
 refine Zc ZgL (by simp [Zi,low,men,Zd]) ?_
 simp only[ZbL,Zb,EVA,seval,Zd,men]
 refine Za (Jz sig b hn hbs hb) ?_
 unfold ZxX
 cases h1:dc (bigOK sig b)
 ·have hno:¬ UZ sig b s:=fun g=>dc_not.1 h1 g.1
  rw[if_neg hno,Zj hno]
  simp only[EVA,seval,Zd,men]
  rfl
 have hG:=dc_iff.1 h1
 have hE:=hG.edges
 have h4:=hG.small.outer
 simp only[Zb,EVA,seval,Zd,men]
 refine Za (Dg s (by omega)) ?_
 cases h3:dc (Zcb s)
 ·have hno:¬ UZ sig b s:=fun g=>dc_not.1 h3 (Zxw g.2.2)
  rw[if_neg hno,Zj hno]
  simp only[EVA,seval,Zd,men]
  rfl
 have hnm:=dc_iff.1 h3
 simp only[Zb,EVA,seval,Zd,men]
 refine Za (DS b.outer s (by have:=hb.2.2.2.1;omega)) ?_
 cases h5:dc (s∈b.outer)
 ·have hM:=dc_not.1 h5
  simp only[Zb,EVA,seval,Zd,men]
  refine Za (Zbj b.outer (by omega)) ?_
  simp only[Zb,List.length_map,EVA,seval,Zd,men]
  have q:=UH b b.edges (b.outer++[s]) WE [] (fun x=>x) hE.1 (QT (by omega) (XC hG)) (by omega) (by omega) (by rw[List.length_append];simp only[List.length_cons,List.length_nil];omega) (fun x hx l hl=>by
   obtain⟨i,hi,rfl⟩:=List.getElem_of_mem hx
   exact(hG.nodes i hi).links l hl) hG.inner (fun l hl lvl S=>Zrk (Ze9 b l) lvl S)
  rw[show Vt (b.outer++[s])=adN b s from rfl,show U1 b (Zda b b.edges (adN b s) fun x=>x) b.edges (adN b s)=Zje b s from rfl] at q
  rw[show cut (rS b.outer++[[Tr.v (Value.string s)]]) 0 (b.outer.length+1)=rS (b.outer++[s]) from by
   rw[Yg (by simp [rS])]
   simp [rS]]
  simp only[Zb,List.map_cons,List.map_nil] at q
  refine⟨by omega,by simp [rS],Za q ?_⟩
  simp only[Zi,List.length_map,EVA,seval,Zd,men]
  have qv:=Zde sig (Zje b s) hn hbs (Zxx hG (by have:=hnm.2.2;omega)) (ZpH hG hf)
  simp only[Zb,List.map_cons,List.map_nil] at qv
  refine Za qv ?_
  cases h6:dc (bigOK sig (Zje b s))
  ·have hno:¬ UZ sig b s:=fun g=>dc_not.1 h6 g.2.2
   rw[if_neg hno,Zj hno,if_neg (dc_not.1 h6)]
   simp only[Zi,List.length_map,EVA,seval,Zd,men]
   rfl
  ·have hyes:UZ sig b s:=⟨hG,hM,dc_iff.1 h6⟩
   rw[if_pos hyes,ZN hyes,if_pos (dc_iff.1 h6)]
   simp only[Zi,List.length_map,EVA,seval,Zd,men]
 ·have hno:¬ UZ sig b s:=fun g=>g.2.1 (dc_iff.1 h5)
  rw[if_neg hno,Zj hno]
  simp only[EVA,seval,Zd,men]
  rfl
theorem ZeS(sig:List TControl)(b:TBigraph)(s:ByteArray)(hn:sig.length<=4294967296)(hbs:∀ y∈sig,Zp 4294967296 y)(hb:Zt 4294967296 b)(hs:s.size<=4294967296)(hf:ZB b)(lvl:Nat)(S:Sto):Sem Proofs.Tryz.prog Wq lvl [.tr (.sl (sig.map Zh)),.ag ((Zb b).map .tr),iS s] S (.tu [@ite IV (UZ sig b s) (Classical.propDecidable _) (.ag ((Zb (Zje b s)).map .tr)) (Zi J3),iB (dc (UZ sig b s))]) S:=by
 refine Zc ZgO (by split <;> simp [Zi,Zb,low,men,Zd]) ?_
 simp only[ZbO,Zb,EVA,seval,Zd,men]
 have q:=XU sig b hn hbs hb hf
 simp only[Zb,List.map_cons,List.map_nil] at q
 refine Za q ?_
 cases h1:dc (bigOK sig b)
 ·have hno:¬ UZ sig b s:=fun g=>dc_not.1 h1 g.1
  rw[if_neg hno,Zj hno]
  simp only[EVA,seval,Zd,men]
  rfl
 have hG:=dc_iff.1 h1
 have hE:=hG.edges
 have h4:=hG.small.outer
 simp only[Zb,EVA,seval,Zd,men]
 refine Za (DP b.outer s (by omega)) ?_
 by_cases hM:s∈b.outer
 ·have hno:¬ UZ sig b s:=fun g=>g.2.1 hM
  rw[if_neg hno,Zj hno]
  have e:=ixS_nn.2 hM
  simp only[e,EVA,seval,Zd,men]
  rfl
 have e:=Zml hM
 have hol:=ZiY (b:=b) (s:=s)
 simp only[e,Zb,ZnN,ZnO,Nat.zero_max,List.length_map,EVA,seval,Zd,men]
 rw[show cut (rS b.outer++[[Tr.v (Value.string s)]]) 0 (b.outer.length+1)=rS (b.outer++[s]) from by
  rw[Yg (by simp [rS])]
  simp [rS]]
 refine⟨by omega,by omega,by simp [rS],Za (UI (b.outer++[s]) (by rw[List.length_append];simp only[List.length_cons,List.length_nil];omega)) ?_⟩
 rw[show Vt (b.outer++[s])=adN b s from rfl]
 simp only[Zb,List.length_map,EVA,seval,Zd,men]
 have qR:=Zkc sig b hG b.outer (adN b s) rfl (by omega)
 rw[Zt5 hG] at qR
 simp only[Zb,List.map_cons,List.map_nil] at qR
 refine Za qR ?_
 simp only[Zi,Zb,List.length_map,EVA,seval,Zd,men]
 by_cases hq:bigOK sig (Zje b s)
 ·have qG:=Zez sig (Zje b s) hn hbs (ZpG hG hs) (ZpH hG hf) hq
  simp only[Zb,List.map_cons,List.map_nil] at qG
  have hyes:UZ sig b s:=⟨hG,hM,hq⟩
  rw[if_pos hyes,ZN hyes]
  refine Za qG ?_
  simp only[Zi,Zb,List.length_map,EVA,seval,Zd,men]
 ·have qG:=ZeA sig (Zje b s) hn hbs (ZpG hG hs) (ZpH hG hf) hq
  simp only[Zb,List.map_cons,List.map_nil] at qG
  have hno:¬ UZ sig b s:=fun g=>hq g.2.2
  rw[if_neg hno,Zj hno]
  refine Za qG ?_
  simp only[Zi,Zb,List.length_map,EVA,seval,Zd,men]
  try rfl
end Go.Fd

/-
  STEPS OF TERMS: WHICH ARE RIGHT, BOTH SIDES. Own work.
-/
namespace Go.Fd
set_option maxRecDepth 20000
theorem Zkm(s:ByteArray)(hs:s.size<=4294967296)(lvl:Nat)(S:Sto):Sem Proofs.Tryz.prog VV lvl [iS s] S (iB (!dc (Zcb s))) S:=by
 refine Zc ZfN trivial ?_
 simp only[ZaJ,EVA,seval,Zd,men]
 refine Za (Dg s (by omega)) ?_
 simp only[EVA,seval,Zd,men]
theorem ZeD{fe:FuncId}(ns:List ByteArray)(hl:ns.length<=4294967296)(hf:∀ n∈ns,∀(lvl:Nat) (S:Sto),Sem Proofs.Tryz.prog fe lvl [iS n] S (iB (!dc (Zcb n))) S)(lvl:Nat)(S:Sto):Sem Proofs.Tryz.prog ZC lvl [.tr (.sl (rS ns)),.fn fe []] S (iB (!dc (∀ n∈ns,Zcb n))) S:=by
 have q:=Ze8 (P:=Proofs.Tryz.prog) Zsa Zpp (t:=fun n:ByteArray=>ts n) (f:=fun s=>!dc (Zcb s)) (fe:=fe) (cs:=[]) ns (by omega) (fun x hx lvl S=>hf x hx lvl S)
 have e:(ns.any fun s=>!dc (Zcb s)) = !dc (∀ n∈ns,Zcb n):=by
  cases h:dc (∀ n∈ns,Zcb n)
  ·have h1:=dc_not.1 h
   have:∃ n∈ns,¬ Zcb n:=Classical.byContradiction fun g=>h1 fun x hx=>Classical.byContradiction fun k=>g ⟨x,hx,k⟩
   obtain⟨n,hn,hb⟩:=this
   simp only[Bool.not_false,List.any_eq_true]
   exact⟨n,hn,by rw[Zj hb];rfl⟩
  ·have h1:=dc_iff.1 h
   simp only[Bool.not_true,List.any_eq_false]
   intro n hn
   rw[ZN (h1 n hn)]
   decide
 rw[e] at q
 exact q lvl S
def plB(a b d:Bool)(c t:Int)(n:Nat):Bool:=(a || decide (c=0))&&(b || decide (t=0))&&(d || decide ((n:Int)=0))
set_option maxHeartbeats 2000000 in
theorem DT(k c t:Int)(ns:List ByteArray)(a b d:Bool)(lvl:Nat)(S:Sto):Sem Proofs.Tryz.prog ZQ lvl [.ag [iI k,iI c,iI t,.tr (.sl (rS ns))],iB a,iB b,iB d] S (iB (plB a b d c t ns.length)) S:=by
 refine Zc DI trivial ?_
 by_cases hc:c=0 <;> by_cases ht:t=0 <;> by_cases hn:(ns.length:Int)=0 <;> cases a <;> cases b <;> cases d <;> (simp only[Xv,hc,ht,hn,List.length_map,EVA,seval,Zd,men]) <;> simp [plB,hc,ht,hn] <;> exact fun e=>hn (by simp [e])
def Zkn(k:Int):Int:=if k=0\/k=1\/k=2 then 0 else if k=3\/k=6\/k=7 then 1 else if k=4\/k=5 then 2 else -1
theorem Zgo(k c t:Int)(ns:List ByteArray)(lvl:Nat)(S:Sto):Sem Proofs.Tryz.prog Jd lvl [.ag [iI k,iI c,iI t,.tr (.sl (rS ns))]] S (iI (Zkn k)) S:=by
 refine Zc ZaF trivial ?_
 by_cases h0:k=0
 ·subst h0; (simp only[ZD,EVA,seval,Zd,men]) <;> rfl
 by_cases h1:k=1
 ·subst h1; (simp only[ZD,EVA,seval,Zd,men]) <;> rfl
 by_cases h2:k=2
 ·subst h2; (simp only[ZD,EVA,seval,Zd,men]) <;> rfl
 by_cases h3:k=3
 ·subst h3; (simp only[ZD,EVA,seval,Zd,men]) <;> rfl
 by_cases h4:k=4
 ·subst h4; (simp only[ZD,EVA,seval,Zd,men]) <;> rfl
 by_cases h5:k=5
 ·subst h5; (simp only[ZD,EVA,seval,Zd,men]) <;> rfl
 by_cases h6:k=6
 ·subst h6; (simp only[ZD,EVA,seval,Zd,men]) <;> rfl
 by_cases h7:k=7
 ·subst h7; (simp only[ZD,EVA,seval,Zd,men]) <;> rfl
 simp only[ZD,h0,h1,h2,h3,h4,h5,h6,h7,EVA,seval,Zd,men]
 simp [Zkn,h0,h1,h2,h3,h4,h5,h6,h7]
theorem ZmG{sig:List TControl}{s:TTermStep}(h:stepOK sig s):Zkn s.kind_=Jn s.kind_:=by
 have hk:=h.kind
 unfold Zkn Jn
 by_cases h0:s.kind_=0
 ·simp [h0]
 by_cases h1:s.kind_=1
 ·simp [h1]
 by_cases h2:s.kind_=2
 ·simp [h2]
 by_cases h3:s.kind_=3
 ·simp [h3]
 by_cases h4:s.kind_=4
 ·simp [h4]
 by_cases h5:s.kind_=5
 ·simp [h5]
 by_cases h6:s.kind_=6
 ·simp [h6]
 have h7:s.kind_=7:=by omega
 simp [h7]
theorem Znp(sig:List TControl)(s:TTermStep)(hn:sig.length<=4294967296)(hb:Zw 4294967296 s)(lvl:Nat)(S:Sto):Sem Proofs.Tryz.prog W0 lvl [.tr (.sl (sig.map Zh)),.ag ((Zg s).map .tr)] S (iB (dc (stepOK sig s))) S:=by
 obtain⟨k,c,t,ns⟩:=s
 obtain⟨b1,b2⟩:=hb
 simp only at b1 b2
 have q:=ZeD (fe:=VV) ns b1 fun n hn lvl S=>Zkm n (b2 n hn) lvl S
 refine Zc Zir trivial ?_
 simp only[ZcM,Zg,EVA,seval,Zd,men]
 refine Za q ?_
 cases hA:dc (∀ n∈ns,Zcb n)
 ·rw[Zj fun g:stepOK sig ⟨k,c,t,ns⟩=>dc_not.1 hA g.nms]
  simp only[EVA,seval,Zd,men]
 have hnm:=dc_iff.1 hA
 by_cases h2:k=2
 ·subst h2
  simp only[EVA,seval,Zd,men]
  refine Za (DT 2 c t ns false true false) ?_
  cases hP:plB false true false c t ns.length
  ·have hno:¬ stepOK sig ⟨2,c,t,ns⟩:=fun g=>by
    have e1:c=0:=g.ctl0 (by simp)
    have e2:ns.length=0:=g.non (by simp) (by simp) (by simp)
    rw[show plB false true false c t ns.length=true by simp [plB,e1,e2]] at hP
    cases hP
   rw[Zj hno]
   simp only[EVA,seval,Zd,men]
  ·simp only[plB,Bool.and_eq_true,Bool.or_eq_true,decide_eq_true_eq,Bool.false_eq_true,false_or,true_or,and_true] at hP
   simp only[EVA,seval,Zd,men]
   refine Za (YS t 0 3) ?_
   cases hW:inB t 0 3
   ·rw[Zj fun g:stepOK sig ⟨2,c,t,ns⟩=>inB_not.1 hW (g.site rfl)]
    simp only[EVA,seval,Zd,men]
   ·have hyes:stepOK sig ⟨2,c,t,ns⟩:=⟨by simp,fun _=>hP.1,fun g=>absurd rfl g,hnm,fun _=>inB_iff.1 hW,fun g=>by simp at g,fun g=>by simp at g,fun g=>by simp at g,fun _ _ _=>by have:=hP.2;simp only;omega⟩
    rw[ZN hyes]
    simp only[EVA,seval,Zd,men]
 by_cases h3:k=3
 ·subst h3
  simp only[EVA,seval,Zd,men]
  refine Za (DT 3 c t ns true false true) ?_
  cases hP:plB true false true c t ns.length
  ·have hno:¬ stepOK sig ⟨3,c,t,ns⟩:=fun g=>by
    have e1:t=0:=g.site0 (by simp)
    rw[show plB true false true c t ns.length=true by simp [plB,e1]] at hP
    cases hP
   rw[Zj hno]
   simp only[EVA,seval,Zd,men]
  ·simp only[plB,Bool.and_eq_true,Bool.or_eq_true,decide_eq_true_eq,Bool.false_eq_true,false_or,true_or,and_true,true_and] at hP
   simp only[List.length_map,EVA,seval,Zd,men]
   refine⟨by rw[Ze];omega,Za (YS c 0 ((sig.length:Int)-1)) ?_⟩
   cases hW:inB c 0 ((sig.length:Int)-1)
   ·rw[Zj fun g:stepOK sig ⟨3,c,t,ns⟩=>inB_not.1 hW (g.ctl rfl)]
    simp only[EVA,seval,Zd,men]
   ·have hw:=inB_iff.1 hW
    obtain⟨m,hm⟩:∃ m:Nat,c=m:=⟨c.toNat,by omega⟩
    have hms:m<sig.length:=by omega
    have gs:=WH (c:=Zh) hms
    have e:Y7 sig c=sig[m].ports:=by simp [Y7,hm,hms]
    simp only[hm,gs,Zh,List.length_map,EVA,seval,Zd,men]
    by_cases hp:(ns.length:Int)=sig[m].ports
    ·have hyes:stepOK sig ⟨3,c,t,ns⟩:=⟨by simp,fun g=>absurd rfl g,fun _=>hP,hnm,fun g=>by simp at g,fun _=>hw,fun _=>by rw[e];exact hp,fun g=>by simp at g,fun g=>absurd rfl g⟩
     rw[<-hm,ZN hyes]
     simp [hp]
    ·have hno:¬ stepOK sig ⟨3,c,t,ns⟩:=fun g=>hp (by rw[<-e];exact g.ports rfl)
     rw[<-hm,Zj hno]
     simp [hp]
 by_cases h67:k=6\/k=7
 ·have key:Sem Proofs.Tryz.prog ZQ lvl [] S (iB true) S->True:=fun _=>trivial
  have hl:plB false false true c t ns.length=true↔c=0/\t=0:=by simp [plB]
  rcases h67 with rfl | rfl
  all_goals
   simp only[EVA,seval,Zd,men]
   refine Za (DT _ c t ns false false true) ?_
   cases hP:plB false false true c t ns.length
   ·rw[Zj fun g:stepOK sig ⟨_,c,t,ns⟩=>by
     rw[hl.2 ⟨g.ctl0 (by simp),g.site0 (by simp)⟩] at hP
     cases hP]
    simp only[EVA,seval,Zd,men]
   ·have hP:=hl.1 hP
    simp only[List.length_map,EVA,seval,Zd,men]
    by_cases hp:(ns.length:Int)=1
    ·rw[ZN (show stepOK sig ⟨_,c,t,ns⟩ from ⟨by simp,fun _=>hP.1,fun _=>hP.2,hnm,fun g=>by simp at g,fun g=>by simp at g,fun g=>by simp at g,fun _=>by simp only;omega,fun g1 g2 g3=>by simp at g2 g3⟩)]
     simp [hp]
    ·rw[Zj fun g:stepOK sig ⟨_,c,t,ns⟩=>hp (by have:=g.one (by simp);simp only at this;omega)]
     simp [hp]
 have h6:¬ k=6:=fun e=>h67 (.inl e)
 have h7:¬ k=7:=fun e=>h67 (.inr e)
 simp only[h2,h3,h6,h7,EVA,seval,Zd,men]
 refine Za (Zgo k c t ns) ?_
 have hl:plB false false false c t ns.length=true↔c=0/\t=0/\ns.length=0:=by
  simp [plB]
  constructor
  ·rintro⟨⟨a,b⟩,d⟩;exact⟨a,b,by omega⟩
  ·rintro⟨a,b,d⟩;exact⟨⟨a,b⟩,by omega⟩
 by_cases hk:k=0\/k=1\/k=4\/k=5
 ·have hnd:(0:Int)<=Zkn k:=by rcases hk with rfl | rfl | rfl | rfl <;> decide
  simp only[hnd,EVA,seval,Zd,men]
  refine Za (DT k c t ns false false false) ?_
  cases hP:plB false false false c t ns.length
  ·rw[Zj fun g:stepOK sig ⟨k,c,t,ns⟩=>by
    rw[hl.2 ⟨g.ctl0 h3,g.site0 h2,g.non h3 h6 h7⟩] at hP
    cases hP]
   simp only[EVA,seval,Zd,men]
  ·have hP:=hl.1 hP
   rw[ZN (show stepOK sig ⟨k,c,t,ns⟩ from ⟨by simp only;omega,fun _=>hP.1,fun _=>hP.2.1,hnm,fun g=>absurd g h2,fun g=>absurd g h3,fun g=>absurd g h3,fun g=>g.elim (fun e=>absurd e h6) (fun e=>absurd e h7),fun _ _ _=>hP.2.2⟩)]
   simp only[EVA,seval,Zd,men]
 ·have hnd:¬ (0:Int)<=Zkn k:=by
   unfold Zkn
   rw[if_neg (by omega),if_neg (by omega),if_neg (by omega)]
   decide
  rw[Zj fun g:stepOK sig ⟨k,c,t,ns⟩=>by have:=g.kind;simp only at this;omega]
  simp only[hnd,EVA,seval,Zd,men]
theorem Zlq(l:List ByteArray)(hl:l.length<=4294967296)(hb:∀ y∈l,y.size<=4294967296)(lvl:Nat)(S:Sto):Sem Proofs.Tryz.prog QB lvl [.tr (.sl (rS l))] S (iB (dc (∀ n∈l,Zcb n))) S:=by
 refine Zc ZgK trivial ?_
 simp only[ZbK,List.length_map,EVA,seval,Zd,men]
 refine Zz (α:=Unit) l.length (fun j _=>[(3,iI j)]) (fun _ _=>[]) (fun j _=>∀ n∈l.take j,Zcb n) () (by simp only[EVA,seval,Zd,men]) (by (simp only[EVA,seval,Zd,men]) <;> rfl) (by simp) ?_
 intro j _ hj hA
 simp only[List.length_map,EVA,seval,Zd,men]
 refine Zl (fun hlt=>?_) (fun hge=>?_)
 ·have hja:j<l.length:=by omega
  have ga:=ZeN (e0:=e0S) (c:=fun n:ByteArray=>[ts n]) hja
  rw[XV hja] at ga
  simp only[ga,hja,List.length_map,EVA,seval,Zd,men]
  refine Za (ZdU l[j] (by have:=hb _ (List.getElem_mem hja);omega)) ?_
  cases hm:dc (Zcb l[j])
  ·rw[Zj fun g:∀ n∈l,Zcb n=>dc_not.1 hm (g _ (List.getElem_mem hja))]
   simp only[EVA,seval,Zd,men]
  ·have hm:=dc_iff.1 hm
   simp only[EVA,seval,Zd,men]
   exact⟨by rw[Ze];omega,Zf () hja rfl (by
    intro x hx
    rw[List.take_succ_eq_append_getElem hja] at hx
    rcases List.mem_append.1 hx with hx | hx
    ·exact hA x hx
    ·rw[List.mem_singleton.1 hx];exact hm)⟩
 ·have:j=l.length:=by omega
  subst this
  rw[List.take_length] at hA
  rw[ZN hA]
theorem Zgp(k:Int)(lvl:Nat)(S:Sto):Sem Proofs.Tryz.prog Yo lvl [iI k] S (iI (Jn k:Nat)) S:=by
 refine Zc ZgG trivial ?_
 by_cases h4:k=4
 ·subst h4; (simp only[YF,EVA,seval,Zd,men]) <;> rfl
 by_cases h5:k=5
 ·subst h5; (simp only[YF,EVA,seval,Zd,men]) <;> rfl
 by_cases h3:k=3
 ·subst h3; (simp only[YF,EVA,seval,Zd,men]) <;> rfl
 by_cases h6:k=6
 ·subst h6; (simp only[YF,EVA,seval,Zd,men]) <;> rfl
 by_cases h7:k=7
 ·subst h7; (simp only[YF,EVA,seval,Zd,men]) <;> rfl
 simp only[YF,h3,h4,h5,h6,h7,EVA,seval,Zd,men]
 simp [Jn,h3,h4,h5,h6,h7]
end Go.Fd

/-
  A NODE AROUND A BIGRAPH, THE PROGRAM'S SIDE. Own work.
-/
namespace Go.Fd
set_option maxRecDepth 20000
theorem Zhz{n:Int}(h:-4294967296<=n/\n<=4294967296):XE .i64 n:=by rw[Ze];omega
theorem Wg{sig:List TControl}{b:TBigraph}(h:bigOK sig b):ZB b:=by
 have hr:=h.roots;have he:=h.edges;have hn:=h.nodesL;have ho:=h.outer.2;have hs:=h.sg.2.2
 have hl:∀ l,ZV b l->XE .i64 l:=fun l hl=>by
  unfold ZV at hl
  exact Zhz (by omega)
 refine⟨Zhz (by omega),fun x hx=>?_,fun p hp=>?_,Zhz (by omega),fun w hw=>hl _ (h.inner w hw)⟩
 ·obtain⟨i,hi,rfl⟩:=List.getElem_of_mem hx
  have q:=h.nodes i hi
  have q1:=q.ctl
  have q2:=Ju hr.1 q.par
  have q3:=(UX h hx).1
  exact⟨Zhz (by omega),Zhz (by omega),fun l hl2=>hl l (q.links l hl2)⟩
 ·have q2:=Ju hr.1 (h.sites p hp)
  have q3:=X6 h hp
  exact Zhz (by omega)
theorem Dk{sig:List TControl}{b:TBigraph}(h:bigOK sig b):Zt 4294967296 b:=QT (by omega) (XC h)
theorem Zko(s:ByteArray)(hs:s.size<=4294967296)(lvl:Nat)(S:Sto):Sem Proofs.Tryz.prog VY lvl [iS s] S (iB (!dc (Zcb s))) S:=by
 refine Zc ZfW trivial ?_
 simp only[ZaS,EVA,↓reduceIte,Nat.reduceEqDiff,Nat.reduceMul,reduceCtorEq,Nat.reduceAdd,Nat.reduceSub,Nat.reduceLeDiff,Nat.reduceLT,Int.reduceToNat,Int.reduceLE,Int.reduceLT,Zd,men]
 refine Za (Dg s (by omega)) ?_
 simp only[EVA,↓reduceIte,Nat.reduceEqDiff,Nat.reduceMul,reduceCtorEq,Nat.reduceAdd,Nat.reduceSub,Nat.reduceLeDiff,Nat.reduceLT,Int.reduceToNat,Int.reduceLE,Int.reduceLT,Zd,men]
theorem ZhA(sig:List TControl)(s:TTermStep)(hn:sig.length<=4294967296)(hbs:∀ y∈sig,Zp 4294967296 y)(hb:Zw 4294967296 s)(hs:Yl sig)(h:stepOK sig s)(h3:s.kind_=3)(lvl:Nat)(S:Sto):Sem Proofs.Tryz.prog Xs lvl [.tr (.sl (sig.map Zh)),iI s.control,.tr (.sl (rS s.names))] S (.tu [Zi (Zdl s),iB true]) S:=by
 obtain⟨k,c,t,ns⟩:=s
 obtain⟨b1,b2⟩:=hb
 simp only at b1 b2 h3
 have hw:=h.ctl h3
 have hp:=h.ports h3
 have hnm:=h.nms
 simp only at hw hp hnm
 have hpl:=Zbn hs (c:=c)
 obtain⟨m,hm⟩:∃ m:Nat,c=m:=⟨c.toNat,by omega⟩
 have hms:m<sig.length:=by omega
 have gs:=WH (c:=Zh) hms
 have e:Y7 sig c=sig[m].ports:=by simp [Y7,hm,hms]
 have hpp:(ns.length:Int)=sig[m].ports:=by rw[<-e];exact hp
 have q:=ZeD (fe:=VY) ns b1 fun n hn lvl S=>Zko n (b2 n hn) lvl S
 rw[ZN hnm] at q
 refine Zc ZiD (by simp [Zi,low,men,Zd]) ?_
 simp only[Zc1,List.length_map,EVA,↓reduceIte,Nat.reduceEqDiff,Nat.reduceMul,reduceCtorEq,Nat.reduceAdd,Nat.reduceSub,Nat.reduceLeDiff,Nat.reduceLT,Int.reduceToNat,Int.reduceLE,Int.reduceLT,Zd,men]
 refine Za (Qf sig (by omega) fun y hy=>Nat.le_trans (hbs y hy) (by omega)) ?_
 rw[ZN hs]
 simp only[List.length_map,EVA,↓reduceIte,Nat.reduceEqDiff,Nat.reduceMul,reduceCtorEq,Nat.reduceAdd,Nat.reduceSub,Nat.reduceLeDiff,Nat.reduceLT,Int.reduceToNat,Int.reduceLE,Int.reduceLT,Zd,men]
 refine⟨by rw[Ze];omega,Za (YS c 0 ((sig.length:Int)-1)) ?_⟩
 rw[inB_iff.2 hw]
 simp only[hm,gs,hpp,Zh,List.length_map,EVA,↓reduceIte,Nat.reduceEqDiff,Nat.reduceMul,reduceCtorEq,Nat.reduceAdd,Nat.reduceSub,Nat.reduceLeDiff,Nat.reduceLT,Int.reduceToNat,Int.reduceLE,Int.reduceLT,Zd,men]
 refine Za q ?_
 simp only[EVA,↓reduceIte,Nat.reduceEqDiff,Nat.reduceMul,reduceCtorEq,Nat.reduceAdd,Nat.reduceSub,Nat.reduceLeDiff,Nat.reduceLT,Int.reduceToNat,Int.reduceLE,Int.reduceLT,Zd,men]
 refine Za (ZaV ns (by omega)) ?_
 simp only[List.length_map,EVA,↓reduceIte,Nat.reduceEqDiff,Nat.reduceMul,reduceCtorEq,Nat.reduceAdd,Nat.reduceSub,Nat.reduceLeDiff,Nat.reduceLT,Int.reduceToNat,Int.reduceLE,Int.reduceLT,Zd,men]
 obtain⟨o,ho⟩:∃ o,o=Vt ns:=⟨_,rfl⟩
 rw[<-ho]
 obtain⟨L,hL⟩:∃ L,L=ns.map fun n=>ixS o n:=⟨_,rfl⟩
 have lL:L.length=ns.length:=by rw[hL,List.length_map]
 have hol:o.length<=ns.length:=by rw[ho];exact Zbl
 refine Zz (α:=Unit) ns.length (fun j _=>[(45,iI j)]) (fun j _=>[(288,.bx [iI m,iI (-1),.hd (lvl,1344) [] 0 j none j]),(1344,.ar 1 (rI (L.take j)) true j 0)]) (fun _ _=>True) () (by simp only[EVA,↓reduceIte,Nat.reduceEqDiff,Nat.reduceMul,reduceCtorEq,Nat.reduceAdd,Nat.reduceSub,Nat.reduceLeDiff,Nat.reduceLT,Int.reduceToNat,Int.reduceLE,Int.reduceLT,Zd,men]) (by (simp only[EVA,↓reduceIte,Nat.reduceEqDiff,Nat.reduceMul,reduceCtorEq,Nat.reduceAdd,Nat.reduceSub,Nat.reduceLeDiff,Nat.reduceLT,Int.reduceToNat,Int.reduceLE,Int.reduceLT,Zd,men]) <;> rfl) trivial ?_
 intro j _ hj _
 simp only[List.length_map,EVA,↓reduceIte,Nat.reduceEqDiff,Nat.reduceMul,reduceCtorEq,Nat.reduceAdd,Nat.reduceSub,Nat.reduceLeDiff,Nat.reduceLT,Int.reduceToNat,Int.reduceLE,Int.reduceLT,Zd,men]
 refine Zl (fun hlt=>?_) (fun hge=>?_)
 ·have hja:j<ns.length:=by omega
  have ga:=ZeN (e0:=e0S) (c:=fun n:ByteArray=>[ts n]) hja
  rw[XV hja] at ga
  have hl2:(L.take j).length=j:=by rw[List.length_take];omega
  have hco:cut (rS o) 0 o.length=rS o:=Yg (by rw[List.length_map])
  have hsu:rI (L.take j)++[[tv (ixS o ns[j])]]=rI (L.take (j+1)):=by
   rw[List.take_succ_eq_append_getElem (by omega),YA]
   simp [hL]
  simp only[ga,hja,hco,List.length_map,EVA,↓reduceIte,Nat.reduceEqDiff,Nat.reduceMul,reduceCtorEq,Nat.reduceAdd,Nat.reduceSub,Nat.reduceLeDiff,Nat.reduceLT,Int.reduceToNat,Int.reduceLE,Int.reduceLT,Zd,men]
  refine Za (Zhv o ns[j] (by omega)) ?_
  simp only[hl2,hsu,List.length_map,EVA,↓reduceIte,Nat.reduceEqDiff,Nat.reduceMul,reduceCtorEq,Nat.reduceAdd,Nat.reduceSub,Nat.reduceLeDiff,Nat.reduceLT,Int.reduceToNat,Int.reduceLE,Int.reduceLT,Zd,men]
  exact⟨by omega,by rw[Ze];omega,Zf () hja rfl trivial⟩
 ·have:j=ns.length:=by omega
  subst this
  rw[<-lL,List.take_length]
  simp only[List.length_map,EVA,↓reduceIte,Nat.reduceEqDiff,Nat.reduceMul,reduceCtorEq,Nat.reduceAdd,Nat.reduceSub,Nat.reduceLeDiff,Nat.reduceLT,Int.reduceToNat,Int.reduceLE,Int.reduceLT,Zd,men]
  simp only[Zi,Zdl,<-ho,<-hL,hm]
  try rfl
theorem ZpI(sig:List TControl)(s:TTermStep)(hn:sig.length<=4294967296)(hbs:∀ y∈sig,Zp 4294967296 y)(hb:Zw 4294967296 s)(hs:Yl sig)(h:stepOK sig s)(h3:s.kind_=3)(hk:¬ Qv sig s.control=2)(lvl:Nat)(S:Sto):Sem Proofs.Tryz.prog US lvl [.tr (.sl (sig.map Zh)),iI s.control,.tr (.sl (rS s.names))] S (.tu [Zi (ZeR s),iB true]) S:=by
 have hw:=h.ctl h3
 obtain⟨m,hm⟩:∃ m:Nat,s.control=m:=⟨s.control.toNat,by omega⟩
 have hms:m<sig.length:=by omega
 have gs:=WH (c:=Zh) hms
 have e:Qv sig s.control=sig[m].kind_:=by simp [Qv,hm,hms]
 rw[e] at hk
 have q:=ZhA sig s hn hbs hb hs h h3
 refine Zc ZjW (by simp [Zi,low,men,Zd]) ?_
 simp only[Zet,EVA,↓reduceIte,Nat.reduceEqDiff,Nat.reduceMul,reduceCtorEq,Nat.reduceAdd,Nat.reduceSub,Nat.reduceLeDiff,Nat.reduceLT,Int.reduceToNat,Int.reduceLE,Int.reduceLT,Zd,men]
 refine Za q ?_
 simp only[Zi,Zdl,hm,gs,hk,Zh,List.length_map,EVA,↓reduceIte,Nat.reduceEqDiff,Nat.reduceMul,reduceCtorEq,Nat.reduceAdd,Nat.reduceSub,Nat.reduceLeDiff,Nat.reduceLT,Int.reduceToNat,Int.reduceLE,Int.reduceLT,Zd,men]
 simp only[Zi,ZeR,hm]
 try rfl
theorem Znq(sig:List TControl)(s:TTermStep)(hn:sig.length<=4294967296)(hbs:∀ y∈sig,Zp 4294967296 y)(hb:Zw 4294967296 s)(hs:Yl sig)(h:stepOK sig s)(h3:s.kind_=3)(lvl:Nat)(S:Sto):Sem Proofs.Tryz.prog W8 lvl [.tr (.sl (sig.map Zh)),iI s.control,.tr (.sl (rS s.names))] S (.tu [Zi (Zdl s),iB true]) S:=by
 have q:=ZhA sig s hn hbs hb hs h h3
 refine Zc ZiB (by simp [Zi,low,men,Zd]) ?_
 simp only[ZcY,EVA,↓reduceIte,Nat.reduceEqDiff,Nat.reduceMul,reduceCtorEq,Nat.reduceAdd,Nat.reduceSub,Nat.reduceLeDiff,Nat.reduceLT,Int.reduceToNat,Int.reduceLE,Int.reduceLT,Zd,men]
 refine Za q ?_
 simp only[Zi,List.length_map,EVA,↓reduceIte,Nat.reduceEqDiff,Nat.reduceMul,reduceCtorEq,Nat.reduceAdd,Nat.reduceSub,Nat.reduceLeDiff,Nat.reduceLT,Int.reduceToNat,Int.reduceLE,Int.reduceLT,Zd,men]
noncomputable def Zrl(sig:List TControl)(s:TTermStep)(x:TBigraph):TBigraph:=@ite _ (XI sig s x) (Classical.propDecidable _) (Dj (ZeR s) x) J3
theorem Znr(sig:List TControl)(s:TTermStep)(x:TBigraph)(hn:sig.length<=4294967296)(hbs:∀ y∈sig,Zp 4294967296 y)(hb:Zw 4294967296 s)(h:stepOK sig s)(h3:s.kind_=3)(hx:bigOK sig x)(hi:x.inner=[])(lvl:Nat)(S:Sto):Sem Proofs.Tryz.prog W5 lvl [.tr (.sl (sig.map Zh)),.ag ((Zg s).map .tr),.ag ((Zb x).map .tr)] S (.tu [Zi (Zrl sig s x),iB (dc (XI sig s x))]) S:=by
 have hs:=hx.sg
 have hw:=h.ctl h3
 obtain⟨m,hm⟩:∃ m:Nat,s.control=m:=⟨s.control.toNat,by omega⟩
 have hms:m<sig.length:=by omega
 have gs:=WH (c:=Zh) hms
 have e:Qv sig s.control=sig[m].kind_:=by simp [Qv,hm,hms]
 have x1:=hx.small.nodes;have x2:=hx.small.sites
 refine Zc Ziy (by simp [Zi,low,men,Zd]) ?_
 simp only[ZcS,Zg,Zb,EVA,↓reduceIte,Nat.reduceEqDiff,Nat.reduceMul,reduceCtorEq,Nat.reduceAdd,Nat.reduceSub,Nat.reduceLeDiff,Nat.reduceLT,Int.reduceToNat,Int.reduceLE,Int.reduceLT,Zd,men]
 unfold Zrl
 by_cases hr:x.roots=1
 ·by_cases hk:sig[m].kind_=2
  ·by_cases hz:(x.nodes.length:Int)+x.sites.length=0
   ·have z1:x.nodes=[]:=List.length_eq_zero_iff.1 (by omega)
    have z2:x.sites=[]:=List.length_eq_zero_iff.1 (by omega)
    have hA:=Zt1 hs h h3
    have e1:=Zt4 (s:=s) hr z1 z2 hi
    have e2:=Zpt (Zd0 hA hx) (sig:=sig)
    have hpr:(Zdy (Zdl s) x).roots<=4:=by show (1:Int)+x.roots<=4;omega
    have hpa:Un sig (Zdl s) x↔XI sig s x:=by
     constructor
     ·rintro⟨_,_,_,g⟩
      exact⟨hr,fun _=>⟨z1,z2⟩,by rw[<-e1];exact(e2.2 g).1⟩
     ·rintro⟨_,_,g⟩
      rw[<-e1] at g
      exact⟨hA,hx,fun n hn=>by simp [inn,Zdl] at hn,e2.1 ⟨g,hpr⟩⟩
    have qa:=Znq sig s hn hbs hb hs h h3
    simp only[hm] at qa
    simp only[hr,hk,hm,gs,z1,z2,Zh,List.length_map,EVA,↓reduceIte,Nat.reduceEqDiff,Nat.reduceMul,reduceCtorEq,Nat.reduceAdd,Nat.reduceSub,Nat.reduceLeDiff,Nat.reduceLT,Int.reduceToNat,Int.reduceLE,Int.reduceLT,Zd,men]
    refine⟨by rw[Ze];omega,?_⟩
    rw[if_neg (by decide)]
    refine Za qa ?_
    simp only[Zi,hr,z1,z2,List.length_map,EVA,↓reduceIte,Nat.reduceEqDiff,Nat.reduceMul,reduceCtorEq,Nat.reduceAdd,Nat.reduceSub,Nat.reduceLeDiff,Nat.reduceLT,Int.reduceToNat,Int.reduceLE,Int.reduceLT,Zd,men]
    have qm:=Wf sig (Zdl s) x hn hbs (Dk hA) (Dk hx) (Wg hA) (Wg hx)
    unfold VL VM at qm
    rw[Vs hpa] at qm
    simp only[Zb,hr,z1,z2,List.map_cons,List.map_nil] at qm
    simp only[ZF]
    refine Za qm ?_
    by_cases g:XI sig s x
    ·rw[if_pos g,if_pos (hpa.2 g),e1]
     simp only[Zi,List.length_map,EVA,↓reduceIte,Nat.reduceEqDiff,Nat.reduceMul,reduceCtorEq,Nat.reduceAdd,Nat.reduceSub,Nat.reduceLeDiff,Nat.reduceLT,Int.reduceToNat,Int.reduceLE,Int.reduceLT,Zd,men]
    ·rw[if_neg g,if_neg (fun k=>g (hpa.1 k))]
     simp only[Zi,List.length_map,EVA,↓reduceIte,Nat.reduceEqDiff,Nat.reduceMul,reduceCtorEq,Nat.reduceAdd,Nat.reduceSub,Nat.reduceLeDiff,Nat.reduceLT,Int.reduceToNat,Int.reduceLE,Int.reduceLT,Zd,men]
     try rfl
   ·have hno:¬ XI sig s x:=fun g=>by
     obtain⟨z1,z2⟩:=g.2.1 (e.trans hk)
     rw[z1,z2] at hz
     simp at hz
    have hz2:(0:Int)<(x.nodes.length:Int)+x.sites.length:=by omega
    rw[if_neg hno,Zj hno]
    simp only[hr,hk,hm,gs,hz2,Zh,List.length_map,EVA,↓reduceIte,Nat.reduceEqDiff,Nat.reduceMul,reduceCtorEq,Nat.reduceAdd,Nat.reduceSub,Nat.reduceLeDiff,Nat.reduceLT,Int.reduceToNat,Int.reduceLE,Int.reduceLT,Zd,men]
    refine⟨by rw[Ze];omega,?_⟩
    rfl
  ·have hk2:¬ Qv sig s.control=2:=by rw[e];exact hk
   have hT:=ZpD hs h h3 hk2
   have hne:Zdj sig (ZeR s) x↔XI sig s x:=by
    constructor
    ·rintro⟨_,g⟩
     exact⟨hr,fun k=>absurd k hk2,g⟩
    ·rintro⟨_,_,g⟩
     exact⟨⟨hT,hx,rfl,by rw[hr];rfl⟩,g⟩
   have qa:=ZpI sig s hn hbs hb hs h h3 hk2
   simp only[hm] at qa
   simp only[hr,hk,hm,gs,Zh,List.length_map,EVA,↓reduceIte,Nat.reduceEqDiff,Nat.reduceMul,reduceCtorEq,Nat.reduceAdd,Nat.reduceSub,Nat.reduceLeDiff,Nat.reduceLT,Int.reduceToNat,Int.reduceLE,Int.reduceLT,Zd,men]
   refine Za qa ?_
   simp only[Zi,hr,List.length_map,EVA,↓reduceIte,Nat.reduceEqDiff,Nat.reduceMul,reduceCtorEq,Nat.reduceAdd,Nat.reduceSub,Nat.reduceLeDiff,Nat.reduceLT,Int.reduceToNat,Int.reduceLE,Int.reduceLT,Zd,men]
   have qm:=ZaZ sig (ZeR s) x hn hbs (Dk hT) (Dk hx) (Wg hT) (Wg hx)
   unfold Ul Um at qm
   rw[Vs hne] at qm
   simp only[Zb,hr,List.map_cons,List.map_nil] at qm
   simp only[ZF]
   refine Za qm ?_
   by_cases g:XI sig s x
   ·rw[if_pos g,if_pos (hne.2 g)]
    simp only[Zi,List.length_map,EVA,↓reduceIte,Nat.reduceEqDiff,Nat.reduceMul,reduceCtorEq,Nat.reduceAdd,Nat.reduceSub,Nat.reduceLeDiff,Nat.reduceLT,Int.reduceToNat,Int.reduceLE,Int.reduceLT,Zd,men]
   ·rw[if_neg g,if_neg (fun k=>g (hne.1 k))]
    simp only[Zi,List.length_map,EVA,↓reduceIte,Nat.reduceEqDiff,Nat.reduceMul,reduceCtorEq,Nat.reduceAdd,Nat.reduceSub,Nat.reduceLeDiff,Nat.reduceLT,Int.reduceToNat,Int.reduceLE,Int.reduceLT,Zd,men]
    try rfl
 ·have hno:¬ XI sig s x:=fun g=>hr g.1
  rw[if_neg hno,Zj hno]
  simp only[hr,EVA,↓reduceIte,Nat.reduceEqDiff,Nat.reduceMul,reduceCtorEq,Nat.reduceAdd,Nat.reduceSub,Nat.reduceLeDiff,Nat.reduceLT,Int.reduceToNat,Int.reduceLE,Int.reduceLT,Zd,men]
  rfl
end Go.Fd

/-
  WHAT STEPS MAKE, THE PROGRAM'S SIDE: made, stacked. Own work.
-/
namespace Go.Fd
set_option maxRecDepth 20000
def ptC(x:Q3):List Tr:=Zb x.1++[Tr.sl (rI x.2)]
theorem Zrm(s:TTermStep)(lvl:Nat)(S:Sto):Sem Proofs.Tryz.prog DG lvl [.ag ((Zg s).map .tr)] S (.ag ((ptC (if s.kind_=1 then (Zp4,[]) else if s.kind_=2 then (Zp5,[s.site]) else (J3,[]))).map .tr)) S:=by
 obtain⟨k,c,t,ns⟩:=s
 refine Zc Zk5 (by simp [low,men,Zd,ptC,Zb]) ?_
 by_cases h1:k=1
 ·subst h1
  simp only[DJ,Zg,EVA,seval,Zd,men]
  rfl
 ·by_cases h2:k=2
  ·subst h2
   simp only[DJ,Zg,EVA,seval,Zd,men]
   rfl
  ·rw[if_neg h1,if_neg h2]
   simp only[DJ,Zg,h1,h2,EVA,seval,Zd,men]
   rfl
noncomputable def Zlr(sig:List TControl)(s:TTermStep)(xs:List Q3):TBigraph:=((mkR sig s xs).map Prod.fst).getD J3
def Jb(xs:List Q3):List Int:=(xs.map Prod.snd).flatten
theorem ZpJ{sig:List TControl}{s:TTermStep}{xs:List Q3}(h2:¬ s.kind_=2){y:Q3}(h:mkR sig s xs=some y)(hl:xs.length=Jn s.kind_):y.2=Jb xs:=by
 unfold mkR at h
 split at h
 ·rename_i h0
  rw[h0] at hl
  have:xs=[]:=List.length_eq_zero_iff.1 hl
  subst this
  cases h;rfl
 split at h
 ·rename_i h0
  rw[h0] at hl
  have:xs=[]:=List.length_eq_zero_iff.1 hl
  subst this
  cases h;rfl
 split at h
 ·split at h
  ·split at h
   ·cases h;simp [Jb]
   ·cases h
  split at h
  ·split at h
   ·cases h;simp [Jb]
   ·cases h
  ·split at h
   ·cases h;simp [Jb]
   ·cases h
 ·split at h
  ·cases h;simp [Jb]
  ·cases h
 ·cases h
theorem XX{xs:List Q3}{j:Nat}(h:j<xs.length):Jb (xs.take (j+1))=Jb (xs.take j)++(xs[j]).2:=by
 unfold Jb
 rw[List.take_succ_eq_append_getElem h,List.map_append,List.flatten_append]
 simp
theorem Dl{sig:List TControl}{xs:List Q3}(hx:∀ x∈xs,partOK sig x):∀{j:Nat},j<=xs.length->(Jb (xs.take j)).length<=4*j
 | 0,_=>by simp [Jb]
 | j+1,hj=>by
  have hp:=hx _ (List.getElem_mem (show j<xs.length by omega))
  have h1:=hp.len
  have h2:=hp.big.sitesL
  rw[XX (by omega),List.length_append]
  have:=Dl hx (j:=j) (by omega)
  omega
theorem Zsf{xs:List Q3}(h:xs.length=2):∃ x y,xs=[x,y] :=
 match xs,h with
 | [x,y],_=>⟨x,y,rfl⟩
theorem Zkp{xs:List Q3}(h:xs.length=1):∃ x,xs=[x] :=
 match xs,h with
 | [x],_=>⟨x,rfl⟩
theorem Zce{xs:List ByteArray}(h:xs.length=1):∃ x,xs=[x] :=
 match xs,h with
 | [x],_=>⟨x,rfl⟩
noncomputable def Zns(sig:List TControl)(s:TTermStep)(xs:List Q3):Q3:=(mkR sig s xs).getD (J3,Jb xs)
theorem gS0{n:ByteArray}{l:List ByteArray}(h:l=[n]):gS l 0=n:=by subst h;rfl
theorem ZmH{sig:List TControl}{s:TTermStep}{xs:List Q3}(h:s.kind_=0\/s.kind_=1\/s.kind_=2):mkR sig s xs=some (if s.kind_=1 then (Zp4,[]) else if s.kind_=2 then (Zp5,[s.site]) else (J3,[])):=by
 unfold mkR
 rcases h with h | h | h <;> simp [h]
open Classical in
theorem U0{sig:List TControl}{s:TTermStep}{x:Q3}(h:s.kind_=3\/s.kind_=6\/s.kind_=7):mkR sig s [x]=if s.kind_=3 then (if XI sig s x.1 then some (Dj (ZeR s) x.1,x.2) else none) else if s.kind_=6 then (if QR sig x.1 (gS s.names 0) then some (XB x.1 (gS s.names 0),x.2) else none) else (if UZ sig x.1 (gS s.names 0) then some (Zje x.1 (gS s.names 0),x.2) else none):=by
 unfold mkR
 rw[if_neg (by omega),if_neg (by omega),if_neg (by omega)]
open Classical in
theorem Zd2{sig:List TControl}{s:TTermStep}{x y:Q3}(h:s.kind_=4\/s.kind_=5):mkR sig s [x,y]=if Un sig x.1 y.1 then some (if s.kind_=4 then Zhy x.1 y.1 else Zdy x.1 y.1,x.2++y.2) else none:=by
 unfold mkR
 rw[if_neg (by omega),if_neg (by omega),if_neg (by omega)]
theorem Zrn(sig:List TControl)(s:TTermStep)(xs:List Q3)(hn:sig.length<=4294967296)(hbs:∀ y∈sig,Zp 4294967296 y)(hb:Zw 4294967296 s)(h:stepOK sig s)(hl:xs.length=Jn s.kind_)(hx:∀ x∈xs,partOK sig x)(lvl:Nat)(S:Sto):Sem Proofs.Tryz.prog DF lvl [.tr (.sl (sig.map Zh)),.ag ((Zg s).map .tr),.tr (.sl (xs.map ptC))] S (.tu [.ag ((ptC (Zns sig s xs)).map .tr),iB (mkR sig s xs).isSome]) S:=by
 obtain⟨k,c,t,ns⟩:=s
 have hkind:=h.kind
 simp only at hkind hl
 refine Zc Zk4 (by simp [low,men,Zd,ptC,Zb]) ?_
 by_cases h012:k=0\/k=1\/k=2
 ·have q:=Zrm ⟨k,c,t,ns⟩
  have e:=ZmH (sig:=sig) (s:=⟨k,c,t,ns⟩) (xs:=xs) h012
  have h3:¬ k=3:=by omega
  have h4:¬ k=4:=by omega
  have h5:¬ k=5:=by omega
  have h6:¬ k=6:=by omega
  have h7:¬ k=7:=by omega
  unfold Zns
  rw[e]
  simp only[QP,Zg,h3,h4,h5,h6,h7,EVA,seval,Zd,men]
  refine Za q ?_
  obtain⟨Q,hQ⟩:∃ Q:Q3,Q=(if k=1 then (Zp4,[]) else if k=2 then (Zp5,[t]) else (J3,[])):=⟨_,rfl⟩
  simp only[<-hQ,ptC,Zb]
  simp only[EVA,seval,Zd,men]
  try rfl
 ·
  have hso:=fun y=>ZpJ (sig:=sig) (s:=⟨k,c,t,ns⟩) (xs:=xs) (y:=y) (by simp only;omega)
  obtain⟨V,hV⟩:∃ V,V=Zlr sig ⟨k,c,t,ns⟩ xs:=⟨_,rfl⟩
  obtain⟨ok,hok⟩:∃ ok,ok=(mkR sig ⟨k,c,t,ns⟩ xs).isSome:=⟨_,rfl⟩
  have hP:Zns sig ⟨k,c,t,ns⟩ xs=(V,Jb xs):=by
   rw[hV]
   unfold Zns Zlr
   cases hm:mkR sig ⟨k,c,t,ns⟩ xs with
   | none=>rfl
   | some y =>
    have:=hso y hm hl
    simp only[Option.map_some,Option.getD_some]
    rw[<-this]
  rw[hP,<-hok]
  have hcase:(k=3/\∃ x,xs=[x])\/(k=4/\∃ x y,xs=[x,y])\/(k=5/\∃ x y,xs=[x,y])\/(k=6/\∃ x,xs=[x])\/(k=7/\∃ x,xs=[x]):=by
   have:k=3\/k=4\/k=5\/k=6\/k=7:=by omega
   rcases this with rfl | rfl | rfl | rfl | rfl
   ·exact .inl ⟨rfl,Zkp hl⟩
   ·exact .inr (.inl ⟨rfl,Zsf hl⟩)
   ·exact .inr (.inr (.inl ⟨rfl,Zsf hl⟩))
   ·exact .inr (.inr (.inr (.inl ⟨rfl,Zkp hl⟩)))
   ·exact .inr (.inr (.inr (.inr ⟨rfl,Zkp hl⟩)))
  have hlen:xs.length<=2:=by
   rw[hl]
   unfold Jn
   split
   ·omega
   ·split <;> omega
  rcases hcase with ⟨rfl,x,hxs⟩ | ⟨rfl,x,y,hxs⟩ | ⟨rfl,x,y,hxs⟩ | ⟨rfl,x,hxs⟩ | ⟨rfl,x,hxs⟩
  ·have hpx:=hx x (by rw[hxs];simp)
   have g0:(xs.map ptC)[0]? = some (ptC x):=by rw[hxs];rfl
   have q:=Znr sig ⟨3,c,t,ns⟩ x.1 hn hbs hb h rfl hpx.big hpx.inn
   have e1:Zrl sig ⟨3,c,t,ns⟩ x.1=V:=by
    rw[hV,Zlr,hxs,U0 (.inl rfl),if_pos rfl]
    unfold Zrl
    by_cases g:XI sig ⟨3,c,t,ns⟩ x.1
    ·rw[if_pos g,if_pos g];rfl
    ·rw[if_neg g,if_neg g];rfl
   have e2:dc (XI sig ⟨3,c,t,ns⟩ x.1)=ok:=by
    rw[hok,hxs,U0 (.inl rfl),if_pos rfl]
    by_cases g:XI sig ⟨3,c,t,ns⟩ x.1
    ·rw[if_pos g,ZN g];rfl
    ·rw[if_neg g,Zj g];rfl
   rw[e1,e2] at q
   simp only[QP,Zg,g0,ptC,Zb,List.length_map,EVA,seval,Zd,men]
   simp only[Zg,Zb,List.map_cons,List.map_nil] at q
   refine Za q ?_
   clear q e1 e2 g0
   simp only[Zi,List.length_map,EVA,seval,Zd,men]
   refine Zz (α:=Unit) xs.length (fun j _=>[(96,iI j)]) (fun j _=>[(256,.bx [iI V.roots,.tr (.sl (V.nodes.map ZX)),.tr (.sl (rI V.sites)),iI V.edges,.tr (.sl (rS V.outer)),.tr (.sl (V.inner.map Ji)),.hd (lvl,384) [] 0 (Jb (xs.take j)).length none (Jb (xs.take j)).length]),(384,.ar 1 (rI (Jb (xs.take j))) true (Jb (xs.take j)).length 0)]) (fun _ _=>True) () (by simp only[EVA,seval,Zd,men]) (by (simp only[EVA,seval,Zd,men]) <;> rfl) trivial ?_
   intro j _ hj _
   simp only[List.length_map,EVA,seval,Zd,men]
   refine Zl (fun hlt=>?_) (fun hge=>?_)
   ·have hja:j<xs.length:=by omega
    have ga:=WH (c:=ptC) hja
    have hsl:=XX hja
    have hle:=Dl hx (j:=j+1) hja
    rw[hsl,List.length_append] at hle
    simp only[ga,hja,ptC,Zb,Zbt,Zbu,List.length_append,List.length_map,EVA,seval,Zd,men]
    refine⟨by omega,by rw[Ze];omega,Zf () hja (by rw[hsl,List.length_append,YA,Nat.max_eq_right (Nat.le_add_right _ _)];rfl) trivial⟩
   ·have:j=xs.length:=by omega
    subst this
    rw[List.take_length]
    rw[show cut (rI (Jb xs)) 0 (Jb xs).length=rI (Jb xs) from ZF]
  ·have hpx:=hx x (by rw[hxs];simp)
   have hpy:=hx y (by rw[hxs];simp)
   have g0:(xs.map ptC)[0]? = some (ptC x):=by rw[hxs];rfl
   have g1:(xs.map ptC)[1]? = some (ptC y):=by rw[hxs];rfl
   have q:=Wf sig x.1 y.1 hn hbs (Dk hpx.big) (Dk hpy.big) (Wg hpx.big) (Wg hpy.big)
   have e1:VL sig x.1 y.1=V:=by
    rw[hV,Zlr,hxs,Zd2 (.inl rfl)]
    unfold VL
    by_cases g:Un sig x.1 y.1
    ·rw[if_pos g,if_pos g];rfl
    ·rw[if_neg g,if_neg g];rfl
   have e2:VM sig x.1 y.1=ok:=by
    rw[hok,hxs,Zd2 (.inl rfl)]
    unfold VM
    by_cases g:Un sig x.1 y.1
    ·rw[if_pos g,ZN g];rfl
    ·rw[if_neg g,Zj g];rfl
   rw[e1,e2] at q
   simp only[QP,Zg,g0,g1,ptC,Zb,List.length_map,EVA,seval,Zd,men]
   simp only[Zb,List.map_cons,List.map_nil] at q
   refine Za q ?_
   clear q e1 e2 g0 g1
   simp only[Zi,List.length_map,EVA,seval,Zd,men]
   refine Zz (α:=Unit) xs.length (fun j _=>[(96,iI j)]) (fun j _=>[(256,.bx [iI V.roots,.tr (.sl (V.nodes.map ZX)),.tr (.sl (rI V.sites)),iI V.edges,.tr (.sl (rS V.outer)),.tr (.sl (V.inner.map Ji)),.hd (lvl,384) [] 0 (Jb (xs.take j)).length none (Jb (xs.take j)).length]),(384,.ar 1 (rI (Jb (xs.take j))) true (Jb (xs.take j)).length 0)]) (fun _ _=>True) () (by simp only[EVA,seval,Zd,men]) (by (simp only[EVA,seval,Zd,men]) <;> rfl) trivial ?_
   intro j _ hj _
   simp only[List.length_map,EVA,seval,Zd,men]
   refine Zl (fun hlt=>?_) (fun hge=>?_)
   ·have hja:j<xs.length:=by omega
    have ga:=WH (c:=ptC) hja
    have hsl:=XX hja
    have hle:=Dl hx (j:=j+1) hja
    rw[hsl,List.length_append] at hle
    simp only[ga,hja,ptC,Zb,Zbt,Zbu,List.length_append,List.length_map,EVA,seval,Zd,men]
    refine⟨by omega,by rw[Ze];omega,Zf () hja (by rw[hsl,List.length_append,YA,Nat.max_eq_right (Nat.le_add_right _ _)];rfl) trivial⟩
   ·have:j=xs.length:=by omega
    subst this
    rw[List.take_length]
    rw[show cut (rI (Jb xs)) 0 (Jb xs).length=rI (Jb xs) from ZF]
  ·have hpx:=hx x (by rw[hxs];simp)
   have hpy:=hx y (by rw[hxs];simp)
   have g0:(xs.map ptC)[0]? = some (ptC x):=by rw[hxs];rfl
   have g1:(xs.map ptC)[1]? = some (ptC y):=by rw[hxs];rfl
   have q:=QY sig x.1 y.1 hn hbs (Dk hpx.big) (Dk hpy.big) (Wg hpx.big) (Wg hpy.big)
   have e1:YB sig x.1 y.1=V:=by
    rw[hV,Zlr,hxs,Zd2 (.inr rfl)]
    unfold YB
    by_cases g:Un sig x.1 y.1
    ·rw[if_pos g,if_pos g];rfl
    ·rw[if_neg g,if_neg g];rfl
   have e2:YC sig x.1 y.1=ok:=by
    rw[hok,hxs,Zd2 (.inr rfl)]
    unfold YC
    by_cases g:Un sig x.1 y.1
    ·rw[if_pos g,ZN g];rfl
    ·rw[if_neg g,Zj g];rfl
   rw[e1,e2] at q
   simp only[QP,Zg,g0,g1,ptC,Zb,List.length_map,EVA,seval,Zd,men]
   simp only[Zb,List.map_cons,List.map_nil] at q
   refine Za q ?_
   clear q e1 e2 g0 g1
   simp only[Zi,List.length_map,EVA,seval,Zd,men]
   refine Zz (α:=Unit) xs.length (fun j _=>[(96,iI j)]) (fun j _=>[(256,.bx [iI V.roots,.tr (.sl (V.nodes.map ZX)),.tr (.sl (rI V.sites)),iI V.edges,.tr (.sl (rS V.outer)),.tr (.sl (V.inner.map Ji)),.hd (lvl,384) [] 0 (Jb (xs.take j)).length none (Jb (xs.take j)).length]),(384,.ar 1 (rI (Jb (xs.take j))) true (Jb (xs.take j)).length 0)]) (fun _ _=>True) () (by simp only[EVA,seval,Zd,men]) (by (simp only[EVA,seval,Zd,men]) <;> rfl) trivial ?_
   intro j _ hj _
   simp only[List.length_map,EVA,seval,Zd,men]
   refine Zl (fun hlt=>?_) (fun hge=>?_)
   ·have hja:j<xs.length:=by omega
    have ga:=WH (c:=ptC) hja
    have hsl:=XX hja
    have hle:=Dl hx (j:=j+1) hja
    rw[hsl,List.length_append] at hle
    simp only[ga,hja,ptC,Zb,Zbt,Zbu,List.length_append,List.length_map,EVA,seval,Zd,men]
    refine⟨by omega,by rw[Ze];omega,Zf () hja (by rw[hsl,List.length_append,YA,Nat.max_eq_right (Nat.le_add_right _ _)];rfl) trivial⟩
   ·have:j=xs.length:=by omega
    subst this
    rw[List.take_length]
    rw[show cut (rI (Jb xs)) 0 (Jb xs).length=rI (Jb xs) from ZF]
  ·have hpx:=hx x (by rw[hxs];simp)
   have g0:(xs.map ptC)[0]? = some (ptC x):=by rw[hxs];rfl
   obtain⟨n,rfl⟩:∃ n,ns=[n]:=by
    exact Zce (h.one (.inl rfl))
   have q:=Zdf sig x.1 n hn hbs (Dk hpx.big) (hb.2 n (by simp)) (Wg hpx.big)
   have e1:J4 sig x.1 n=V:=by
    rw[hV,Zlr,hxs,U0 (.inr (.inl rfl)),if_neg (by simp),if_pos rfl]
    unfold J4
    show _=((@ite _ (QR sig x.1 n) (Classical.propDecidable _) _ _:Option Q3).map Prod.fst).getD J3
    by_cases g:QR sig x.1 n
    ·rw[if_pos g,if_pos g];rfl
    ·rw[if_neg g,if_neg g];rfl
   have e2:J5 sig x.1 n=ok:=by
    rw[hok,hxs,U0 (.inr (.inl rfl)),if_neg (by simp),if_pos rfl]
    unfold J5
    show _=(@ite _ (QR sig x.1 n) (Classical.propDecidable _) _ _:Option Q3).isSome
    by_cases g:QR sig x.1 n
    ·rw[if_pos g,ZN g];rfl
    ·rw[if_neg g,Zj g];rfl
   rw[e1,e2] at q
   simp only[QP,Zg,g0,ptC,Zb,List.length_map,EVA,seval,Zd,men]
   simp only[Zb,List.map_cons,List.map_nil] at q
   refine Za q ?_
   clear q e1 e2 g0
   simp only[Zi,List.length_map,EVA,seval,Zd,men]
   refine Zz (α:=Unit) xs.length (fun j _=>[(96,iI j)]) (fun j _=>[(256,.bx [iI V.roots,.tr (.sl (V.nodes.map ZX)),.tr (.sl (rI V.sites)),iI V.edges,.tr (.sl (rS V.outer)),.tr (.sl (V.inner.map Ji)),.hd (lvl,384) [] 0 (Jb (xs.take j)).length none (Jb (xs.take j)).length]),(384,.ar 1 (rI (Jb (xs.take j))) true (Jb (xs.take j)).length 0)]) (fun _ _=>True) () (by simp only[EVA,seval,Zd,men]) (by (simp only[EVA,seval,Zd,men]) <;> rfl) trivial ?_
   intro j _ hj _
   simp only[List.length_map,EVA,seval,Zd,men]
   refine Zl (fun hlt=>?_) (fun hge=>?_)
   ·have hja:j<xs.length:=by omega
    have ga:=WH (c:=ptC) hja
    have hsl:=XX hja
    have hle:=Dl hx (j:=j+1) hja
    rw[hsl,List.length_append] at hle
    simp only[ga,hja,ptC,Zb,Zbt,Zbu,List.length_append,List.length_map,EVA,seval,Zd,men]
    refine⟨by omega,by rw[Ze];omega,Zf () hja (by rw[hsl,List.length_append,YA,Nat.max_eq_right (Nat.le_add_right _ _)];rfl) trivial⟩
   ·have:j=xs.length:=by omega
    subst this
    rw[List.take_length]
    rw[show cut (rI (Jb xs)) 0 (Jb xs).length=rI (Jb xs) from ZF]
  ·have hpx:=hx x (by rw[hxs];simp)
   have g0:(xs.map ptC)[0]? = some (ptC x):=by rw[hxs];rfl
   obtain⟨n,rfl⟩:∃ n,ns=[n]:=by
    exact Zce (h.one (.inr rfl))
   have q:=Zlp sig x.1 n hn hbs (Dk hpx.big) (hb.2 n (by simp)) (Wg hpx.big)
   have e1:ZxX sig x.1 n=V:=by
    rw[hV,Zlr,hxs,U0 (.inr (.inr rfl)),if_neg (by simp),if_neg (by simp)]
    unfold ZxX
    show _=((@ite _ (UZ sig x.1 n) (Classical.propDecidable _) _ _:Option Q3).map Prod.fst).getD J3
    by_cases g:UZ sig x.1 n
    ·rw[if_pos g,if_pos g];rfl
    ·rw[if_neg g,if_neg g];rfl
   have e2:dc (UZ sig x.1 n)=ok:=by
    rw[hok,hxs,U0 (.inr (.inr rfl)),if_neg (by simp),if_neg (by simp)]
    show _=(@ite _ (UZ sig x.1 n) (Classical.propDecidable _) _ _:Option Q3).isSome
    by_cases g:UZ sig x.1 n
    ·rw[if_pos g,ZN g];rfl
    ·rw[if_neg g,Zj g];rfl
   rw[e1,e2] at q
   simp only[QP,Zg,g0,ptC,Zb,List.length_map,EVA,seval,Zd,men]
   simp only[Zb,List.map_cons,List.map_nil] at q
   refine Za q ?_
   clear q e1 e2 g0
   simp only[Zi,List.length_map,EVA,seval,Zd,men]
   refine Zz (α:=Unit) xs.length (fun j _=>[(96,iI j)]) (fun j _=>[(256,.bx [iI V.roots,.tr (.sl (V.nodes.map ZX)),.tr (.sl (rI V.sites)),iI V.edges,.tr (.sl (rS V.outer)),.tr (.sl (V.inner.map Ji)),.hd (lvl,384) [] 0 (Jb (xs.take j)).length none (Jb (xs.take j)).length]),(384,.ar 1 (rI (Jb (xs.take j))) true (Jb (xs.take j)).length 0)]) (fun _ _=>True) () (by simp only[EVA,seval,Zd,men]) (by (simp only[EVA,seval,Zd,men]) <;> rfl) trivial ?_
   intro j _ hj _
   simp only[List.length_map,EVA,seval,Zd,men]
   refine Zl (fun hlt=>?_) (fun hge=>?_)
   ·have hja:j<xs.length:=by omega
    have ga:=WH (c:=ptC) hja
    have hsl:=XX hja
    have hle:=Dl hx (j:=j+1) hja
    rw[hsl,List.length_append] at hle
    simp only[ga,hja,ptC,Zb,Zbt,Zbu,List.length_append,List.length_map,EVA,seval,Zd,men]
    refine⟨by omega,by rw[Ze];omega,Zf () hja (by rw[hsl,List.length_append,YA,Nat.max_eq_right (Nat.le_add_right _ _)];rfl) trivial⟩
   ·have:j=xs.length:=by omega
    subst this
    rw[List.take_length]
    rw[show cut (rI (Jb xs)) 0 (Jb xs).length=rI (Jb xs) from ZF]
end Go.Fd

/-
  THE STACK, THE PROGRAM'S SIDE. Own work.
-/
namespace Go.Fd
set_option maxRecDepth 20000
noncomputable def Zuj(sig:List TControl)(t:List TTermStep):Stk:=(Zby sig t).getD ([],0)
theorem Zgq{sig:List TControl}{t:List TTermStep}(h:Zby sig t=none):Zuj sig t=([],0):=by unfold Zuj;rw[h];rfl
theorem Zkq{sig:List TControl}{t:List TTermStep}{z:Stk}(h:Zby sig t=some z):Zuj sig t=z:=by unfold Zuj;rw[h];rfl
theorem Zd3{l:List Q3}:UnR 7 (l.map ptC)=True:=eq_true (Zb3 ptC (fun _=>rfl) l)
theorem Zxy{l:List Q3}{a n:Nat}:cut (l.map ptC) a n=((l.drop a).take n).map ptC:=by
 rw[cut,<-List.map_drop,<-List.map_take]
theorem ZBR{l:List Q3}{a:Nat}:cut (l.map ptC) a (l.length-a)=(l.drop a).map ptC:=by
 rw[Zxy,List.take_of_length_le (by rw[List.length_drop];omega)]
theorem Zg4{l:List Q3}{a:Nat}:cut (l.map ptC) 0 a=(l.take a).map ptC:=by
 rw[Zxy,List.drop_zero]
theorem Zls(sig:List TControl)(t:List TTermStep)(hn:sig.length<=4294967296)(hbs:∀ y∈sig,Zp 4294967296 y)(hbt:∀ y∈t,Zw 4294967296 y)(hs:Yl sig)(hl:t.length<=60)(lvl:Nat)(S:Sto):Sem Proofs.Tryz.prog Wm lvl [.tr (.sl (sig.map Zh)),.tr (.sl (t.map Zg))] S (.tu [.tr (.sl ((Zuj sig t).1.map ptC)),iI ((Zuj sig t).2:Nat),iB (Zby sig t).isSome]) S:=by
 refine Zc ZgF (by simp [low,men,Zd]) ?_
 simp only[ZbG,List.length_map,EVA,seval,Zd,men]
 refine Zz (α:=Stk) t.length (fun j z=>[(7,.tr (.sl (z.1.map ptC))),(8,iI z.2),(17,iI j)]) (fun _ _=>[]) (fun j z=>Zby sig (t.take j)=some z) ([],0) (by simp only[EVA,seval,Zd,men]) (by (simp only[EVA,seval,Zd,men]) <;> rfl) (by rw[List.take_zero];exact ZmD) ?_
 intro j z hj hA
 have hz:=Zcd hs hj hA
 simp only[List.length_map,EVA,seval,Zd,men]
 refine Zl (fun hlt=>?_) (fun hge=>?_)
 ·have hja:j<t.length:=by omega
  have ga:=WH (c:=Zg) hja
  have hb:=hbt _ (List.getElem_mem hja)
  have hsu:=Za0 (sig:=sig) hja
  rw[hA] at hsu
  obtain⟨s,hs'⟩:∃ s,s=t[j]:=⟨_,rfl⟩
  rw[<-hs'] at ga hb hsu
  have hbad:stT sig z s=none->Zby sig t=none:=fun g=>Zdm (j:=j+1) (by rw[hsu];exact g)
  have q1:=Znp sig s hn hb
  have q2:=Zgo s.kind_ s.control s.site s.names
  obtain⟨k,c,p,ns⟩:=s
  simp only[Zg,List.map_cons,List.map_nil] at ga q1 q2
  simp only[ga,hja,List.length_map,EVA,seval,Zd,men]
  refine Za q1 ?_
  cases hg:dc (stepOK sig ⟨k,c,p,ns⟩)
  ·have e:=hbad (Zgn fun g=>dc_not.1 hg g.1)
   rw[e,Zgq e]
   simp only[EVA,seval,Zd,men]
   try rfl
  have hok:=dc_iff.1 hg
  have hnd:=ZmG hok
  simp only at hnd
  simp only[EVA,seval,Zd,men]
  refine Za q2 ?_
  rw[hnd]
  simp only[List.length_map,EVA,seval,Zd,men]
  refine Zl (fun hlo=>?_) (fun hlo=>?_)
  ·have e:=hbad (Zgn fun g=>by have:=g.2;simp only at this;omega)
   rw[e,Zgq e]
   try rfl
  have htk:Jn k<=z.1.length:=by omega
  refine Za q2 ?_
  rw[hnd]
  simp only[List.length_map,EVA,seval,Zd,men]
  have hat:((z.1.length:Int)-(Jn k:Int))=((z.1.length-Jn k:Nat):Int):=by omega
  rw[hat]
  obtain⟨a,ha⟩:∃ a,a=z.1.length-Jn k:=⟨_,rfl⟩
  rw[<-ha]
  have q3:=Zrn sig ⟨k,c,p,ns⟩ (z.1.drop a) hn hbs hb hok (by rw[List.length_drop];simp only;omega) (fun x hx=>hz.1 x (List.mem_of_mem_drop hx))
  simp only[Zg,List.map_cons,List.map_nil] at q3
  simp only[Zd3,EVA,seval,Zd,men]
  simp only[Int.toNat_natCast,ZBR]
  refine⟨by rw[Ze];omega,?_⟩
  refine⟨?_,?_,Za q3 ?_⟩
  ·first | omega | simp [Zd3]
  ·first | omega | simp [Zd3]
  obtain⟨V,hV⟩:∃ V,V=Zns sig ⟨k,c,p,ns⟩ (z.1.drop a):=⟨_,rfl⟩
  rw[<-hV]
  simp only[ptC,Zb]
  cases hm:mkR sig ⟨k,c,p,ns⟩ (z.1.drop a) with
  | none =>
   have e:=hbad (ZmF (by show mkR _ _ (z.1.drop (z.1.length-Jn k))=none;rw[<-ha];exact hm))
   rw[e,Zgq e]
   simp only[Option.isSome_none,EVA,seval,Zd,men]
   try rfl
  | some y =>
   have e:=ZmE hok (z:=z) htk (by show mkR _ _ (z.1.drop (z.1.length-Jn k))=some y;rw[<-ha];exact hm)
   have hy:V=y:=by rw[hV,Zns,hm];rfl
   subst hy
   simp only[Option.isSome_some,List.length_map,Zd3,EVA,seval,Zd,men]
   have e3:cut (z.1.map ptC) 0 (a-0)++[[Tr.v (Value.int .i64 V.1.roots),Tr.sl (V.1.nodes.map ZX),Tr.sl (rI V.1.sites),Tr.v (Value.int .i64 V.1.edges),Tr.sl (rS V.1.outer),Tr.sl (V.1.inner.map Ji),Tr.sl (rI V.2)]]=(z.1.take a++[V]).map ptC:=by
    rw[Nat.sub_zero,Zg4,List.map_append]
    rfl
   have e4:(cut (z.1.map ptC) 0 (a-0)).length=a:=by
    rw[Nat.sub_zero,Zg4,List.length_map,List.length_take]
    omega
   have e5:max (z.2:Int) ((a+1:Nat):Int)=((max z.2 (a+1):Nat):Int):=by omega
   have e6:((z.1.take a++[V]).map ptC).length=a+1:=by
    rw[List.length_map,List.length_append,List.length_take]
    simp
    omega
   rw[e3,e4,e6,e5]
   refine⟨fun g=>g.elim,by omega,by omega,by omega,by rw[Nat.sub_zero,Zg4,Zd3];trivial,rfl,by rw[Ze];omega,Zf (z.1.take a++[V],max z.2 (a+1)) hja rfl ?_⟩
   rw[hsu]
   show stT sig z _=_
   rw[e]
   show some (z.1.take (z.1.length-Jn k)++[V],max z.2 (z.1.length-Jn k+1))=_
   rw[<-ha]
 ·have:j=t.length:=by omega
  subst this
  rw[List.take_length] at hA
  rw[hA,Zkq hA]
  simp only[EVA,seval,Zd,men]
  try rfl
end Go.Fd

/-
  WHICH STEPS ARE RIGHT, THE REFERENCE'S SIDE. Own work.
-/
namespace Go.Fd
set_option maxRecDepth 20000
theorem Znt(sig:List TControl)(s:TTermStep)(hn:sig.length<=4294967296)(hb:Zw 4294967296 s)(lvl:Nat)(S:Sto):Sem Proofs.Tryz.prog WY lvl [.tr (.sl (sig.map Zh)),.ag ((Zg s).map .tr)] S (iB (dc (stepOK sig s))) S:=by
 obtain⟨k,c,t,ns⟩:=s
 obtain⟨b1,b2⟩:=hb
 simp only at b1 b2
 have qn:=Zlq ns b1 b2
 have d23:¬ (2:Int)=3:=by decide
 have d32:¬ (3:Int)=2:=by decide
 have d62:¬ (6:Int)=2:=by decide
 have d63:¬ (6:Int)=3:=by decide
 have d72:¬ (7:Int)=2:=by decide
 have d73:¬ (7:Int)=3:=by decide
 have d76:¬ (7:Int)=6:=by decide
 refine Zc Zio trivial ?_
 by_cases h2:k=2
 ·subst h2
  by_cases hc:c=0
  ·subst hc
   simp only[J1,Zg,d23,EVA,seval,Zd,men]
   refine Za (QE t 0 3) ?_
   cases hW:inB t 0 3
   ·rw[Zj fun g:stepOK sig ⟨2,0,t,ns⟩=>inB_not.1 hW (g.site rfl)]
    simp only[EVA,seval,Zd,men]
   ·simp only[List.length_map,EVA,seval,Zd,men]
    by_cases hl:(ns.length:Int)=0
    ·have hyes:stepOK sig ⟨2,0,t,ns⟩:=⟨by simp,fun _=>rfl,fun g=>absurd rfl g,fun n hn=>by
      have:ns=[]:=List.length_eq_zero_iff.1 (by omega)
      simp [this] at hn,fun _=>inB_iff.1 hW,fun g=>by simp at g,fun g=>by simp at g,fun g=>by simp at g,fun _ _ _=>by simp only;omega⟩
     rw[ZN hyes]
     simp [hl]
    ·rw[Zj fun g:stepOK sig ⟨2,0,t,ns⟩=>hl (by have:=g.non (by simp) (by simp) (by simp);simp only at this;omega)]
     simp [hl]
     exact fun e=>hl (by simp [e])
  ·rw[Zj fun g:stepOK sig ⟨2,c,t,ns⟩=>hc (g.ctl0 (by simp))]
   simp only[J1,Zg,hc,d23,EVA,seval,Zd,men]
 by_cases h3:k=3
 ·subst h3
  by_cases ht:t=0
  ·subst ht
   simp only[J1,Zg,d32,List.length_map,EVA,seval,Zd,men]
   refine⟨by rw[Ze];omega,Za (QE c 0 ((sig.length:Int)-1)) ?_⟩
   cases hW:inB c 0 ((sig.length:Int)-1)
   ·rw[Zj fun g:stepOK sig ⟨3,c,0,ns⟩=>inB_not.1 hW (g.ctl rfl)]
    simp only[EVA,seval,Zd,men]
   ·have hw:=inB_iff.1 hW
    obtain⟨m,hm⟩:∃ m:Nat,c=m:=⟨c.toNat,by omega⟩
    have hms:m<sig.length:=by omega
    have gs:=WH (c:=Zh) hms
    have e:Y7 sig c=sig[m].ports:=by simp [Y7,hm,hms]
    simp only[hm,gs,Zh,List.length_map,EVA,seval,Zd,men]
    by_cases hp:(ns.length:Int)=sig[m].ports
    ·simp only[hp,EVA,seval,Zd,men]
     refine Za qn ?_
     simp only[EVA,seval,Zd,men]
     have:stepOK sig ⟨3,c,0,ns⟩↔∀ n∈ns,Zcb n:=⟨fun g=>g.nms,fun g=>⟨by simp,fun g=>absurd rfl g,fun _=>rfl,g,fun g=>by simp at g,fun _=>hw,fun _=>by rw[e];exact hp,fun g=>by simp at g,fun g=>absurd rfl g⟩⟩
     rw[<-hm,Vs this]
    ·rw[<-hm,Zj fun g:stepOK sig ⟨3,c,0,ns⟩=>hp (by rw[<-e];exact g.ports rfl)]
     simp only[hp,EVA,seval,Zd,men]
  ·rw[Zj fun g:stepOK sig ⟨3,c,t,ns⟩=>ht (g.site0 (by simp))]
   simp only[J1,Zg,ht,d32,EVA,seval,Zd,men]
 by_cases hc:c=0
 ·subst hc
  by_cases ht:t=0
  ·subst ht
   by_cases h67:k=6\/k=7
   ·rcases h67 with rfl | rfl
    all_goals
     simp only[J1,Zg,d62,d63,d72,d73,d76,List.length_map,EVA,seval,Zd,men]
     by_cases hp:(ns.length:Int)=1
     ·simp only[hp,EVA,seval,Zd,men]
      refine Za qn ?_
      simp only[EVA,seval,Zd,men]
      rw[Vs (show stepOK sig ⟨_,0,0,ns⟩↔∀ n∈ns,Zcb n from ⟨fun g=>g.nms,fun g=>⟨by simp,fun _=>rfl,fun _=>rfl,g,fun g=>by simp at g,fun g=>by simp at g,fun g=>by simp at g,fun _=>by simp only;omega,fun g1 g2 g3=>by simp at g2 g3⟩⟩)]
     ·rw[Zj fun g:stepOK sig ⟨_,0,0,ns⟩=>hp (by have:=g.one (by simp);simp only at this;omega)]
      simp only[hp,EVA,seval,Zd,men]
   have h6:¬ k=6:=fun e=>h67 (.inl e)
   have h7:¬ k=7:=fun e=>h67 (.inr e)
   simp only[J1,Zg,h2,h3,h6,h7,EVA,seval,Zd,men]
   refine Za (QE k 0 5) ?_
   cases hW:inB k 0 5
   ·rw[Zj fun g:stepOK sig ⟨k,0,0,ns⟩=>inB_not.1 hW (by have:=g.kind;simp only at this;omega)]
    simp only[EVA,seval,Zd,men]
   ·have hw:=inB_iff.1 hW
    simp only[List.length_map,EVA,seval,Zd,men]
    by_cases hl:(ns.length:Int)=0
    ·have hyes:stepOK sig ⟨k,0,0,ns⟩:=⟨by simp only;omega,fun _=>rfl,fun _=>rfl,fun n hn=>by
      have:ns=[]:=List.length_eq_zero_iff.1 (by omega)
      simp [this] at hn,fun g=>absurd g h2,fun g=>absurd g h3,fun g=>absurd g h3,fun g=>g.elim (fun e=>absurd e h6) (fun e=>absurd e h7),fun _ _ _=>by simp only;omega⟩
     rw[ZN hyes]
     simp [hl]
    ·rw[Zj fun g:stepOK sig ⟨k,0,0,ns⟩=>hl (by have:=g.non h3 h6 h7;simp only at this;omega)]
     simp [hl]
     exact fun e=>hl (by simp [e])
  ·rw[Zj fun g:stepOK sig ⟨k,0,t,ns⟩=>ht (g.site0 h2)]
   simp only[J1,Zg,h2,h3,ht,EVA,seval,Zd,men]
 ·rw[Zj fun g:stepOK sig ⟨k,c,t,ns⟩=>hc (g.ctl0 h3)]
  simp only[J1,Zg,h2,h3,hc,EVA,seval,Zd,men]
end Go.Fd

/-
  WHAT STEPS MAKE, THE REFERENCE'S SIDE. Own work.
-/
namespace Go.Fd
set_option maxRecDepth 20000
def Zlt(sig:List TControl):List TControl:=sig.map fun c=>{ c with kind_:=0 }
theorem ZpK{sig:List TControl}(h:Yl sig):Yl (Zlt sig):=by
 have hl:(Zlt sig).length=sig.length:=by simp [Zlt]
 refine⟨fun i hi=>?_,by rw[hl];exact h.2⟩
 have g:=h.1 i (by omega)
 have e:∀ k (hk:k<(Zlt sig).length),(Zlt sig)[k] = { sig[k]'(by omega) with kind_:=0 }:=fun k hk=>by simp [Zlt]
 refine⟨?_,fun k hk=>?_⟩
 ·rw[e i hi]
  exact⟨g.1.1,g.1.2.1,by show (0:Int)<=0/\(0:Int)<=2;omega⟩
 ·rw[e i hi,e k (by omega)]
  exact g.2 k hk
theorem Znu{sig:List TControl}{c:Int}:Y7 (Zlt sig) c=Y7 sig c:=by
 unfold Y7 Zlt
 rw[List.getElem?_map]
 cases sig[c.toNat]? <;> rfl
theorem ZpL{sig:List TControl}{c:Int}:Qv (Zlt sig) c=0:=by
 unfold Qv Zlt
 rw[List.getElem?_map]
 cases sig[c.toNat]? <;> rfl
theorem ZpM{sig:List TControl}{s:TTermStep}(h:stepOK sig s):stepOK (Zlt sig) s :=
 ⟨h.kind,h.ctl0,h.site0,h.nms,h.site,fun g=>by rw[show (Zlt sig).length=sig.length by simp [Zlt]];exact h.ctl g,fun g=>by rw[Znu];exact h.ports g,h.one,h.non⟩
theorem Zro{sig:List TControl}{x:TBigraph}(h:bigOK sig x)(h1:x.nodes=[])(h2:x.sites=[]):bigOK (Zlt sig) x :=
 ⟨ZpK h.sg,h.roots,h.nodesL,h.sitesL,h.edges,h.outer,h.inn,fun i hi=>by simp [h1] at hi,fun p hp=>by simp [h2] at hp,h.inner⟩
theorem Zrp{sig:List TControl}{s:TTermStep}(hs:Yl sig)(h:stepOK sig s)(h3:s.kind_=3){x:TBigraph}(hx:bigOK sig x)(hk:Qv sig s.control=2->x.nodes=[]/\x.sites=[]):∃ sg,bigOK sg (ZeR s)/\bigOK sg x:=by
 by_cases k:Qv sig s.control=2
 ·exact⟨Zlt sig,ZpD (ZpK hs) (ZpM h) h3 (by rw[ZpL];decide),Zro hx (hk k).1 (hk k).2⟩
 ·exact⟨sig,ZpD hs h h3 k,hx⟩
theorem Znv(s:TTermStep)(lvl:Nat)(S:Sto):Sem Proofs.Tryz.prog W2 lvl [.ag ((Zg s).map .tr)] S (.ag ((ptC (if s.kind_=0 then (J3,[]) else if s.kind_=1 then (Zp4,[]) else (Zp5,[s.site]))).map .tr)) S:=by
 obtain⟨k,c,t,ns⟩:=s
 refine Zc Ziv (by simp [low,men,Zd,ptC,Zb]) ?_
 by_cases h0:k=0
 ·subst h0
  simp only[WG,Zg,EVA,↓reduceIte,Nat.reduceEqDiff,Nat.reduceMul,reduceCtorEq,Nat.reduceAdd,Nat.reduceSub,Nat.reduceLeDiff,Nat.reduceLT,Int.reduceToNat,Int.reduceLE,Int.reduceLT,Zd,men]
  rfl
 ·by_cases h1:k=1
  ·subst h1
   rw[if_neg h0]
   simp only[WG,Zg,h0,EVA,↓reduceIte,Nat.reduceEqDiff,Nat.reduceMul,reduceCtorEq,Nat.reduceAdd,Nat.reduceSub,Nat.reduceLeDiff,Nat.reduceLT,Int.reduceToNat,Int.reduceLE,Int.reduceLT,Zd,men]
   rfl
  ·rw[if_neg h0,if_neg h1]
   simp only[WG,Zg,h0,h1,EVA,↓reduceIte,Nat.reduceEqDiff,Nat.reduceMul,reduceCtorEq,Nat.reduceAdd,Nat.reduceSub,Nat.reduceLeDiff,Nat.reduceLT,Int.reduceToNat,Int.reduceLE,Int.reduceLT,Zd,men]
   rfl
def Zxz(sig:List TControl)(s:TTermStep)(x:TBigraph):Prop:=x.roots=1/\(Qv sig s.control=2->x.nodes=[]/\x.sites=[])
open Classical in
noncomputable def Znw(sig:List TControl)(s:TTermStep)(x:Q3):Q3:=if Zxz sig s x.1 then (Dj (ZeR s) x.1,x.2) else (J3,[])
theorem Znx(sig:List TControl)(s:TTermStep)(x:Q3)(hn:sig.length<=4294967296)(hbs:∀ y∈sig,Zp 4294967296 y)(hb:Zw 4294967296 s)(hs:Yl sig)(h:stepOK sig s)(h3:s.kind_=3)(hx:partOK sig x)(lvl:Nat)(S:Sto):Sem Proofs.Tryz.prog W3 lvl [.tr (.sl (sig.map Zh)),.ag ((Zg s).map .tr),.ag ((ptC x).map .tr)] S (.tu [.ag ((ptC (Znw sig s x)).map .tr),iB (dc (XI sig s x.1))]) S:=by
 have hxb:=hx.big
 have hw:=h.ctl h3
 obtain⟨m,hm⟩:∃ m:Nat,s.control=m:=⟨s.control.toNat,by omega⟩
 have hms:m<sig.length:=by omega
 have gs:=WH (c:=Zh) hms
 have e:Qv sig s.control=sig[m].kind_:=by simp [Qv,hm,hms]
 have x1:=hxb.small.nodes;have x2:=hxb.small.sites
 refine Zc Ziw (by simp [low,men,Zd,ptC,Zb]) ?_
 simp only[ZcQ,Zg,ptC,Zb,EVA,↓reduceIte,Nat.reduceEqDiff,Nat.reduceMul,reduceCtorEq,Nat.reduceAdd,Nat.reduceSub,Nat.reduceLeDiff,Nat.reduceLT,Int.reduceToNat,Int.reduceLE,Int.reduceLT,Zd,men]
 by_cases h0:Zxz sig s x.1
 ·have hr:=h0.1
  have hno:Znw sig s x=(Dj (ZeR s) x.1,x.2):=if_pos h0
  rw[hno]
  obtain⟨sg,g1,g2⟩:=Zrp hs h h3 hxb h0.2
  have hnl:s.names.length<=3:=by have:=h.ports h3;have:=Zbn hs (c:=s.control);omega
  have hsl:=Zbl (l:=s.names)
  have q1:=UI s.names (by omega)
  have q2:=Uk s.names 0 (Vt s.names) (by omega) (by omega) (by omega)
  simp only[Int.zero_add] at q2
  have q3:=Zni sg (ZeR s) x.1 g1 g2 (by rw[hr];rfl)
  have q4:=XU sig (Dj (ZeR s) x.1) hn hbs (QT (by omega) (Zpf g1 g2)) (Zpg g1 g2 (by rw[hr];rfl) (Wg g1) (Wg g2))
  have e4:dc (bigOK sig (Dj (ZeR s) x.1))=dc (XI sig s x.1):=Vs ⟨fun g=>⟨h0.1,h0.2,g⟩,fun g=>g.2.2⟩
  rw[e4] at q4
  obtain⟨B,hB⟩:∃ B,B=Dj (ZeR s) x.1:=⟨_,rfl⟩
  rw[<-hB] at q3 q4 ⊢
  simp only[Zb,List.map_cons,List.map_nil] at q4
  by_cases hk:sig[m].kind_=2
  ·obtain⟨z1,z2⟩:=h0.2 (e.trans hk)
   simp only[hr,hk,hm,gs,z1,z2,Zh,List.length_map,List.length_nil,List.map_nil,EVA,↓reduceIte,Nat.reduceEqDiff,Nat.reduceMul,reduceCtorEq,Nat.reduceAdd,Nat.reduceSub,Nat.reduceLeDiff,Nat.reduceLT,Int.reduceToNat,Int.reduceLE,Int.reduceLT,Zd,men]
   refine⟨by rw[Ze];omega,?_⟩
   rw[if_neg (by decide)]
   refine Za q1 ?_
   simp only[List.length_map,EVA,↓reduceIte,Nat.reduceEqDiff,Nat.reduceMul,reduceCtorEq,Nat.reduceAdd,Nat.reduceSub,Nat.reduceLeDiff,Nat.reduceLT,Int.reduceToNat,Int.reduceLE,Int.reduceLT,Zd,men]
   rw[show cut (rS (Vt s.names)) 0 (Vt s.names).length=rS (Vt s.names) from ZF]
   refine Za q2 ?_
   simp only[List.length_map,EVA,↓reduceIte,Nat.reduceEqDiff,Nat.reduceMul,reduceCtorEq,Nat.reduceAdd,Nat.reduceSub,Nat.reduceLeDiff,Nat.reduceLT,Int.reduceToNat,Int.reduceLE,Int.reduceLT,Zd,men]
   simp only[Zb,ZeR,hr,hm,z1,z2,ZX,List.map_cons,List.map_nil] at q3
   refine Za q3 ?_
   simp only[Zb,List.length_map,EVA,↓reduceIte,Nat.reduceEqDiff,Nat.reduceMul,reduceCtorEq,Nat.reduceAdd,Nat.reduceSub,Nat.reduceLeDiff,Nat.reduceLT,Int.reduceToNat,Int.reduceLE,Int.reduceLT,Zd,men]
   refine Za q4 ?_
   simp only[List.length_map,EVA,↓reduceIte,Nat.reduceEqDiff,Nat.reduceMul,reduceCtorEq,Nat.reduceAdd,Nat.reduceSub,Nat.reduceLeDiff,Nat.reduceLT,Int.reduceToNat,Int.reduceLE,Int.reduceLT,Zd,men]
  ·simp only[hr,hk,hm,gs,Zh,List.length_map,EVA,↓reduceIte,Nat.reduceEqDiff,Nat.reduceMul,reduceCtorEq,Nat.reduceAdd,Nat.reduceSub,Nat.reduceLeDiff,Nat.reduceLT,Int.reduceToNat,Int.reduceLE,Int.reduceLT,Zd,men]
   refine Za q1 ?_
   simp only[List.length_map,EVA,↓reduceIte,Nat.reduceEqDiff,Nat.reduceMul,reduceCtorEq,Nat.reduceAdd,Nat.reduceSub,Nat.reduceLeDiff,Nat.reduceLT,Int.reduceToNat,Int.reduceLE,Int.reduceLT,Zd,men]
   rw[show cut (rS (Vt s.names)) 0 (Vt s.names).length=rS (Vt s.names) from ZF]
   refine Za q2 ?_
   simp only[List.length_map,EVA,↓reduceIte,Nat.reduceEqDiff,Nat.reduceMul,reduceCtorEq,Nat.reduceAdd,Nat.reduceSub,Nat.reduceLeDiff,Nat.reduceLT,Int.reduceToNat,Int.reduceLE,Int.reduceLT,Zd,men]
   simp only[Zb,ZeR,hr,hm,ZX,List.map_cons,List.map_nil] at q3
   refine Za q3 ?_
   simp only[Zb,List.length_map,EVA,↓reduceIte,Nat.reduceEqDiff,Nat.reduceMul,reduceCtorEq,Nat.reduceAdd,Nat.reduceSub,Nat.reduceLeDiff,Nat.reduceLT,Int.reduceToNat,Int.reduceLE,Int.reduceLT,Zd,men]
   refine Za q4 ?_
   simp only[List.length_map,EVA,↓reduceIte,Nat.reduceEqDiff,Nat.reduceMul,reduceCtorEq,Nat.reduceAdd,Nat.reduceSub,Nat.reduceLeDiff,Nat.reduceLT,Int.reduceToNat,Int.reduceLE,Int.reduceLT,Zd,men]
 ·have hno:¬ XI sig s x.1:=fun g=>h0 ⟨g.1,g.2.1⟩
  rw[show Znw sig s x=(J3,[]) from if_neg h0,Zj hno]
  by_cases hr:x.1.roots=1
  ·have hk:sig[m].kind_=2:=Classical.byContradiction fun k=>h0 ⟨hr,fun g=>absurd (e.symm.trans g) k⟩
   have hz:(0:Int)<(x.1.nodes.length:Int)+x.1.sites.length:=by
    by_cases g:(x.1.nodes.length:Int)+x.1.sites.length=0
    ·exact absurd ⟨hr,fun _=>⟨List.length_eq_zero_iff.1 (by omega),List.length_eq_zero_iff.1 (by omega)⟩⟩ h0
    ·omega
   simp only[hr,hk,hm,gs,hz,Zh,List.length_map,EVA,↓reduceIte,Nat.reduceEqDiff,Nat.reduceMul,reduceCtorEq,Nat.reduceAdd,Nat.reduceSub,Nat.reduceLeDiff,Nat.reduceLT,Int.reduceToNat,Int.reduceLE,Int.reduceLT,Zd,men]
   exact⟨by rw[Ze];omega,rfl⟩
  ·simp only[hr,EVA,↓reduceIte,Nat.reduceEqDiff,Nat.reduceMul,reduceCtorEq,Nat.reduceAdd,Nat.reduceSub,Nat.reduceLeDiff,Nat.reduceLT,Int.reduceToNat,Int.reduceLE,Int.reduceLT,Zd,men]
   rfl
end Go.Fd

/-
  WHAT STEPS MAKE OF TWO, AND OF ONE AND A NAME, THE REFERENCE'S SIDE. Own work.
-/
namespace Go.Fd
set_option maxRecDepth 20000
theorem Zgr(l:List Int)(hl:l.length<=4294967296)(lvl:Nat)(S:Sto):Sem Proofs.Tryz.prog X1 lvl [tI l] S (.ow 1 (rI l) true) S:=by
 refine Zc ZjS trivial ?_
 simp only[Zeo,List.length_map,Zbt,Zbu,EVA,seval,Zd,men]
 exact hl
theorem Zt6{sig:List TControl}{a b:TBigraph}(ha:bigOK sig a)(hb:bigOK sig b)(hi:a.inner=[]):Un sig a b↔bigOK sig (Zdy a b):=by
 constructor
 ·intro g;exact g.2.2.2
 ·intro g;exact⟨ha,hb,fun n hn=>by simp [inn,hi] at hn,g⟩
open Classical in
noncomputable def Zny(sig:List TControl)(s:TTermStep)(x y:Q3):Q3:=if Un sig x.1 y.1 then (if s.kind_=4 then Zhy x.1 y.1 else Zdy x.1 y.1,x.2++y.2) else (J3,[])
theorem Znz(sig:List TControl)(s:TTermStep)(x y:Q3)(hn:sig.length<=4294967296)(hbs:∀ y∈sig,Zp 4294967296 y)(hx:partOK sig x)(hy:partOK sig y)(lvl:Nat)(S:Sto):Sem Proofs.Tryz.prog W4 lvl [.tr (.sl (sig.map Zh)),.ag ((Zg s).map .tr),.ag ((ptC x).map .tr),.ag ((ptC y).map .tr)] S (.tu [.ag ((ptC (Zny sig s x y)).map .tr),iB (dc (Un sig x.1 y.1))]) S:=by
 have hxb:=hx.big;have hyb:=hy.big
 have x2:=hxb.sitesL;have y2:=hyb.sitesL
 have lx:=hx.len;have ly:=hy.len
 have q1:=Znl sig x.1 y.1 hxb hyb
 have q2:=XU sig (Zdy x.1 y.1) hn hbs (QT (by omega) (ZmA hxb hyb)) (Zsb hxb hyb (Wg hxb) (Wg hyb))
 rw[<-Vs (Zt6 hxb hyb hx.inn)] at q2
 have q3:=Zpy (Zdy x.1 y.1) (Zrg hxb hyb)
 have q4:=Zgr x.2 (by omega)
 have ec:cut (rI x.2++rI y.2) 0 (x.2.length+y.2.length)=rI (x.2++y.2):=by
  rw[<-YA]
  exact Yg (by simp [rI])
 obtain⟨B,hB⟩:∃ B,B=Zdy x.1 y.1:=⟨_,rfl⟩
 rw[<-hB] at q1 q2 q3
 have hM:Zhy x.1 y.1=Zln B:=by rw[hB];rfl
 simp only[Zb,List.map_cons,List.map_nil] at q1 q2 q3
 refine Zc Zix (by simp [low,men,Zd,ptC,Zb]) ?_
 simp only[ZcR,Zg,ptC,Zb,EVA,seval,Zd,men]
 refine Za q1 ?_
 simp only[Zb,List.length_map,EVA,seval,Zd,men]
 refine Za q2 ?_
 cases hp:dc (Un sig x.1 y.1)
 ·rw[show Zny sig s x y=(J3,[]) from if_neg (dc_not.1 hp)]
  simp only[EVA,seval,Zd,men]
  rfl
 ·rw[show Zny sig s x y=_ from if_pos (dc_iff.1 hp)]
  by_cases h4:s.kind_=4
  ·rw[if_pos h4,hM]
   simp only[h4,Zb,List.length_map,EVA,seval,Zd,men]
   refine Za q3 ?_
   simp only[Zi,List.length_map,EVA,seval,Zd,men]
   refine Za q4 ?_
   simp only[Zbt,Zbu,List.length_map,EVA,seval,Zd,men]
   exact⟨by omega,by rw[<-YA,List.length_map,List.length_append];exact Nat.le_refl _,by rw[ec] <;> rfl⟩
  ·rw[if_neg h4,<-hB]
   simp only[h4,Zb,List.length_map,EVA,seval,Zd,men]
   refine Za q4 ?_
   simp only[Zbt,Zbu,List.length_map,EVA,seval,Zd,men]
   exact⟨by omega,by rw[<-YA,List.length_map,List.length_append];exact Nat.le_refl _,by rw[ec] <;> rfl⟩
theorem Zlu(sig:List TControl)(s:TTermStep)(x:Q3)(n:ByteArray)(hn:sig.length<=4294967296)(hbs:∀ y∈sig,Zp 4294967296 y)(hns:s.names=[n])(hbn:n.size<=4294967296)(h67:s.kind_=6\/s.kind_=7)(hx:partOK sig x):∃ V:Q3,(∀ y,mkR sig s [x]=some y->V=y)/\∀(lvl:Nat) (S:Sto),Sem Proofs.Tryz.prog Wo lvl [.tr (.sl (sig.map Zh)),.ag ((Zg s).map .tr),.ag ((ptC x).map .tr)] S (.tu [.ag ((ptC V).map .tr),iB (mkR sig s [x]).isSome]) S:=by
 have hxb:=hx.big
 have g0:(rS [n])[0]? = some [ts n]:=rfl
 rcases h67 with h6 | h7
 ·have e:=U0 (sig:=sig) (s:=s) (x:=x) (.inr (.inl h6))
  rw[if_neg (by omega),if_pos h6,hns,gS0 rfl] at e
  by_cases g:QR sig x.1 n
  ·rw[if_pos g] at e
   rw[e]
   refine⟨(XB x.1 n,x.2),fun y hy=>Option.some.inj hy,fun lvl S=>?_⟩
   have q:=Zbv sig x.1 n hn hbs (Dk hxb) hbn (Wg hxb) g
   unfold J4 J5 at q
   rw[if_pos g,ZN g] at q
   simp only[Zb,List.map_cons,List.map_nil] at q
   refine Zc X4 (by simp [low,men,Zd,ptC,Zb]) ?_
   simp only[Qq,Zg,ptC,Zb,h6,hns,g0,EVA,seval,Zd,men]
   refine Za q ?_
   simp only[List.length_map,Option.isSome_some,EVA,seval,Zd,men]
  ·rw[if_neg g] at e
   rw[e]
   refine⟨(J3,x.2),(fun y hy=>by cases hy),fun lvl S=>?_⟩
   have q:=Zbw sig x.1 n hn hbs (Dk hxb) hbn (Wg hxb) g
   unfold J4 J5 at q
   rw[if_neg g,Zj g] at q
   simp only[Zb,List.map_cons,List.map_nil] at q
   refine Zc X4 (by simp [low,men,Zd,ptC,Zb]) ?_
   simp only[Qq,Zg,ptC,Zb,h6,hns,g0,EVA,seval,Zd,men]
   refine Za q ?_
   simp only[Zi,List.length_map,Option.isSome_none,EVA,seval,Zd,men]
 ·have e:=U0 (sig:=sig) (s:=s) (x:=x) (.inr (.inr h7))
  rw[if_neg (by omega),if_neg (by omega),hns,gS0 rfl] at e
  have q:=ZeS sig x.1 n hn hbs (Dk hxb) hbn (Wg hxb)
  have h6:¬ s.kind_=6:=by omega
  by_cases g:UZ sig x.1 n
  ·rw[if_pos g] at e
   rw[e]
   refine⟨(Zje x.1 n,x.2),fun y hy=>Option.some.inj hy,fun lvl S=>?_⟩
   rw[if_pos g,ZN g] at q
   simp only[Zb,List.map_cons,List.map_nil] at q
   refine Zc X4 (by simp [low,men,Zd,ptC,Zb]) ?_
   simp only[Qq,Zg,ptC,Zb,h6,hns,g0,EVA,seval,Zd,men]
   refine Za q ?_
   simp only[List.length_map,Option.isSome_some,EVA,seval,Zd,men]
  ·rw[if_neg g] at e
   rw[e]
   refine⟨(J3,x.2),(fun y hy=>by cases hy),fun lvl S=>?_⟩
   rw[if_neg g,Zj g] at q
   simp only[Zb,List.map_cons,List.map_nil] at q
   refine Zc X4 (by simp [low,men,Zd,ptC,Zb]) ?_
   simp only[Qq,Zg,ptC,Zb,h6,hns,g0,EVA,seval,Zd,men]
   refine Za q ?_
   simp only[Zi,List.length_map,Option.isSome_none,EVA,seval,Zd,men]
end Go.Fd

/-
  A STEP ON A STACK, THE REFERENCE'S SIDE. Own work.
-/
namespace Go.Fd
set_option maxRecDepth 20000
theorem ZmI{z:List Q3}{a:Nat}(h:z.length=a+1):∃ x,z.drop a=[x]/\(z.map ptC)[a]? = some (ptC x)/\x∈z:=by
 have ha:a<z.length:=by omega
 refine⟨z[a],?_,by simp [ha],List.getElem_mem ha⟩
 rw[List.drop_eq_getElem_cons ha,List.drop_of_length_le (by omega)]
theorem Zrq{z:List Q3}{a:Nat}(h:z.length=a+2):∃ x y,z.drop a=[x,y]/\(z.map ptC)[a]? = some (ptC x)/\(z.map ptC)[a+1]? = some (ptC y)/\x∈z/\y∈z:=by
 have ha:a<z.length:=by omega
 have hb:a+1<z.length:=by omega
 refine⟨z[a],z[a+1],?_,by simp [ha],by simp [hb],List.getElem_mem ha,List.getElem_mem hb⟩
 rw[List.drop_eq_getElem_cons ha,List.drop_eq_getElem_cons hb,List.drop_of_length_le (by omega)]
theorem Zrr{sig:List TControl}{s:TTermStep}{x y:Q3}(h3:s.kind_=3)(h:mkR sig s [x]=some y):Znw sig s x=y:=by
 rw[U0 (.inl h3),if_pos h3] at h
 split at h
 ·rename_i g
  rw[show Znw sig s x=_ from if_pos ⟨g.1,g.2.1⟩]
  exact Option.some.inj h
 ·cases h
theorem ZpN{sig:List TControl}{s:TTermStep}{x:Q3}(h3:s.kind_=3):dc (XI sig s x.1)=(mkR sig s [x]).isSome:=by
 rw[U0 (.inl h3),if_pos h3]
 by_cases g:XI sig s x.1
 ·rw[if_pos g,ZN g];rfl
 ·rw[if_neg g,Zj g];rfl
theorem Zrs{sig:List TControl}{s:TTermStep}{x x2 y:Q3}(h45:s.kind_=4\/s.kind_=5)(h:mkR sig s [x,x2]=some y):Zny sig s x x2=y:=by
 rw[Zd2 h45] at h
 split at h
 ·rename_i g
  rw[show Zny sig s x x2=_ from if_pos g]
  exact Option.some.inj h
 ·cases h
theorem ZpO{sig:List TControl}{s:TTermStep}{x x2:Q3}(h45:s.kind_=4\/s.kind_=5):dc (Un sig x.1 x2.1)=(mkR sig s [x,x2]).isSome:=by
 rw[Zd2 h45]
 by_cases g:Un sig x.1 x2.1
 ·rw[if_pos g,ZN g];rfl
 ·rw[if_neg g,Zj g];rfl
theorem ZmJ{k:Int}:Jn k<=2:=by
 unfold Jn
 split
 ·omega
 ·split <;> omega
theorem ZxY{z:List Q3}{a:Nat}{Q:Q3}:cut (z.map ptC) 0 (a-0)++[[Tr.v (Value.int .i64 Q.1.roots),Tr.sl (Q.1.nodes.map ZX),Tr.sl (rI Q.1.sites),Tr.v (Value.int .i64 Q.1.edges),Tr.sl (rS Q.1.outer),Tr.sl (Q.1.inner.map Ji),Tr.sl (rI Q.2)]]=(z.take a++[Q]).map ptC:=by
 rw[Nat.sub_zero,Zg4,List.map_append]
 rfl
theorem ZxZ{z:List Q3}{a:Nat}(h:a<=z.length):(cut (z.map ptC) 0 (a-0)).length=a:=by
 rw[Nat.sub_zero,Zg4,List.length_map,List.length_take]
 omega
theorem Zsg{z:List Q3}{a:Nat}{Q:Q3}(h:a<=z.length):((z.take a++[Q]).map ptC).length=a+1:=by
 rw[List.length_map,List.length_append,List.length_take]
 simp
 omega
theorem ZnA(sig:List TControl)(s:TTermStep)(z:List Q3)(hn:sig.length<=4294967296)(hbs:∀ y∈sig,Zp 4294967296 y)(hb:Zw 4294967296 s)(hs:Yl sig)(h:stepOK sig s)(hz:∀ x∈z,partOK sig x)(hzl:z.length<=100):∃ V:List Q3,(Jn s.kind_<=z.length->∀ x,mkR sig s (z.drop (z.length-Jn s.kind_))=some x->V=z.take (z.length-Jn s.kind_)++[x])/\∀(lvl:Nat) (S:Sto),Sem Proofs.Tryz.prog Xn lvl [.tr (.sl (sig.map Zh)),.tr (.sl (z.map ptC)),.ag ((Zg s).map .tr)] S (.tu [.tr (.sl (V.map ptC)),iB (decide (Jn s.kind_<=z.length)&&(mkR sig s (z.drop (z.length-Jn s.kind_))).isSome)]) S:=by
 obtain⟨k,c,p,ns⟩:=s
 have hkind:=h.kind
 simp only at hkind
 have qt:=Zgp k
 have ql:=Znv ⟨k,c,p,ns⟩
 by_cases htk:Jn k<=z.length
 ·obtain⟨a,ha⟩:∃ a,a=z.length-Jn k:=⟨_,rfl⟩
  have hat:((z.length:Int)-(Jn k:Int))=(a:Int):=by omega
  have ht2:=ZmJ (k:=k)
  show ∃ V:List Q3,(Jn k<=z.length->∀ x,mkR sig ⟨k,c,p,ns⟩ (z.drop (z.length-Jn k))=some x->V=z.take (z.length-Jn k)++[x])/\∀(lvl:Nat) (S:Sto),Sem Proofs.Tryz.prog Xn lvl [.tr (.sl (sig.map Zh)),.tr (.sl (z.map ptC)),.ag ((Zg ⟨k,c,p,ns⟩).map .tr)] S (.tu [.tr (.sl (V.map ptC)),iB (decide (Jn k<=z.length)&&(mkR sig ⟨k,c,p,ns⟩ (z.drop (z.length-Jn k))).isSome)]) S
  rw[<-ha,show decide (Jn k<=z.length)=true from decide_eq_true htk]
  simp only[Bool.true_and]
  have hnot:¬ (a:Int)<0:=by omega
  have hat0:a<=z.length:=by omega
  have e6 (Q:Q3):cut (z.map ptC) 0 a=(z.take a).map ptC:=Zg4
  have tail (Q:Q3):(z.take a).map ptC++[ptC Q]=(z.take a++[Q]).map ptC:=by rw[List.map_append];rfl
  obtain⟨W,hW⟩:∃ W:Q3,W=(if k=0 then (J3,[]) else if k=1 then (Zp4,[]) else (Zp5,[p])):=⟨_,rfl⟩
  simp only[<-hW] at ql
  simp only[Zg,ptC,Zb,List.map_cons,List.map_nil] at ql
  have d01:¬ (0:Int)=1:=by decide
  have d02:¬ (0:Int)=2:=by decide
  have d21:¬ (2:Int)=1:=by decide
  by_cases h012:k=0\/k=1\/k=2
  ·have e:=ZmH (sig:=sig) (s:=⟨k,c,p,ns⟩) (xs:=z.drop a) h012
   have eQ:(if k=1 then (Zp4,[]) else if k=2 then (Zp5,[p]) else (J3,[]))=W:=by
    rw[hW]
    rcases h012 with rfl | rfl | rfl <;> rfl
   simp only at e
   rw[eQ] at e
   rw[e]
   obtain⟨Q,hQ⟩:∃ Q,Q=W:=⟨_,rfl⟩
   rw[<-hQ] at ql ⊢
   refine⟨z.take a++[Q],fun _ x hx=>by rw[Option.some.inj hx],fun lvl S=>?_⟩
   have t0:Jn k=0:=by rcases h012 with rfl | rfl | rfl <;> rfl
   rw[t0] at qt hat
   simp only[Int.natCast_zero] at qt hat
   have h3:¬ k=3:=by omega
   refine Zc Xu (by simp [low,men,Zd]) ?_
   simp only[V1,Zg,List.length_map,EVA,seval,Zd,men]
   refine Za qt ?_
   simp only[hat,hnot,List.length_map,EVA,seval,Zd,men]
   refine⟨by rw[Ze];omega,Za ql ?_⟩
   simp only[h3,List.length_map,EVA,seval,Zd,men]
   refine Za qt ?_
   simp only[d01,List.length_map,EVA,seval,Zd,men]
   refine Za qt ?_
   simp only[d02,Zd3,List.length_map,EVA,seval,Zd,men]
   rw[ZxY (z:=z) (a:=a) (Q:=Q),ZxZ hat0]
   refine⟨fun g=>g.elim,by omega,by omega,by rw[Nat.sub_zero,Zg4,Zd3];trivial,by omega,by omega,by rw[Zsg hat0];exact Nat.le_refl _,by rw[Yg (Zsg hat0)] <;> rfl⟩
  by_cases h3:k=3
  ·subst h3
   obtain⟨x,hx1,hx2,hx3⟩:=ZmI (z:=z) (a:=a) (by have:Jn 3=1:=rfl;omega)
   rw[hx1]
   obtain⟨Q,hQ⟩:∃ Q,Q=Znw sig ⟨3,c,p,ns⟩ x:=⟨_,rfl⟩
   refine⟨z.take a++[Q],fun _ y hy=>by rw[hQ,Zrr rfl hy],fun lvl S=>?_⟩
   have q:=Znx sig ⟨3,c,p,ns⟩ x hn hbs hb hs h rfl (hz x hx3)
   rw[<-hQ,ZpN rfl] at q
   simp only[Zg,ptC,Zb,List.map_cons,List.map_nil] at q hx2
   have t1:Jn 3=1:=rfl
   rw[t1] at qt hat
   simp only[Int.natCast_one] at qt hat
   have hal:a<z.length:=by omega
   refine Zc Xu (by simp [low,men,Zd]) ?_
   simp only[V1,Zg,List.length_map,EVA,seval,Zd,men]
   refine Za qt ?_
   simp only[hat,hnot,List.length_map,EVA,seval,Zd,men]
   refine⟨by rw[Ze];omega,Za ql ?_⟩
   simp only[hx2,hal,List.length_map,EVA,seval,Zd,men]
   refine Za q ?_
   simp only[Zd3,List.length_map,EVA,seval,Zd,men]
   rw[ZxY (z:=z) (a:=a) (Q:=Q),ZxZ hat0]
   refine⟨fun g=>g.elim,by omega,by omega,by rw[Nat.sub_zero,Zg4,Zd3];trivial,by omega,by omega,by rw[Zsg hat0];exact Nat.le_refl _,by rw[Yg (Zsg hat0)] <;> rfl⟩
  by_cases h45:k=4\/k=5
  ·obtain⟨x,y,hx1,hx2,hx3,hx4,hx5⟩:=Zrq (z:=z) (a:=a) (by have:Jn k=2:=(by rcases h45 with rfl | rfl <;> rfl);omega)
   rw[hx1]
   obtain⟨Q,hQ⟩:∃ Q,Q=Zny sig ⟨k,c,p,ns⟩ x y:=⟨_,rfl⟩
   refine⟨z.take a++[Q],fun _ v hv=>by rw[hQ,Zrs h45 hv],fun lvl S=>?_⟩
   have q:=Znz sig ⟨k,c,p,ns⟩ x y hn hbs (hz x hx4) (hz y hx5)
   rw[<-hQ,ZpO (s:=⟨k,c,p,ns⟩) h45] at q
   simp only[Zg,ptC,Zb,List.map_cons,List.map_nil] at q hx2 hx3
   have t2:Jn k=2:=by rcases h45 with rfl | rfl <;> rfl
   rw[t2] at qt hat
   have c2:((2:Nat):Int)=2:=rfl
   rw[c2] at qt hat
   have hal:a<z.length:=by omega
   have hal2:a+1<z.length:=by omega
   have ca:((a:Int)+1)=((a+1:Nat):Int):=by omega
   refine Zc Xu (by simp [low,men,Zd]) ?_
   simp only[V1,Zg,List.length_map,EVA,seval,Zd,men]
   refine Za qt ?_
   simp only[hat,hnot,List.length_map,EVA,seval,Zd,men]
   refine⟨by rw[Ze];omega,Za ql ?_⟩
   simp only[h3,List.length_map,EVA,seval,Zd,men]
   refine Za qt ?_
   simp only[d21,List.length_map,EVA,seval,Zd,men]
   refine Za qt ?_
   simp only[hx2,hx3,hal,hal2,ca,Int.toNat_natCast,List.length_map,EVA,seval,Zd,men]
   refine⟨by rw[Ze];omega,Za q ?_⟩
   simp only[Zd3,List.length_map,EVA,seval,Zd,men]
   rw[ZxY (z:=z) (a:=a) (Q:=Q),ZxZ hat0]
   refine⟨fun g=>g.elim,by omega,by omega,by rw[Nat.sub_zero,Zg4,Zd3];trivial,by omega,by omega,by rw[Zsg hat0];exact Nat.le_refl _,by rw[Yg (Zsg hat0)] <;> rfl⟩
  ·have h67:k=6\/k=7:=by omega
   obtain⟨x,hx1,hx2,hx3⟩:=ZmI (z:=z) (a:=a) (by have:Jn k=1:=(by rcases h67 with rfl | rfl <;> rfl);omega)
   rw[hx1]
   obtain⟨n,rfl⟩:=Zce (h.one h67)
   obtain⟨Q,hQ,q⟩:=Zlu sig ⟨k,c,p,[n]⟩ x n hn hbs rfl (hb.2 n (by simp)) h67 (hz x hx3)
   refine⟨z.take a++[Q],fun _ y hy=>by rw[hQ y hy],fun lvl S=>?_⟩
   simp only[Zg,ptC,Zb,List.map_cons,List.map_nil] at q hx2
   have t1:Jn k=1:=by rcases h67 with rfl | rfl <;> rfl
   rw[t1] at qt hat
   simp only[Int.natCast_one] at qt hat
   have hal:a<z.length:=by omega
   refine Zc Xu (by simp [low,men,Zd]) ?_
   simp only[V1,Zg,List.length_map,EVA,seval,Zd,men]
   refine Za qt ?_
   simp only[hat,hnot,List.length_map,EVA,seval,Zd,men]
   refine⟨by rw[Ze];omega,Za ql ?_⟩
   simp only[h3,List.length_map,EVA,seval,Zd,men]
   refine Za qt ?_
   simp only[hx2,hal,List.map_cons,List.map_nil,List.length_map,EVA,seval,Zd,men]
   refine Za q ?_
   simp only[Zd3,List.length_map,EVA,seval,Zd,men]
   rw[ZxY (z:=z) (a:=a) (Q:=Q),ZxZ hat0]
   refine⟨fun g=>g.elim,by omega,by omega,by rw[Nat.sub_zero,Zg4,Zd3];trivial,by omega,by omega,by rw[Zsg hat0];exact Nat.le_refl _,by rw[Yg (Zsg hat0)] <;> rfl⟩
 ·have hlt:(z.length:Int)-(Jn k:Int)<0:=by omega
  refine⟨z,fun g=>absurd g htk,fun lvl S=>?_⟩
  rw[show decide (Jn (⟨k,c,p,ns⟩:TTermStep).kind_<=z.length)=false from decide_eq_false htk]
  simp only[Bool.false_and]
  refine Zc Xu (by simp [low,men,Zd]) ?_
  simp only[V1,Zg,List.length_map,EVA,seval,Zd,men]
  refine Za qt ?_
  simp only[hlt,List.length_map,EVA,seval,Zd,men]
  rw[Ze]
  have:=ZmJ (k:=k)
  omega
end Go.Fd

/-
  ALL STEPS, THE REFERENCE'S SIDE. Own work.
-/
namespace Go.Fd
set_option maxRecDepth 20000
theorem ZnB(l:List Int)(n:Int)(hl:l.length<=4294967296)(hn:n=l.length)(lvl:Nat)(S:Sto):Sem Proofs.Tryz.prog WW lvl [.tr (.sl (rI l)),iI n] S (iB (dc (Zbx l.length l))) S:=by
 subst hn
 refine Zc Zij trivial ?_
 simp only[ZcG,List.length_map,EVA,seval,Zd,men]
 refine Zz (α:=Unit) l.length (fun j _=>[(5,iI j)]) (fun _ _=>[]) (fun j _=>∀ i:Nat,i<j->(i:Int)∈l) () (by simp only[EVA,seval,Zd,men]) (by (simp only[EVA,seval,Zd,men]) <;> rfl) (fun i hi=>absurd hi (Nat.not_lt_zero i)) ?_
 intro j _ hj hA
 simp only[List.length_map,EVA,seval,Zd,men]
 refine Zl (fun hlt=>?_) (fun hge=>?_)
 ·have hja:j<l.length:=by omega
  refine Za (ZoH l j (by omega)) ?_
  by_cases hm:(j:Int)∈l
  ·simp only[hm,EVA,seval,Zd,men]
   exact⟨by rw[Ze];omega,Zf () hja rfl (fun i hi=>by
    rcases Nat.lt_or_eq_of_le (Nat.le_of_lt_succ hi) with h | h
    ·exact hA i h
    ·subst h;exact hm)⟩
  ·rw[Zj fun g:Zbx l.length l=>hm (g.2 j hja)]
   simp only[hm,EVA,seval,Zd,men]
 ·have:j=l.length:=by omega
  subst this
  rw[ZN (show Zbx l.length l from ⟨rfl,hA⟩)]
theorem ZnC(a b:Int)(lvl:Nat)(S:Sto):Sem Proofs.Tryz.prog WZ lvl [iI a,iI b] S (iI (max a b)) S:=by
 refine Zc Zip trivial ?_
 by_cases h:b<a
 ·rw[show max a b=a by omega]
  simp only[DH,h,EVA,seval,Zd,men]
 ·rw[show max a b=b by omega]
  simp only[DH,h,EVA,seval,Zd,men]
noncomputable def ZnD(sig:List TControl):Stk->List TTermStep->Stk
 | z,[]=>z
 | z,s::r=>match stT sig z s with
  | some z' => ZnD sig z' r
  | none=>z
theorem Zkr{sig:List TControl}{z z':Stk}{s:TTermStep}{r:List TTermStep}(h:stT sig z s=some z'):ZnD sig z (s::r)=ZnD sig z' r:=by rw[ZnD,h]
theorem ZpP{sig:List TControl}{z:Stk}{s:TTermStep}{r:List TTermStep}(h:stT sig z s=none):ZnD sig z (s::r)=z:=by rw[ZnD,h]
theorem Zks{sig:List TControl}:∀{t:List TTermStep} {z y:Stk},t.foldlM (stT sig) z=some y->ZnD sig z t=y
 | [],z,y,h=>by
  simp only[List.foldlM_nil] at h
  exact Option.some.inj h
 | s::r,z,y,h=>by
  rw[List.foldlM_cons] at h
  cases hs:stT sig z s with
  | none=>rw[hs] at h;cases h
  | some z' =>
   rw[hs] at h
   rw[Zkr hs]
   exact Zks h
theorem ZmK{sig:List TControl}{t:List TTermStep}{y:Stk}(h:Zby sig t=some y):ZnD sig ([],0) t=y:=Zks h
theorem ZxA{sig:List TControl}{z:Stk}{s:TTermStep}(h:(decide (Jn s.kind_<=z.1.length)&&(mkR sig s (z.1.drop (z.1.length-Jn s.kind_))).isSome)=false):stT sig z s=none:=by
 rcases Bool.and_eq_false_iff.1 h with g | g
 ·exact Zgn fun k=>of_decide_eq_false g k.2
 ·exact ZmF (by simpa using g)
theorem ZpQ(sig:List TControl)(t:List TTermStep)(hn:sig.length<=4294967296)(hbs:∀ y∈sig,Zp 4294967296 y)(hbt:∀ y∈t,Zw 4294967296 y)(hs:Yl sig)(hl:t.length<=60)(lvl:Nat)(S:Sto):Sem Proofs.Tryz.prog UP lvl [.tr (.sl (sig.map Zh)),.tr (.sl (t.map Zg))] S (.tu [.tr (.sl ((ZnD sig ([],0) t).1.map ptC)),iI ((ZnD sig ([],0) t).2:Nat),iB (Zby sig t).isSome]) S:=by
 refine Zc ZjR (by simp [low,men,Zd]) ?_
 simp only[Zen,List.length_map,EVA,seval,Zd,men]
 refine Zz (α:=Stk) t.length (fun j z=>[(7,.tr (.sl (z.1.map ptC))),(8,iI z.2),(9,iI j)]) (fun _ _=>[]) (fun j z=>Zby sig (t.take j)=some z/\ZnD sig ([],0) t=ZnD sig z (t.drop j)) ([],0) (by simp only[EVA,seval,Zd,men]) (by (simp only[EVA,seval,Zd,men]) <;> rfl) ⟨by rw[List.take_zero];exact ZmD,by rw[List.drop_zero]⟩ ?_
 intro j z hj hA
 obtain⟨hA,hL⟩:=hA
 have hz:=Zcd hs hj hA
 simp only[List.length_map,EVA,seval,Zd,men]
 refine Zl (fun hlt=>?_) (fun hge=>?_)
 ·have hja:j<t.length:=by omega
  have ga:=WH (c:=Zg) hja
  have hb:=hbt _ (List.getElem_mem hja)
  have hsu:=Za0 (sig:=sig) hja
  rw[hA] at hsu
  rw[List.drop_eq_getElem_cons hja] at hL
  obtain⟨s,hs'⟩:∃ s,s=t[j]:=⟨_,rfl⟩
  rw[<-hs'] at ga hb hsu hL
  have hbad:stT sig z s=none->Zby sig t=none/\ZnD sig ([],0) t=z:=fun g=>⟨Zdm (j:=j+1) (by rw[hsu];exact g),by rw[hL,ZpP g]⟩
  have q1:=Znt sig s hn hb
  have q2:=fun hok=>ZnA sig s z.1 hn hbs hb hs hok hz.1 (by omega)
  obtain⟨k,c,p,ns⟩:=s
  simp only[Zg,List.map_cons,List.map_nil] at ga q1 q2
  simp only[ga,hja,List.length_map,EVA,seval,Zd,men]
  refine Za q1 ?_
  cases hg:dc (stepOK sig ⟨k,c,p,ns⟩)
  ·have e:=hbad (Zgn fun g=>dc_not.1 hg g.1)
   rw[e.1,e.2]
   simp only[Option.isSome_none,EVA,seval,Zd,men]
  have hok:=dc_iff.1 hg
  obtain⟨V,hV,qV⟩:=q2 hok
  simp only[ga,hja,List.length_map,EVA,seval,Zd,men]
  refine Za qV ?_
  cases hm:(decide (Jn k<=z.1.length)&&(mkR sig ⟨k,c,p,ns⟩ (z.1.drop (z.1.length-Jn k))).isSome)
  ·have e:=hbad (ZxA hm)
   rw[e.1,e.2]
   simp only[Option.isSome_none,EVA,seval,Zd,men]
  ·have h2:=Bool.and_eq_true_iff.1 hm
   have htk:Jn k<=z.1.length:=of_decide_eq_true h2.1
   obtain⟨x,hx⟩:=Option.isSome_iff_exists.1 h2.2
   have e:=ZmE hok (z:=z) htk hx
   have eV:=hV htk x hx
   have hlen:V.length=z.1.length-Jn k+1:=by
    rw[eV,List.length_append,List.length_take]
    simp <;> omega
   have hLz:=Zkr (r:=t.drop (j+1)) e
   rw[hLz] at hL
   simp only[List.length_map,EVA,seval,Zd,men]
   refine Za (ZnC _ _) ?_
   simp only[List.length_map,EVA,seval,Zd,men]
   have e5:max (z.2:Int) (V.length:Int)=((max z.2 (z.1.length-Jn k+1):Nat):Int):=by rw[hlen];omega
   rw[e5,eV]
   refine⟨by rw[Ze];omega,Zf (z.1.take (z.1.length-Jn k)++[x],max z.2 (z.1.length-Jn k+1)) hja rfl ⟨?_,hL⟩⟩
   rw[hsu]
   exact e
 ·have:j=t.length:=by omega
  subst this
  rw[List.take_length] at hA
  rw[hA,ZmK hA]
  simp only[Option.isSome_some,EVA,seval,Zd,men]
  try rfl
end Go.Fd

/-
  SORTING A FEW NUMBERS: slices.Sort. Own work.
-/
namespace Go.Fd
set_option maxRecDepth 20000
theorem Zrt(a b:Int)(lvl:Nat)(S:Sto):Sem Proofs.Tryz.prog QC lvl [iI a,iI b] S (iB (decide (a<b))) S:=by
 refine Zc ZgM trivial ?_
 simp only[ZbM,EVA,seval,Zd,men]
 refine Za (ZoI a) ?_
 simp only[EVA,seval,Zd,men]
def Zru(x:List Int)(i:Nat):Prop:=∀ p q,p<q->q<i->g0 x p<=g0 x q
def ZpR(x:List Int)(i j:Nat):Prop:=(∀ p q,p<q->q<=i->p≠j->q≠j->g0 x p<=g0 x q)/\∀ q,j<q->q<=i->g0 x j<=g0 x q
def swp(x:List Int)(j:Nat):List Int:=(x.set j (g0 x (j-1))).set (j-1) (g0 x j)
theorem Zsh{y:List Int}{a b:Nat}{v:Int}(h:a<y.length):g0 (y.set a v) b=if a=b then v else g0 y b:=by
 show (y.set a v).getD b 0=if a=b then v else y.getD b 0
 rw[List.getD_eq_getElem?_getD,List.getElem?_set,List.getD_eq_getElem?_getD]
 by_cases e:a=b
 ·rw[if_pos e,if_pos e,if_pos (by omega)];rfl
 ·rw[if_neg e,if_neg e]
theorem ZnE{y:List Int}{i:Nat}(h:ZpR y i 0):Zru y (i+1):=fun p q h1 h2=>by
 by_cases e:p=0
 ·subst e;exact h.2 q h1 (by omega)
 ·exact h.1 p q h1 (by omega) e (by omega)
theorem ZnF{y:List Int}{i j:Nat}(h:ZpR y i j)(hj:0<j)(hji:j<=i)(hle:g0 y (j-1)<=g0 y j):Zru y (i+1):=fun p q h1 h2=>by
 by_cases e:p=j
 ·subst e;exact h.2 q h1 (by omega)
 ·by_cases e2:q=j
  ·subst e2
   by_cases e3:p=q-1
   ·subst e3;exact hle
   ·exact Int.le_trans (h.1 p (q-1) (by omega) (by omega) e (by omega)) hle
  ·exact h.1 p q h1 (by omega) e e2
theorem ZpS{y:List Int}{i j:Nat}(h:ZpR y i j)(hj:0<j)(hji:j<=i)(hi:i<y.length)(hlt:g0 y j<g0 y (j-1)):ZpR (swp y j) i (j-1):=by
 have e:∀ b,g0 (swp y j) b=if j-1=b then g0 y j else if j=b then g0 y (j-1) else g0 y b:=fun b=>by
  unfold swp
  rw[Zsh (by rw[List.length_set];omega),Zsh (by omega)]
 refine⟨fun p q h1 h2 h3 h4=>?_,fun q h1 h2=>?_⟩
 ·rw[e p,e q,if_neg (show ¬ j-1=p from fun g=>h3 g.symm),if_neg (show ¬ j-1=q from fun g=>h4 g.symm)]
  by_cases ep:j=p
  ·rw[if_pos ep,if_neg (show ¬ j=q by omega)]
   exact h.1 (j-1) q (by omega) h2 (by omega) (by omega)
  ·rw[if_neg ep]
   by_cases eq:j=q
   ·rw[if_pos eq]
    exact h.1 p (j-1) (by omega) (by omega) (by omega) (by omega)
   ·rw[if_neg eq]
    exact h.1 p q h1 h2 (fun g=>ep g.symm) (fun g=>eq g.symm)
 ·rw[e (j-1),e q,if_pos rfl,if_neg (show ¬ j-1=q by omega)]
  by_cases eq:j=q
  ·rw[if_pos eq];omega
  ·rw[if_neg eq]
   exact h.2 q (by omega) h2
theorem Zrv{y:List Int}{j:Nat}(hj:0<j)(hi:j<y.length):(swp y j).Perm y:=by
 have h:=@List.set_set_perm _ y j (j-1) hi (by omega)
 have e1:g0 y j=y[j]:=by simp [g0,hi]
 have e2:g0 y (j-1)=y[j-1]'(by omega):=by
  show y.getD (j-1) 0=_
  rw[List.getD_eq_getElem?_getD,List.getElem?_eq_getElem (by omega)]
  rfl
 unfold swp
 rw[e1,e2]
 exact h
theorem ZxB{y:List Int}{j:Nat}{v:Int}(h:j<y.length):YU (rI y) [] j 0 (.v (.int .i64 v))=rI (y.set j v):=by
 simp only[YU]
 rw[V5 h]
 exact(List.map_set (f:=fun n:Int=>[tv n]) (l:=y) (i:=j) (a:=v)).symm
theorem Zrw(l:List Int)(hl:l.length<=12)(lvl:Nat)(S:Sto)(id:Oid)(u:Bool)(hw ver:Nat)(hid:id.1<lvl)(hS:S id=some (.ar 1 (rI l) u hw ver))(srt:List Int)(hsrt:∀ x:List Int,x.Perm l->Zru x l.length->x=srt) :
  Sem Proofs.Tryz.prog Jr lvl [.hd id [] 0 l.length none hw,iI 0,iI l.length] S (.tu []) (ZP S id (.ar 1 (rI srt) u hw ver)):=by
 have hne:id.1≠lvl:=by omega
 refine Zc Xx trivial ?_
 simp only[Yx,EVA,seval,Zd,men]
 refine⟨by rw[Ze];omega,?_⟩
 refine Z8 (α:=List Int) l.length (fun k x=>⟨lvl,[(0,.hd id [] 0 l.length none hw),(1,iI 0),(2,iI l.length),(6,iI ((k+1:Nat):Int))],[],ZP S id (.ar 1 (rI x) u hw ver)⟩) (fun k x=>x.Perm l/\Zru x (k+1)) l ⟨by simp only[Jv hne,EVA,seval,Zd,men],by (simp only[Xd hS,EVA,seval,Zd,men]) <;> rfl⟩ ⟨List.Perm.refl _,fun p q h1 h2=>by omega⟩ ?_
 intro k x hk ⟨hA1,hA2⟩
 have hxl:x.length=l.length:=hA1.length_eq
 simp only[EVA,seval,Zd,men]
 refine Zl (fun hlt=>?_) (fun hge=>?_)
 ·have hk1:k+1<l.length:=by omega
  refine Z8 (α:=List Int) (k+1) (fun m y=>⟨lvl,[(0,.hd id [] 0 l.length none hw),(1,iI 0),(2,iI l.length),(6,iI ((k+1:Nat):Int)),(7,iI ((k+1-m:Nat):Int))],[],ZP S id (.ar 1 (rI y) u hw ver)⟩) (fun m y=>y.Perm l/\ZpR y (k+1) (k+1-m)) x ⟨by simp only[Jv hne,EVA,seval,Zd,men],by (simp only[EVA,seval,Zd,men]) <;> rfl⟩ ⟨hA1,fun p q h1 h2 h3 h4=>hA2 p q h1 (by omega),fun q h1 h2=>by omega⟩ ?_
  intro m y hm ⟨hB1,hB2⟩
  have hyl:y.length=l.length:=hB1.length_eq
  generalize hj:k+1-m=j at hB2 ⊢
  by_cases hj0:j=0
  ·subst hj0
   simp only[EVA,seval,Zd,men]
   exact⟨by rw[Ze];omega,fun h=>absurd h hne,Zf y (by omega) rfl ⟨hB1,ZnE hB2⟩⟩
  ·have g1:(0:Int)<j:=by omega
   have e1:((j:Int)-1)=((j-1:Nat):Int):=by omega
   have gj:=V5 (l:=y) (i:=j) (by omega)
   have gj1:=V5 (l:=y) (i:=j-1) (by omega)
   have l1:j<l.length:=by omega
   have l2:j-1<l.length:=by omega
   simp only[g1,Z9 hne,V3,e1,gj,gj1,l1,l2,Nat.zero_add,EVA,seval,Zd,men]
   refine⟨by rw[Ze];omega,Za (Zrt (g0 y j) (g0 y (j-1))) ?_⟩
   by_cases hlt2:g0 y j<g0 y (j-1)
   ·have s1:=ZxB (y:=y) (j:=j) (v:=g0 y (j-1)) (by omega)
    have s2:=ZxB (y:=y.set j (g0 y (j-1))) (j:=j-1) (v:=g0 y j) (by rw[List.length_set];omega)
    have gj2:=V5 (l:=y.set j (g0 y (j-1))) (i:=j-1) (by rw[List.length_set];omega)
    simp only[hlt2,g1,Z9 hne,VS hne,J6,V3,Jv hne,e1,gj,gj1,gj2,s1,s2,l1,l2,Nat.zero_add,EVA,seval,Zd,men]
    subst hj
    refine⟨by rw[Ze];omega,by rw[Ze];omega,by rw[Ze];omega,Zf (swp y (k+1-m)) (by omega) (by rw[show k+1-(m+1)=k+1-m-1 from by omega];rfl) ⟨(Zrv (by omega) (by omega)).trans hB1,?_⟩⟩
    rw[show k+1-(m+1)=k+1-m-1 from by omega]
    exact ZpS hB2 (by omega) (by omega) (by omega) hlt2
   ·simp only[hlt2,EVA,seval,Zd,men]
    exact⟨by rw[Ze];omega,fun h=>absurd h hne,Zf y (by omega) rfl ⟨hB1,ZnF hB2 (by omega) (by omega) (by omega)⟩⟩
 ·have:k+1=l.length\/k=l.length:=by omega
  have hup:Zru x l.length:=fun p q h1 h2=>hA2 p q h1 (by omega)
  have hx:=hsrt x hA1 hup
  rw[hx]
theorem Zrx(l:List Int)(hl:l.length<=12)(r:Int)(lvl:Nat)(S:Sto)(id:Oid)(u:Bool)(hw ver:Nat)(hid:id.1<lvl)(hS:S id=some (.ar 1 (rI l) u hw ver))(srt:List Int)(hsrt:∀ x:List Int,x.Perm l->Zru x l.length->x=srt) :
  Sem Proofs.Tryz.prog ZZ lvl [.hd id [] 0 l.length none hw,iI 0,iI l.length,iI r] S (.tu []) (ZP S id (.ar 1 (rI srt) u hw ver)):=by
 have hne:id.1≠lvl:=by omega
 refine Zc Ua trivial ?_
 simp only[VF,EVA,seval,Zd,men]
 refine Z8 (α:=Unit) 0 (fun _ _=>⟨lvl,[(0,.hd id [] 0 l.length none hw),(1,iI 0),(2,iI l.length),(3,iI r),(8,iB true),(9,iB true)],[],S⟩) (fun _ _=>True) () ⟨by simp only[Jv hne,EVA,seval,Zd,men],by (simp only[EVA,seval,Zd,men]) <;> rfl⟩ trivial ?_
 intro _ _ _ _
 have h12:(l.length:Int)-0<=12:=by omega
 simp only[h12,EVA,seval,Zd,men]
 refine⟨by rw[Ze];omega,?_⟩
 simp only[Zjf]
 refine Xc [] (ZP S id (.ar 1 (rI srt) u hw ver)) (fun i hi=>by unfold ZP;rw[if_neg (fun e=>hne (by rw[<-e];exact hi))]) (by
  rw[WN hne]
  exact Zrw l hl (lvl+1) (ZG lvl [] S) id u hw ver (by omega) (by rw[Z9 hne];exact hS) srt hsrt) ?_
 simp only[Jv hne,EVA,seval,Zd,men]
theorem ZpT(l:List Int)(hl:l.length<=12)(lvl:Nat)(S:Sto)(id:Oid)(u:Bool)(hw ver:Nat)(hid:id.1<lvl)(hS:S id=some (.ar 1 (rI l) u hw ver))(srt:List Int)(hsrt:∀ x:List Int,x.Perm l->Zru x l.length->x=srt) :
  Sem Proofs.Tryz.prog Y3 lvl [.hd id [] 0 l.length none hw] S (.tu []) (ZP S id (.ar 1 (rI srt) u hw ver)):=by
 have hne:id.1≠lvl:=by omega
 obtain⟨r,hr⟩:=Zlc (v:=(l.length:Int)) (by omega) (by omega)
 refine Zc ZaG trivial ?_
 simp only[Wa,EVA,seval,Zd,men]
 refine⟨⟨by show (0:Int)<=l.length;omega,by show (l.length:Int)<=18446744073709551615;omega⟩,Za hr ?_⟩
 simp only[EVA,seval,Zd,men]
 refine Xc [] (ZP S id (.ar 1 (rI srt) u hw ver)) (fun i hi=>by unfold ZP;rw[if_neg (fun e=>hne (by rw[<-e];exact hi))]) (by
  rw[WN hne]
  exact Zrx l hl r (lvl+1) (ZG lvl [] S) id u hw ver (by omega) (by rw[Z9 hne];exact hS) srt hsrt) ?_
 simp only[Jv hne,EVA,seval,Zd,men]
end Go.Fd

/-
  THE VALUE OF A TERM, THE PROGRAM'S SIDE. Own work.
-/
namespace Go.Fd
set_option maxRecDepth 20000
theorem Zt7{x:List Int}(h:Zru x x.length):x.Pairwise (fun a b=>a<=b):=by
 rw[List.pairwise_iff_getElem]
 intro i j hi hj hij
 have:=h i j hij hj
 rwa [show g0 x i=x[i] by simp [hi],show g0 x j=x[j] by simp [hj]] at this
theorem ZxC{l x:List Int}(hp:x.Perm l)(h:Zru x l.length):x=Zlb (fun a b:Int=>a<b) l:=by
 rw[<-hp.length_eq] at h
 exact Zf6 Zrh ((Zt7 h).imp fun h=>by omega) (Zf7 Zrh) (hp.trans srtG_perm.symm)
theorem ZxD{n i:Nat}(h:i<n):(Wz n)[i]? = some (i:Int):=by
 unfold Wz
 simp [h]
theorem ZiZ{l:List Int}{j:Nat}(h:j<l.length):(rI l)[j]? = some [tv l[j]]:=by
 show (l.map _)[j]? = _
 rw[List.getElem?_map,List.getElem?_eq_getElem h]
 rfl
theorem Zlv(n:Int)(l:List Int)(hl:l.length<=12)(hn:n=l.length)(lvl:Nat)(S:Sto):Sem Proofs.Tryz.prog Wl lvl [iI n,.tr (.sl (rI l))] S (iB (dc (Zbx l.length l))) S:=by
 obtain⟨r,hr⟩:∃ r,r=Zlb (fun a b:Int=>a<b) l:=⟨_,rfl⟩
 have hrl:r.length=l.length:=by rw[hr];exact srtG_perm.length_eq
 refine Zc ZgE trivial ?_
 simp only[ZbF,EVA,seval,Zd,men]
 refine Za (DO l (by omega)) ?_
 simp only[List.length_map,EVA,seval,Zd,men]
 have s1:=fun S' hS=>ZpT l hl (lvl+1) S' (lvl,288) true l.length 0 (Nat.lt_succ_self _) hS r (fun x hp hu=>by rw[hr];exact ZxC hp hu)
 have hord:Zbx l.length l↔r=Wz l.length:=by rw[hr];exact ZpB
 refine ZiI 288 _ (s1 _ ?_) ?_
 ·rw[YV];rfl
 simp only[EVA,seval,Zd,men]
 refine Zz (α:=Unit) l.length (fun j _=>[(14,iI j)]) (fun _ _=>[]) (fun j _=>∀ i:Nat,i<j->r[i]? = some (i:Int)) () (by simp only[EVA,seval,Zd,men]) (by (simp only[EVA,seval,Zd,men]) <;> rfl) (fun i hi=>absurd hi (Nat.not_lt_zero i)) ?_
 intro j _ hj hA
 simp only[List.length_map,EVA,seval,Zd,men]
 refine Zl (fun hlt=>?_) (fun hge=>?_)
 ·have hja:j<l.length:=by omega
  have hjr:j<r.length:=by omega
  have ga:=ZiZ hjr
  simp only[ga,hja,List.length_map,EVA,seval,Zd,men]
  refine Zl (fun hq=>?_) (fun hq=>?_)
  ·have hno:¬ Zbx l.length l:=fun g=>by
    have e:=hord.1 g
    have e2:r[j]? = some (j:Int):=by rw[e];exact ZxD hja
    rw[List.getElem?_eq_getElem hjr] at e2
    have e3:=Option.some.inj e2
    omega
   rw[Zj hno]
  ·exact⟨by rw[Ze];omega,Zf () hja rfl (fun i hi=>by
    rcases Nat.lt_or_eq_of_le (Nat.le_of_lt_succ hi) with h | h
    ·exact hA i h
    ·subst h
     rw[List.getElem?_eq_getElem hjr]
     congr 1
     omega)⟩
 ·have:j=l.length:=by omega
  subst this
  have hyes:Zbx l.length l:=hord.2 (List.ext_getElem? fun i=>by
   by_cases hi:i<l.length
   ·rw[hA i hi,ZxD hi]
   ·rw[List.getElem?_eq_none (by omega),List.getElem?_eq_none (by rw[Y8];omega)])
  rw[ZN hyes,hn]
  simp only[List.length_map,EVA,seval,Zd,men]
end Go.Fd

/-
  THE VALUE OF A TERM, THE PROGRAM'S SIDE. Own work.
-/
namespace Go.Fd
set_option maxRecDepth 20000
noncomputable def Zp6(sig:List TControl)(t:List TTermStep):TBigraph:=(Zdn sig t).getD J3
theorem Zd4{sig:List TControl}{t:List TTermStep}(h:∀ x m,Zby sig t=some ([x],m) -> ¬ Zbx x.2.length x.2):Zdn sig t=none:=by
 unfold Zdn
 split
 ·split
  ·rename_i x m he
   rw[if_neg (h x m he)]
  ·rfl
 ·rfl
theorem ZmL{sig:List TControl}{t:List TTermStep}(hs:Yl sig)(hl:t.length<=60){x:Q3}{m:Nat}(hr:Zby sig t=some ([x],m))(ho:Zbx x.2.length x.2):Zdn sig t=some (Zse x):=by
 unfold Zdn
 rw[if_pos ⟨hs,hl⟩,hr]
 simp only
 rw[if_pos ho]
theorem Zfa{sig:List TControl}{t:List TTermStep}(h:¬ (Yl sig/\t.length<=60)):Zdn sig t=none:=by
 unfold Zdn
 rw[if_neg h]
theorem Qw{sig:List TControl}{t:List TTermStep}(h:Zdn sig t=none):Zp6 sig t=J3:=by unfold Zp6;rw[h];rfl
theorem Zkt{sig:List TControl}{t:List TTermStep}{b:TBigraph}(h:Zdn sig t=some b):Zp6 sig t=b:=by unfold Zp6;rw[h];rfl
theorem ZmM{l v ini:List Int}{j:Nat}(hl:j<l.length)(hv:j<v.length)(h0:0<=l[j])(hn:l[j]<ini.length):YU (rI (ZiX l v ini j)) [] l[j].toNat 0 (Tr.v (.int .i64 v[j]))=rI (ZiX l v ini (j+1)):=by
 rw[ZoW (by rw[QF];omega),ZiX,show g0 l j=l[j] by simp [hl],show g0 v j=v[j] by simp [hv]]
theorem Zdo(sig:List TControl)(t:List TTermStep)(hn:sig.length<=4294967296)(hbs:∀ y∈sig,Zp 4294967296 y)(hlt:t.length<=4294967296)(hbt:∀ y∈t,Zw 4294967296 y)(lvl:Nat)(S:Sto):Sem Proofs.Tryz.prog Vp lvl [.tr (.sl (sig.map Zh)),.tr (.sl (t.map Zg))] S (.tu [Zi (Zp6 sig t),iB (Zdn sig t).isSome]) S:=by
 refine Zc ZeJ (by simp [Zi,low,men,Zd]) ?_
 simp only[Zab,EVA,seval,Zd,men]
 refine Za (Qf sig (by omega) (fun y hy=>DN (hbs y hy))) ?_
 cases hsg:dc (Yl sig)
 ·have e:=Zfa (t:=t) fun g=>dc_not.1 hsg g.1
  rw[e,Qw e]
  simp only[Option.isSome_none,EVA,seval,Zd,men]
  try rfl
 have hs:=dc_iff.1 hsg
 simp only[List.length_map,EVA,seval,Zd,men]
 refine Zl (fun hlo=>?_) (fun hlo=>?_)
 ·have e:=Zfa (sig:=sig) (t:=t) fun g=>by have:=g.2;omega
  rw[e,Qw e]
  simp only[Option.isSome_none,EVA,seval,Zd,men]
  try rfl
 have hl60:t.length<=60:=by omega
 refine Za (Zls sig t hn hbs hbt hs hl60) ?_
 cases hr:Zby sig t with
 | none =>
  have e:Zdn sig t=none:=Zd4 fun x m g=>by rw[hr] at g;cases g
  rw[e,Qw e]
  simp only[Option.isSome_none,EVA,seval,Zd,men]
  try rfl
 | some z =>
  rw[Zkq hr]
  obtain⟨L,m⟩:=z
  have hz:=Zcd hs (j:=t.length) (Nat.le_refl _) (by rw[List.take_length];exact hr)
  simp only[Option.isSome_some,List.length_map,EVA,seval,Zd,men]
  refine Zl (fun h1=>?_) (fun h1=>?_)
  ·obtain⟨x,rfl⟩:∃ x,L=[x]:=Zkp (by have:=of_decide_eq_false h1;omega)
   have hp:=hz.1 x (by simp)
   have h4:=hp.big.sitesL
   have hlen:=hp.len
   have ga:([x].map ptC)[0]? = some (ptC x):=rfl
   have hf:(decide ¬ ((([x]:List Q3).length:Nat):Int)=1)=false:=h1
   have q:=Zlv (x.2.length:Int) x.2 (by omega) rfl
   simp only[ga,hf,ptC,Zb,List.map_cons,List.map_nil,List.length_map,List.length_cons,List.length_nil,EVA,seval,Zd,men]
   refine Za q ?_
   cases ho:dc (Zbx x.2.length x.2)
   ·have e:Zdn sig t=none:=Zd4 fun y m' g=>by
     rw[hr] at g
     cases g
     exact dc_not.1 ho
    rw[e,Qw e]
    simp only[Option.isSome_none,EVA,seval,Zd,men]
    try rfl
   have hord:=dc_iff.1 ho
   have e:=ZmL hs hl60 hr hord
   rw[e,Zkt e]
   have qo:=X5 x.1 (QT (by omega) (XC hp.big))
   simp only[Zb,List.map_cons,List.map_nil] at qo
   simp only[Option.isSome_some,EVA,seval,Zd,men]
   refine Za qo ?_
   simp only[Zi,List.length_map,EVA,seval,Zd,men]
   refine Zz (α:=Unit) x.2.length (fun j _=>[(59,iI j)]) (fun j _=>[(1697,.ar 1 (rI (ZiX x.2 x.1.sites x.1.sites j)) true x.1.sites.length 0)]) (fun _ _=>True) () (by simp only[EVA,seval,Zd,men]) (by (simp only[ZiX,EVA,seval,Zd,men]) <;> rfl) trivial ?_
   intro j _ hj _
   simp only[List.length_map,EVA,seval,Zd,men]
   refine Zl (fun hlt2=>?_) (fun hge=>?_)
   ·have hja:j<x.2.length:=by omega
    have hjs:j<x.1.sites.length:=by omega
    have gk:=ZiZ hja
    have gv:=ZiZ hjs
    have hm:=Zki hord (List.getElem_mem hja)
    have hst:=ZmM (ini:=x.1.sites) hja hjs hm.1 (by omega)
    have hkl:x.2[j].toNat<x.1.sites.length:=by omega
    have gp:=ZiZ (l:=ZiX x.2 x.1.sites x.1.sites j) (j:=x.2[j].toNat) (by rw[QF];exact hkl)
    simp only[gk,gv,gp,hst,hkl,List.getElem?_cons_zero,QF,List.length_map,EVA,seval,Zd,men]
    exact⟨hm.1,by rw[Ze];omega,Zf () hja rfl trivial⟩
   ·have:j=x.2.length:=by omega
    subst this
    simp only[QF,List.length_map,EVA,seval,Zd,men]
    try rfl
  ·have e:Zdn sig t=none:=Zd4 fun x m' g=>by
    rw[hr] at g
    cases g
    simp at h1
   rw[e,Qw e]
   simp only[Option.isSome_none,EVA,seval,Zd,men]
   try rfl
end Go.Fd
