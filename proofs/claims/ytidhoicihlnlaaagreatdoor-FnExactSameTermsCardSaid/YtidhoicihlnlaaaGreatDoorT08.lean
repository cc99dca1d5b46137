/-
  WHAT STEPS MAKE, THE REFERENCE'S SIDE. Own work.
-/
import Derived.Test.YtidhoicihlnlaaaGreatDoorT07
import Derived.Shelf.Sort.AssemblyIn
import Derived.Test.YtidhoicihlnlaaaGreatDoorProg
import Derived.Shelf.Sort.Plain
import Derived.Shelf.Bits.Mul64
import Derived.KernelRfl
set_option linter.all false
namespace Go.Fd
set_option maxRecDepth 20000
def Zl5(sig:List TControl):List TControl:=sig.map fun c=>{ c with kind_:=0 }
theorem ZqI{sig:List TControl}(h:Vh sig):Vh (Zl5 sig):=by
 have hl:(Zl5 sig).length=sig.length:=by simp [Zl5]
 refine⟨fun i hi=>?_,by rw[hl];exact h.2⟩
 have g:=h.1 i (by omega)
 have e:∀ k (hk:k<(Zl5 sig).length),(Zl5 sig)[k] = { sig[k]'(by omega) with kind_:=0 }:=fun k hk=>by simp [Zl5]
 refine⟨?_,fun k hk=>?_⟩
 ·rw[e i hi]
  exact⟨g.1.1,g.1.2.1,by show (0:Int)<=0/\(0:Int)<=2;omega⟩
 ·rw[e i hi,e k (by omega)]
  exact g.2 k hk
theorem Zoi{sig:List TControl}{c:Int}:Vi (Zl5 sig) c=Vi sig c:=by
 unfold Vi Zl5
 rw[List.getElem?_map]
 cases sig[c.toNat]? <;> rfl
theorem ZqJ{sig:List TControl}{c:Int}:QF (Zl5 sig) c=0:=by
 unfold QF Zl5
 rw[List.getElem?_map]
 cases sig[c.toNat]? <;> rfl
theorem ZqK{sig:List TControl}{s:TTermStep}(h:stepOK sig s):stepOK (Zl5 sig) s :=
 ⟨h.kind,h.ctl0,h.site0,h.nms,h.site,fun g=>by rw[show (Zl5 sig).length=sig.length by simp [Zl5]];exact h.ctl g,fun g=>by rw[Zoi];exact h.ports g,h.one,h.non⟩
theorem ZsA{sig:List TControl}{x:TBigraph}(h:bigOK sig x)(h1:x.nodes=[])(h2:x.sites=[]):bigOK (Zl5 sig) x :=
 ⟨ZqI h.sg,h.roots,h.nodesL,h.sitesL,h.edges,h.outer,h.inn,fun i hi=>by simp [h1] at hi,fun p hp=>by simp [h2] at hp,h.inner⟩
theorem ZsB{sig:List TControl}{s:TTermStep}(hs:Vh sig)(h:stepOK sig s)(h3:s.kind_=3){x:TBigraph}(hx:bigOK sig x)(hk:QF sig s.control=2->x.nodes=[]/\x.sites=[]):∃ sg,bigOK sg (Zfq s)/\bigOK sg x:=by
 by_cases k:QF sig s.control=2
 ·exact⟨Zl5 sig,Zqy (ZqI hs) (ZqK h) h3 (by rw[ZqJ];decide),ZsA hx (hk k).1 (hk k).2⟩
 ·exact⟨sig,Zqy hs h h3 k,hx⟩
theorem Zoj(s:TTermStep)(lvl:Nat)(S:Sto):Sem Proofs.Tryz.prog Ur lvl [.ag ((Zi s).map .tr)] S (.ag ((ptC (if s.kind_=0 then (J7,[]) else if s.kind_=1 then (Zq4,[]) else (Zq5,[s.site]))).map .tr)) S:=by
 obtain⟨k,c,t,ns⟩:=s
 refine Zc ZiQ (by simp [low,men,Zf,ptC,Zb]) ?_
 by_cases h0:k=0
 ·subst h0
  simp only[W8,Zi,EVA,↓reduceIte,Nat.reduceEqDiff,Nat.reduceMul,reduceCtorEq,Nat.reduceAdd,Nat.reduceLeDiff,Nat.reduceLT]
  rfl
 ·by_cases h1:k=1
  ·subst h1
   rw[if_neg h0]
   simp only[W8,Zi,h0,EVA,↓reduceIte,Nat.reduceEqDiff,Nat.reduceMul,reduceCtorEq,Nat.reduceAdd,Nat.reduceLeDiff,Nat.reduceLT]
   rfl
  ·rw[if_neg h0,if_neg h1]
   simp only[W8,Zi,h0,h1,EVA,↓reduceIte,Nat.reduceEqDiff,Nat.reduceMul,reduceCtorEq,Nat.reduceAdd,Nat.reduceLeDiff,Nat.reduceLT]
   rfl
def ZyV(sig:List TControl)(s:TTermStep)(x:TBigraph):Prop:=x.roots=1/\(QF sig s.control=2->x.nodes=[]/\x.sites=[])
open Classical in
noncomputable def Zok(sig:List TControl)(s:TTermStep)(x:Xi):Xi:=if ZyV sig s x.1 then (DP (Zfq s) x.1,x.2) else (J7,[])
theorem Zol(sig:List TControl)(s:TTermStep)(x:Xi)(hn:sig.length<=4294967296)(hbs:∀ y∈sig,Zq 4294967296 y)(hb:Zz 4294967296 s)(hs:Vh sig)(h:stepOK sig s)(h3:s.kind_=3)(hx:partOK sig x)(lvl:Nat)(S:Sto):Sem Proofs.Tryz.prog Us lvl [.tr (.sl (sig.map Zj)),.ag ((Zi s).map .tr),.ag ((ptC x).map .tr)] S (.tu [.ag ((ptC (Zok sig s x)).map .tr),iB (dc (X8 sig s x.1))]) S:=by
 have hxb:=hx.big
 have hw:=h.ctl h3
 obtain⟨m,hm⟩:∃ m:Nat,s.control=m:=⟨s.control.toNat,by omega⟩
 have hms:m<sig.length:=by omega
 have gs:=Xh (c:=Zj) hms
 have e:QF sig s.control=sig[m].kind_:=by simp [QF,hm,hms]
 have x1:=hxb.small.nodes;have x2:=hxb.small.sites
 refine Zc ZiR (by simp [low,men,Zf,ptC,Zb]) ?_
 simp only[Zdd,Zi,ptC,Zb,EVA,↓reduceIte,Nat.reduceEqDiff,Nat.reduceMul,reduceCtorEq,Nat.reduceAdd,Nat.reduceLeDiff,Nat.reduceLT]
 by_cases h0:ZyV sig s x.1
 ·have hr:=h0.1
  have hno:Zok sig s x=(DP (Zfq s) x.1,x.2):=if_pos h0
  rw[hno]
  obtain⟨sg,g1,g2⟩:=ZsB hs h h3 hxb h0.2
  have hnl:s.names.length<=3:=by have:=h.ports h3;have:=Zju hs (c:=s.control);omega
  have hsl:=ZbQ (l:=s.names)
  have q1:=U9 s.names (by omega)
  have q2:=UM s.names 0 (VG s.names) (by omega) (by omega) (by omega)
  simp only[Int.zero_add] at q2
  have q3:=Zn5 sg (Zfq s) x.1 g1 g2 (by rw[hr];rfl)
  have q4:=We sig (DP (Zfq s) x.1) hn hbs (Q7 (by omega) (Zqa g1 g2)) (Zqb g1 g2 (by rw[hr];rfl) (WE g1) (WE g2))
  have e4:dc (bigOK sig (DP (Zfq s) x.1))=dc (X8 sig s x.1):=J3 ⟨fun g=>⟨h0.1,h0.2,g⟩,fun g=>g.2.2⟩
  rw[e4] at q4
  obtain⟨B,hB⟩:∃ B,B=DP (Zfq s) x.1:=⟨_,rfl⟩
  rw[<-hB] at q3 q4 ⊢
  simp only[Zb,List.map_cons,List.map_nil] at q4
  by_cases hk:sig[m].kind_=2
  ·obtain⟨z1,z2⟩:=h0.2 (e.trans hk)
   simp only[hr,hk,hm,gs,z1,z2,Zj,List.length_nil,List.map_nil,EVA,↓reduceIte,Nat.reduceEqDiff,Nat.reduceMul,reduceCtorEq,Nat.reduceAdd,Nat.reduceLT,Zf,men]
   refine⟨by rw[Zd];omega,?_⟩
   rw[if_neg (by decide)]
   refine Za q1 ?_
   simp only[List.length_map,EVA,↓reduceIte,Nat.reduceEqDiff,Nat.reduceMul,reduceCtorEq,Nat.reduceAdd,Nat.reduceLeDiff,Nat.reduceLT,Zf,men]
   rw[show cut (rS (VG s.names)) 0 (VG s.names).length=rS (VG s.names) from Js]
   refine Za q2 ?_
   simp only[List.length_map,EVA,↓reduceIte,Nat.reduceEqDiff,Nat.reduceMul,reduceCtorEq,Nat.reduceAdd,Nat.reduceLeDiff,Nat.reduceLT,Zf,men]
   simp only[Zb,Zfq,hr,hm,z1,z2,ZK,List.map_cons,List.map_nil] at q3
   refine Za q3 ?_
   simp only[EVA,↓reduceIte,Nat.reduceEqDiff,Nat.reduceMul,reduceCtorEq,Nat.reduceAdd,Nat.reduceLeDiff,Nat.reduceLT,Zf,men]
   refine Za q4 ?_
   simp only[EVA,↓reduceIte,Nat.reduceEqDiff,Nat.reduceMul,reduceCtorEq,Nat.reduceAdd,Nat.reduceLT]
  ·simp only[hr,hk,hm,gs,Zj,EVA,↓reduceIte,Nat.reduceEqDiff,reduceCtorEq,Nat.reduceAdd,Nat.reduceLT,Zf,men]
   refine Za q1 ?_
   simp only[List.length_map,EVA,↓reduceIte,Nat.reduceEqDiff,Nat.reduceMul,reduceCtorEq,Nat.reduceAdd,Nat.reduceLeDiff,Nat.reduceLT,Zf,men]
   rw[show cut (rS (VG s.names)) 0 (VG s.names).length=rS (VG s.names) from Js]
   refine Za q2 ?_
   simp only[List.length_map,EVA,↓reduceIte,Nat.reduceEqDiff,Nat.reduceMul,reduceCtorEq,Nat.reduceAdd,Nat.reduceLeDiff,Nat.reduceLT,Zf,men]
   simp only[Zb,Zfq,hr,hm,ZK,List.map_cons,List.map_nil] at q3
   refine Za q3 ?_
   simp only[EVA,↓reduceIte,Nat.reduceEqDiff,Nat.reduceMul,reduceCtorEq,Nat.reduceAdd,Nat.reduceLeDiff,Nat.reduceLT,Zf,men]
   refine Za q4 ?_
   simp only[EVA,↓reduceIte,Nat.reduceEqDiff,Nat.reduceMul,reduceCtorEq,Nat.reduceAdd,Nat.reduceLT]
 ·have hno:¬ X8 sig s x.1:=fun g=>h0 ⟨g.1,g.2.1⟩
  rw[show Zok sig s x=(J7,[]) from if_neg h0,Zg hno]
  by_cases hr:x.1.roots=1
  ·have hk:sig[m].kind_=2:=Classical.byContradiction fun k=>h0 ⟨hr,fun g=>absurd (e.symm.trans g) k⟩
   have hz:(0:Int)<(x.1.nodes.length:Int)+x.1.sites.length:=by
    by_cases g:(x.1.nodes.length:Int)+x.1.sites.length=0
    ·exact absurd ⟨hr,fun _=>⟨List.length_eq_zero_iff.1 (by omega),List.length_eq_zero_iff.1 (by omega)⟩⟩ h0
    ·omega
   simp only[hr,hk,hm,gs,hz,Zj,List.length_map,EVA,↓reduceIte,Nat.reduceEqDiff,Nat.reduceMul,reduceCtorEq,Nat.reduceAdd,Nat.reduceLT]
   exact⟨by rw[Zd];omega,rfl⟩
  ·simp only[hr,EVA,↓reduceIte]
   rfl
end Go.Fd

/-
  WHAT STEPS MAKE OF TWO, AND OF ONE AND A NAME, THE REFERENCE'S SIDE. Own work.
-/
namespace Go.Fd
set_option maxRecDepth 20000
theorem ZqL(l:List Int)(hl:l.length<=4294967296)(lvl:Nat)(S:Sto):Sem Proofs.Tryz.prog YH lvl [tI l] S (.ow 1 (rI l) true) S:=by
 refine Zc ZeX trivial ?_
 simp only[Za7,List.length_map,Zbt,Zbu,EVA,seval]
 exact hl
theorem Zvo{sig:List TControl}{a b:TBigraph}(ha:bigOK sig a)(hb:bigOK sig b)(hi:a.inner=[]):UQ sig a b↔bigOK sig (Zd1 a b):=by
 constructor
 ·intro g;exact g.2.2.2
 ·intro g;exact⟨ha,hb,fun n hn=>by simp [inn,hi] at hn,g⟩
open Classical in
noncomputable def Zom(sig:List TControl)(s:TTermStep)(x y:Xi):Xi:=if UQ sig x.1 y.1 then (if s.kind_=4 then Zh1 x.1 y.1 else Zd1 x.1 y.1,x.2++y.2) else (J7,[])
theorem Zon(sig:List TControl)(s:TTermStep)(x y:Xi)(hn:sig.length<=4294967296)(hbs:∀ y∈sig,Zq 4294967296 y)(hx:partOK sig x)(hy:partOK sig y)(lvl:Nat)(S:Sto):Sem Proofs.Tryz.prog Ut lvl [.tr (.sl (sig.map Zj)),.ag ((Zi s).map .tr),.ag ((ptC x).map .tr),.ag ((ptC y).map .tr)] S (.tu [.ag ((ptC (Zom sig s x y)).map .tr),iB (dc (UQ sig x.1 y.1))]) S:=by
 have hxb:=hx.big;have hyb:=hy.big
 have x2:=hxb.sitesL;have y2:=hyb.sitesL
 have lx:=hx.len;have ly:=hy.len
 have q1:=Zn8 sig x.1 y.1 hxb hyb
 have q2:=We sig (Zd1 x.1 y.1) hn hbs (Q7 (by omega) (Znj hxb hyb)) (Zto hxb hyb (WE hxb) (WE hyb))
 rw[<-J3 (Zvo hxb hyb hx.inn)] at q2
 have q3:=Zqt (Zd1 x.1 y.1) (Zsm hxb hyb)
 have q4:=ZqL x.2 (by omega)
 have ec:cut (rI x.2++rI y.2) 0 (x.2.length+y.2.length)=rI (x.2++y.2):=by
  rw[<-Y7]
  exact JA (by simp [rI])
 obtain⟨B,hB⟩:∃ B,B=Zd1 x.1 y.1:=⟨_,rfl⟩
 rw[<-hB] at q1 q2 q3
 have hM:Zh1 x.1 y.1=ZlV B:=by rw[hB];rfl
 simp only[Zb,List.map_cons,List.map_nil] at q1 q2 q3
 refine Zc ZiS (by simp [low,men,Zf,ptC,Zb]) ?_
 simp only[Zde,Zi,ptC,Zb,EVA,seval,Zf,men]
 refine Za q1 ?_
 simp only[EVA,seval,Zf,men]
 refine Za q2 ?_
 cases hp:dc (UQ sig x.1 y.1)
 ·rw[show Zom sig s x y=(J7,[]) from if_neg (dc_not.1 hp)]
  simp only[EVA,seval]
  rfl
 ·rw[show Zom sig s x y=_ from if_pos (dc_iff.1 hp)]
  by_cases h4:s.kind_=4
  ·rw[if_pos h4,hM]
   simp only[h4,EVA,seval,Zf,men]
   refine Za q3 ?_
   simp only[Zh,EVA,seval,Zf,men]
   refine Za q4 ?_
   simp only[Zbt,Zbu,List.length_map,EVA,seval]
   exact⟨by omega,by rw[<-Y7,List.length_map,List.length_append];exact Nat.le_refl _,by rw[ec] <;> rfl⟩
  ·rw[if_neg h4,<-hB]
   simp only[h4,EVA,seval,Zf,men]
   refine Za q4 ?_
   simp only[Zbt,Zbu,List.length_map,EVA,seval]
   exact⟨by omega,by rw[<-Y7,List.length_map,List.length_append];exact Nat.le_refl _,by rw[ec] <;> rfl⟩
theorem Zl6(sig:List TControl)(s:TTermStep)(x:Xi)(n:ByteArray)(hn:sig.length<=4294967296)(hbs:∀ y∈sig,Zq 4294967296 y)(hns:s.names=[n])(hbn:n.size<=4294967296)(h67:s.kind_=6\/s.kind_=7)(hx:partOK sig x):∃ V:Xi,(∀ y,mkR sig s [x]=some y->V=y)/\∀(lvl:Nat) (S:Sto),Sem Proofs.Tryz.prog WL lvl [.tr (.sl (sig.map Zj)),.ag ((Zi s).map .tr),.ag ((ptC x).map .tr)] S (.tu [.ag ((ptC V).map .tr),iB (mkR sig s [x]).isSome]) S:=by
 have hxb:=hx.big
 have g0:(rS [n])[0]? = some [ts n]:=rfl
 rcases h67 with h6 | h7
 ·have e:=Du (sig:=sig) (s:=s) (x:=x) (.inr (.inl h6))
  rw[if_neg (by omega),if_pos h6,hns,gS0 rfl] at e
  by_cases g:Q6 sig x.1 n
  ·rw[if_pos g] at e
   rw[e]
   refine⟨(XW x.1 n,x.2),fun y hy=>Option.some.inj hy,fun lvl S=>?_⟩
   have q:=ZbZ sig x.1 n hn hbs (DQ hxb) hbn (WE hxb) g
   unfold J8 J9 at q
   rw[if_pos g,Zy g] at q
   simp only[Zb,List.map_cons,List.map_nil] at q
   refine Zc Wp (by simp [low,men,Zf,ptC,Zb]) ?_
   simp only[Qz,Zi,ptC,Zb,h6,hns,EVA,seval,Zf,men]
   refine Za q ?_
   simp only[EVA,seval]
  ·rw[if_neg g] at e
   rw[e]
   refine⟨(J7,x.2),(fun y hy=>by cases hy),fun lvl S=>?_⟩
   have q:=Zb0 sig x.1 n hn hbs (DQ hxb) hbn (WE hxb) g
   unfold J8 J9 at q
   rw[if_neg g,Zg g] at q
   simp only[Zb,List.map_cons,List.map_nil] at q
   refine Zc Wp (by simp [low,men,Zf,ptC,Zb]) ?_
   simp only[Qz,Zi,ptC,Zb,h6,hns,EVA,seval,Zf,men]
   refine Za q ?_
   simp only[Zh,EVA,seval]
 ·have e:=Du (sig:=sig) (s:=s) (x:=x) (.inr (.inr h7))
  rw[if_neg (by omega),if_neg (by omega),hns,gS0 rfl] at e
  have q:=Zfr sig x.1 n hn hbs (DQ hxb) hbn (WE hxb)
  have h6:¬ s.kind_=6:=by omega
  by_cases g:Dt sig x.1 n
  ·rw[if_pos g] at e
   rw[e]
   refine⟨(ZjJ x.1 n,x.2),fun y hy=>Option.some.inj hy,fun lvl S=>?_⟩
   rw[if_pos g,Zy g] at q
   simp only[Zb,List.map_cons,List.map_nil] at q
   refine Zc Wp (by simp [low,men,Zf,ptC,Zb]) ?_
   simp only[Qz,Zi,ptC,Zb,h6,hns,EVA,seval,Zf,men]
   refine Za q ?_
   simp only[EVA,seval]
  ·rw[if_neg g] at e
   rw[e]
   refine⟨(J7,x.2),(fun y hy=>by cases hy),fun lvl S=>?_⟩
   rw[if_neg g,Zg g] at q
   simp only[Zb,List.map_cons,List.map_nil] at q
   refine Zc Wp (by simp [low,men,Zf,ptC,Zb]) ?_
   simp only[Qz,Zi,ptC,Zb,h6,hns,EVA,seval,Zf,men]
   refine Za q ?_
   simp only[Zh,EVA,seval]
end Go.Fd

/-
  A STEP ON A STACK, THE REFERENCE'S SIDE. Own work.
-/
namespace Go.Fd
set_option maxRecDepth 20000
theorem Znq{z:List Xi}{a:Nat}(h:z.length=a+1):∃ x,z.drop a=[x]/\(z.map ptC)[a]? = some (ptC x)/\x∈z:=by
 have ha:a<z.length:=by omega
 refine⟨z[a],?_,by simp [ha],List.getElem_mem ha⟩
 rw[List.drop_eq_getElem_cons ha,List.drop_of_length_le (by omega)]
theorem ZsC{z:List Xi}{a:Nat}(h:z.length=a+2):∃ x y,z.drop a=[x,y]/\(z.map ptC)[a]? = some (ptC x)/\(z.map ptC)[a+1]? = some (ptC y)/\x∈z/\y∈z:=by
 have ha:a<z.length:=by omega
 have hb:a+1<z.length:=by omega
 refine⟨z[a],z[a+1],?_,by simp [ha],by simp [hb],List.getElem_mem ha,List.getElem_mem hb⟩
 rw[List.drop_eq_getElem_cons ha,List.drop_eq_getElem_cons hb,List.drop_of_length_le (by omega)]
theorem ZsD{sig:List TControl}{s:TTermStep}{x y:Xi}(h3:s.kind_=3)(h:mkR sig s [x]=some y):Zok sig s x=y:=by
 rw[Du (.inl h3),if_pos h3] at h
 split at h
 ·rename_i g
  rw[show Zok sig s x=_ from if_pos ⟨g.1,g.2.1⟩]
  exact Option.some.inj h
 ·cases h
theorem ZqM{sig:List TControl}{s:TTermStep}{x:Xi}(h3:s.kind_=3):dc (X8 sig s x.1)=(mkR sig s [x]).isSome:=by
 rw[Du (.inl h3),if_pos h3]
 by_cases g:X8 sig s x.1
 ·rw[if_pos g,Zy g];rfl
 ·rw[if_neg g,Zg g];rfl
theorem ZsE{sig:List TControl}{s:TTermStep}{x x2 y:Xi}(h45:s.kind_=4\/s.kind_=5)(h:mkR sig s [x,x2]=some y):Zom sig s x x2=y:=by
 rw[ZeD h45] at h
 split at h
 ·rename_i g
  rw[show Zom sig s x x2=_ from if_pos g]
  exact Option.some.inj h
 ·cases h
theorem ZqN{sig:List TControl}{s:TTermStep}{x x2:Xi}(h45:s.kind_=4\/s.kind_=5):dc (UQ sig x.1 x2.1)=(mkR sig s [x,x2]).isSome:=by
 rw[ZeD h45]
 by_cases g:UQ sig x.1 x2.1
 ·rw[if_pos g,Zy g];rfl
 ·rw[if_neg g,Zg g];rfl
theorem Znr{k:Int}:JB k<=2:=by
 unfold JB
 split
 ·omega
 ·split <;> omega
theorem Zzj{z:List Xi}{a:Nat}{Q:Xi}:cut (z.map ptC) 0 (a-0)++[[Tr.v (Value.int .i64 Q.1.roots),Tr.sl (Q.1.nodes.map ZK),Tr.sl (rI Q.1.sites),Tr.v (Value.int .i64 Q.1.edges),Tr.sl (rS Q.1.outer),Tr.sl (Q.1.inner.map Z3),Tr.sl (rI Q.2)]]=(z.take a++[Q]).map ptC:=by
 rw[Nat.sub_zero,Zhq,List.map_append]
 rfl
theorem Zzk{z:List Xi}{a:Nat}(h:a<=z.length):(cut (z.map ptC) 0 (a-0)).length=a:=by
 rw[Nat.sub_zero,Zhq,List.length_map,List.length_take]
 omega
theorem Ztt{z:List Xi}{a:Nat}{Q:Xi}(h:a<=z.length):((z.take a++[Q]).map ptC).length=a+1:=by
 rw[List.length_map,List.length_append,List.length_take]
 simp
 omega
theorem Zoo(sig:List TControl)(s:TTermStep)(z:List Xi)(hn:sig.length<=4294967296)(hbs:∀ y∈sig,Zq 4294967296 y)(hb:Zz 4294967296 s)(hs:Vh sig)(h:stepOK sig s)(hz:∀ x∈z,partOK sig x)(hzl:z.length<=100):∃ V:List Xi,(JB s.kind_<=z.length->∀ x,mkR sig s (z.drop (z.length-JB s.kind_))=some x->V=z.take (z.length-JB s.kind_)++[x])/\∀(lvl:Nat) (S:Sto),Sem Proofs.Tryz.prog XC lvl [.tr (.sl (sig.map Zj)),.tr (.sl (z.map ptC)),.ag ((Zi s).map .tr)] S (.tu [.tr (.sl (V.map ptC)),iB (decide (JB s.kind_<=z.length)&&(mkR sig s (z.drop (z.length-JB s.kind_))).isSome)]) S:=by
 obtain⟨k,c,p,ns⟩:=s
 have hkind:=h.kind
 simp only at hkind
 have qt:=Zl0 k
 have ql:=Zoj ⟨k,c,p,ns⟩
 by_cases htk:JB k<=z.length
 ·obtain⟨a,ha⟩:∃ a,a=z.length-JB k:=⟨_,rfl⟩
  have hat:((z.length:Int)-(JB k:Int))=(a:Int):=by omega
  have ht2:=Znr (k:=k)
  show ∃ V:List Xi,(JB k<=z.length->∀ x,mkR sig ⟨k,c,p,ns⟩ (z.drop (z.length-JB k))=some x->V=z.take (z.length-JB k)++[x])/\∀(lvl:Nat) (S:Sto),Sem Proofs.Tryz.prog XC lvl [.tr (.sl (sig.map Zj)),.tr (.sl (z.map ptC)),.ag ((Zi ⟨k,c,p,ns⟩).map .tr)] S (.tu [.tr (.sl (V.map ptC)),iB (decide (JB k<=z.length)&&(mkR sig ⟨k,c,p,ns⟩ (z.drop (z.length-JB k))).isSome)]) S
  rw[<-ha,show decide (JB k<=z.length)=true from decide_eq_true htk]
  simp only[Bool.true_and]
  have hnot:¬ (a:Int)<0:=by omega
  have hat0:a<=z.length:=by omega
  have e6 (Q:Xi):cut (z.map ptC) 0 a=(z.take a).map ptC:=Zhq
  have tail (Q:Xi):(z.take a).map ptC++[ptC Q]=(z.take a++[Q]).map ptC:=by rw[List.map_append];rfl
  obtain⟨W,hW⟩:∃ W:Xi,W=(if k=0 then (J7,[]) else if k=1 then (Zq4,[]) else (Zq5,[p])):=⟨_,rfl⟩
  simp only[<-hW] at ql
  simp only[Zi,ptC,Zb,List.map_cons,List.map_nil] at ql
  have d01:¬ (0:Int)=1:=by decide
  have d02:¬ (0:Int)=2:=by decide
  have d21:¬ (2:Int)=1:=by decide
  by_cases h012:k=0\/k=1\/k=2
  ·have e:=Znp (sig:=sig) (s:=⟨k,c,p,ns⟩) (xs:=z.drop a) h012
   have eQ:(if k=1 then (Zq4,[]) else if k=2 then (Zq5,[p]) else (J7,[]))=W:=by
    rw[hW]
    rcases h012 with rfl | rfl | rfl <;> rfl
   simp only at e
   rw[eQ] at e
   rw[e]
   obtain⟨Q,hQ⟩:∃ Q,Q=W:=⟨_,rfl⟩
   rw[<-hQ] at ql ⊢
   refine⟨z.take a++[Q],fun _ x hx=>by rw[Option.some.inj hx],fun lvl S=>?_⟩
   have t0:JB k=0:=by rcases h012 with rfl | rfl | rfl <;> rfl
   rw[t0] at qt hat
   simp only[Int.natCast_zero] at qt hat
   have h3:¬ k=3:=by omega
   refine Zc XN (by simp [low,men,Zf]) ?_
   simp only[Qa,Zi,List.length_map,EVA,seval,Zf,men]
   refine Za qt ?_
   simp only[hat,hnot,EVA,seval,Zf,men]
   refine⟨by rw[Zd];omega,Za ql ?_⟩
   simp only[h3,EVA,seval,Zf,men]
   refine Za qt ?_
   simp only[d01,EVA,seval,Zf,men]
   refine Za qt ?_
   simp only[d02,ZeE,List.length_map,EVA,seval]
   rw[Zzj (z:=z) (a:=a) (Q:=Q),Zzk hat0]
   refine⟨fun g=>g.elim,by omega,by omega,by rw[Nat.sub_zero,Zhq,ZeE];trivial,by omega,by omega,by rw[Ztt hat0];exact Nat.le_refl _,by rw[JA (Ztt hat0)] <;> rfl⟩
  by_cases h3:k=3
  ·subst h3
   obtain⟨x,hx1,hx2,hx3⟩:=Znq (z:=z) (a:=a) (by have:JB 3=1:=rfl;omega)
   rw[hx1]
   obtain⟨Q,hQ⟩:∃ Q,Q=Zok sig ⟨3,c,p,ns⟩ x:=⟨_,rfl⟩
   refine⟨z.take a++[Q],fun _ y hy=>by rw[hQ,ZsD rfl hy],fun lvl S=>?_⟩
   have q:=Zol sig ⟨3,c,p,ns⟩ x hn hbs hb hs h rfl (hz x hx3)
   rw[<-hQ,ZqM rfl] at q
   simp only[Zi,ptC,Zb,List.map_cons,List.map_nil] at q hx2
   have t1:JB 3=1:=rfl
   rw[t1] at qt hat
   simp only[Int.natCast_one] at qt hat
   have hal:a<z.length:=by omega
   refine Zc XN (by simp [low,men,Zf]) ?_
   simp only[Qa,Zi,List.length_map,EVA,seval,Zf,men]
   refine Za qt ?_
   simp only[hat,hnot,EVA,seval,Zf,men]
   refine⟨by rw[Zd];omega,Za ql ?_⟩
   simp only[hx2,EVA,seval,Zf,men]
   refine Za q ?_
   simp only[ZeE,List.length_map,EVA,seval]
   rw[Zzj (z:=z) (a:=a) (Q:=Q),Zzk hat0]
   refine⟨fun g=>g.elim,by omega,by omega,by rw[Nat.sub_zero,Zhq,ZeE];trivial,by omega,by omega,by rw[Ztt hat0];exact Nat.le_refl _,by rw[JA (Ztt hat0)] <;> rfl⟩
  by_cases h45:k=4\/k=5
  ·obtain⟨x,y,hx1,hx2,hx3,hx4,hx5⟩:=ZsC (z:=z) (a:=a) (by have:JB k=2:=(by rcases h45 with rfl | rfl <;> rfl);omega)
   rw[hx1]
   obtain⟨Q,hQ⟩:∃ Q,Q=Zom sig ⟨k,c,p,ns⟩ x y:=⟨_,rfl⟩
   refine⟨z.take a++[Q],fun _ v hv=>by rw[hQ,ZsE h45 hv],fun lvl S=>?_⟩
   have q:=Zon sig ⟨k,c,p,ns⟩ x y hn hbs (hz x hx4) (hz y hx5)
   rw[<-hQ,ZqN (s:=⟨k,c,p,ns⟩) h45] at q
   simp only[Zi,ptC,Zb,List.map_cons,List.map_nil] at q hx2 hx3
   have t2:JB k=2:=by rcases h45 with rfl | rfl <;> rfl
   rw[t2] at qt hat
   have c2:((2:Nat):Int)=2:=rfl
   rw[c2] at qt hat
   have hal:a<z.length:=by omega
   have hal2:a+1<z.length:=by omega
   have ca:((a:Int)+1)=((a+1:Nat):Int):=by omega
   refine Zc XN (by simp [low,men,Zf]) ?_
   simp only[Qa,Zi,List.length_map,EVA,seval,Zf,men]
   refine Za qt ?_
   simp only[hat,hnot,EVA,seval,Zf,men]
   refine⟨by rw[Zd];omega,Za ql ?_⟩
   simp only[h3,EVA,seval,Zf,men]
   refine Za qt ?_
   simp only[d21,EVA,seval,Zf,men]
   refine Za qt ?_
   simp only[hx2,hx3,ca,Int.toNat_natCast,EVA,seval,Zf,men]
   refine⟨by rw[Zd];omega,Za q ?_⟩
   simp only[ZeE,List.length_map,EVA,seval]
   rw[Zzj (z:=z) (a:=a) (Q:=Q),Zzk hat0]
   refine⟨fun g=>g.elim,by omega,by omega,by rw[Nat.sub_zero,Zhq,ZeE];trivial,by omega,by omega,by rw[Ztt hat0];exact Nat.le_refl _,by rw[JA (Ztt hat0)] <;> rfl⟩
  ·have h67:k=6\/k=7:=by omega
   obtain⟨x,hx1,hx2,hx3⟩:=Znq (z:=z) (a:=a) (by have:JB k=1:=(by rcases h67 with rfl | rfl <;> rfl);omega)
   rw[hx1]
   obtain⟨n,rfl⟩:=Zl2 (h.one h67)
   obtain⟨Q,hQ,q⟩:=Zl6 sig ⟨k,c,p,[n]⟩ x n hn hbs rfl (hb.2 n (by simp)) h67 (hz x hx3)
   refine⟨z.take a++[Q],fun _ y hy=>by rw[hQ y hy],fun lvl S=>?_⟩
   simp only[Zi,ptC,Zb,List.map_cons,List.map_nil] at q hx2
   have t1:JB k=1:=by rcases h67 with rfl | rfl <;> rfl
   rw[t1] at qt hat
   simp only[Int.natCast_one] at qt hat
   have hal:a<z.length:=by omega
   refine Zc XN (by simp [low,men,Zf]) ?_
   simp only[Qa,Zi,List.length_map,EVA,seval,Zf,men]
   refine Za qt ?_
   simp only[hat,hnot,EVA,seval,Zf,men]
   refine⟨by rw[Zd];omega,Za ql ?_⟩
   simp only[h3,EVA,seval,Zf,men]
   refine Za qt ?_
   simp only[hx2,List.map_cons,List.map_nil,EVA,seval,Zf,men]
   refine Za q ?_
   simp only[ZeE,List.length_map,EVA,seval]
   rw[Zzj (z:=z) (a:=a) (Q:=Q),Zzk hat0]
   refine⟨fun g=>g.elim,by omega,by omega,by rw[Nat.sub_zero,Zhq,ZeE];trivial,by omega,by omega,by rw[Ztt hat0];exact Nat.le_refl _,by rw[JA (Ztt hat0)] <;> rfl⟩
 ·have hlt:(z.length:Int)-(JB k:Int)<0:=by omega
  refine⟨z,fun g=>absurd g htk,fun lvl S=>?_⟩
  rw[show decide (JB (⟨k,c,p,ns⟩:TTermStep).kind_<=z.length)=false from decide_eq_false htk]
  simp only[Bool.false_and]
  refine Zc XN (by simp [low,men,Zf]) ?_
  simp only[Qa,Zi,List.length_map,EVA,seval,Zf,men]
  refine Za qt ?_
  simp only[hlt,EVA,seval]
  rw[Zd]
  have:=Znr (k:=k)
  omega
end Go.Fd

/-
  ALL STEPS, THE REFERENCE'S SIDE. Own work.
-/
namespace Go.Fd
set_option maxRecDepth 20000
theorem Zop(l:List Int)(n:Int)(hl:l.length<=4294967296)(hn:n=l.length)(lvl:Nat)(S:Sto):Sem Proofs.Tryz.prog Ul lvl [.tr (.sl (rI l)),iI n] S (iB (dc (Q8 l.length l))) S:=by
 subst hn
 refine Zc ZiF trivial ?_
 simp only[Zc0,EVA,seval]
 refine Zv (α:=Unit) l.length (fun j _=>[(5,iI j)]) (fun _ _=>[]) (fun j _=>∀ i:Nat,i<j->(i:Int)∈l) () (by simp only[EVA,seval]) (by (simp only[EVA,seval]) <;> rfl) (fun i hi=>absurd hi (Nat.not_lt_zero i)) ?_
 intro j _ hj hA
 simp only[List.length_map,EVA,seval,Zf,men]
 refine Zk (fun hlt=>?_) (fun hge=>?_)
 ·have hja:j<l.length:=by omega
  refine Za (Zbp l j (by omega)) ?_
  by_cases hm:(j:Int)∈l
  ·simp only[hm,EVA,seval]
   exact⟨by rw[Zd];omega,Ze () hja rfl (fun i hi=>by
    rcases Nat.lt_or_eq_of_le (Nat.le_of_lt_succ hi) with h | h
    ·exact hA i h
    ·subst h;exact hm)⟩
  ·rw[Zg fun g:Q8 l.length l=>hm (g.2 j hja)]
   simp only[hm,EVA,seval]
 ·have:j=l.length:=by omega
  subst this
  rw[Zy (show Q8 l.length l from ⟨rfl,hA⟩)]
theorem Zoq(a b:Int)(lvl:Nat)(S:Sto):Sem Proofs.Tryz.prog Un lvl [iI a,iI b] S (iI (max a b)) S:=by
 refine Zc ZiK trivial ?_
 by_cases h:b<a
 ·rw[show max a b=a by omega]
  simp only[Zah,h,EVA,seval]
 ·rw[show max a b=b by omega]
  simp only[Zah,h,EVA,seval]
noncomputable def Zor(sig:List TControl):Stk->List TTermStep->Stk
 | z,[]=>z
 | z,s::r=>match stT sig z s with
  | some z' => Zor sig z' r
  | none=>z
theorem Zk0{sig:List TControl}{z z':Stk}{s:TTermStep}{r:List TTermStep}(h:stT sig z s=some z'):Zor sig z (s::r)=Zor sig z' r:=by rw[Zor,h]
theorem ZqO{sig:List TControl}{z:Stk}{s:TTermStep}{r:List TTermStep}(h:stT sig z s=none):Zor sig z (s::r)=z:=by rw[Zor,h]
theorem Zk1{sig:List TControl}:∀{t:List TTermStep} {z y:Stk},t.foldlM (stT sig) z=some y->Zor sig z t=y
 | [],z,y,h=>by
  simp only[List.foldlM_nil] at h
  exact Option.some.inj h
 | s::r,z,y,h=>by
  rw[List.foldlM_cons] at h
  cases hs:stT sig z s with
  | none=>rw[hs] at h;cases h
  | some z' =>
   rw[hs] at h
   rw[Zk0 hs]
   exact Zk1 h
theorem Zns{sig:List TControl}{t:List TTermStep}{y:Stk}(h:ZfK sig t=some y):Zor sig ([],0) t=y:=Zk1 h
theorem ZyW{sig:List TControl}{z:Stk}{s:TTermStep}(h:(decide (JB s.kind_<=z.1.length)&&(mkR sig s (z.1.drop (z.1.length-JB s.kind_))).isSome)=false):stT sig z s=none:=by
 rcases Bool.and_eq_false_iff.1 h with g | g
 ·exact Zjt fun k=>of_decide_eq_false g k.2
 ·exact Znm (by simpa using g)
theorem ZqP(sig:List TControl)(t:List TTermStep)(hn:sig.length<=4294967296)(hbs:∀ y∈sig,Zq 4294967296 y)(hbt:∀ y∈t,Zz 4294967296 y)(hs:Vh sig)(hl:t.length<=60)(lvl:Nat)(S:Sto):Sem Proofs.Tryz.prog Dg lvl [.tr (.sl (sig.map Zj)),.tr (.sl (t.map Zi))] S (.tu [.tr (.sl ((Zor sig ([],0) t).1.map ptC)),iI ((Zor sig ([],0) t).2:Nat),iB (ZfK sig t).isSome]) S:=by
 refine Zc Zke (by simp [low,men,Zf]) ?_
 simp only[ZeW,EVA,seval]
 refine Zv (α:=Stk) t.length (fun j z=>[(7,.tr (.sl (z.1.map ptC))),(8,iI z.2),(9,iI j)]) (fun _ _=>[]) (fun j z=>ZfK sig (t.take j)=some z/\Zor sig ([],0) t=Zor sig z (t.drop j)) ([],0) (by simp only[EVA,seval]) (by (simp only[EVA,seval]) <;> rfl) ⟨by rw[List.take_zero];exact Zqw,by rw[List.drop_zero]⟩ ?_
 intro j z hj hA
 obtain⟨hA,hL⟩:=hA
 have hz:=ZeB hs hj hA
 simp only[List.length_map,EVA,seval]
 refine Zk (fun hlt=>?_) (fun hge=>?_)
 ·have hja:j<t.length:=by omega
  have ga:=Xh (c:=Zi) hja
  have hb:=hbt _ (List.getElem_mem hja)
  have hsu:=ZgN (sig:=sig) hja
  rw[hA] at hsu
  rw[List.drop_eq_getElem_cons hja] at hL
  obtain⟨s,hs'⟩:∃ s,s=t[j]:=⟨_,rfl⟩
  rw[<-hs'] at ga hb hsu hL
  have hbad:stT sig z s=none->ZfK sig t=none/\Zor sig ([],0) t=z:=fun g=>⟨ZkP (j:=j+1) (by rw[hsu];exact g),by rw[hL,ZqO g]⟩
  have q1:=Zoh sig s hn hb
  have q2:=fun hok=>Zoo sig s z.1 hn hbs hb hs hok hz.1 (by omega)
  obtain⟨k,c,p,ns⟩:=s
  simp only[Zi,List.map_cons,List.map_nil] at ga q1 q2
  simp only[ga,EVA,seval,Zf,men]
  refine Za q1 ?_
  cases hg:dc (stepOK sig ⟨k,c,p,ns⟩)
  ·have e:=hbad (Zjt fun g=>dc_not.1 hg g.1)
   rw[e.1,e.2]
   simp only[Option.isSome_none,EVA,seval]
  have hok:=dc_iff.1 hg
  obtain⟨V,hV,qV⟩:=q2 hok
  simp only[ga,EVA,seval,Zf,men]
  refine Za qV ?_
  cases hm:(decide (JB k<=z.1.length)&&(mkR sig ⟨k,c,p,ns⟩ (z.1.drop (z.1.length-JB k))).isSome)
  ·have e:=hbad (ZyW hm)
   rw[e.1,e.2]
   simp only[Option.isSome_none,EVA,seval]
  ·have h2:=Bool.and_eq_true_iff.1 hm
   have htk:JB k<=z.1.length:=of_decide_eq_true h2.1
   obtain⟨x,hx⟩:=Option.isSome_iff_exists.1 h2.2
   have e:=Znl hok (z:=z) htk hx
   have eV:=hV htk x hx
   have hlen:V.length=z.1.length-JB k+1:=by
    rw[eV,List.length_append,List.length_take]
    simp <;> omega
   have hLz:=Zk0 (r:=t.drop (j+1)) e
   rw[hLz] at hL
   simp only[List.length_map,EVA,seval,Zf,men]
   refine Za (Zoq _ _) ?_
   simp only[EVA,seval]
   have e5:max (z.2:Int) (V.length:Int)=((max z.2 (z.1.length-JB k+1):Nat):Int):=by rw[hlen];omega
   rw[e5,eV]
   refine⟨by rw[Zd];omega,Ze (z.1.take (z.1.length-JB k)++[x],max z.2 (z.1.length-JB k+1)) hja rfl ⟨?_,hL⟩⟩
   rw[hsu]
   exact e
 ·have:j=t.length:=by omega
  subst this
  rw[List.take_length] at hA
  rw[hA,Zns hA]
  simp only[Option.isSome_some,seval]
  try rfl
end Go.Fd

/-
  NUMBERS OF LIBRARY FUNCTIONS IN THIS PROGRAM, as the guide's shelf lays them (printed by lay.py out of the kit's own command).
-/
namespace Go.Proofs
open Go.Shelf
def Tryz.lays189_ren:Go.Shelf.Ren:=⟨fun | 189=>99 | 125=>146 | 257=>145 | 128=>191 | 129=>192 | 294=>182 | 295=>183 | 296=>184 | 297=>185 | 298=>186 | 299=>187 | 216=>188 | 300=>189 | 301=>190 | 328=>228 | 329=>229 | 330=>230 | 331=>231 | 332=>232 | 215=>233 | 343=>272 | n=>n,fun | 28=>35 | 3=>3 | 46=>181 | 0=>0 | 51=>216 | 53=>218 | 4=>4 | 183=>208 | 182=>207 | 131=>213 | 5=>5 | 9=>9 | 218=>243 | 222=>247 | 228=>278 | 229=>279 | n=>n,fun | n=>n⟩
theorem Tryz.lays189:Go.Proofs.Lays.n189 Tryz.prog Tryz.lays189_ren:={
  mixed:=by kernel_rfl,
  f125:=Tryz.func146.trans (congrArg some (by kernel_rfl)),
  f128:=Tryz.func191.trans (congrArg some (by kernel_rfl)),
  f129:=Tryz.func192.trans (congrArg some (by kernel_rfl)),
  f189:=Tryz.func99.trans (congrArg some (by kernel_rfl)),
  f215:=Tryz.func233.trans (congrArg some (by kernel_rfl)),
  f216:=Tryz.func188.trans (congrArg some (by kernel_rfl)),
  f257:=Tryz.func145.trans (congrArg some (by kernel_rfl)),
  f294:=Tryz.func182.trans (congrArg some (by kernel_rfl)),
  f295:=Tryz.func183.trans (congrArg some (by kernel_rfl)),
  f296:=Tryz.func184.trans (congrArg some (by kernel_rfl)),
  f297:=Tryz.func185.trans (congrArg some (by kernel_rfl)),
  f298:=Tryz.func186.trans (congrArg some (by kernel_rfl)),
  f299:=Tryz.func187.trans (congrArg some (by kernel_rfl)),
  f300:=Tryz.func189.trans (congrArg some (by kernel_rfl)),
  f301:=Tryz.func190.trans (congrArg some (by kernel_rfl)),
  f328:=Tryz.func228.trans (congrArg some (by kernel_rfl)),
  f329:=Tryz.func229.trans (congrArg some (by kernel_rfl)),
  f330:=Tryz.func230.trans (congrArg some (by kernel_rfl)),
  f331:=Tryz.func231.trans (congrArg some (by kernel_rfl)),
  f332:=Tryz.func232.trans (congrArg some (by kernel_rfl)),
  f343:=Tryz.func272.trans (congrArg some (by kernel_rfl)),
  t0:=Tryz.underlying0,
  a0:=Tryz.isAgg0,
  z0:=Tryz.sizeOf0,
  v0:=Tryz.zeroValue0,
  t3:=Tryz.underlying3,
  a3:=Tryz.isAgg3,
  z3:=Tryz.sizeOf3,
  v3:=Tryz.zeroValue3,
  t4:=Tryz.underlying4,
  a4:=Tryz.isAgg4,
  z4:=Tryz.sizeOf4,
  v4:=Tryz.zeroValue4,
  t5:=Tryz.underlying5,
  a5:=Tryz.isAgg5,
  z5:=Tryz.sizeOf5,
  v5:=Tryz.zeroValue5,
  t9:=Tryz.underlying9,
  a9:=Tryz.isAgg9,
  z9:=Tryz.sizeOf9,
  v9:=Tryz.zeroValue9,
  t28:=Tryz.underlying35,
  a28:=Tryz.isAgg35,
  z28:=Tryz.sizeOf35,
  v28:=Tryz.zeroValue35,
  t46:=Tryz.underlying181,
  a46:=Tryz.isAgg181,
  z46:=Tryz.sizeOf181,
  v46:=Tryz.zeroValue181,
  t51:=Tryz.underlying216,
  a51:=Tryz.isAgg216,
  z51:=Tryz.sizeOf216,
  v51:=Tryz.zeroValue216,
  t53:=Tryz.underlying218,
  a53:=Tryz.isAgg218,
  z53:=Tryz.sizeOf218,
  v53:=Tryz.zeroValue218,
  t131:=Tryz.underlying213,
  a131:=Tryz.isAgg213,
  z131:=Tryz.sizeOf213,
  v131:=Tryz.zeroValue213,
  t182:=Tryz.underlying207,
  a182:=Tryz.isAgg207,
  z182:=Tryz.sizeOf207,
  v182:=Tryz.zeroValue207,
  t183:=Tryz.underlying208,
  a183:=Tryz.isAgg208,
  z183:=Tryz.sizeOf208,
  v183:=Tryz.zeroValue208,
  t218:=Tryz.underlying243,
  a218:=Tryz.isAgg243,
  z218:=Tryz.sizeOf243,
  v218:=Tryz.zeroValue243,
  t222:=Tryz.underlying247,
  a222:=Tryz.isAgg247,
  z222:=Tryz.sizeOf247,
  v222:=Tryz.zeroValue247,
  t228:=Tryz.underlying278,
  a228:=Tryz.isAgg278,
  z228:=Tryz.sizeOf278,
  v228:=Tryz.zeroValue278,
  t229:=Tryz.underlying279,
  a229:=Tryz.isAgg279,
  z229:=Tryz.sizeOf279,
  v229:=Tryz.zeroValue279 }
end Go.Proofs

/-
  SORTING NUMBERS, ANY NUMBER OF THEM; WHAT IS AN ORDER, BOTH SIDES. Own work.
-/
namespace Go.Fd
set_option maxRecDepth 20000
theorem ZyX(l:List Int):l.mergeSort (fun x y=>decide (x<=y))=Zi8 (fun a b:Int=>a<b) l:=by
 refine Zeo ZnV ?_ (Zep ZnV) ((List.mergeSort_perm l _).trans srtG_perm.symm)
 have h:=List.pairwise_mergeSort (le:=fun x y:Int=>decide (x<=y)) (fun a b c h1 h2=>by simp only[decide_eq_true_eq] at *;omega) (fun a b=>by simp only[Bool.or_eq_true,decide_eq_true_eq];omega) l
 refine h.imp fun {x y} h=>?_
 simp only[decide_eq_true_eq] at h
 omega
theorem Zjx(l:List Int)(hl:l.length<=4294967296)(lvl:Nat)(S:Sto)(id:Oid)(u:Bool)(hw ver:Nat)(hid:id.1<lvl)(hS:S id=some (.ar 1 (rI l) u hw ver)) :
  Sem Proofs.Tryz.prog Ju lvl [.hd id [] 0 l.length none hw] S (.tu []) (ZN S id (.ar 1 (rI (Zi8 (fun a b:Int=>a<b) l)) u hw ver)):=by
 by_cases hs:l.length<=12
 ·exact ZkY l hs lvl S id u hw ver hid hS _ fun x hp hu=>Zts hp hu
 ·have h:=Ze6 (P:=Proofs.Tryz.prog) (f:=Ju) (lvl:=lvl) (S:=S) (id:=id) (xs:=l) (ys:=Zi8 (fun a b:Int=>a<b) l) (enc:=Value.int .i64) (u:=u) (hw:=hw) (ver:=ver) (Zdy (by kernel_rfl)) hid hS (fun _=>rfl) srtG_perm.length_eq
   (fun h=>absurd (congrArg List.length h) (by show ¬ l.length=0;omega))
   (fun _ b cap w hH hb=>by
    have:=Go.Proofs.Any.slices_Sort_int Proofs.Tryz.lays189 b 0 cap l w hH hb (by omega)
    rw[ZyX] at this
    exact this)
  exact h
theorem Zk2(n:Nat)(l:List Int)(hl:l.length<=4294967296)(lvl:Nat)(S:Sto):Sem Proofs.Tryz.prog Vl lvl [iI n,.tr (.sl (rI l))] S (iB (dc (Q8 n l))) S:=by
 obtain⟨r,hr⟩:∃ r,r=Zi8 (fun a b:Int=>a<b) l:=⟨_,rfl⟩
 have hrl:r.length=l.length:=by rw[hr];exact srtG_perm.length_eq
 refine Zc Zb8 trivial ?_
 simp only[Dk,EVA,seval,Zf,men]
 refine Za (Wf l (by omega)) ?_
 simp only[List.length_map,EVA,seval]
 have s1:=fun S' hS=>Zjx l hl (lvl+1) S' (lvl,288) true l.length 0 (Nat.lt_succ_self _) hS
 rw[<-hr] at s1
 have hord:Q8 l.length l↔r=Xj l.length:=by rw[hr];exact ZkD
 refine Zbr 288 _ (s1 _ ?_) ?_
 ·rw[J5];rfl
 simp only[EVA,seval]
 refine Zv (α:=Unit) l.length (fun j _=>[(14,iI j)]) (fun _ _=>[]) (fun j _=>∀ i:Nat,i<j->r[i]? = some (i:Int)) () (by simp only[EVA,seval]) (by (simp only[EVA,seval]) <;> rfl) (fun i hi=>absurd hi (Nat.not_lt_zero i)) ?_
 intro j _ hj hA
 simp only[List.length_map,EVA,seval]
 refine Zk (fun hlt=>?_) (fun hge=>?_)
 ·have hja:j<l.length:=by omega
  have hjr:j<r.length:=by omega
  have ga:=ZkZ hjr
  simp only[ga,hja,EVA,seval]
  refine Zk (fun hq=>?_) (fun hq=>?_)
  ·have hno:¬ Q8 n l:=fun g=>by
    have hnl:=g.1
    rw[<-hnl] at g
    have e:=hord.1 g
    have e2:r[j]? = some (j:Int):=by rw[e];exact Zsz hja
    rw[List.getElem?_eq_getElem hjr] at e2
    have e3:=Option.some.inj e2
    omega
   rw[Zg hno]
  ·exact⟨by rw[Zd];omega,Ze () hja rfl (fun i hi=>by
    rcases Nat.lt_or_eq_of_le (Nat.le_of_lt_succ hi) with h | h
    ·exact hA i h
    ·subst h
     rw[List.getElem?_eq_getElem hjr]
     congr 1
     omega)⟩
 ·have:j=l.length:=by omega
  subst this
  have hyes:Q8 l.length l:=hord.2 (List.ext_getElem? fun i=>by
   by_cases hi:i<l.length
   ·rw[hA i hi,Zsz hi]
   ·rw[List.getElem?_eq_none (by omega),List.getElem?_eq_none (by rw[J4];omega)])
  by_cases hn:l.length=n
  ·have e:((l.length:Int)=n)=True:=eq_true (by omega)
   subst hn
   rw[Zy hyes]
   simp only[EVA,seval]
  ·have e:((l.length:Int)=n)=False:=eq_false (by omega)
   rw[Zg fun g:Q8 n l=>hn g.1]
   simp only[e,EVA,seval]
end Go.Fd

/-
  TRANSLATIONS, THE REFERENCE: THE EDGES OF A TRANSLATION; ALL TRANSLATIONS. Own work.
-/
namespace Go.Fd
set_option maxRecDepth 20000
theorem Zvp{a b:TBigraph}{ns es:List Int}{k:Nat}(hz:edJ a b ns k=some es)(hf:Zev a b (ns.take k) (g0 ns k)):edJ a b ns (k+1)=UN a.edges es (JV a k).links (JV b (g0 ns k).toNat).links:=by
 rw[edJ,hz]
 exact if_pos hf
theorem ZyY{a b:TBigraph}{ns es:List Int}{k:Nat}(hz:edJ a b ns k=some es)(hf:¬ Zev a b (ns.take k) (g0 ns k)):edJ a b ns (k+1)=none:=by
 rw[edJ,hz]
 exact if_neg hf
theorem ZqQ{a b:TBigraph}{ns:List Int}{j:Nat}(h:edJ a b ns j=none)(hj:j<=a.nodes.length):trT a b ns=none:=by
 unfold trT ZnW
 split
 ·rw[ZmZ h hj];rfl
 ·rfl
theorem ZqR{a b:TBigraph}{ns:List Int}(ha:XY a b)(ho:Q8 a.nodes.length ns):trT a b ns=(ZnW a b ns).map ZpS:=by
 unfold trT
 rw[if_pos ⟨ha,ho⟩]
theorem Zfd{a b:TBigraph}{ns:List Int}(h:¬ (XY a b/\Q8 a.nodes.length ns)):trT a b ns=none:=by
 unfold trT
 rw[if_neg h]
theorem ZgP{sig:List TControl}{b:TBigraph}(h:bigOK sig b){k:Nat}(hk:k<b.nodes.length):(JV b k).parent<k:=by
 rw[Jr hk]
 have:=(h.nodes k hk).par
 unfold Ua at this
 omega
theorem ZdR{sig:List TControl}{b:TBigraph}(h:bigOK sig b){k:Nat}(hk:k<b.nodes.length):∀ v∈(JV b k).links,0<=v/\v<=1000:=fun v hv=>by
 rw[Jr hk] at hv
 have:=(h.nodes k hk).links v hv
 unfold ZQ at this
 have h1:=h.edges
 have h2:=h.small.outer
 omega
theorem Zjy{sig:List TControl}{b:TBigraph}(h:bigOK sig b):∀ v∈lnk b,0<=v/\v<=1000:=fun v hv=>by
 obtain⟨w,hw,rfl⟩:=List.mem_map.1 hv
 have:=h.inner w hw
 unfold ZQ at this
 have h1:=h.edges
 have h2:=h.small.outer
 omega
theorem Znt{sig:List TControl}{b:TBigraph}(h:bigOK sig b){k:Nat}(hk:k<b.nodes.length):(JV b k).links.length<=1000:=by
 rw[Jr hk]
 exact h.small.links _ (List.getElem_mem hk)
theorem ZqS{sig:List TControl}{b:TBigraph}(h:bigOK sig b):∀ p∈b.sites,p<b.nodes.length:=fun p hp=>by
 have:=h.sites p hp
 unfold Ua at this
 omega
theorem Zk3{a b:TBigraph}(h:XY a b):a.inner.length=b.inner.length:=by
 have:=ZlN h
 simpa [lnk] using this
end Go.Fd

/-
  TRANSLATIONS, THE REFERENCE: ALL THAT BEGIN WITH SOME. Own work.
-/
namespace Go.Fd
set_option maxRecDepth 20000
abbrev rT(L:List (List Int)):Row:=L.map fun l=>[Tr.sl (rI l)]
noncomputable def fR(a b:TBigraph)(r:Nat)(ns es:List Int)(m:Int):List (List Int):=@ite _ (Zev a b ns m) (Classical.propDecidable _) (match UN a.edges es (JV a ns.length).links (JV b m.toNat).links with
   | some z=>ZnX a b r (ns++[m]) z
   | none=>[]) []
theorem ZqT{a b:TBigraph}{r:Nat}{ns es:List Int}:ZnX a b (r+1) ns es=jnL (fR a b r ns es) b.nodes.length:=by
 rw[ZnX]
 rfl
theorem ZDf{a b:TBigraph}{r:Nat}{ns es:List Int}{m:Int}(h:¬ Zev a b ns m):fR a b r ns es m=[]:=if_neg h
theorem Zvq{a b:TBigraph}{r:Nat}{ns es:List Int}{m:Int}(h:Zev a b ns m)(ht:UN a.edges es (JV a ns.length).links (JV b m.toNat).links=none):fR a b r ns es m=[]:=by
 unfold fR
 rw[if_pos h,ht]
theorem Zvr{a b:TBigraph}{r:Nat}{ns es z:List Int}{m:Int}(h:Zev a b ns m)(ht:UN a.edges es (JV a ns.length).links (JV b m.toNat).links=some z):fR a b r ns es m=ZnX a b r (ns++[m]) z:=by
 unfold fR
 rw[if_pos h,ht]
theorem Zl7{β:Type}{f:Int->List β}{j:Nat}(h:f j=[]):jnL f (j+1)=jnL f j:=by rw[Da,h,List.append_nil]
theorem Zh4(sig:List TControl)(a b:TBigraph)(hA:bigOK sig a)(hB:bigOK sig b)(hal:XY a b):∀(r:Nat) (ns es:List Int) (most:Nat) (lvl:Nat) (S:Sto),ns.length+r=a.nodes.length->es.length=a.edges.toNat->1<=most->most<=100000 ->
  Sem Proofs.Tryz.prog XD lvl [cB a,cB b,tI ns,tI es,iI most] S (.ow 1 (rT ((ZnX a b r ns es).take most)) true) S
 | 0,ns,es,most,lvl,S,hr,hes,h1,h2=>by
  have nA:=hA.small.nodes
  have hk:ns.length=a.nodes.length:=by omega
  have q3:=Zn3 a b ns es hA.edges hal.2.1 hes hal.2.2.2.1 (by have:=hA.sitesL;omega) (Zk3 hal) (by have:=hA.small.inner;omega) (fun p hp=>by have:=ZqS hA p hp;omega) (Zjy hA) (Zjy hB)
  simp only[cB,Zb,List.map_cons,List.map_nil] at q3
  refine Zc Zc8 trivial ?_
  rw[ZnX]
  simp only[Zai,Zb,hk,List.length_map,EVA,seval,Zf,men]
  refine Za q3 ?_
  by_cases hs:(ZmX a b ns es).isSome=true
  ·rw[if_pos hs,hs,List.take_of_length_le (by simpa using h1)]
   simp only[EVA,seval,Zf,men]
   refine Za (Zez ns (by omega)) ?_
   simp only[List.length_map,EVA,seval]
   try rfl
  ·have hs2:(ZmX a b ns es).isSome=false:=by simpa using hs
   rw[if_neg hs,hs2]
   simp only[List.take_nil,EVA,seval]
   try rfl
 | r+1,ns,es,most,lvl,S,hr,hes,h1,h2=>by
  have nA:=hA.small.nodes
  have nB:=hB.small.nodes
  have hk:ns.length<a.nodes.length:=by omega
  have hkn:((ns.length:Int)=a.nodes.length)=False:=eq_false (by omega)
  obtain⟨f,hf⟩:∃ f,f=fR a b r ns es:=⟨_,rfl⟩
  have hX:ZnX a b (r+1) ns es=jnL f b.nodes.length:=by rw[hf];exact ZqT
  rw[hX]
  refine Zc Zc8 trivial ?_
  simp only[Zai,Zb,hkn,List.length_map,EVA,seval]
  refine Zv (α:=Unit) b.nodes.length (fun j _=>[(13,.hd (lvl,1152) [] 0 ((jnL f j).take most).length none ((jnL f j).take most).length),(14,iI j)]) (fun j _=>[(1152,.ar 1 (rT ((jnL f j).take most)) true ((jnL f j).take most).length 0)]) (fun _ _=>True) () (by simp only[EVA,seval]) (by (simp only[Zm7,List.take_nil,List.length_nil,EVA,seval]) <;> rfl) trivial ?_
  intro j _ hj _
  obtain⟨acc,hacc⟩:∃ acc,acc=(jnL f j).take most:=⟨_,rfl⟩
  rw[<-hacc]
  by_cases hja:j<b.nodes.length
  rotate_left
  ·have hjn:j=b.nodes.length:=by omega
   subst hjn
   rw[<-hacc]
   have e:¬ (b.nodes.length:Int)<b.nodes.length:=by omega
   simp only[e,List.length_map,EVA,seval]
   try rfl
  have e1:(j:Int)<b.nodes.length:=by omega
  by_cases hm:acc.length<most
  rotate_left
  ·have e2:¬ (acc.length:Int)<most:=by omega
   have hfull:=Zsc (f:=f) (j:=j) (n:=b.nodes.length) (m:=most) (by omega) (by rw[<-hacc];omega)
   rw[hfull,<-hacc]
   simp only[e1,e2,List.length_map,EVA,seval]
   try rfl
  have e2:(acc.length:Int)<most:=by omega
  have hnext:=Zsb (f:=f) (j:=j) (m:=most) (by rw[<-hacc];exact hm)
  rw[<-hacc] at hnext
  have hpar:=ZgP hA hk
  have q1:=Zn2 a b ns j hk (by omega) hja hpar
  simp only[cB,Zb,List.map_cons,List.map_nil] at q1
  simp only[e1,e2,List.length_map,EVA,seval,Zf,men]
  refine Za q1 ?_
  by_cases hfit:Zev a b ns j
  rotate_left
  ·have hn:jnL f (j+1)=jnL f j:=Zl7 (by rw[hf];exact ZDf hfit)
   rw[Zg hfit]
   simp only[EVA,seval]
   exact⟨by rw[Zd];omega,Ze () hja (by rw[hn,<-hacc];rfl) trivial⟩
  rw[Zy hfit]
  have hctl:=hfit.2.1
  rw[Int.toNat_natCast] at hctl
  have q2:=ZhX a b es (JV a ns.length).links (JV b j).links hA.edges hal.2.1 hes (ZdK hA hB hk hja hctl) (Znt hA hk) (ZdR hA hk) (ZdR hB hja)
  have ga:=Xh (c:=ZK) hk
  have gb:=Xh (c:=ZK) hja
  have hh:=Zvq (r:=r) (es:=es) hfit
  have hh2:=fun z=>Zvr (r:=r) (es:=es) (z:=z) hfit
  rw[Int.toNat_natCast] at hh hh2
  rw[Jr hk,Jr hja] at q2 hh hh2
  simp only[cB,Zb,List.map_cons,List.map_nil] at q2
  simp only[ga,gb,ZK,List.length_map,EVA,seval,Zf,men]
  refine Za q2 ?_
  cases ht:UN a.edges es a.nodes[ns.length].links b.nodes[j].links with
  | none =>
   have hn:jnL f (j+1)=jnL f j:=Zl7 (by rw[hf];exact hh ht)
   simp only[Option.isSome_none,EVA,seval]
   exact⟨by rw[Zd];omega,Ze () hja (by rw[hn,<-hacc];rfl) trivial⟩
  | some w =>
   have hw:Zb1 a.edges es a.nodes[ns.length].links b.nodes[j].links a.nodes[ns.length].links.length=w:=Qb ht
   have hfj:f j=ZnX a b r (ns++[(j:Int)]) w:=by rw[hf];exact hh2 w ht
   have ih:=fun lvl S=>Zh4 sig a b hA hB hal r (ns++[(j:Int)]) w (most-acc.length) lvl S (by rw[List.length_append,List.length_singleton];omega) (by rw[XZ ht];exact hes) (by omega) (by omega)
   have hml:((most-acc.length:Nat):Int)=(most:Int)-acc.length:=by omega
   rw[hml,<-hfj] at ih
   rw[hw]
   simp only[cB,Zb,List.map_cons,List.map_nil] at ih
   simp only[Option.isSome_some,EVA,seval,Zf,men]
   refine Za (Zez ns (by omega)) ?_
   simp only[List.length_map,EVA,seval,Zf,men]
   have c1:cut (rI ns++[[Tr.v (Value.int IntKind.i64 (j:Int))]]) 0 (ns.length+1)=rI (ns++[(j:Int)]):=by
    rw[Y7]
    exact JA (by simp)
   have l1:(rI ns++[[Tr.v (Value.int IntKind.i64 (j:Int))]]).length=ns.length+1:=by simp
   have hmx:max acc.length (acc.length+(List.take (most-acc.length) (f (j:Int))).length)=acc.length+(List.take (most-acc.length) (f (j:Int))).length:=by omega
   have hlen:(List.take (most-acc.length) (f (j:Int))).length<=100000:=by rw[List.length_take];omega
   simp only[c1,l1,EVA,seval]
   refine⟨by omega,by rw[Zd];omega,?_⟩
   refine Za ih ?_
   simp only[List.length_map,hmx,EVA,seval]
   exact⟨Za5 (fun l:List Int=>[Tr.sl (rI l)]) (fun _=>rfl) _,by omega,by rw[Zd];omega,Ze () hja (by rw[hnext,List.length_append,show ∀ x y:List (List Int),rT (x++y)=rT x++rT y from fun x y=>List.map_append];rfl) trivial⟩
noncomputable def Zl8(a b:TBigraph):List (List Int):=Zfo a b a.nodes.length []
theorem Zvs{n:Nat}:(List.replicate n (-1:Int)).length=n:=List.length_replicate
theorem ZsF{a b:TBigraph}(ha:XY a b):ZnX a b a.nodes.length [] (List.replicate a.edges.toNat (-1))=Zl8 a b :=
 ZpU ha (by simp) List.nodup_nil (fun x hx=>by simp at hx) rfl
theorem ZeF{a b:TBigraph}(h:¬ XY a b):∀{r:Nat} {ns:List Int},Zfo a b r ns=[]
 | 0,ns=>by
  rw[Zfo,if_neg]
  rw[Zfd fun g=>h g.1]
  simp
 | r+1,ns=>by
  rw[Zfo,List.flatMap_eq_nil_iff]
  intro m _
  split
  ·exact ZeF h
  ·rfl
theorem Zl9(sig:List TControl)(a b:TBigraph)(hA:bigOK sig a)(hB:bigOK sig b)(lvl:Nat)(S:Sto):Sem Proofs.Tryz.prog WJ lvl [cB a,cB b] S (.ow 1 (rT ((Zl8 a b).take 1)) true) S:=by
 have q0:=ZlO a b hA.small hB.small
 have he:=hA.edges
 have qn:=Zn1 a.edges.toNat (by omega)
 rw[show ((a.edges.toNat:Nat):Int)=a.edges by omega] at qn
 simp only[cB,Zb,List.map_cons,List.map_nil] at q0
 refine Zc ZgZ trivial ?_
 simp only[Zca,Zb,EVA,seval,Zf,men]
 refine Za q0 ?_
 by_cases hal:XY a b
 rotate_left
 ·rw[Zg hal,show Zl8 a b=[] from ZeF hal]
  simp only[List.take_nil,EVA,seval]
  try rfl
 rw[Zy hal]
 have q:=fun lvl S=>Zh4 sig a b hA hB hal a.nodes.length [] (List.replicate a.edges.toNat (-1)) 1 lvl S (by simp) Zvs (Nat.le_refl _) (by omega)
 rw[ZsF hal] at q
 simp only[cB,Zb,List.map_cons,List.map_nil] at q
 simp only[EVA,seval,Zf,men]
 refine Za qn ?_
 simp only[EVA,seval,Zf,men]
 refine Za q ?_
 simp only[List.length_map,EVA,seval]
 try rfl
theorem ZqU(sig:List TControl)(a b:TBigraph)(hA:bigOK sig a)(hB:bigOK sig b)(lvl:Nat)(S:Sto):Sem Proofs.Tryz.prog Df lvl [cB a,cB b] S (iB (!(Zl8 a b).isEmpty)) S:=by
 have q:=Zl9 sig a b hA hB
 simp only[cB,Zb,List.map_cons,List.map_nil] at q
 refine Zc Zkb trivial ?_
 simp only[ZeT,Zb,EVA,seval,Zf,men]
 refine Za q ?_
 cases h:Zl8 a b with
 | nil =>
  simp only[List.take_nil,List.length_nil,List.isEmpty_nil,List.map_nil,EVA,seval]
  try rfl
 | cons x r =>
  simp only[List.take_succ_cons,List.take_zero,List.length_cons,List.length_nil,List.isEmpty_cons,List.map_cons,List.map_nil,EVA,seval]
  try rfl
end Go.Fd

/-
  NUMBERS OF LIBRARY FUNCTIONS IN THIS PROGRAM, as the guide's shelf lays them (printed by lay.py out of the kit's own command).
-/
namespace Go.Proofs
open Go.Shelf
def Tryz.lays212_ren:Go.Shelf.Ren:=⟨fun | 212=>271 | 263=>290 | 264=>291 | n=>n,fun | 46=>181 | 51=>216 | 146=>291 | 53=>218 | 148=>293 | n=>n,fun | n=>n⟩
theorem Tryz.lays212:Go.Proofs.Lays.n212 Tryz.prog Tryz.lays212_ren:={
  mixed:=by kernel_rfl,
  f212:=Tryz.func271.trans (congrArg some (by kernel_rfl)),
  f263:=Tryz.func290.trans (congrArg some (by kernel_rfl)),
  f264:=Tryz.func291.trans (congrArg some (by kernel_rfl)),
  t46:=Tryz.underlying181,
  a46:=Tryz.isAgg181,
  z46:=Tryz.sizeOf181,
  v46:=Tryz.zeroValue181,
  t51:=Tryz.underlying216,
  a51:=Tryz.isAgg216,
  z51:=Tryz.sizeOf216,
  v51:=Tryz.zeroValue216,
  t53:=Tryz.underlying218,
  a53:=Tryz.isAgg218,
  z53:=Tryz.sizeOf218,
  v53:=Tryz.zeroValue218,
  t146:=Tryz.underlying291,
  a146:=Tryz.isAgg291,
  z146:=Tryz.sizeOf291,
  v146:=Tryz.zeroValue291,
  t148:=Tryz.underlying293,
  a148:=Tryz.isAgg293,
  z148:=Tryz.sizeOf293,
  v148:=Tryz.zeroValue293 }
end Go.Proofs

/-
  TRANSLATIONS, THE PROGRAM: THE LIBRARY'S REPEAT, TIES, IDLE EDGES. Own work.
-/
namespace Go.Fd
open Go.RowKit
set_option maxRecDepth 20000
theorem Zvt(x y:Nat)(hx:x<=1000)(hy:y<=1000)(lvl:Nat)(S:Sto):Sem Proofs.Tryz.prog DF lvl [.tr (.v (.int .u64 x)),.tr (.v (.int .u64 y))] S (.tu [.tr (.v (.int .u64 0)),.tr (.v (.int .u64 (x*y:Nat)))]) S:=by
 have hxy:x*y<=1000*1000:=Nat.mul_le_mul hx hy
 have e1:x*y / 18446744073709551616=0:=Nat.div_eq_of_lt (by omega)
 have e2:x*y % 18446744073709551616=x*y:=Nat.mod_eq_of_lt (by omega)
 exact Zj8 (P:=Proofs.Tryz.prog) (xs:=[.int .u64 x,.int .u64 y]) (ys:=[.int .u64 0,.int .u64 (x*y:Nat)]) (Zdy (by kernel_rfl)) (fun v hv=>by
  rcases List.mem_cons.1 hv with h | h
  ·rw[h];rfl
  ·rw[List.mem_singleton.1 h];rfl) (fun w=>(Go.Proofs.Any.bits_Mul Proofs.Tryz.lays212 x y (by omega) (by omega) w).mono fun e w' ⟨h,h'⟩=>⟨by rw[h,e1,e2];rfl,h' ▸ Below.refl _ _⟩)
def rpL(N k:Nat):List Int:=List.replicate k (-1)++List.replicate (N-k) 0
theorem ZqV{N k:Nat}(h:k<=N):(rpL N k).length=N:=by simp [rpL];omega
theorem ZsG{N k:Nat}(h:k<=N):(rpL N k).take k++((rpL N k).take k).take (N-k)++(rpL N k).drop (k+min k (N-k))=rpL N (k+min k (N-k)):=by
 have e1:(rpL N k).take k=List.replicate k (-1):=by
  unfold rpL
  rw[List.take_append_of_le_length (by simp),List.take_of_length_le (by simp)]
 have e2:(rpL N k).drop (k+min k (N-k))=List.replicate (N-k-min k (N-k)) 0:=by
  unfold rpL
  rw[List.drop_append,List.drop_of_length_le (by simp),List.length_replicate,List.drop_replicate]
  simp
 rw[e1,e2,List.take_replicate,List.replicate_append_replicate]
 unfold rpL
 rw[Nat.min_comm (N-k) k,show N-(k+min k (N-k))=N-k-min k (N-k) by omega]
theorem Zos(N:Nat)(hN:N<=1000)(lvl:Nat)(S:Sto):Sem Proofs.Tryz.prog YK lvl [tI [-1],iI N] S (.ow 1 (rI (List.replicate N (-1))) true) S:=by
 refine Zc Zao trivial ?_
 have h0:¬ (N:Int)<0:=by omega
 have qm:=Zvt 1 N (by omega) hN
 rw[Nat.one_mul] at qm
 have h1:¬ (9223372036854775807:Int)<N:=by omega
 have f1:X3 .u64 (N:Int):=⟨by show (0:Int)<=N;omega,by show (N:Int)<=18446744073709551615;omega⟩
 have f2:X3 .i64 (N:Int):=by rw[Zd];omega
 simp only[XU,h0,List.length_cons,List.length_nil,EVA,seval,Zf,men]
 refine⟨⟨by decide,by decide⟩,f1,Za qm ?_⟩
 have tz:trv (.int .i64 0)=tv 0:=rfl
 have hrow:List.replicate N [tv 0]=rI (rpL N 0):=by simp [rpL]
 simp only[h1,tz,hrow,Int.toNat_natCast,EVA,seval]
 have hi:List.take N [[tv (-1)]]++List.drop (min 1 N) (rI (rpL N 0))=rI (rpL N (min 1 N)):=by
  cases N with
  | zero=>rfl
  | succ n =>
   have e:min 1 (n+1)=1:=by omega
   rw[e]
   simp [rpL,List.replicate_succ]
 rw[hi]
 refine⟨f2,by omega,by rw[ZqV (Nat.zero_le _)];exact Nat.le_refl _,of_eq_true Zbt,?_⟩
 refine Zx4 (α:=Nat×Nat) (fun x=>N-x.1) (fun x=>[(8,iI x.1)]) (fun x=>[(960,.ar 1 (rI (rpL N x.1)) true N x.2)]) (fun x=>x.1<=N/\(0<N->0<x.1)) (min 1 N,1) (by simp only[EVA,seval]) (by (simp only[EVA,seval]) <;> rfl) ⟨by omega,by omega⟩ ?_
 rintro⟨k,v⟩ ⟨hk,hk0⟩
 have hk:k<=N:=hk
 have hk0:0<N->0<k:=hk0
 have hrl:=ZqV hk
 simp only[List.length_map,EVA,seval]
 refine Zk (fun hlt=>?_) (fun hge=>?_)
 ·have hkN:k<N:=by omega
  have ck:cut (rI (rpL N k)) 0 k=rI ((rpL N k).take k):=by simp [cut]
  have l1:(rI ((rpL N k).take k)).length=k:=by rw[List.length_map,List.length_take,hrl];omega
  have hrow2:List.take k (rI (rpL N k))++List.take (N-k) (rI ((rpL N k).take k))++List.drop (k+min k (N-k)) (rI (rpL N k))=rI (rpL N (k+min k (N-k))):=by
   rw[<-ZsG hk]
   simp only[List.map_append,List.map_take,List.map_drop]
  simp only[Nat.sub_zero,ck,l1,hrl,Zbt,Zbu,hrow2,EVA,seval]
  exact⟨hk,by omega,hk,hk,by omega,hk,by rw[Zd];omega,(k+min k (N-k),v+1),by show N-(k+min k (N-k))<N-k;have:=hk0 (by omega);omega,by rw[show (k:Int)+(min k (N-k):Nat)=((k+min k (N-k):Nat):Int) by omega],by show k+min k (N-k)<=N;omega,fun _=>by show 0<k+min k (N-k);have:=hk0 (by omega);omega⟩
 ·have hkN:k=N:=by omega
  subst hkN
  have e:rpL k k=List.replicate k (-1):=by simp [rpL]
  rw[e]
  exact⟨by simp,rfl⟩
theorem ZsH{k:Nat}{id:Oid}{p:Pth}{off len s:Nat}{cap:Option Nat}{st:St}{F:IV->St->Prop}(h:id.1≠st.lvl):Zfv k (.hd id p off len cap s) st F=F (.hd id p off len cap s) st:=if_neg h
theorem ZdS(p:Int)(ns:List Int)(h:p<ns.length)(lvl:Nat)(S:Sto):Sem Proofs.Tryz.prog XJ lvl [iI p,.ta [Tr.sl (rI ns)]] S (iI (mvP ns p)) S:=by
 refine Zc Zfk trivial ?_
 unfold mvP
 by_cases h0:p<0
 ·have e:¬ 0<=p:=by omega
  rw[if_pos h0]
  simp only[WU,e,EVA,seval]
  try rfl
 ·have e:0<=p:=by omega
  rw[if_neg h0]
  obtain⟨k,rfl⟩:=Int.eq_ofNat_of_zero_le e
  have hk:k<ns.length:=by omega
  have ga:=Jo hk
  simp only[WU,e,ga,EVA,seval]
  try rfl
theorem ZdT(a b:TBigraph)(es:List Int)(x y:Int)(ha:0<=a.edges/\a.edges<=8)(hab:a.edges=b.edges)(hes:es.length=a.edges.toNat)(hx:0<=x/\x<=1000)(hy:0<=y/\y<=1000)(lvl:Nat)(S:Sto)(idB idR:Oid)(hB:idB.1<lvl)(hR:idR.1<lvl)(sB:S idB=some (.bx [.hd idR [] 0 es.length none es.length]))(sR:S idR=some (.ar 1 (rI es) true es.length 0)) :
  Sem Proofs.Tryz.prog XI lvl [iI x,iI y,.ta (Zb a),.ta (Zb b),.ab idB 0] S (iB (ZgR a.edges es x y).isSome) (ZN S idR (.ar 1 (rI ((ZgR a.edges es x y).getD es)) true es.length 0)):=by
 have nB:idB.1≠lvl:=by omega
 have nR:idR.1≠lvl:=by omega
 refine Zc Zfj trivial ?_
 unfold ZgR
 rw[hab] at ha hes ⊢
 have self:=Qs sR
 by_cases h1:b.edges<=x
 ·rw[if_pos (.inl h1)]
  by_cases h2:x=y
  ·have e:=eq_true h2
   rw[if_pos h2,Option.getD_some,self]
   simp only[JU,Zb,hab,h1,e,EVA,seval]
   try rfl
  ·have e:=eq_false h2
   rw[if_neg h2,Option.getD_none,self]
   simp only[JU,Zb,hab,h1,e,EVA,seval]
   try rfl
 by_cases h3:b.edges<=y
 ·have h2:¬ x=y:=by omega
  have e:=eq_false h2
  rw[if_pos (.inr h3),if_neg h2,Option.getD_none,self]
  simp only[JU,Zb,hab,h1,h3,e,EVA,seval]
  try rfl
 rw[if_neg (show ¬ (b.edges<=x\/b.edges<=y) by omega)]
 obtain⟨k,rfl⟩:=Int.eq_ofNat_of_zero_le hx.1
 have hk:k<es.length:=by omega
 have ga:=Jo hk
 simp only[Int.toNat_natCast]
 by_cases h4:0<=g0 es k
 ·have h4n:¬ g0 es k<0:=by omega
  rw[if_pos (.inl h4)]
  by_cases h5:g0 es k=y
  ·have e:=eq_true h5
   rw[if_pos h5,Option.getD_some,self]
   simp only[JU,Zb,hab,h1,h3,ZS nB,ZS nR,sB,sR,ga,hk,h4n,e,EVA,seval]
   try rfl
  ·have e:=eq_false h5
   rw[if_neg h5,Option.getD_none,self]
   simp only[JU,Zb,hab,h1,h3,ZS nB,ZS nR,sB,sR,ga,hk,h4n,e,EVA,seval]
   try rfl
 have h4n:g0 es k<0:=by omega
 have c1:cut (rI es) 0 es.length=rI es:=JA (by simp)
 simp only[JU,Zb,hab,h1,h3,ZS nB,ZS nR,sB,sR,ga,hk,h4n,c1,List.length_map,EVA,seval,Zf,men]
 refine Za (Zbq es y (by omega)) ?_
 by_cases h6:y∈es
 ·have h5:¬ g0 es k=y:=by omega
  have e:=eq_false h5
  rw[if_pos (.inr h6),if_neg h5,Option.getD_none,self]
  simp only[h6,decide_true,ZS nB,ZS nR,sB,sR,ga,hk,e,EVA,seval]
  try rfl
 ·rw[if_neg (show ¬ (0<=g0 es k\/y∈es) from fun h=>h.elim h4 h6),Option.getD_some]
  have hne:idB≠idR:=fun g=>by rw[g,sR] at sB;cases sB
  have sp:=Zu8 (y:=es) (j:=k) (v:=y) hk
  have ga2:(rI (es.set k y))[k]? = some [tv y]:=by
   have:=Jo (l:=es.set k y) (i:=k) (by rw[List.length_set];exact hk)
   rw[ZnZ hk,if_pos rfl] at this
   exact this
  have sB2:ZN S idR (.ar 1 (rI (es.set k y)) true es.length 0) idB=some (.bx [.hd idR [] 0 es.length none es.length]):=by
   unfold ZN
   rw[if_neg hne];exact sB
  simp only[h6,decide_false,ZS nB,ZS nR,sB,sR,ga,hk,sp,Wl nR,Xc,sB2,ga2,EVA,seval]
  try rfl
theorem Zjz(a b:TBigraph)(es:List Int)(hb:small b)(hl:es.length<=1000)(hid:∀ j,j<es.length->g0 (Vr es j) j<0->idle b (Zex es j:Nat))(lvl:Nat)(S:Sto)(id:Oid)(hR:id.1<lvl)(sR:S id=some (.ar 1 (rI es) true es.length 0)) :
  Sem Proofs.Tryz.prog XK lvl [cB a,cB b,.hd id [] 0 es.length none es.length] S (.tu [.hd id [] 0 es.length none es.length,iB true]) (ZN S id (.ar 1 (rI (ZpS es)) true es.length 0)):=by
 have hne:id.1≠lvl:=by omega
 refine Zc Zfl (by simp only[low,men,Zf];exact⟨hR,trivial,trivial⟩) ?_
 simp only[ZaI,Zb,EVA,seval]
 refine Jp (α:=Unit) es.length (fun k _=>⟨lvl,[(2,.hd id [] 0 es.length none es.length),(4,.ta (Zb b)),(11,iI es.length),(12,iI k)],[],ZN S id (.ar 1 (rI (Vr es k)) true es.length 0)⟩) (fun _ _=>True) () ⟨by simp only[YN hne,EVA,seval],by (simp only[Qs sR,Vr,Zb,EVA,seval]) <;> rfl⟩ trivial ?_
 intro j _ hj _
 simp only[EVA,seval]
 refine Zk (fun hlt=>?_) (fun hge=>?_)
 ·have hja:j<es.length:=by omega
  have ga:=Jo (l:=Vr es j) (i:=j) (by rw[X0];exact hja)
  by_cases hn:0<=g0 (Vr es j) j
  ·simp only[ZS hne,Xc,ga,hja,hn,YN hne,EVA,seval]
   exact⟨by rw[Zd];omega,Ze () hja (by rw[Zm6 (by omega)];rfl) trivial⟩
  ·have hn2:g0 (Vr es j) j<0:=by omega
   obtain⟨q1,q2,q3⟩:=ZhU hja hn2
   simp only[ZS hne,Xc,ga,hja,hn,EVA,seval]
   refine Zv (α:=Unit) (Zex es j) (fun m _=>[(9,iI m)]) (fun _ _=>[]) (fun _ _=>True) () (by simp only[YN hne,EVA,seval]) (by (simp only[EVA,seval]) <;> rfl) trivial ?_
   intro m _ hm _
   have c1:cut (rI (Vr es j)) 0 es.length=rI (Vr es j):=JA (by rw[List.length_map,X0])
   simp only[ZS hne,Xc,c1,X0,List.length_map,EVA,seval,Zf,men]
   refine Za (Zbq (Vr es j) (m:Int) (by rw[X0];omega)) ?_
   by_cases hk2:m<Zex es j
   ·have hin:(m:Int)∈Vr es j:=q3 m hk2
    simp only[hin,decide_true,YN hne,EVA,seval]
    exact⟨by rw[Zd];omega,Ze () hk2 rfl trivial⟩
   ·have hkv:m=Zex es j:=by omega
    subst hkv
    have q:=ZnI b (Zex es j:Nat) hb
    rw[Zy (hid j hja hn2)] at q
    simp only[Zb,List.map_cons,List.map_nil] at q
    have sp:=Zu8 (y:=Vr es j) (j:=j) (v:=((Zex es j:Nat):Int)) (by rw[X0];exact hja)
    simp only[q1,decide_false,Zb,EVA,seval,Zf,men]
    refine Za q ?_
    simp only[ZS hne,Wl hne,Wa,Xc,ga,sp,hja,YN hne,EVA,seval]
    exact⟨by rw[Zd];omega,Ze () hja (by rw[ZkG hn2];rfl) trivial⟩
 ·have:j=es.length:=by omega
  subst this
  rw[ZsH hne]
  simp only[EVA,seval]
  try rfl
end Go.Fd

/-
  TRANSLATIONS, THE PROGRAM: THE EDGES OF A TRANSLATION. Own work.
-/
namespace Go.Fd
set_option maxRecDepth 20000
theorem ZsI{l:List Int}{p:Int}{j:Nat}(h:p<j):mvP (l.take j) p=mvP l p:=by
 unfold mvP
 split
 ·rfl
 ·exact ZpT (by omega)
theorem Zvu{a b:TBigraph}{l:List Int}{n j m:Nat}(ho:Q8 n l)(hj:j<n)(hm:g0 l j=(m:Int))(hp:(JV a j).parent<j):Zev a b (l.take j) m↔(JV a j).control=(JV b m).control/\mvP l (JV a j).parent=(JV b m).parent:=by
 have hjl:j<l.length:=by rw[ho.1];exact hj
 have htl:(l.take j).length=j:=by rw[List.length_take];omega
 unfold Zev
 rw[htl,Int.toNat_natCast,ZsI hp]
 refine⟨fun h=>h.2,fun h=>⟨fun hmem=>?_,h⟩⟩
 obtain⟨i,hi,hie⟩:=List.getElem_of_mem hmem
 rw[htl] at hi
 rw[List.getElem_take] at hie
 have hd:=ZlM ho
 have e1:g0 l j=l[j]:=by simp [hjl]
 exact List.pairwise_iff_getElem.1 hd i j (by omega) hjl hi (by rw[hie,<-hm,e1])
set_option maxHeartbeats 2000000 in
theorem Zma(sig:List TControl)(a b:TBigraph)(l:List Int)(hA:bigOK sig a)(hB:bigOK sig b)(hl:l.length<=4294967296)(lvl:Nat)(S:Sto) :
  Sem Proofs.Tryz.prog WN lvl [cB a,cB b,tI l] S (.tu [.ow 1 (rI ((trT a b l).getD [])) true,iB (trT a b l).isSome]) S:=by
 have sA:=hA.small
 have sB:=hB.small
 have q1:=ZhZ a.outer b.outer (by have:=sA.outer;omega)
 have q2:=QG a (by have:=sA.inner;omega)
 have q3:=QG b (by have:=sB.inner;omega)
 have q4:=ZhZ (inn a) (inn b) (by rw[Zar];have:=sA.inner;omega)
 have q5:=Zk2 a.nodes.length l hl
 simp only[Zb,List.map_cons,List.map_nil] at q2 q3
 refine Zc Zg6 (by simp [low,men,Zf]) ?_
 by_cases h1:a.roots=b.roots
 rotate_left
 ·have e:=eq_false h1
  rw[Zfd fun h=>h1 h.1.1]
  simp only[Dm,Zb,e,Option.isSome_none,Option.getD_none,EVA,seval]
  try rfl
 have e1:=eq_true h1
 simp only[Dm,Zb,e1,EVA,seval,Zf,men]
 refine Za q1 ?_
 by_cases h2:a.outer=b.outer
 rotate_left
 ·rw[Zg h2,Zfd fun h=>h2 h.1.2.2.2.2.1]
  simp only[Option.isSome_none,Option.getD_none,EVA,seval]
  try rfl
 rw[Zy h2]
 simp only[EVA,seval,Zf,men]
 refine Za q2 ?_
 simp only[EVA,seval,Zf,men]
 refine Za q3 ?_
 simp only[EVA,seval,Zf,men]
 refine Za q4 ?_
 by_cases h3:inn a=inn b
 rotate_left
 ·rw[Zg h3,Zfd fun h=>h3 h.1.2.2.2.2.2]
  simp only[Option.isSome_none,Option.getD_none,EVA,seval]
  try rfl
 rw[Zy h3]
 by_cases h4:a.edges=b.edges
 rotate_left
 ·have e:=eq_false h4
  rw[Zfd fun h=>h4 h.1.2.1]
  simp only[e,Option.isSome_none,Option.getD_none,EVA,seval]
  try rfl
 have e4:=eq_true h4
 by_cases h5:a.sites.length=b.sites.length
 rotate_left
 ·have e:((a.sites.length:Int)=b.sites.length)=False:=eq_false (by omega)
  rw[Zfd fun h=>h5 h.1.2.2.2.1]
  simp only[e4,e,List.length_map,Option.isSome_none,Option.getD_none,EVA,seval]
  try rfl
 have e5:((a.sites.length:Int)=b.sites.length)=True:=eq_true (by omega)
 by_cases h6:a.nodes.length=b.nodes.length
 rotate_left
 ·have e:((a.nodes.length:Int)=b.nodes.length)=False:=eq_false (by omega)
  rw[Zfd fun h=>h6 h.1.2.2.1]
  simp only[e4,e5,e,List.length_map,Option.isSome_none,Option.getD_none,EVA,seval]
  try rfl
 have e6:((a.nodes.length:Int)=b.nodes.length)=True:=eq_true (by omega)
 have hal:XY a b:=⟨h1,h4,h6,h5,h2,h3⟩
 simp only[e4,e5,e6,List.length_map,EVA,seval,Zf,men]
 refine Za q5 ?_
 by_cases ho:Q8 a.nodes.length l
 rotate_left
 ·rw[Zg ho,Zfd fun h=>ho h.2]
  simp only[Option.isSome_none,Option.getD_none,EVA,seval]
  try rfl
 rw[Zy ho,ZqR hal ho]
 have he:=hA.edges
 have hll:l.length=a.nodes.length:=ho.1
 have nA:=sA.nodes
 have nS:=sA.sites
 have nI:=sA.inner
 have q6:=Zos a.edges.toNat (by omega)
 rw[show ((a.edges.toNat:Nat):Int)=a.edges by omega] at q6
 simp only[EVA,seval,Zf,men]
 refine Za q6 ?_
 simp only[List.length_map,List.length_replicate,EVA,seval]
 obtain⟨N,hN⟩:∃ N,N=a.edges.toNat:=⟨_,rfl⟩
 rw[<-hN]
 refine Zv (α:=Unit) a.nodes.length (fun j _=>[(83,iI j)]) (fun j _=>[(2464,.ar 1 (rI ((edJ a b l j).getD [])) true N 0)]) (fun j _=>∃ es,edJ a b l j=some es) () (by simp only[EVA,seval]) (by (simp only[edJ,Option.getD_some,hN,EVA,seval]) <;> rfl) ⟨_,rfl⟩ ?_
 intro j _ hj ⟨es,hz⟩
 rw[hz,Option.getD_some]
 have hesl:=Zew hz
 rw[<-hN] at hesl
 simp only[List.length_map,EVA,seval]
 refine Zk (fun hlt=>?_) (fun hge=>?_)
 ·have hja:j<a.nodes.length:=by omega
  have hjl:j<l.length:=by omega
  have hgm:=ZdJ ho (VX hjl)
  obtain⟨m,hm⟩:=Int.eq_ofNat_of_zero_le hgm.1
  have hmb:m<b.nodes.length:=by omega
  have gx:=Jo hjl
  have hpar:=ZgP hA hja
  have ga:=Xh (c:=ZK) hja
  have gb:=Xh (c:=ZK) hmb
  have hfi:=Zvu (a:=a) (b:=b) ho hja hm hpar
  have hno:¬ Zev a b (l.take j) m->(ZnW a b l).map ZpS=none:=fun h=>by
   rw[<-ZqR hal ho]
   exact ZqQ (ZyY hz (by rw[hm];exact h)) (by omega)
  rw[hm] at gx
  rw[Jr hja,Jr hmb] at hfi
  rw[Jr hja] at hpar
  have qp:=ZdS a.nodes[j].parent l (by omega)
  by_cases hc:a.nodes[j].control=b.nodes[m].control
  rotate_left
  ·have e:=eq_false hc
   rw[hno fun h=>hc (hfi.1 h).1]
   simp only[gx,ga,gb,ZK,e,Option.isSome_none,Option.getD_none,EVA,seval]
   try rfl
  have ec:=eq_true hc
  simp only[gx,ga,gb,ZK,ec,EVA,seval,Zf,men]
  refine Za qp ?_
  by_cases hq:mvP l a.nodes[j].parent=b.nodes[m].parent
  rotate_left
  ·have e:=eq_false hq
   rw[hno fun h=>hq (hfi.1 h).2]
   simp only[e,Option.isSome_none,Option.getD_none,EVA,seval]
   try rfl
  have eq:=eq_true hq
  have hf:=hfi.2 ⟨hc,hq⟩
  have hy:=Zvp hz (by rw[hm];exact hf)
  rw[hm,Int.toNat_natCast] at hy
  have hll2:=ZdK hA hB hja hmb (by rw[Jr hja,Jr hmb];exact hc)
  have hle:=Znt hA hja
  have hr1:=ZdR hA hja
  have hr2:=ZdR hB hmb
  rw[Jr hja,Jr hmb] at hy hll2
  rw[Jr hja] at hr1 hle
  rw[Jr hmb] at hr2
  simp only[eq,List.length_map,EVA,seval]
  refine Zv (α:=Unit) a.nodes[j].links.length (fun k _=>[(113,iI k)]) (fun k _=>[(2464,.ar 1 (rI (Zb1 a.edges es a.nodes[j].links b.nodes[m].links k)) true N 0)]) (fun k _=>∃ z,WB a.edges es a.nodes[j].links b.nodes[m].links k=some z) () (by simp only[EVA,seval]) (by (simp only[Zb1,EVA,seval]) <;> rfl) ⟨es,rfl⟩ ?_
  intro k _ hk ⟨z,hzk⟩
  rw[Qb hzk]
  simp only[EVA,seval]
  refine Zk (fun hlt=>?_) (fun hge=>?_)
  ·have hka:k<a.nodes[j].links.length:=by omega
   have hkb:k<b.nodes[m].links.length:=by omega
   have gk:=Jo hka
   have gk2:=Jo hkb
   have hzl:z.length=N:=by rw[XZ hzk,hesl]
   have q:=fun S' s1 s2=>ZdT a b z (g0 a.nodes[j].links k) (g0 b.nodes[m].links k) he h4 (by rw[hzl,hN]) (hr1 _ (VX hka)) (hr2 _ (VX hkb)) (lvl+1) S' (lvl,256) (lvl,2464) (Nat.lt_succ_self _) (Nat.lt_succ_self _) s1 s2
   rw[hzl] at q
   have hsucc:=Zey hzk
   simp only[gk,gk2,EVA,seval]
   refine Zbr 2464 _ (q _ ?_ ?_) ?_
   ·rw[J5];rfl
   ·rw[J5];rfl
   cases ht:ZgR a.edges z (g0 a.nodes[j].links k) (g0 b.nodes[m].links k) with
   | none =>
    rw[ht] at hsucc
    have hbad:(ZnW a b l).map ZpS=none:=by
     rw[<-ZqR hal ho]
     refine ZqQ (j:=j+1) ?_ (by omega)
     rw[hy]
     exact ZbR hsucc (by omega)
    rw[hbad]
    simp only[Option.isSome_none,Option.getD_none,EVA,seval]
    try rfl
   | some w =>
    rw[ht] at hsucc
    simp only[Option.isSome_some,Option.getD_some,EVA,seval]
    exact⟨by rw[Zd];omega,Ze () hka (by rw[Qb hsucc];rfl) ⟨w,hsucc⟩⟩
  ·have hkn:k=a.nodes[j].links.length:=by omega
   subst hkn
   have hw:edJ a b l (j+1)=some z:=by rw[hy];exact hzk
   exact⟨by rw[Zd];omega,Ze () hja (by rw[hw];rfl) ⟨z,hw⟩⟩
 ·have hjn:j=a.nodes.length:=by omega
  subst hjn
  have hpre:ZnW a b l=ZmX a b l es:=by unfold ZnW;rw[hz];rfl
  rw[hpre]
  refine Zv (α:=Unit) a.sites.length (fun j _=>[(132,iI j)]) (fun _ _=>[]) (fun j _=>∀ i,i<j->mvP l (g0 a.sites i)=g0 b.sites i) () (by simp only[EVA,seval]) (by (simp only[EVA,seval]) <;> rfl) (fun i hi=>absurd hi (Nat.not_lt_zero i)) ?_
  intro j _ hj hS
  simp only[List.length_map,EVA,seval]
  refine Zk (fun hlt=>?_) (fun hge=>?_)
  ·have hja:j<a.sites.length:=by omega
   have hjb:j<b.sites.length:=by omega
   have gx:=Jo hja
   have gy:=Jo hjb
   have qp:=ZdS (g0 a.sites j) l (by have:=ZqS hA _ (VX hja);omega)
   simp only[gx,EVA,seval,Zf,men]
   refine Za qp ?_
   by_cases h:mvP l (g0 a.sites j)=g0 b.sites j
   ·have e:=eq_true h
    simp only[gy,e,EVA,seval]
    exact⟨by rw[Zd];omega,Ze () hja rfl (fun i hi=>by
     by_cases e:i=j
     ·subst e;exact h
     ·exact hS i (by omega))⟩
   ·have e:=eq_false h
    have hne:¬ a.sites.map (mvP l)=b.sites:=fun g=>h (by
     rw[<-g]
     show _=(a.sites.map (mvP l)).getD j 0
     simp [hja])
    unfold ZmX
    rw[if_neg hne]
    simp only[gy,e,Option.isSome_none,Option.getD_none,Option.map_none,EVA,seval]
    try rfl
  have hj1:j=a.sites.length:=by omega
  subst hj1
  have heq:a.sites.map (mvP l)=b.sites:=List.ext_getElem (by rw[List.length_map];exact h5) fun i h1 h2=>by
   rw[List.length_map] at h1
   have:=hS i h1
   rw[List.getElem_map]
   simpa [h1,h2] using this
  have hend:ZmX a b l es=UN a.edges es (lnk a) (lnk b):=by unfold ZmX;rw[if_pos heq]
  rw[hend] at hpre ⊢
  have hla:(lnk a).length=a.inner.length:=by simp [lnk]
  have hlb:(lnk b).length=b.inner.length:=by simp [lnk]
  have hil:=Zk3 hal
  refine Zv (α:=Unit) a.inner.length (fun k _=>[(150,iI k)]) (fun k _=>[(2464,.ar 1 (rI (Zb1 a.edges es (lnk a) (lnk b) k)) true N 0)]) (fun k _=>∃ z,WB a.edges es (lnk a) (lnk b) k=some z) () (by simp only[EVA,seval]) (by (simp only[Zb1,EVA,seval]) <;> rfl) ⟨es,rfl⟩ ?_
  intro k _ hk ⟨z,hzk⟩
  rw[Qb hzk]
  have hzl:z.length=N:=by rw[XZ hzk,hesl]
  simp only[EVA,seval]
  refine Zk (fun hlt=>?_) (fun hge=>?_)
  ·have hka:k<a.inner.length:=by omega
   have hkb:k<b.inner.length:=by omega
   have gk:=Xh (c:=Z3) hka
   have gk2:=Xh (c:=Z3) hkb
   have e1:g0 (lnk a) k=a.inner[k].link:=by simp [lnk,hka]
   have e2:g0 (lnk b) k=b.inner[k].link:=by simp [lnk,hkb]
   have q:=fun S' s1 s2=>ZdT a b z (g0 (lnk a) k) (g0 (lnk b) k) he h4 (by rw[hzl,hN]) (Zjy hA _ (VX (by omega))) (Zjy hB _ (VX (by omega))) (lvl+1) S' (lvl,256) (lvl,2464) (Nat.lt_succ_self _) (Nat.lt_succ_self _) s1 s2
   have hsucc:=Zey hzk
   rw[e1,e2] at q hsucc
   rw[hzl] at q
   simp only[gk,gk2,Z3,EVA,seval]
   refine Zbr 2464 _ (q _ ?_ ?_) ?_
   ·rw[J5];rfl
   ·rw[J5];rfl
   cases ht:ZgR a.edges z a.inner[k].link b.inner[k].link with
   | none =>
    rw[ht] at hsucc
    have hbad:UN a.edges es (lnk a) (lnk b)=none:=ZbR hsucc (by omega)
    rw[hbad]
    simp only[Option.isSome_none,Option.getD_none,Option.map_none,EVA,seval]
    try rfl
   | some w =>
    rw[ht] at hsucc
    simp only[Option.isSome_some,Option.getD_some,EVA,seval]
    exact⟨by rw[Zd];omega,Ze () hka (by rw[Qb hsucc];rfl) ⟨w,hsucc⟩⟩
  ·have hkn:k=a.inner.length:=by omega
   subst hkn
   have hfz:UN a.edges es (lnk a) (lnk b)=some z:=by unfold UN;rw[hla];exact hzk
   rw[hfz] at hpre ⊢
   have pok:pairOK sig a b:=⟨hA,hB,hal⟩
   have q7:=fun S' s1=>Zjz a b z sB (by omega) (fun j hj hn=>Zp0 pok ho hpre hj hn) (lvl+1) S' (lvl,2464) (Nat.lt_succ_self _) s1
   simp only[cB,Zb,List.map_cons,List.map_nil] at q7
   rw[hzl] at q7
   simp only[EVA,seval]
   refine Zbr 2464 _ (q7 _ ?_) ?_
   ·rw[J5];rfl
   simp only[List.length_map,EVA,seval]
   show N=(Vr z z.length).length
   rw[X0,hzl]
end Go.Fd

/-
  TRANSLATIONS, THE PROGRAM: ALL THAT BEGIN WITH SOME. Own work.
-/
namespace Go.Fd
set_option maxRecDepth 20000
section
variable {C:Zl} {lvl:Nat} {env:List (Nat×IV)} {loc:List (Nat×Ob)} {out:Sto} {st:St} {Q:Ex->St->Prop} {d:Option Nat} {K:St->Prop}
def ZyZ(ce:List (Nat×IV))(co:List (Nat×Ob))(o:Sto)(s:St):St:=⟨s.lvl,pts ce s.env,Zs5 co s.loc,o⟩
theorem Ztu{ce:List (Nat×IV)}{co:List (Nat×Ob)}{o:Sto}:ZyZ ce co o ⟨lvl,env,loc,out⟩=⟨lvl,pts ce env,Zs5 co loc,o⟩:=(rfl)
theorem Zvv{α:Type}{ks js:List Nat}{c:C2}(N:Nat)(ce:Nat->α->List (Nat×IV))(co:Nat->α->List (Nat×Ob))(oo:Nat->α->Sto)(A:Nat->α->Prop)(x0:α)
  (h1:clean ks js st) (h0:fgt ks js st=ZyZ (ce 0 x0) (co 0 x0) (oo 0 x0) (fgt ks js st)) (hA:A 0 x0)
  (hs:∀ k x,k<=N->A k x->wp C c (ZyZ (ce k x) (co k x) (oo k x) (fgt ks js st)) (ZcW ks js (Zy9 N (fun k x=>ZyZ (ce k x) (co k x) (oo k x) (fgt ks js st)) A (N-k)) Q)):wp C (.lp ks js c) st Q :=
 Jp N (fun k x=>ZyZ (ce k x) (co k x) (oo k x) (fgt ks js st)) A x0 ⟨h1,h0⟩ hA hs
theorem ZqW{β:Type}{L0:Nat}{D:β->List (Nat×Ob)}{acc:β}{base:Sto}{fid:FuncId}{imp:Bool}{args:List IV}(acc':β)(r:IV)(hne:L0≠lvl)
  (h:∀ B,C fid (lvl+1) args (Zu L0 (D acc) B) r (Zu L0 (D acc') B))
  (hk:freshK (keyOf d) loc (impv imp lvl (keyOf d) 0 r).2.length/\K ⟨lvl,ptd d (impv imp lvl (keyOf d) 0 r).1 env,addO (keyOf d) (impv imp lvl (keyOf d) 0 r).2 loc,Zu L0 (D acc') base⟩) :
  kcy C fid imp lvl env loc (Zu L0 (D acc) base) d K args :=
 Xs loc (Zu L0 (D acc') base) (fun i hi=>by rw[ZkI (fun e=>hne (by omega)),ZkI (fun e=>hne (by omega))]) (by
  rw[ZhW (fun e=>hne e.symm),ZhW (fun e=>hne e.symm)]
  exact h _) hk
end
theorem ZqX(l:List Int)(hl:l.length<=4294967296)(lvl:Nat)(S:Sto):Sem Proofs.Tryz.prog Vc lvl [tI l] S (.cs (rI l)) S:=by
 refine Zc Zbd trivial ?_
 have c1:cut (rI l) 0 (l.length-0)=rI l:=by rw[Nat.sub_zero];exact JA (by simp)
 simp only[Wx,List.length_map,EVA,seval]
 exact⟨fun h=>h.elim,by omega,by rw[c1]⟩
noncomputable def fT(a b:TBigraph)(r:Nat)(ns:List Int)(m:Int):List (List Int):=@ite _ (Zev a b ns m) (Classical.propDecidable _) (Zfo a b r (ns++[m])) []
theorem ZqY{a b:TBigraph}{r:Nat}{ns:List Int}:Zfo a b (r+1) ns=jnL (fT a b r ns) b.nodes.length:=by
 rw[Zfo]
 rfl
theorem ZDg{a b:TBigraph}{r:Nat}{ns:List Int}{m:Int}(h:¬ Zev a b ns m):fT a b r ns m=[]:=if_neg h
theorem Zy0{a b:TBigraph}{r:Nat}{ns:List Int}{m:Int}(h:Zev a b ns m):fT a b r ns m=Zfo a b r (ns++[m]):=if_pos h
theorem Zvw{β:Type}{m:Bool}{x:List β}:(tkB m x).length<=x.length:=by
 cases m
 ·show (x.take 1).length<=_
  rw[List.length_take];omega
 ·exact Nat.le_refl _
set_option maxHeartbeats 1000000 in
theorem ZaL(sig:List TControl)(a b:TBigraph)(hA:bigOK sig a)(hB:bigOK sig b)(more:Bool)(yid:FuncId)(L0 kb:Nat)(D:List (List Int)->List (Nat×Ob))
  (hy:∀(base:Sto) (acc:List (List Int)) (x:List Int) (lvl:Nat),L0<lvl->x.length=a.nodes.length->acc.length<=100000->(more=false->acc=[])->Sem Proofs.Tryz.prog yid lvl [tI x,.ab (L0,kb) 0] (Zu L0 (D acc) base) (iB more) (Zu L0 (D (acc++[x])) base)) :
  ∀(r:Nat) (ns:List Int) (acc:List (List Int)) (base:Sto) (lvl:Nat),ns.length+r=a.nodes.length->L0<lvl->(more=false->acc=[])->acc.length+(Zfo a b r ns).length<=100000 ->
   Sem Proofs.Tryz.prog Yv lvl [cB a,cB b,tI ns,.fn yid [.ab (L0,kb) 0]] (Zu L0 (D acc) base) (iB (more || (Zfo a b r ns).isEmpty)) (Zu L0 (D (acc++tkB more (Zfo a b r ns))) base)
 | 0,ns,acc,base,lvl,hr,hL,hm,hlen=>by
  have nA:=hA.small.nodes
  have hk:ns.length=a.nodes.length:=by omega
  have hne:L0≠lvl:=by omega
  have q:=Zma sig a b ns hA hB (by omega)
  simp only[cB,Zb,List.map_cons,List.map_nil] at q
  refine Zc UB trivial ?_
  rw[Zfo] at hlen ⊢
  simp only[Q4,Zb,hk,List.length_map,EVA,seval,Zf,men]
  refine Za q ?_
  by_cases hs:(trT a b ns).isSome=true
  ·rw[if_pos hs] at hlen ⊢
   rw[hs]
   simp only[EVA,seval]
   refine ZqW (acc++[ns]) (iB more) hne (fun B=>hy B acc ns (lvl+1) (by omega) hk (by simp at hlen;omega) hm) ?_
   have e1:(more || [ns].isEmpty)=more:=by cases more <;> rfl
   have e2:tkB more [ns]=[ns]:=by cases more <;> rfl
   rw[e1,e2]
   simp only[EVA,seval]
   try rfl
  ·have hs2:(trT a b ns).isSome=false:=by simpa using hs
   rw[if_neg hs,hs2,Zjr,List.append_nil]
   have e1:(more || ([]:List (List Int)).isEmpty)=true:=by cases more <;> rfl
   rw[e1]
   simp only[EVA,seval]
   try rfl
 | r+1,ns,acc,base,lvl,hr,hL,hm,hlen=>by
  have nA:=hA.small.nodes
  have nB:=hB.small.nodes
  have hk:ns.length<a.nodes.length:=by omega
  have hne:L0≠lvl:=by omega
  have hkn:((ns.length:Int)=a.nodes.length)=False:=eq_false (by omega)
  have hfi0:(False->kb∈([]:List Nat))=True:=eq_true fun h=>h.elim
  obtain⟨f,hf⟩:∃ f,f=fT a b r ns:=⟨_,rfl⟩
  have hX:Zfo a b (r+1) ns=jnL f b.nodes.length:=by rw[hf];exact ZqY
  rw[hX] at hlen ⊢
  have ga:=Xh (c:=ZK) hk
  have hpar:=ZgP hA hk
  rw[Jr hk] at hpar
  obtain⟨P,hP⟩:∃ P,P=mvP ns a.nodes[ns.length].parent:=⟨_,rfl⟩
  refine Zc UB trivial ?_
  simp only[Q4,Zb,hkn,ga,ZK,List.length_map,EVA,seval]
  refine Zk (fun hp0=>?_) (fun hp0=>?_)
  case' refine_1 =>
   obtain⟨p,hp⟩:=Int.eq_ofNat_of_zero_le hp0
   have hpl:p<ns.length:=by omega
   have gp:=Jo hpl
   have hPp:g0 ns p=P:=by
    rw[hP,hp]
    unfold mvP
    rw[if_neg (by omega),Int.toNat_natCast]
   rw[hp]
   simp only[gp,hPp,Int.toNat_natCast,EVA,seval]
  case' refine_2 =>
   have hPp:a.nodes[ns.length].parent=P:=by
    rw[hP]
    unfold mvP
    rw[if_pos (by omega)]
   rw[hPp]
  all_goals
   refine Zvv (α:=Unit) b.nodes.length (fun j _=>[(48,iI j)]) (fun _ _=>[]) (fun j _=>Zu L0 (D (acc++tkB more (jnL f j))) base) (fun j _=>more=false->jnL f j=[]) () (by simp only[hne,hfi0,EVA,seval,men]) (by (simp only[Ztu,Zm7,Zjr,List.append_nil,EVA,seval]) <;> rfl) (fun _=>rfl) ?_
   intro j _ hj hA2
   simp only[Ztu,EVA,seval]
   refine Zk (fun hlt=>?_) (fun hge=>?_)
   ·have hja:j<b.nodes.length:=by omega
    have gb:=Xh (c:=ZK) hja
    have hskip:¬ Zev a b ns j->jnL f (j+1)=jnL f j:=fun h=>Zl7 (by rw[hf];exact ZDg h)
    have hfi:Zev a b ns j↔(j:Int) ∉ ns/\a.nodes[ns.length].control=b.nodes[j].control/\P=b.nodes[j].parent:=by
     unfold Zev
     rw[Int.toNat_natCast,Jr hk,Jr hja,hP]
    by_cases hc:b.nodes[j].control=a.nodes[ns.length].control
    rotate_left
    ·have e:=eq_false hc
     have hn:=hskip fun h=>hc (hfi.1 h).2.1.symm
     simp only[gb,ga,ZK,e,hne,hfi0,EVA,seval,men]
     exact⟨by rw[Zd];omega,Ze () hja (by rw[hn];rfl) (fun h=>by rw[hn];exact hA2 h)⟩
    have ec:=eq_true hc
    by_cases hq:b.nodes[j].parent=P
    rotate_left
    ·have e:=eq_false hq
     have hn:=hskip fun h=>hq (hfi.1 h).2.2.symm
     simp only[gb,ga,ZK,ec,e,hne,hfi0,EVA,seval,men]
     exact⟨by rw[Zd];omega,Ze () hja (by rw[hn];rfl) (fun h=>by rw[hn];exact hA2 h)⟩
    have eq:=eq_true hq
    simp only[gb,ga,ZK,ec,eq,EVA,seval,Zf,men]
    refine Za (Zbq ns j (by omega)) ?_
    by_cases hmem:(j:Int)∈ns
    ·have hn:=hskip fun h=>(hfi.1 h).1 hmem
     simp only[hmem,decide_true,hne,hfi0,EVA,seval,men]
     exact⟨by rw[Zd];omega,Ze () hja (by rw[hn];rfl) (fun h=>by rw[hn];exact hA2 h)⟩
    have hfit:=hfi.2 ⟨hmem,hc.symm,hq.symm⟩
    have hfj:f j=Zfo a b r (ns++[(j:Int)]):=by rw[hf];exact Zy0 hfit
    obtain⟨X,hXj⟩:=Zjq (f:=f) (show j+1<=b.nodes.length by omega)
    have hsz:(jnL f j).length+(f j).length<=(jnL f b.nodes.length).length:=by
     rw[hXj,Da,List.length_append,List.length_append];omega
    have htk:=Zvw (m:=more) (x:=jnL f j)
    have ih:=fun B=>ZaL sig a b hA hB more yid L0 kb D hy r (ns++[(j:Int)]) (acc++tkB more (jnL f j)) B (lvl+1) (by rw[List.length_append,List.length_singleton];omega) (by omega) (fun h=>by rw[hm h,hA2 h,Zjr];rfl) (by rw[<-hfj,List.length_append];omega)
    rw[<-hfj] at ih
    simp only[cB,Zb,List.map_cons,List.map_nil] at ih
    have ea:rI ns++[[tv (j:Int)]]=rI (ns++[(j:Int)]):=by rw[Y7];rfl
    have hacc:acc++tkB more (jnL f j)++tkB more (f j)=acc++tkB more (jnL f (j+1)):=by rw[Da,Zu7 hA2,List.append_assoc]
    rw[hacc] at ih
    simp only[hmem,decide_false,EVA,seval,Zf,men]
    refine Za (ZqX ns (by omega)) ?_
    simp only[Zbu,ea,List.length_map,EVA,seval]
    refine⟨by omega,ZqW (acc++tkB more (jnL f (j+1))) (iB (more || (f j).isEmpty)) hne (fun B=>ih B) ?_⟩
    cases hb:more || (f j).isEmpty
    ·have hmf:more=false:=by
      cases hm2:more
      ·rfl
      ·rw[hm2] at hb;simp at hb
     have hne2:f j≠[]:=fun h=>by rw[h] at hb;simp at hb
     obtain⟨t1,t2⟩:=Zsd hja (hA2 hmf) hne2
     have t3:jnL f (j+1)=f j:=by rw[Da,hA2 hmf,List.nil_append]
     rw[hmf,t1,t2,t3]
     simp only[Bool.or_false,EVA,seval]
     try rfl
    ·simp only[hne,hfi0,EVA,seval,men]
     exact⟨by rw[Zd];omega,Ze () hja rfl (fun h=>by
      rw[Da,hA2 h,List.nil_append]
      rw[h] at hb
      simpa using hb)⟩
   ·have hjn:j=b.nodes.length:=by omega
    subst hjn
    have e:(more || (jnL f b.nodes.length).isEmpty)=true:=by
     cases hmm:more
     ·rw[hA2 hmm];rfl
     ·rfl
    rw[e]
    first | rfl | exact⟨rfl,rfl⟩
end Go.Fd

/-
  TRANSLATIONS, THE PROGRAM: THE FIRST ONE. Own work.
-/
namespace Go.Fd
set_option maxRecDepth 20000
theorem Zvx:∀ n,n<=8->ZyJ n<=40320:=by decide
def ZsJ(L0 kb:Nat)(acc:List (List Int)):List (Nat×Ob):=match acc with
 | []=>[(kb,.bx [.cs []])]
 | x::_=>[(kb,.bx [.hd (L0,kb+1) [] 0 x.length none x.length]),(kb+1,.ar 1 (rI x) true x.length 0)]
theorem ZsK{L0:Nat}{base:Sto}{o o1 o2:Ob}:ZN (ZN (Zu L0 [(192,o)] base) (L0,193) o2) (L0,192) o1=Zu L0 [(192,o1),(193,o2)] base:=by
 rw[<-Zga,<-Zga]
 simp [ptO]
theorem Zvy{L0:Nat}{base:Sto}{o:Ob}:Zu L0 [(192,o)] base (L0,192)=some o:=by
 rw[Zm8]
 simp [lkO]
theorem Zvz{L0:Nat}{base:Sto}{o:Ob}:Zu L0 [(192,o)] base (L0,193)=none:=by
 rw[Zm8]
 simp [lkO]
theorem ZaT(L0:Nat)(base:Sto)(x:List Int)(lvl:Nat)(hL:L0<lvl)(hx:x.length<=100):Sem Proofs.Tryz.prog Jv lvl [tI x,.ab (L0,192) 0] (Zu L0 (ZsJ L0 192 []) base) (iB false) (Zu L0 (ZsJ L0 192 [x]) base):=by
 have hne:L0≠lvl:=by omega
 have ho:((L0,192):Oid).1≠lvl:=hne
 have ho3:((L0,193):Oid).1≠lvl:=hne
 have hS:Zu L0 (ZsJ L0 192 []) base (L0,192)=some (.bx [.cs []]):=Zvy
 have hN:Zu L0 (ZsJ L0 192 []) base (L0,193)=none:=Zvz
 have hG:∀ o1 o2,ZN (ZN (Zu L0 (ZsJ L0 192 []) base) (L0,193) o2) (L0,192) o1=Zu L0 [(192,o1),(193,o2)] base:=fun _ _=>ZsK
 refine Zc Dl trivial ?_
 simp only[Qy,EVA,seval,Zf,men]
 refine Za (Wf x (by omega)) ?_
 simp only[ZS ho,ZS ho3,hS,hN,hL,Wl ho,Wl ho3,hG,List.length_map,List.length_cons,List.length_nil,EVA,seval]
 try rfl
theorem ZsL{a b:TBigraph}(h:a.nodes.length=b.nodes.length)(h8:a.nodes.length<=8):(Zl8 a b).length<=40320 :=
 Nat.le_trans (ZpV (by simp;omega) List.nodup_nil (fun x hx=>by simp at hx)) (Zvx _ h8)
theorem Zb2(sig:List TControl)(a b:TBigraph)(hA:bigOK sig a)(hB:bigOK sig b)(lvl:Nat)(S:Sto):Sem Proofs.Tryz.prog YI lvl [cB a,cB b] S (.tu [.ow 1 (rI ((Zl8 a b).headD [])) true,iB (!(Zl8 a b).isEmpty)]) S:=by
 have nA:=hA.small.nodes
 refine Zc Zag (by simp [low,men,Zf]) ?_
 by_cases hn:a.nodes.length=b.nodes.length
 rotate_left
 ·have e:((a.nodes.length:Int)=b.nodes.length)=False:=eq_false (by omega)
  rw[show Zl8 a b=[] from ZeF fun h=>hn h.2.2.1]
  simp only[Vg,Zb,e,List.length_map,List.headD_nil,List.isEmpty_nil,EVA,seval]
  try rfl
 have e:((a.nodes.length:Int)=b.nodes.length)=True:=eq_true (by omega)
 have q:=ZaL sig a b hA hB false Jv lvl 192 (ZsJ lvl 192) (fun base acc x l h1 h2 _ h3=>by
  rw[h3 rfl]
  exact ZaT lvl base x l h1 (by omega)) a.nodes.length [] [] S (lvl+1) (by simp) (Nat.lt_succ_self _) (fun _=>rfl) (by have:=ZsL hn nA;unfold Zl8 at this;simp;omega)
 rw[show Zfo a b a.nodes.length []=Zl8 a b from rfl,List.nil_append] at q
 simp only[cB,Zb,List.map_cons,List.map_nil] at q
 simp only[Vg,Zb,e,List.length_map,EVA,seval]
 refine Xs (ZsJ lvl 192 (tkB false (Zl8 a b))) S (fun _ _=>rfl) q ?_
 cases h:Zl8 a b with
 | nil =>
  rw[Zjr]
  simp only[ZsJ,List.isEmpty_nil,List.headD_nil,Bool.or_true,EVA,seval]
  try rfl
 | cons x r =>
  have e1:tkB false (x::r)=[x]:=rfl
  have e2:ZsJ lvl 192 [x]=[(192,.bx [.hd (lvl,193) [] 0 x.length none x.length]),(193,.ar 1 (rI x) true x.length 0)]:=rfl
  rw[e1,e2]
  simp only[List.isEmpty_cons,List.headD_cons,Bool.or_false,List.length_map,EVA,seval]
  try rfl
theorem ZeG(sig:List TControl)(a b:TBigraph)(hA:bigOK sig a)(hB:bigOK sig b)(lvl:Nat)(S:Sto):Sem Proofs.Tryz.prog Vy lvl [cB a,cB b] S (iB (!(Zl8 a b).isEmpty)) S:=by
 have q:=Zb2 sig a b hA hB
 simp only[cB,Zb,List.map_cons,List.map_nil] at q
 refine Zc ZbV trivial ?_
 simp only[WX,Zb,EVA,seval,Zf,men]
 refine Za q ?_
 simp only[List.length_map,EVA,seval]
 try rfl
end Go.Fd

/-
  THE VALUE OF A TERM, THE PROGRAM'S SIDE. Own work.
-/
namespace Go.Fd
set_option maxRecDepth 20000
noncomputable def Ztv(sig:List TControl)(t:List TTermStep):TBigraph:=(ZeC sig t).getD J7
theorem ZeH{sig:List TControl}{t:List TTermStep}(h:∀ x m,ZfK sig t=some ([x],m) -> ¬ Q8 x.2.length x.2):ZeC sig t=none:=by
 unfold ZeC
 split
 ·split
  ·rename_i x m he
   rw[if_neg (h x m he)]
  ·rfl
 ·rfl
theorem Znu{sig:List TControl}{t:List TTermStep}(hs:Vh sig)(hl:t.length<=60){x:Xi}{m:Nat}(hr:ZfK sig t=some ([x],m))(ho:Q8 x.2.length x.2):ZeC sig t=some (Zno x):=by
 unfold ZeC
 rw[if_pos ⟨hs,hl⟩,hr]
 simp only
 rw[if_pos ho]
theorem ZfM{sig:List TControl}{t:List TTermStep}(h:¬ (Vh sig/\t.length<=60)):ZeC sig t=none:=by
 unfold ZeC
 rw[if_neg h]
theorem YG{sig:List TControl}{t:List TTermStep}(h:ZeC sig t=none):Ztv sig t=J7:=by unfold Ztv;rw[h];rfl
theorem DS{sig:List TControl}{t:List TTermStep}{b:TBigraph}(h:ZeC sig t=some b):Ztv sig t=b:=by unfold Ztv;rw[h];rfl
theorem Znv{l v ini:List Int}{j:Nat}(hl:j<l.length)(hv:j<v.length)(h0:0<=l[j])(hn:l[j]<ini.length):Vs (rI (Zhp l v ini j)) [] l[j].toNat 0 (Tr.v (.int .i64 v[j]))=rI (Zhp l v ini (j+1)):=by
 rw[ZpE (by rw[X1];omega),Zhp,show g0 l j=l[j] by simp [hl],show g0 v j=v[j] by simp [hv]]
theorem ZdU(sig:List TControl)(t:List TTermStep)(hn:sig.length<=4294967296)(hbs:∀ y∈sig,Zq 4294967296 y)(hlt:t.length<=4294967296)(hbt:∀ y∈t,Zz 4294967296 y)(lvl:Nat)(S:Sto):Sem Proofs.Tryz.prog VD lvl [.tr (.sl (sig.map Zj)),.tr (.sl (t.map Zi))] S (.tu [Zh (Ztv sig t),iB (ZeC sig t).isSome]) S:=by
 refine Zc Zfg (by simp [Zh,low,men,Zf]) ?_
 simp only[ZaE,EVA,seval,Zf,men]
 refine Za (Qm sig (by omega) (fun y hy=>Zaq (hbs y hy))) ?_
 cases hsg:dc (Vh sig)
 ·have e:=ZfM (t:=t) fun g=>dc_not.1 hsg g.1
  rw[e,YG e]
  simp only[Option.isSome_none,EVA,seval]
  try rfl
 have hs:=dc_iff.1 hsg
 simp only[List.length_map,EVA,seval,Zf,men]
 refine Zk (fun hlo=>?_) (fun hlo=>?_)
 ·have e:=ZfM (sig:=sig) (t:=t) fun g=>by have:=g.2;omega
  rw[e,YG e]
  simp only[Option.isSome_none,seval]
  try rfl
 have hl60:t.length<=60:=by omega
 refine Za (Zl3 sig t hn hbs hbt hs hl60) ?_
 cases hr:ZfK sig t with
 | none =>
  have e:ZeC sig t=none:=ZeH fun x m g=>by rw[hr] at g;cases g
  rw[e,YG e]
  simp only[Option.isSome_none,EVA,seval]
  try rfl
 | some z =>
  rw[ZkX hr]
  obtain⟨L,m⟩:=z
  have hz:=ZeB hs (j:=t.length) (Nat.le_refl _) (by rw[List.take_length];exact hr)
  simp only[Option.isSome_some,List.length_map,EVA,seval]
  refine Zk (fun h1=>?_) (fun h1=>?_)
  ·obtain⟨x,rfl⟩:∃ x,L=[x]:=ZkW (by have:=of_decide_eq_false h1;omega)
   have hp:=hz.1 x (by simp)
   have h4:=hp.big.sitesL
   have hlen:=hp.len
   have ga:([x].map ptC)[0]? = some (ptC x):=rfl
   have hf:(decide ¬ ((([x]:List Xi).length:Nat):Int)=1)=false:=h1
   have q:=Zl4 (x.2.length:Int) x.2 (by omega) rfl
   simp only[ptC,Zb,List.map_cons,List.map_nil,List.length_map,List.length_cons,List.length_nil,EVA,seval,Zf,men]
   refine Za q ?_
   cases ho:dc (Q8 x.2.length x.2)
   ·have e:ZeC sig t=none:=ZeH fun y m' g=>by
     rw[hr] at g
     cases g
     exact dc_not.1 ho
    rw[e,YG e]
    simp only[Option.isSome_none,EVA,seval]
    try rfl
   have hord:=dc_iff.1 ho
   have e:=Znu hs hl60 hr hord
   rw[e,DS e]
   have qo:=Wq x.1 (Q7 (by omega) (XX hp.big))
   simp only[Zb,List.map_cons,List.map_nil] at qo
   simp only[Option.isSome_some,EVA,seval,Zf,men]
   refine Za qo ?_
   simp only[Zh,List.length_map,EVA,seval]
   refine Zv (α:=Unit) x.2.length (fun j _=>[(59,iI j)]) (fun j _=>[(1697,.ar 1 (rI (Zhp x.2 x.1.sites x.1.sites j)) true x.1.sites.length 0)]) (fun _ _=>True) () (by simp only[EVA,seval]) (by (simp only[Zhp,EVA,seval]) <;> rfl) trivial ?_
   intro j _ hj _
   simp only[List.length_map,EVA,seval]
   refine Zk (fun hlt2=>?_) (fun hge=>?_)
   ·have hja:j<x.2.length:=by omega
    have hjs:j<x.1.sites.length:=by omega
    have gk:=ZkZ hja
    have gv:=ZkZ hjs
    have hm:=ZdJ hord (List.getElem_mem hja)
    have hst:=Znv (ini:=x.1.sites) hja hjs hm.1 (by omega)
    have hkl:x.2[j].toNat<x.1.sites.length:=by omega
    have gp:=ZkZ (l:=Zhp x.2 x.1.sites x.1.sites j) (j:=x.2[j].toNat) (by rw[X1];exact hkl)
    simp only[gk,gv,gp,hst,hkl,List.getElem?_cons_zero,EVA,seval]
    exact⟨hm.1,by rw[Zd];omega,Ze () hja rfl trivial⟩
   ·have:j=x.2.length:=by omega
    subst this
    simp only[X1,EVA,seval]
    try rfl
  ·have e:ZeC sig t=none:=ZeH fun x m' g=>by
    rw[hr] at g
    cases g
    simp at h1
   rw[e,YG e]
   simp only[Option.isSome_none,seval]
   try rfl
end Go.Fd

/-
  THE VALUE OF A TERM, THE REFERENCE'S SIDE. Own work.
-/
namespace Go.Fd
set_option maxRecDepth 20000
theorem ZgQ(sig:List TControl)(t:List TTermStep)(hn:sig.length<=4294967296)(hbs:∀ y∈sig,Zq 4294967296 y)(hlt:t.length<=4294967296)(hbt:∀ y∈t,Zz 4294967296 y)(lvl:Nat)(S:Sto):Sem Proofs.Tryz.prog QH lvl [.tr (.sl (sig.map Zj)),.tr (.sl (t.map Zi))] S (.tu [Zh (Ztv sig t),iB (ZeC sig t).isSome]) S:=by
 refine Zc ZgW (by simp [Zh,low,men,Zf]) ?_
 simp only[Zb7,EVA,seval,Zf,men]
 refine Za (Zkp sig (by omega) (fun y hy=>Zaq (hbs y hy))) ?_
 cases hsg:dc (Vh sig)
 ·have e:=ZfM (t:=t) fun g=>dc_not.1 hsg g.1
  rw[e,YG e]
  simp only[Option.isSome_none,EVA,seval]
  try rfl
 have hs:=dc_iff.1 hsg
 simp only[List.length_map,EVA,seval,Zf,men]
 refine Zk (fun hlo=>?_) (fun hlo=>?_)
 ·have e:=ZfM (sig:=sig) (t:=t) fun g=>by have:=g.2;omega
  rw[e,YG e]
  simp only[Option.isSome_none,seval]
  try rfl
 have hl60:t.length<=60:=by omega
 refine Za (ZqP sig t hn hbs hbt hs hl60) ?_
 cases hr:ZfK sig t with
 | none =>
  have e:ZeC sig t=none:=ZeH fun x m g=>by rw[hr] at g;cases g
  rw[e,YG e]
  simp only[Option.isSome_none,EVA,seval]
  try rfl
 | some z =>
  rw[Zns hr]
  obtain⟨L,m⟩:=z
  have hz:=ZeB hs (j:=t.length) (Nat.le_refl _) (by rw[List.take_length];exact hr)
  simp only[Option.isSome_some,List.length_map,EVA,seval]
  refine Zk (fun h1=>?_) (fun h1=>?_)
  ·obtain⟨x,rfl⟩:∃ x,L=[x]:=ZkW (by have:=of_decide_eq_false h1;omega)
   have hp:=hz.1 x (by simp)
   have h4:=hp.big.sitesL
   have hlen:=hp.len
   have ga:([x].map ptC)[0]? = some (ptC x):=rfl
   have hf:(decide ¬ ((([x]:List Xi).length:Nat):Int)=1)=false:=h1
   have q:=Zop x.2 (x.2.length:Int) (by omega) rfl
   simp only[ptC,Zb,List.map_cons,List.map_nil,List.length_map,List.length_cons,List.length_nil,EVA,seval,Zf,men]
   refine Za q ?_
   cases ho:dc (Q8 x.2.length x.2)
   ·have e:ZeC sig t=none:=ZeH fun y m' g=>by
     rw[hr] at g
     cases g
     exact dc_not.1 ho
    rw[e,YG e]
    simp only[Option.isSome_none,EVA,seval]
    try rfl
   have hord:=dc_iff.1 ho
   have e:=Znu hs hl60 hr hord
   rw[e,DS e]
   have qo:=ZnU sig x.1 hp.big
   simp only[Zb,List.map_cons,List.map_nil] at qo
   simp only[Option.isSome_some,EVA,seval,Zf,men]
   refine Za qo ?_
   simp only[Zh,List.length_map,EVA,seval]
   obtain⟨R,hR⟩:∃ R,R=List.replicate x.2.length (0:Int):=⟨_,rfl⟩
   have hRl:R.length=x.2.length:=by rw[hR,List.length_replicate]
   have hrep:rI R=List.replicate x.2.length [Tr.v (Value.int .i64 0)]:=by rw[hR];show List.map _ _=_;rw[List.map_replicate]
   refine⟨by omega,?_⟩
   refine Zv (α:=Unit) x.2.length (fun j _=>[(11,iI j)]) (fun j _=>[(1888,.ar 1 (rI (Zhp x.2 x.1.sites R j)) true x.2.length 0)]) (fun _ _=>True) () (by simp only[EVA,seval]) (by (simp only[Zhp,hrep,EVA,seval]) <;> rfl) trivial ?_
   intro j _ hj _
   simp only[List.length_map,EVA,seval]
   refine Zk (fun hlt2=>?_) (fun hge=>?_)
   ·have hja:j<x.2.length:=by omega
    have hjs:j<x.1.sites.length:=by omega
    have gk:=ZkZ hja
    have gv:=ZkZ hjs
    have hm:=ZdJ hord (List.getElem_mem hja)
    have hst:=Znv (ini:=R) hja hjs hm.1 (by omega)
    have hkl:x.2[j].toNat<x.2.length:=by omega
    have gp:=ZkZ (l:=Zhp x.2 x.1.sites R j) (j:=x.2[j].toNat) (by rw[X1];omega)
    simp only[gk,gv,gp,hst,hkl,hjs,List.getElem?_cons_zero,EVA,seval]
    exact⟨hm.1,by rw[Zd];omega,Ze () hja rfl trivial⟩
   ·have:j=x.2.length:=by omega
    subst this
    have hpa:=Zsn (v:=x.1.sites) (a:=R) (b:=x.1.sites) hord hRl (by omega)
    rw[hpa]
    simp only[X1,seval]
    exact⟨hlen,rfl⟩
  ·have e:ZeC sig t=none:=ZeH fun x m' g=>by
    rw[hr] at g
    cases g
    simp at h1
   rw[e,YG e]
   simp only[Option.isSome_none,seval]
   try rfl
end Go.Fd

/-
  IsTerm, TermValue, TermDepth: BOTH SIDES. Own work.
-/
namespace Go.Fd
set_option maxRecDepth 20000
end Go.Fd

/-
  SameTerms: BOTH SIDES. Own work.
-/
namespace Go.Fd
set_option maxRecDepth 20000
noncomputable def Db(sig:List TControl)(t u:List TTermStep):Bool:=match ZeC sig t,ZeC sig u with
 | some a,some b=>!(Zl8 a b).isEmpty
 | _,_=>false
noncomputable def Dc(sig:List TControl)(t u:List TTermStep):Bool:=(ZeC sig t).isSome&&(ZeC sig u).isSome
theorem ZdV(sig:List TControl)(t u:List TTermStep)(hn:sig.length<=4294967296)(hbs:∀ y∈sig,Zq 4294967296 y)(hlt:t.length<=4294967296)(hbt:∀ y∈t,Zz 4294967296 y)(hlu:u.length<=4294967296)(hbu:∀ y∈u,Zz 4294967296 y)(lvl:Nat)(S:Sto):Sem Proofs.Tryz.prog Xu lvl [.tr (.sl (sig.map Zj)),.tr (.sl (t.map Zi)),.tr (.sl (u.map Zi))] S (.tu [iB (Db sig t u),iB (Dc sig t u)]) S:=by
 unfold Db Dc
 have q1:=ZgQ sig t hn hbs hlt hbt
 have q2:=ZgQ sig u hn hbs hlu hbu
 cases ht:ZeC sig t with
 | none =>
  rw[ht,YG ht] at q1
  obtain⟨V,hV⟩:∃ V,V=Ztv sig u:=⟨_,rfl⟩
  rw[<-hV] at q2
  refine Zc WR (by simp [low,men,Zf]) ?_
  simp only[QN,EVA,seval,Zf,men]
  refine Za q1 ?_
  simp only[Zh,Option.isSome_none,List.length_map,EVA,seval,Zf,men]
  refine Za q2 ?_
  simp only[Zh,List.length_map,Bool.false_and,EVA,seval]
  try rfl
 | some a =>
  rw[ht,DS ht] at q1
  cases hu:ZeC sig u with
  | none =>
   rw[hu,YG hu] at q2
   refine Zc WR (by simp [low,men,Zf]) ?_
   simp only[QN,EVA,seval,Zf,men]
   refine Za q1 ?_
   simp only[Zh,Option.isSome_some,List.length_map,EVA,seval,Zf,men]
   refine Za q2 ?_
   simp only[Zh,Option.isSome_none,List.length_map,EVA,seval]
   try rfl
  | some b =>
   rw[hu,DS hu] at q2
   have q3:=ZqU sig a b (ZfL ht) (ZfL hu)
   simp only[cB,Zb,List.map_cons,List.map_nil] at q3
   refine Zc WR (by simp [low,men,Zf]) ?_
   simp only[QN,EVA,seval,Zf,men]
   refine Za q1 ?_
   simp only[Zh,Option.isSome_some,List.length_map,EVA,seval,Zf,men]
   refine Za q2 ?_
   simp only[Zh,Option.isSome_some,List.length_map,Js,EVA,seval,Zf,men]
   refine Za q3 ?_
   simp only[EVA,seval]
   try rfl
theorem ZdW(sig:List TControl)(t u:List TTermStep)(hn:sig.length<=4294967296)(hbs:∀ y∈sig,Zq 4294967296 y)(hlt:t.length<=4294967296)(hbt:∀ y∈t,Zz 4294967296 y)(hlu:u.length<=4294967296)(hbu:∀ y∈u,Zz 4294967296 y)(lvl:Nat)(S:Sto):Sem Proofs.Tryz.prog Xv lvl [.tr (.sl (sig.map Zj)),.tr (.sl (t.map Zi)),.tr (.sl (u.map Zi))] S (.tu [iB (Db sig t u),iB (Dc sig t u)]) S:=by
 unfold Db Dc
 have q1:=ZdU sig t hn hbs hlt hbt
 have q2:=ZdU sig u hn hbs hlu hbu
 cases ht:ZeC sig t with
 | none =>
  rw[ht,YG ht] at q1
  obtain⟨V,hV⟩:∃ V,V=Ztv sig u:=⟨_,rfl⟩
  rw[<-hV] at q2
  refine Zc WS (by simp [low,men,Zf]) ?_
  simp only[QO,EVA,seval,Zf,men]
  refine Za q1 ?_
  simp only[Zh,Option.isSome_none,List.length_map,EVA,seval,Zf,men]
  refine Za q2 ?_
  simp only[Zh,List.length_map,Bool.false_and,EVA,seval]
  try rfl
 | some a =>
  rw[ht,DS ht] at q1
  cases hu:ZeC sig u with
  | none =>
   rw[hu,YG hu] at q2
   refine Zc WS (by simp [low,men,Zf]) ?_
   simp only[QO,EVA,seval,Zf,men]
   refine Za q1 ?_
   simp only[Zh,Option.isSome_some,List.length_map,EVA,seval,Zf,men]
   refine Za q2 ?_
   simp only[Zh,Option.isSome_none,List.length_map,EVA,seval]
   try rfl
  | some b =>
   rw[hu,DS hu] at q2
   have q3:=ZeG sig a b (ZfL ht) (ZfL hu)
   simp only[cB,Zb,List.map_cons,List.map_nil] at q3
   refine Zc WS (by simp [low,men,Zf]) ?_
   simp only[QO,EVA,seval,Zf,men]
   refine Za q1 ?_
   simp only[Zh,Option.isSome_some,List.length_map,EVA,seval,Zf,men]
   refine Za q2 ?_
   simp only[Zh,Option.isSome_some,List.length_map,Js,EVA,seval,Zf,men]
   refine Za q3 ?_
   simp only[EVA,seval]
   try rfl
end Go.Fd

/-
  The annotated codes of the functions, printed by a program of mine (gen.py), and the check that they belong to the program.
-/
namespace Go.Fd
def X2:F2 :=
 { nt:=76,res:=[.t 6 [0]],body:=(.sq (rg [om 6 (.k (.bool false))]) (.sq (rg [om 7 (i6 1048576)]) (.sq (rg [qM 15 0,qM 16 7,oo 17 (.ca .pure false (.f QT) [.t 15,.t 16]),qM 7 17]) (.sq (.sq (rg [qM 18 7,oo 19 (.bi .lss 0 (.t 18) (i6 0))]) (.cd (.t 19) (.sq (rg [om 6 (.k (.bool true))]) (.rt)) (.sk))) (.sq (rg [qM 20 1,qM 21 7,oo 22 (.ca .pure false (.f YQ) [.t 20,.t 21]),qM 7 22]) (.sq (.sq (rg [qM 23 7,oo 24 (.bi .lss 0 (.t 23) (i6 0))]) (.cd (.t 24) (.sq (rg [om 6 (.k (.bool true))]) (.rt)) (.sk))) (.sq (rg [qM 25 2,qM 26 7,oo 27 (.ca .pure false (.f YQ) [.t 25,.t 26]),qM 7 27]) (.sq (.sq (rg [qM 28 7,oo 29 (.bi .lss 0 (.t 28) (i6 0))]) (.cd (.t 29) (.sq (rg [om 6 (.k (.bool true))]) (.rt)) (.sk))) (.sq (rg [qM 31 0,oo 32 (.ca .pure false (.f Yg) [.t 31]),qM 33 1,oo 34 (.ca .pure false (.f ZZ) [.t 33]),qM 35 2,oo 36 (.ca .pure false (.f ZZ) [.t 35]),oo 37 (.ca .pure false (.f Xu) [.t 32,.t 34,.t 36]),qM 30 37,qE 38 0 30,qE 39 1 30,qM 8 38,qM 9 39]) (.sq (rg [qM 40 0,oo 41 (.ca .pure false (.f Yg) [.t 40]),qM 10 41]) (.sq (rg [qM 42 1,oo 43 (.ca .pure false (.f ZZ) [.t 42]),qM 11 43]) (.sq (rg [qM 44 2,oo 45 (.ca .pure false (.f ZZ) [.t 44]),qM 12 45]) (.sq (rg [qM 47 10,qM 48 11,qM 49 12,oo 50 (.ca .pure false (.f Xv) [.t 47,.t 48,.t 49]),qM 46 50,qE 51 0 46,qE 52 1 46,qM 13 51,qM 14 52]) (.sq (.sq (rg [qM 53 13,qM 54 8,oo 55 (.bi .neq 2 (.t 53) (.t 54)),qM 56 55,og 57 56 false (.mv (.t 14) none),og 58 56 false (.mv (.t 9) none),og 59 56 false (.bi .neq 2 (.t 57) (.t 58)),oo 60 (.pk (.t 56) (.k (.bool true)) (.t 59))]) (.cd (.t 60) (.sq (rg [om 6 (.k (.bool false))]) (.rt)) (.sk))) (.sq (.sq (rg [qM 61 10,qM 62 0,oo 63 (.ca .pure false (.f Yg) [.t 62]),oo 64 (.ca .pure false (.f QU) [.t 61,.t 63]),oo 65 (.nt (.t 64))]) (.cd (.t 65) (.sq (rg [om 6 (.k (.bool false))]) (.rt)) (.sk))) (.sq (.sq (rg [qM 66 11,qM 67 1,oo 68 (.ca .pure false (.f ZZ) [.t 67]),oo 69 (.ca .pure false (.f YR) [.t 66,.t 68]),oo 70 (.nt (.t 69))]) (.cd (.t 70) (.sq (rg [om 6 (.k (.bool false))]) (.rt)) (.sk))) (.sq (.sq (rg [qM 71 12,qM 72 2,oo 73 (.ca .pure false (.f ZZ) [.t 72]),oo 74 (.ca .pure false (.f YR) [.t 71,.t 73]),oo 75 (.nt (.t 74))]) (.cd (.t 75) (.sq (rg [om 6 (.k (.bool false))]) (.rt)) (.sk))) (.sq (rg [om 6 (.k (.bool true))]) (.rt))))))))))))))))))) }
theorem Zax:ZE Proofs.Tryz.prog Qt X2=true:=by kernel_rfl
end Go.Fd

/-
  THE TEXT OF A MARK; THE MARKS OF NUMBERS AND TEXTS. Own work.
-/
namespace Go.Fd
set_option maxRecDepth 20000
def mt(q:Nat)(o:ByteArray):ByteArray:=if q=0 then o else mt (q / 10) (⟨#[UInt8.ofNat (48+q % 10)]⟩++o)
 termination_by q
 decreasing_by omega
end Go.Fd

/-
  WHAT THE MARKING FUNCTIONS DO (printed by lawgen.py). Own work.
-/
namespace Go.Fd
set_option maxRecDepth 20000
end Go.Fd

/-
  The annotated codes of the functions, printed by a program of mine (gen.py), and the check that they belong to the program.
-/
namespace Go.Fd
def DT:F2 :=
 { nt:=23,res:=[.t 2 [4]],body:=(.sq (rg [om 2 (.k (.slice none 0 0))]) (.sq (rg [qM 5 0,qN 6 5,oo 7 (.ms 3 [.string ⟨#[]⟩,.int .i64 0,.int .i64 0] (.t 6)),qM 3 7]) (.sq (.sq (rg [om 4 (i6 0)]) (.bl 0 (.lp [0,3,4] [224] (.sq (.sq (rg [qM 8 4,qM 9 0,qN 10 9,qB 11 .lss 8 10]) (.cd (.t 11) (.sk) (.ex 0))) (.sq (.bl 1 (rg [qM 14 3,qM 15 4,qM 16 0,qM 17 4,qI 18 3 16 17,qS 19 3 18,oo 20 (.ca .pure true (.f Xx) [.t 19]),qI 21 3 14 15,on1 (.st 3 (.t 21) (.t 20))]))
 (rg [qM 12 4,oo 13 (.bi .add 0 (.t 12) (i6 1)),qM 4 13])))))) (.sq (rg [qM 22 3,qM 2 22]) (.rt))))) }
theorem ZeI:ZE Proofs.Tryz.prog Yg DT=true:=by kernel_rfl
def Dd:F2 :=
 { nt:=23,res:=[.t 2 [5]],body:=(.sq (rg [om 2 (.k (.slice none 0 0))]) (.sq (rg [qM 5 0,qN 6 5,oo 7 (.ms 4 [.int .i64 0,.int .i64 0,.int .i64 0,.slice none 0 0] (.t 6)),qM 3 7]) (.sq (.sq (rg [om 4 (i6 0)]) (.bl 0 (.lp [0,3,4] [224,640] (.sq (.sq (rg [qM 8 4,qM 9 0,qN 10 9,qB 11 .lss 8 10]) (.cd (.t 11) (.sk) (.ex 0))) (.sq (.bl 1 (rg [qM 14 3,qM 15 4,qM 16 0,qM 17 4,qI 18 4 16 17,qS 19 4 18,oo 20 (.ca .pure true (.f QW) [.t 19]),qI 21 4 14 15,on1 (.st 4 (.t 21) (.t 20))]))
 (rg [qM 12 4,oo 13 (.bi .add 0 (.t 12) (i6 1)),qM 4 13])))))) (.sq (rg [qM 22 3,qM 2 22]) (.rt))))) }
theorem ZdX:ZE Proofs.Tryz.prog ZZ Dd=true:=by kernel_rfl
def ZaM:F2 :=
 { nt:=13,res:=[.t 4 [0]],body:=(.sq (rg [oo 2 (.bt (.t 0)),om 4 (i6 0)]) (.sq (rg [qM 5 1,qF 6 0 2,qL 7 6,oo 8 (.lg (.t 7)),qB 9 .sub 5 8,qM 1 9]) (.sq (.sq (rg [qM 10 1,oo 11 (.bi .lss 0 (.t 10) (i6 0))]) (.cd (.t 11) (.sq (rg [om 4 (i6 (-1))]) (.rt)) (.sk))) (.sq (rg [qM 12 1,qM 4 12]) (.rt))))) }
theorem Zfs:ZE Proofs.Tryz.prog Xw ZaM=true:=by kernel_rfl
def DU:F2 :=
 { nt:=12,res:=[.t 4 [0]],body:=(.sq (rg [oo 2 (.bt (.t 0)),om 4 (i6 0)]) (.sq (rg [qF 5 3 2,qL 6 5,qM 7 1,oo 8 (.ca .pure false (.f Xz) [.t 6,.t 7]),qM 1 8]) (.sq (.sq (rg [qM 9 1,oo 10 (.bi .lss 0 (.t 9) (i6 0))]) (.cd (.t 10) (.sq (rg [om 4 (i6 (-1))]) (.rt)) (.sk))) (.sq (rg [qM 11 1,qM 4 11]) (.rt))))) }
theorem ZeJ:ZE Proofs.Tryz.prog QV DU=true:=by kernel_rfl
def ZaN:F2 :=
 { nt:=14,res:=[.c 2 (some 3) [0,0,0]],body:=(.sq (rg [oo 1 (.bt (.t 0)),oo 2 (.al [.string ⟨#[]⟩,.int .i64 0,.int .i64 0] [])]) (.sq (rg [oo 3 (.al [.string ⟨#[]⟩,.int .i64 0,.int .i64 0] [])]) (.sq (rg [qF 4 0 1,qL 5 4,qF 6 0 3,on1 (.st 1 (.t 6) (.t 5))]) (.sq (rg [qF 7 1 1,qL 8 7,qF 9 1 3,on1 (.st 1 (.t 9) (.t 8))]) (.sq (rg [qF 10 2 1,qL 11 10,qF 12 2 3,on1 (.st 1 (.t 12) (.t 11))]) (.sq (rg [qS 13 3 3,on1 (.st 3 (.t 2) (.t 13))]) (.rt))))))) }
theorem Zft:ZE Proofs.Tryz.prog Xx ZaN=true:=by kernel_rfl
def DV:F2 :=
 { nt:=18,res:=[.c 2 (some 4) [0,0,0,2]],body:=(.sq (rg [oo 1 (.bt (.t 0)),oo 2 (.al [.int .i64 0,.int .i64 0,.int .i64 0,.slice none 0 0] [])]) (.sq (rg [oo 3 (.al [.int .i64 0,.int .i64 0,.int .i64 0,.slice none 0 0] [])]) (.sq (rg [qF 4 0 1,qL 5 4,qF 6 0 3,on1 (.st 1 (.t 6) (.t 5))]) (.sq (rg [qF 7 1 1,qL 8 7,qF 9 1 3,on1 (.st 1 (.t 9) (.t 8))]) (.sq (rg [qF 10 2 1,qL 11 10,qF 12 2 3,on1 (.st 1 (.t 12) (.t 11))]) (.sq (rg [qF 13 3 1,qL 14 13,oo 15 (.ca .pure true (.f XA) [.t 14]),qF 16 3 3,on1 (.st 1 (.t 16) (.t 15))]) (.sq (rg [qS 17 4 3,on1 (.st 4 (.t 2) (.t 17))]) (.rt)))))))) }
theorem ZeK:ZE Proofs.Tryz.prog QW DV=true:=by kernel_rfl
def ZaO:F2 :=
 { nt:=20,res:=[.t 4 [0]],body:=(.sq (rg [oo 2 (.bt (.t 0)),oo 3 (.bt (.t 1)),om 4 (.k (.bool false))]) (.sq (.sq (rg [qF 5 0 2,qL 6 5,qF 7 0 3,qL 8 7,qB 9 .neq 6 8]) (.cd (.t 9) (.sq (rg [om 4 (.k (.bool false))]) (.rt)) (.sk))) (.sq (.sq (rg [qF 10 1 2,qL 11 10,qF 12 1 3,qL 13 12,qB 14 .neq 11 13]) (.cd (.t 14) (.sq (rg [om 4 (.k (.bool false))]) (.rt)) (.sk))) (.sq (.sq (rg [qF 15 2 2,qL 16 15,qF 17 2 3,qL 18 17,qB 19 .neq 16 18]) (.cd (.t 19) (.sq (rg [om 4 (.k (.bool false))]) (.rt)) (.sk))) (.sq (rg [om 4 (.k (.bool true))]) (.rt)))))) }
theorem Zfu:ZE Proofs.Tryz.prog Xy ZaO=true:=by kernel_rfl
def DW:F2 :=
 { nt:=26,res:=[.t 4 [0]],body:=(.sq (rg [oo 2 (.bt (.t 0)),oo 3 (.bt (.t 1)),om 4 (.k (.bool false))]) (.sq (.sq (rg [qF 5 0 2,qL 6 5,qF 7 0 3,qL 8 7,qB 9 .neq 6 8]) (.cd (.t 9) (.sq (rg [om 4 (.k (.bool false))]) (.rt)) (.sk))) (.sq (.sq (rg [qF 10 1 2,qL 11 10,qF 12 1 3,qL 13 12,qB 14 .neq 11 13]) (.cd (.t 14) (.sq (rg [om 4 (.k (.bool false))]) (.rt)) (.sk))) (.sq (.sq (rg [qF 15 2 2,qL 16 15,qF 17 2 3,qL 18 17,qB 19 .neq 16 18]) (.cd (.t 19) (.sq (rg [om 4 (.k (.bool false))]) (.rt)) (.sk))) (.sq (.sq (rg [qF 20 3 2,qL 21 20,qF 22 3 3,qL 23 22,oo 24 (.ca .pure false (.f XB) [.t 21,.t 23]),oo 25 (.nt (.t 24))]) (.cd (.t 25) (.sq (rg [om 4 (.k (.bool false))]) (.rt)) (.sk))) (.sq (rg [om 4 (.k (.bool true))]) (.rt))))))) }
theorem ZeL:ZE Proofs.Tryz.prog QX DW=true:=by kernel_rfl
end Go.Fd

/-
  MARKING STRUCTS; WHETHER MARKS ARE HELD (printed by lawgen.py). Own work.
-/
namespace Go.Fd
set_option maxRecDepth 20000
end Go.Fd

/-
  HOW MANY MARKS A THING TAKES, AGAINST ITS SIZE (printed by lawgen.py). Own work.
-/
namespace Go.Fd
end Go.Fd

/-
  WHAT HOLDS OF THE HELPERS OF THE LAWS (printed by lawgen.py). Own work.
-/
namespace Go.Fd
set_option maxRecDepth 20000
theorem Ztw{α:Type}{f:α->Int->Int}:∀(a:List α) (l:Int),(∀ x∈a,∀ l:Int,0<=l->l<=1048576->f x l<=l)->0<=l->l<=1048576->szF f a l<=l
 | [],l,_,_,_=>Int.le_refl l
 | x::r,l,hf,h0,h1=>by
  simp only[szF]
  have:=hf x (by simp) l h0 h1
  split
  ·omega
  ·have h2:=Ztw r (f x l) (fun y hy=>hf y (by simp [hy])) (by omega) (by omega)
   omega
theorem ZqZ{α:Type}{f:α->Int->Int}(a:List α){l:Int}(hf:∀ x∈a,∀ l:Int,0<=l->l<=1048576->f x l<=l)(h0:0<=l)(h1:l<=1048576):szL f a l<=l:=by
 unfold szL
 split
 ·omega
 ·have:=Ztw a (l-a.length) hf (by omega) (by omega)
  omega
theorem Zq0{l m:Int}{g:Int->Int}(h0:0<=l)(h:m<=l)(hg:0<=m->g m<=m):Zpf m g<=l:=by
 unfold Zpf
 split
 ·omega
 ·have:=hg (by omega)
  omega
theorem Zmb:ZE Proofs.Tryz.prog Xz ZC1=true:=by kernel_rfl
theorem ZdY(a:List ByteArray)(hl:a.length<=9223372036854775807)(hb:∀ y∈a,y.size<=9223372036854775807)(l:Int)(h0:0<=l)(h1:l<=1048576):szL (fun x m=>m-x.size) a l<=l/\∀ lvl S,Sem Proofs.Tryz.prog Xz lvl [tS a,iI l] S (iI (szL (fun x m=>m-x.size) a l)) S :=
 ⟨ZqZ a (fun x _ l _ _=>by omega) h0 h1,fun lvl S=>ZrO Zmb a l hl h0 h1 hb lvl S⟩
theorem ZdZ(x:TControl)(hb:Zq 9223372036854775807 x)(l:Int)(h0:0<=l)(h1:l<=1048576):Yu x l<=l/\∀ lvl S,Sem Proofs.Tryz.prog Xw lvl [.ag ((Zj x).map .tr),iI l] S (iI (Yu x l)) S:=by
 have b0:x.name.size<=9223372036854775807:=hb
 refine⟨?_,fun lvl S=>?_⟩
 ·unfold Yu
  refine Zq0 h0 (m:=l-x.name.size) (by omega) (fun p0=>?_)
  have r0:_<=(1048576:Int):=Int.le_trans (show l-x.name.size<=l by omega) h1
  exact Int.le_refl _
 ·refine Zc Zfs trivial ?_
  simp only[ZaM,Zj,List.map_cons,List.map_nil,EVA,seval,Zf,men]
  unfold Yu
  refine⟨by rw[Zd];omega,?_⟩
  obtain⟨l1,hl1⟩:∃ m:Int,m=l-x.name.size:=⟨_,rfl⟩
  have u1:l1<=l:=by omega
  rw[<-hl1]
  split
  ·rename_i hn;rw[Zpf,if_pos hn]
  rename_i hn0
  rw[Zpf,if_neg hn0]
theorem Zk4:ZE Proofs.Tryz.prog QT (Zzc 3 (some 3) Xw)=true:=by kernel_rfl
theorem Zhr(a:List TControl)(hl:a.length<=9223372036854775807)(hb:∀ y∈a,Zq 9223372036854775807 y)(l:Int)(h0:0<=l)(h1:l<=1048576):szL Yu a l<=l/\∀ lvl S,Sem Proofs.Tryz.prog QT lvl [.tr (.sl (a.map Zj)),iI l] S (iI (szL Yu a l)) S :=
 ⟨ZqZ a (fun x hx l h0 h1=>(ZdZ x (hb x hx) l h0 h1).1) h0 h1,fun lvl S=>ZmH Zk4 Zj Yu ZeS a l hl h0 h1 (fun x hx l h0 h1=>ZdZ x (hb x hx) l h0 h1) lvl S⟩
theorem Zct(x:TTermStep)(hb:Zz 9223372036854775807 x)(l:Int)(h0:0<=l)(h1:l<=1048576):Ya x l<=l/\∀ lvl S,Sem Proofs.Tryz.prog QV lvl [.ag ((Zi x).map .tr),iI l] S (iI (Ya x l)) S:=by
 obtain⟨b0,b1⟩:=hb
 refine⟨?_,fun lvl S=>?_⟩
 ·unfold Ya
  have q0:=ZdY x.names b0 b1 _ h0 h1
  refine Zq0 h0 q0.1 (fun p0=>?_)
  have r0:_<=(1048576:Int):=Int.le_trans q0.1 h1
  exact Int.le_refl _
 ·refine Zc ZeJ trivial ?_
  simp only[DU,Zi,List.map_cons,List.map_nil,EVA,seval,Zf,men]
  unfold Ya
  have q0:=ZdY x.names b0 b1 l h0 h1
  refine Za q0.2 ?_
  simp only[EVA,seval,Zf,men]
  obtain⟨l1,hl1⟩:∃ m:Int,m=(szL (fun x m=>m-x.size) x.names l):=⟨_,rfl⟩
  have u1:l1<=l:=by rw[hl1];exact q0.1
  rw[<-hl1]
  split
  ·rename_i hn;rw[Zpf,if_pos hn]
  rename_i hn0
  rw[Zpf,if_neg hn0]
theorem ZjA:ZE Proofs.Tryz.prog YQ (Zzc 4 (some 4) QV)=true:=by kernel_rfl
theorem ZbA(a:List TTermStep)(hl:a.length<=9223372036854775807)(hb:∀ y∈a,Zz 9223372036854775807 y)(l:Int)(h0:0<=l)(h1:l<=1048576):szL Ya a l<=l/\∀ lvl S,Sem Proofs.Tryz.prog YQ lvl [.tr (.sl (a.map Zi)),iI l] S (iI (szL Ya a l)) S :=
 ⟨ZqZ a (fun x hx l h0 h1=>(Zct x (hb x hx) l h0 h1).1) h0 h1,fun lvl S=>ZmH ZjA Zi Ya ZiE a l hl h0 h1 (fun x hx l h0 h1=>Zct x (hb x hx) l h0 h1) lvl S⟩
end Go.Fd

/-
  WHAT HOLDS OF THE HELPERS OF THE LAWS: eq.. (printed by lawgen.py). Own work.
-/
namespace Go.Fd
set_option maxRecDepth 20000
theorem Zmc:ZE Proofs.Tryz.prog XB ZC2=true:=by kernel_rfl
theorem ZjB(a b:(List ByteArray))(ha:a.length<=9223372036854775807)(lvl:Nat)(S:Sto):Sem Proofs.Tryz.prog XB lvl [.tr (.sl (rS a)),.tr (.sl (rS b))] S (iB (decide (a=b))) S:=ZuK Zmc a b ha lvl S
theorem ZjC(x y:TControl)(hb:Zq 9223372036854775807 x)(lvl:Nat)(S:Sto):Sem Proofs.Tryz.prog Xy lvl [.ag ((Zj x).map .tr),.ag ((Zj y).map .tr)] S (iB (decide (x=y))) S:=by
 have b0:x.name.size<=9223372036854775807:=hb
 refine Zc Zfu trivial ?_
 simp only[ZaO,Zj,List.map_cons,List.map_nil,EVA,seval,Zf,men]
 refine Zk (fun hne=>?_) (fun heq0=>?_)
 ·have:¬ x=y:=fun e=>(by rw[e] at hne;simp at hne)
  simp [this]
 refine Zk (fun hne=>?_) (fun heq1=>?_)
 ·have:¬ x=y:=fun e=>(by rw[e] at hne;simp at hne)
  simp [this]
 refine Zk (fun hne=>?_) (fun heq2=>?_)
 ·have:¬ x=y:=fun e=>(by rw[e] at hne;simp at hne)
  simp [this]
 have:x=y:=by
  cases x;cases y;simp_all
 simp [this]
theorem Zk5:ZE Proofs.Tryz.prog QU (Zzd 3 (some 3) Xy)=true:=by kernel_rfl
theorem Zhs(a b:(List TControl))(ha:a.length<=9223372036854775807)(ha2:∀ y∈a,Zq 9223372036854775807 y)(lvl:Nat)(S:Sto):Sem Proofs.Tryz.prog QU lvl [.tr (.sl (a.map Zj)),.tr (.sl (b.map Zj))] S (iB (decide (a=b))) S :=
 ZmI Zk5 Zj (fun _=>rfl) a b ha (fun x hx y _ lvl S=>ZjC x y (ha2 x hx) lvl S) lvl S
theorem Zht(x y:TTermStep)(hb:Zz 9223372036854775807 x)(lvl:Nat)(S:Sto):Sem Proofs.Tryz.prog QX lvl [.ag ((Zi x).map .tr),.ag ((Zi y).map .tr)] S (iB (decide (x=y))) S:=by
 obtain⟨b0,b1⟩:=hb
 refine Zc ZeL trivial ?_
 simp only[DW,Zi,List.map_cons,List.map_nil,EVA,seval,Zf,men]
 refine Zk (fun hne=>?_) (fun heq0=>?_)
 ·have:¬ x=y:=fun e=>(by rw[e] at hne;simp at hne)
  simp [this]
 refine Zk (fun hne=>?_) (fun heq1=>?_)
 ·have:¬ x=y:=fun e=>(by rw[e] at hne;simp at hne)
  simp [this]
 refine Zk (fun hne=>?_) (fun heq2=>?_)
 ·have:¬ x=y:=fun e=>(by rw[e] at hne;simp at hne)
  simp [this]
 refine Za (ZjB x.names y.names b0) ?_
 simp only[Bool.not_eq_true',EVA,seval,Zf,men]
 refine Zk (fun hne=>?_) (fun heq3=>?_)
 ·have:¬ x=y:=fun e=>(by rw[e] at hne;simp at hne)
  simp [this]
 have:x=y:=by
  cases x;cases y;simp_all
 simp [this]
theorem ZjD:ZE Proofs.Tryz.prog YR (Zzd 4 (some 4) QX)=true:=by kernel_rfl
theorem ZbB(a b:(List TTermStep))(ha:a.length<=9223372036854775807)(ha2:∀ y∈a,Zz 9223372036854775807 y)(lvl:Nat)(S:Sto):Sem Proofs.Tryz.prog YR lvl [.tr (.sl (a.map Zi)),.tr (.sl (b.map Zi))] S (iB (decide (a=b))) S :=
 ZmI ZjD Zi (fun _=>rfl) a b ha (fun x hx y _ lvl S=>Zht x y (ha2 x hx) lvl S) lvl S
end Go.Fd

/-
  WHAT HOLDS OF THE HELPERS OF THE LAWS: to.. (printed by lawgen.py). Own work.
-/
namespace Go.Fd
set_option maxRecDepth 20000
theorem Zmd:ZE Proofs.Tryz.prog XA (ZC3 (.string ⟨#[]⟩))=true:=by kernel_rfl
theorem ZjE(a:(List ByteArray))(ha:a.length<=4294967296)(lvl:Nat)(S:Sto):Sem Proofs.Tryz.prog XA lvl [.tr (.sl (rS a))] S (.ow 1 (rS a) true) S:=ZuL Zmd a ha lvl S
theorem ZjF(x:TControl)(hb:Zq 4294967296 x)(lvl:Nat)(S:Sto):Sem Proofs.Tryz.prog Xx lvl [.ag ((Zj x).map .tr)] S (ZfG x) S:=by
 have b0:x.name.size<=4294967296:=hb
 refine Zc Zft (by simp [ZfG,low,men,Zf]) ?_
 simp only[ZaN,Zj,zfill,zobs,List.map_cons,List.map_nil,ZfD,ZfE,List.set_cons_zero,List.set_cons_succ,EVA,seval,Zf,men]
 rfl
theorem Dv(a:(List TControl))(ha:a.length<=4294967296)(hb:∀ y∈a,Zq 4294967296 y)(lvl:Nat)(S:Sto):Sem Proofs.Tryz.prog Yg lvl [.tr (.sl (a.map Zj))] S (.ow 3 (a.map Zj) true) S:=by
 refine Zc ZeI trivial ?_
 simp only[DT,List.length_map,bigN,Int.natCast_nonneg,EVA,seval,Zf,men]
 refine⟨by omega,?_⟩
 refine Jp (α:=Unit) a.length (fun j _=>⟨lvl,[(0,.tr (.sl (a.map Zj))),(3,.hd (lvl,224) [] 0 a.length none a.length),(4,iI j)],[(224,.ar 3 (Xt Zj [ts ⟨#[]⟩,tv 0,tv 0] a j) true a.length (j*0))],S⟩) (fun _ _=>True) () ⟨by simp only[EVA,seval,Zf,men],by (simp only[Zcx,EVA,seval,Zf,men]) <;> rfl⟩ trivial ?_
 intro j _ hj _
 simp only[List.length_map,EVA,seval,Zf,men]
 refine Zk (fun hlt=>?_) (fun hge=>?_)
 ·have hja:j<a.length:=by omega
  have ga:(a.map Zj)[j]? = some (Zj a[j]):=by simp [hja]
  have gz:(Xt Zj [ts ⟨#[]⟩,tv 0,tv 0] a j)[j]? = some [ts ⟨#[]⟩,tv 0,tv 0]:=Zee hja
  have hfl:(Xt Zj [ts ⟨#[]⟩,tv 0,tv 0] a j).length=a.length:=ZcY hj
  have hsem:=fun lvl S=>ZjF a[j] (hb a[j] (List.getElem_mem hja)) lvl S
  simp only[ga,gz,Int.natCast_nonneg,Nat.le_refl,hja,Zj,ZfG,Nat.reduceLeDiff,EVA,↓reduceIte,Nat.reduceEqDiff,Nat.reduceMul,reduceCtorEq,Nat.reduceAdd,Nat.reduceSub,Nat.reduceLT,Int.reduceToNat,Int.reduceLE,Int.reduceLT,Zf,men]
  refine Za hsem ?_
  simp only[ZfG,gz,Int.natCast_nonneg,Nat.le_refl,hja,hfl,Vs,List.getElem?_set_self,List.set_set,List.length_set,List.set_cons_zero,List.set_cons_succ,Prod.mk.injEq,ne_eq,not_false_eq_true,EVA,seval,Zf,men]
  refine⟨by rw[Zd];omega,Ze () hja ?_ trivial⟩
  have hse:=Zef (c:=Zj) (z:=[ts ⟨#[]⟩,tv 0,tv 0]) (e:=[ts a[j].name,tv a[j].ports,tv a[j].kind_]) hja rfl
  rw[hse,show (j+1)*0=j*0 from by omega]
  rfl
 ·have:j=a.length:=by omega
  subst this
  rw[Zed]
  simp
theorem Zhu(x:TTermStep)(hb:Zz 4294967296 x)(lvl:Nat)(S:Sto):Sem Proofs.Tryz.prog QW lvl [.ag ((Zi x).map .tr)] S (ZcZ x) S:=by
 obtain⟨b0,b1⟩:=hb
 refine Zc ZeK (by simp [ZcZ,low,men,Zf]) ?_
 simp only[DV,Zi,zfill,zobs,List.map_cons,List.map_nil,ZfD,ZfE,List.set_cons_zero,List.set_cons_succ,EVA,seval,Zf,men]
 refine Za (ZjE x.names b0) ?_
 simp only[ZfD,ZfE,List.set_cons_zero,List.set_cons_succ,Prod.mk.injEq,EVA,seval,Zf,men]
 rfl
theorem Y3(a:(List TTermStep))(ha:a.length<=4294967296)(hb:∀ y∈a,Zz 4294967296 y)(lvl:Nat)(S:Sto):Sem Proofs.Tryz.prog ZZ lvl [.tr (.sl (a.map Zi))] S (.ow 4 (a.map Zi) true) S:=by
 refine Zc ZdX trivial ?_
 simp only[Dd,List.length_map,bigN,Int.natCast_nonneg,EVA,seval,Zf,men]
 refine⟨by omega,?_⟩
 refine Jp (α:=Unit) a.length (fun j _=>⟨lvl,[(0,.tr (.sl (a.map Zi))),(3,.hd (lvl,224) [] 0 a.length none a.length),(4,iI j)],[(224,.ar 4 (Xt Zi [tv 0,tv 0,tv 0,.sl []] a j) true a.length (j*1))],S⟩) (fun _ _=>True) () ⟨by simp only[EVA,seval,Zf,men],by (simp only[Zcx,EVA,seval,Zf,men]) <;> rfl⟩ trivial ?_
 intro j _ hj _
 simp only[List.length_map,EVA,seval,Zf,men]
 refine Zk (fun hlt=>?_) (fun hge=>?_)
 ·have hja:j<a.length:=by omega
  have ga:(a.map Zi)[j]? = some (Zi a[j]):=by simp [hja]
  have gz:(Xt Zi [tv 0,tv 0,tv 0,.sl []] a j)[j]? = some [tv 0,tv 0,tv 0,.sl []]:=Zee hja
  have hfl:(Xt Zi [tv 0,tv 0,tv 0,.sl []] a j).length=a.length:=ZcY hj
  have hsem:=fun lvl S=>Zhu a[j] (hb a[j] (List.getElem_mem hja)) lvl S
  simp only[ga,gz,Int.natCast_nonneg,Nat.le_refl,hja,Zi,ZcZ,Nat.reduceLeDiff,EVA,↓reduceIte,Nat.reduceEqDiff,Nat.reduceMul,reduceCtorEq,Nat.reduceAdd,Nat.reduceSub,Nat.reduceLT,Int.reduceToNat,Int.reduceLE,Int.reduceLT,Zf,men]
  refine Za hsem ?_
  simp only[ZcZ,gz,Int.natCast_nonneg,Nat.le_refl,hja,hfl,Vs,List.getElem?_set_self,List.set_set,List.length_set,List.set_cons_zero,List.set_cons_succ,Prod.mk.injEq,ne_eq,not_false_eq_true,EVA,seval,Zf,men]
  refine⟨by rw[Zd];omega,Ze () hja ?_ trivial⟩
  have hse:=Zef (c:=Zi) (z:=[tv 0,tv 0,tv 0,.sl []]) (e:=[tv a[j].kind_,tv a[j].control,tv a[j].site,.sl (rS a[j].names)]) hja rfl
  rw[hse,show (j+1)*1=j*1+1 from by omega]
  rfl
 ·have:j=a.length:=by omega
  subst this
  rw[Zed]
  simp
end Go.Fd

/-
  WHAT THE LAWS' ARGUMENTS READ AS (printed by lawgen.py). Own work.
-/
namespace Go.Fd
set_option maxRecDepth 20000
theorem ZDO:ZaP Proofs.Tryz.prog 9 (fun n:ByteArray=>[ts n]) (fun n=>n.size<=9223372036854775807):=Zj5 Proofs.Tryz.underlying9
theorem Zy1:ZaP Proofs.Tryz.prog 3 (fun n:Int=>[tv n]) (X3 .i64):=Zpc Proofs.Tryz.underlying3
theorem ZDh:ZaP Proofs.Tryz.prog 67 Zj (fun x=>Zq 9223372036854775807 x/\Zka x):=ZmG (ZeQ Proofs.Tryz.underlying67 (show ZhF Proofs.Tryz.prog 0 [(0,9),(1,3),(2,3)] _ _ from (QR (k:=1) (by kernel_rfl) (fun _=>rfl) ZDO (QR (k:=1) (by kernel_rfl) (fun _=>rfl) Zy1 (QR (k:=1) (by kernel_rfl) (fun _=>rfl) Zy1 ZhG))))) (fun p=>TControl.mk p.1 p.2.1 p.2.2.1) (fun _=>rfl) (fun x h=>⟨h.1,⟨h.2.1,h.2.2.1⟩⟩)
theorem ZDi:ZaP Proofs.Tryz.prog 22 (fun l:List TControl=>[Tr.sl (l.map Zj)]) (fun l=>l.length<=9223372036854775807/\∀ x∈l,(fun x=>Zq 9223372036854775807 x/\Zka x) x):=Zcv (k:=2) Proofs.Tryz.underlying22 (by kernel_rfl) (fun _=>rfl) ZDh
theorem ZDj:ZaP Proofs.Tryz.prog 46 (fun l:List ByteArray=>[Tr.sl (l.map (fun n:ByteArray=>[ts n]))]) (fun l=>l.length<=9223372036854775807/\∀ x∈l,(fun n=>n.size<=9223372036854775807) x):=Zcv (k:=0) Proofs.Tryz.underlying46 (by kernel_rfl) (fun _=>rfl) ZDO
theorem ZDk:ZaP Proofs.Tryz.prog 70 Zi (fun x=>Zz 9223372036854775807 x/\ZhI x):=ZmG (ZeQ Proofs.Tryz.underlying70 (show ZhF Proofs.Tryz.prog 0 [(0,3),(1,3),(2,3),(3,46)] _ _ from (QR (k:=1) (by kernel_rfl) (fun _=>rfl) Zy1 (QR (k:=1) (by kernel_rfl) (fun _=>rfl) Zy1 (QR (k:=1) (by kernel_rfl) (fun _=>rfl) Zy1 (QR (k:=1) (by kernel_rfl) (fun _=>rfl) ZDj ZhG)))))) (fun p=>TTermStep.mk p.1 p.2.1 p.2.2.1 p.2.2.2.1) (fun _=>rfl) (fun x h=>⟨⟨h.2.2.2.1.1,(fun y hy=>(h.2.2.2.1.2 y hy))⟩,⟨h.1,h.2.1,h.2.2.1⟩⟩)
theorem Zy2:ZaP Proofs.Tryz.prog 23 (fun l:List TTermStep=>[Tr.sl (l.map Zi)]) (fun l=>l.length<=9223372036854775807/\∀ x∈l,(fun x=>Zz 9223372036854775807 x/\ZhI x) x):=Zcv (k:=3) Proofs.Tryz.underlying23 (by kernel_rfl) (fun _=>rfl) ZDk
end Go.Fd
