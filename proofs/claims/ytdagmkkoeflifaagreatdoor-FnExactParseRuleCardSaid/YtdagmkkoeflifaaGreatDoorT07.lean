/-
  ParseBigraph: THE REFERENCE'S SIDE. Own work.
-/
import Derived.Test.YtdagmkkoeflifaaGreatDoorT06
import Derived.MakeChecks
import Derived.Stop.LaidErr
import Derived.Shelf.Vars
import Derived.Handed
import Derived.KernelRfl
import Derived.Test.YtdagmkkoeflifaaGreatDoorProg
set_option linter.all false
namespace Go.Fd
open Go.RowKit
set_option maxRecDepth 20000
theorem Znw{s:ByteArray}:(ptS s).length<=s.size+1:=by
 have h:=ZgR (s:=s) (b:=59)
 unfold ptS
 simp only[List.length_cons,List.length_map,List.length_tail]
 have:=List.length_pos_iff.2 (ZhP (s:=s) (b:=59))
 omega
theorem Zqx{s:ByteArray}:∀ p∈ptS s,p.size<=s.size:=by
 intro p hp
 obtain⟨x,r,h⟩:∃ x r,spl s 59=x::r:=by
  cases h:spl s 59 with
  | nil=>exact absurd h ZhP
  | cons x r=>exact⟨x,r,rfl⟩
 unfold ptS at hp
 rw[h] at hp
 rcases List.mem_cons.1 hp with rfl | hp
 ·exact ZbS (b:=59) (by rw[h];simp)
 ·obtain⟨q,hq,rfl⟩:=List.mem_map.1 hp
  have h1:=ZbS (s:=s) (b:=59) (p:=q) (by rw[h];exact List.mem_cons_of_mem _ hq)
  unfold Zbs
  simp only[ByteArray.size_extract]
  omega
theorem ZuN{rd:ByteArray->Option Int}{ws:List ByteArray}(h:wrB rd ws=true):wrT rd ws=wrL rd ws:=by
 unfold wrT wrL
 rw[if_pos h,Zli (j:=ws.length) (Nat.le_refl _) (fun i hi _=>by
  unfold wrB at h
  rw[List.all_eq_true] at h
  exact h _ (List.getElem_mem hi)) (fun h=>absurd h (Nat.lt_irrefl _)),List.take_length]
theorem ZuO{rd:ByteArray->Option Int}(hr:∀ s v,rd s=some v->n64 v){sig:List TControl}(hn:sig.length<=4294967296){p0 a b c d:ByteArray}{Q:List ByteArray}:XK (bI rd sig p0 Q a b c d):=by
 have hg:∀ s,WM .i64 ((rd s).getD 0):=fun s=>by
  rw[Zd]
  cases e:rd s with
  | none=>simp
  | some v=>exact hr s v e
 have hnl:∀ ws,∀ y∈Zac rd ws,WM .i64 y:=fun ws y hy=>by
  unfold Zac at hy
  split at hy
  ·obtain⟨w,_,rfl⟩:=List.mem_map.1 hy
   exact hg w
  ·cases hy
 have hix:∀(f:TControl->Bool) (l:List TControl) (j:Int),0<=j -> -1<=ixF f l j/\ixF f l j<=j+l.length:=fun f l=>by
  induction l with
  | nil=>intro j hj;rw[ZjY];simp;omega
  | cons x r ih =>
   intro j hj
   rw[Wb]
   have:=ih (j+1) (by omega)
   split <;> (simp only[List.length_cons];omega)
 refine⟨hg p0,fun y hy=>?_,hnl _,hg b,fun y hy=>?_⟩
 ·obtain⟨q,_,rfl⟩:=List.mem_map.1 hy
  refine⟨?_,hg _,hnl _⟩
  have:=hix (fun dd:TControl=>decide (dd.name=(V1 (hd0 q) (WC 64)).1)) sig 0 (Int.le_refl _)
  show WM .i64 (ZjX sig (V1 (hd0 q) (WC 64)).1)
  unfold ZjX
  rw[Zd]
  omega
 ·simp only[bI] at hy
  unfold wrL at hy
  split at hy
  ·obtain⟨w,_,rfl⟩:=List.mem_map.1 hy
   exact hg _
  ·cases hy
set_option maxHeartbeats 2000000 in
theorem V9(sig:List TControl)(s:ByteArray)(hn:sig.length<=4294967296)(hbs:∀ y∈sig,Zz 4294967296 y)(hs:s.size<=1048576)(lvl:Nat)(S:Sto):Sem Proofs.Tryz.prog Jz lvl [.tr (.sl (sig.map Zg)),iS s] S (.tu [.ag ((Zb (pbV sig s)).map .tr),iB (pbB sig s)]) S:=by
 refine Ze U9 (by simp [low,men,Zc,Zb]) ?_
 have hl:=Znw (s:=s)
 have hz:=Zqx (s:=s)
 have hbs2:∀ y∈sig,Zz 9223372036854775807 y:=fun y hy=>Nat.le_trans (hbs y hy) (by omega)
 have hw:∀ b,PBg sig s b->ptS s=ZH b.roots::Um sig b:=fun b hb=>by rw[<-hb.2];exact Zj9 hb.1
 simp only[QX,List.length_map,EVA,↓reduceIte,Nat.reduceEqDiff,Nat.reduceMul,reduceCtorEq,Nat.reduceAdd,Nat.reduceSub,Nat.reduceLeDiff,Nat.reduceLT,Int.reduceToNat,Int.reduceLE,Int.reduceLT,Zc,men]
 refine Za (Zg0 s (by omega)) ?_
 generalize ptS s=P at hl hz hw
 by_cases hsg:XC sig
 rotate_left
 ·obtain⟨v1,v2⟩:=ZaY (sig:=sig) (s:=s) fun b hb=>hsg hb.1.sg
  rw[v1,v2]
  simp only[List.length_map,EVA,↓reduceIte,Nat.reduceEqDiff,Nat.reduceMul,reduceCtorEq,Nat.reduceAdd,Nat.reduceSub,Nat.reduceLeDiff,Nat.reduceLT,Int.reduceToNat,Int.reduceLE,Int.reduceLT,Zc,men]
  refine⟨by rw[Zd];omega,Za (DX sig (by omega) hbs2) ?_⟩
  rw[Zh hsg]
  simp only[Zb,ZL,zfill,zobs,Zl,Zn,List.set_cons_zero,List.set_cons_succ,List.length_map,List.length_cons,List.map_nil,EVA,↓reduceIte,Nat.reduceEqDiff,Nat.reduceMul,reduceCtorEq,Nat.reduceAdd,Nat.reduceSub,Nat.reduceLeDiff,Nat.reduceLT,Int.reduceToNat,Int.reduceLE,Int.reduceLT,Zc,men]
  try rfl
 by_cases h5:5<=P.length/\P.length<=13
 rotate_left
 ·have hno:∀ b,¬ PBg sig s b:=fun b hb=>h5 (by rw[hw b hb];have:=hb.1.nodesL;simp [Um,JQ];omega)
  obtain⟨v1,v2⟩:=ZaY hno
  have hin:inB ((P.length:Int)-4) 1 9=false:=by
   cases e:inB ((P.length:Int)-4) 1 9
   ·rfl
   ·simp [inB] at e;omega
  rw[v1,v2]
  simp only[List.length_map,EVA,↓reduceIte,Nat.reduceEqDiff,Nat.reduceMul,reduceCtorEq,Nat.reduceAdd,Nat.reduceSub,Nat.reduceLeDiff,Nat.reduceLT,Int.reduceToNat,Int.reduceLE,Int.reduceLT,Zc,men]
  refine⟨by rw[Zd];omega,Za (DX sig (by omega) hbs2) ?_⟩
  rw[JF hsg]
  simp only[List.length_map,EVA,↓reduceIte,Nat.reduceEqDiff,Nat.reduceMul,reduceCtorEq,Nat.reduceAdd,Nat.reduceSub,Nat.reduceLeDiff,Nat.reduceLT,Int.reduceToNat,Int.reduceLE,Int.reduceLT,Zc,men]
  refine Za (Jt ((P.length:Int)-4) 1 9) ?_
  rw[hin]
  simp only[Zb,ZL,zfill,zobs,Zl,Zn,List.set_cons_zero,List.set_cons_succ,List.length_map,List.length_cons,List.map_nil,EVA,↓reduceIte,Nat.reduceEqDiff,Nat.reduceMul,reduceCtorEq,Nat.reduceAdd,Nat.reduceSub,Nat.reduceLeDiff,Nat.reduceLT,Int.reduceToNat,Int.reduceLE,Int.reduceLT,Zc,men]
  try rfl
 obtain⟨p0,Q,a,b,c,d,rfl⟩:=Zvo h5.1
 obtain⟨R,hR⟩:∃ R,R=Q++[a,b,c,d]:=⟨_,rfl⟩
 have hRl:R.length=Q.length+4:=by rw[hR];simp
 have hrt:∀ B,PBg sig s B->okI rdS sig p0 Q a b d/\bI rdS sig p0 Q a b c d=B:=fun B hB=>Zlo Zvl hB (hw B hB).symm
 rw[<-hR] at hl hz h5 ⊢
 simp only[List.length_cons] at hl h5
 have e6:((R.length+1:Nat):Int)-4=(Q.length:Int)+1:=by omega
 have hin:inB ((Q.length:Int)+1) 1 9=true:=by simp [inB];omega
 have z0:=hz p0 (by simp)
 have za:=hz a (by rw[hR];simp)
 have zb:=hz b (by rw[hR];simp)
 have zc:=hz c (by rw[hR];simp)
 have zd:=hz d (by rw[hR];simp)
 simp only[e6,List.length_map,List.length_cons,EVA,↓reduceIte,Nat.reduceEqDiff,Nat.reduceMul,reduceCtorEq,Nat.reduceAdd,Nat.reduceSub,Nat.reduceLeDiff,Nat.reduceLT,Int.reduceToNat,Int.reduceLE,Int.reduceLT,Zc,men]
 refine⟨by rw[Zd];omega,Za (DX sig (by omega) hbs2) ?_⟩
 rw[JF hsg]
 simp only[List.length_map,EVA,↓reduceIte,Nat.reduceEqDiff,Nat.reduceMul,reduceCtorEq,Nat.reduceAdd,Nat.reduceSub,Nat.reduceLeDiff,Nat.reduceLT,Int.reduceToNat,Int.reduceLE,Int.reduceLT,Zc,men]
 refine Za (Jt ((Q.length:Int)+1) 1 9) ?_
 rw[hin]
 have e40:((Q.length:Int)+1).toNat=Q.length+1:=by omega
 have e41:(0:Int)<=(Q.length:Int)+1:=by omega
 have hun:UnR 1 ([ts p0]::List.map (fun n=>[ts n]) R):=QK (fun n:ByteArray=>[ts n]) (fun _=>rfl) (p0::R)
 simp only[zfill,zobs,Zl,Zn,List.set_cons_zero,List.set_cons_succ,List.length_map,List.length_cons,EVA,↓reduceIte,Nat.reduceEqDiff,Nat.reduceMul,reduceCtorEq,Nat.reduceAdd,Nat.reduceSub,Nat.reduceLeDiff,Nat.reduceLT,Int.reduceToNat,Int.reduceLE,Int.reduceLT,Zc,men]
 refine Za (Vc p0 (by omega)) ?_
 simp only[e40,e41,zfill,zobs,Zl,Zn,List.set_cons_zero,List.set_cons_succ,List.length_map,List.length_cons,EVA,↓reduceIte,Nat.reduceEqDiff,Nat.reduceMul,reduceCtorEq,Nat.reduceAdd,Nat.reduceSub,Nat.reduceLeDiff,Nat.reduceLT,Int.reduceToNat,Int.reduceLE,Int.reduceLT,Zc,men]
 have hcq:cut ([ts p0]::List.map (fun n=>[ts n]) R) (Q.length+1) (R.length+1-(Q.length+1))=rS [a,b,c,d]:=by
  show List.take (R.length+1-(Q.length+1)) (List.drop (Q.length+1) ([ts p0]::List.map (fun n=>[ts n]) R))=_
  rw[List.drop_succ_cons,<-List.map_drop,hR,List.drop_left,<-List.map_take,List.take_of_length_le (by simp)]
 rw[hcq]
 refine⟨fun _=>hun,by omega,Zjr (ZeT _ a b c d (by omega) (by omega) (by omega) (by omega) _ _) ?_⟩
 cases h0:(rdS p0).isSome
 ·obtain⟨v1,v2⟩:=ZaY (sig:=sig) (s:=s) fun B hB=>by
   have:=(hrt B hB).1.1
   rw[h0] at this
   cases this
  rw[v1,v2]
  simp only[Zb,ZL,zfill,zobs,Zl,Zn,List.set_cons_zero,List.set_cons_succ,List.length_map,List.length_cons,List.map_nil,EVA,↓reduceIte,Nat.reduceEqDiff,Nat.reduceMul,reduceCtorEq,Nat.reduceAdd,Nat.reduceSub,Nat.reduceLeDiff,Nat.reduceLT,Int.reduceToNat,Int.reduceLE,Int.reduceLT,Zc,men]
  try rfl
 cases hE:reB a b d rdS
 ·obtain⟨v1,v2⟩:=ZaY (sig:=sig) (s:=s) fun B hB=>by
   obtain⟨_,_,k1,k2,k3⟩:=(hrt B hB).1
   unfold reB at hE
   rw[k1,k2,k3] at hE
   cases hE
  rw[v1,v2]
  simp only[Zb,ZL,zfill,zobs,Zl,Zn,List.set_cons_zero,List.set_cons_succ,List.length_map,List.length_cons,List.map_nil,EVA,↓reduceIte,Nat.reduceEqDiff,Nat.reduceMul,reduceCtorEq,Nat.reduceAdd,Nat.reduceSub,Nat.reduceLeDiff,Nat.reduceLT,Int.reduceToNat,Int.reduceLE,Int.reduceLT,Zc,men]
  try rfl
 have hE2:Zau rdS (tl0 a)=true/\(rdS b).isSome=true/\wrB rdS (tl0 d)=true:=by
  unfold reB at hE
  simp only[Bool.and_eq_true] at hE
  exact⟨hE.1.1,hE.1.2,hE.2⟩
 rw[ZuN hE2.2.2]
 simp only[zfill,zobs,Zl,Zn,List.set_cons_zero,List.set_cons_succ,List.length_map,List.length_cons,EVA,↓reduceIte,Nat.reduceEqDiff,Nat.reduceMul,reduceCtorEq,Nat.reduceAdd,Nat.reduceSub,Nat.reduceLeDiff,Nat.reduceLT,Int.reduceToNat,Int.reduceLE,Int.reduceLT,Zc,men]
 have hcl:∀ j,j<=Q.length->((Q.take j).map (ndV rdS sig)).length=j:=fun j hj=>by rw[List.length_map,List.length_take];omega
 have hzQ:∀ q∈Q,q.size<=s.size:=fun q hq=>hz q (by rw[hR];simp [hq])
 refine ZE (α:=Unit) Q.length (fun j _=>[(12,iI ((j:Int)+1))]) (fun j _=>[(320,.bx [iI ((rdS p0).getD 0),.hd (lvl,1344) [] 0 j none j,.tr (.sl (rI (Zac rdS (tl0 a)))),iI ((rdS b).getD 0),.tr (.sl (rS (tl0 c))),.tr (.sl ((wrL rdS (tl0 d)).map ZK))]),(1344,.ar 3 (((Q.take j).map (ndV rdS sig)).map ZA) true j 0)]) (fun j _=>∀ i (hi:i<Q.length),i<j->ndB rdS sig Q[i]=true) () (by simp only[EVA,↓reduceIte,Nat.reduceEqDiff,Nat.reduceMul,reduceCtorEq,Nat.reduceAdd,Nat.reduceSub,Nat.reduceLeDiff,Nat.reduceLT,Int.reduceToNat,Int.reduceLE,Int.reduceLT,Zc,men]) (by (simp only[EVA,↓reduceIte,Nat.reduceEqDiff,Nat.reduceMul,reduceCtorEq,Nat.reduceAdd,Nat.reduceSub,Nat.reduceLeDiff,Nat.reduceLT,Int.reduceToNat,Int.reduceLE,Int.reduceLT,Zc,men]) <;> rfl) (fun i _ h=>absurd h (Nat.not_lt_zero i)) ?_
 intro j _ hj hA
 simp only[List.length_map,EVA,↓reduceIte,Nat.reduceEqDiff,Nat.reduceMul,reduceCtorEq,Nat.reduceAdd,Nat.reduceSub,Nat.reduceLeDiff,Nat.reduceLT,Int.reduceToNat,Int.reduceLE,Int.reduceLT,Zc,men]
 refine Zk (fun hlt=>?_) (fun hge=>?_)
 ·have hja:j<Q.length:=by omega
  have f1:((j:Int)+1).toNat=j+1:=by omega
  have f2:(0:Int)<=(j:Int)+1:=by omega
  have gq:(List.map (fun n:ByteArray=>[ts n]) R)[j]? = some [ts Q[j]]:=by
   rw[List.getElem?_map,hR,List.getElem?_append_left hja,List.getElem?_eq_getElem hja];rfl
  have zq:=hzQ _ (List.getElem_mem hja)
  simp only[gq,f1,f2,List.length_map,EVA,↓reduceIte,Nat.reduceEqDiff,Nat.reduceMul,reduceCtorEq,Nat.reduceAdd,Nat.reduceSub,Nat.reduceLeDiff,Nat.reduceLT,Int.reduceToNat,Int.reduceLE,Int.reduceLT,Zc,men]
  refine Za (Zdg sig Q[j] hn (by omega)) ?_
  cases hb:ndB rdS sig Q[j]
  ·obtain⟨v1,v2⟩:=ZaY (sig:=sig) (s:=s) fun B hB=>by
    have:=(hrt B hB).1.2.1 _ (List.getElem_mem hja)
    rw[hb] at this
    cases this
   rw[v1,v2]
   simp only[UJ,Zb,ZL,zfill,zobs,Zl,Zn,List.set_cons_zero,List.set_cons_succ,List.length_map,List.length_cons,List.map_nil,EVA,↓reduceIte,Nat.reduceEqDiff,Nat.reduceMul,reduceCtorEq,Nat.reduceAdd,Nat.reduceSub,Nat.reduceLeDiff,Nat.reduceLT,Int.reduceToNat,Int.reduceLE,Int.reduceLT,Zc,men]
   try rfl
  ·have hl1:=hcl j hj
   have hmx:max j (j+1)=j+1:=by omega
   have st1:((Q.take j).map (ndV rdS sig)).map ZA++[[Tr.v (Value.int .i64 (ndV rdS sig Q[j]).control),Tr.v (Value.int .i64 (ndV rdS sig Q[j]).parent),Tr.sl (rI (ndV rdS sig Q[j]).links)]]=((Q.take (j+1)).map (ndV rdS sig)).map ZA:=by
    rw[List.take_succ_eq_append_getElem hja,List.map_append,List.map_append]
    rfl
   simp only[UJ,hl1,hmx,st1,zfill,zobs,Zl,Zn,List.set_cons_zero,List.set_cons_succ,List.length_map,List.length_cons,EVA,↓reduceIte,Nat.reduceEqDiff,Nat.reduceMul,reduceCtorEq,Nat.reduceAdd,Nat.reduceSub,Nat.reduceLeDiff,Nat.reduceLT,Int.reduceToNat,Int.reduceLE,Int.reduceLT,Zc,men]
   exact⟨by omega,by rw[Zd];omega,Zf () hja rfl fun i hi hij=>by
    by_cases e:i=j
    ·subst e;exact hb
    ·exact hA i hi (by omega)⟩
 ·have hj1:j=Q.length:=by omega
  subst hj1
  rw[show Q.take Q.length=Q from List.take_length]
  have hG:∀ q∈Q,ndB rdS sig q=true:=fun q hq=>by
   obtain⟨i,hi,rfl⟩:=List.getElem_of_mem hq
   exact hA i hi hi
  have hcn:cut ((Q.map (ndV rdS sig)).map ZA) 0 Q.length=(Q.map (ndV rdS sig)).map ZA:=Yn (by rw[List.length_map,List.length_map])
  have hbd:∀ n,s.size+1<=n->ZP n (bI rdS sig p0 Q a b c d):=fun n hn=>Zqw (by omega) (fun q hq=>by have:=hzQ q hq;omega) (by omega) (by omega) (by omega)
  have qB:=ZaN sig (bI rdS sig p0 Q a b c d) hn hbs (hbd _ (by omega)) (ZuO (fun _ _=>Zj0) hn)
  simp only[Zb,bI,List.map_cons,List.map_nil] at qB
  change ∀ lvl S,Sem Proofs.Tryz.prog _ lvl _ S (iB (dc (bigOK sig (bI rdS sig p0 Q a b c d)))) S at qB
  simp only[hcn,zfill,zobs,Zl,Zn,List.set_cons_zero,List.set_cons_succ,List.length_map,List.length_cons,EVA,↓reduceIte,Nat.reduceEqDiff,Nat.reduceMul,reduceCtorEq,Nat.reduceAdd,Nat.reduceSub,Nat.reduceLeDiff,Nat.reduceLT,Int.reduceToNat,Int.reduceLE,Int.reduceLT,Zc,men]
  refine Za qB ?_
  by_cases hB:bigOK sig (bI rdS sig p0 Q a b c d)
  rotate_left
  ·obtain⟨v1,v2⟩:=ZaY (sig:=sig) (s:=s) fun B hB2=>hB (by rw[(hrt B hB2).2];exact hB2.1)
   rw[v1,v2,Zh hB]
   simp only[Zb,ZL,zfill,zobs,Zl,Zn,List.set_cons_zero,List.set_cons_succ,List.length_map,List.length_cons,List.map_nil,EVA,↓reduceIte,Nat.reduceEqDiff,Nat.reduceMul,reduceCtorEq,Nat.reduceAdd,Nat.reduceSub,Nat.reduceLeDiff,Nat.reduceLT,Int.reduceToNat,Int.reduceLE,Int.reduceLT,Zc,men]
   try rfl
  rw[JF hB]
  have qT:=ZaX sig (bI rdS sig p0 Q a b c d) hB
  simp only[Zb,bI,List.map_cons,List.map_nil] at qT
  change ∀ lvl S,Sem Proofs.Tryz.prog _ lvl _ S (iS (Ui sig (bI rdS sig p0 Q a b c d))) S at qT
  simp only[hcn,zfill,zobs,Zl,Zn,List.set_cons_zero,List.set_cons_succ,List.length_map,List.length_cons,EVA,↓reduceIte,Nat.reduceEqDiff,Nat.reduceMul,reduceCtorEq,Nat.reduceAdd,Nat.reduceSub,Nat.reduceLeDiff,Nat.reduceLT,Int.reduceToNat,Int.reduceLE,Int.reduceLT,Zc,men]
  refine Za qT ?_
  by_cases hT:Ui sig (bI rdS sig p0 Q a b c d)=s
  rotate_left
  ·have eT:=eq_false hT
   obtain⟨v1,v2⟩:=ZaY (sig:=sig) (s:=s) fun B hB2=>hT (by rw[(hrt B hB2).2];exact hB2.2)
   rw[v1,v2]
   simp only[eT,Zb,ZL,ne_eq,not_false_eq_true,zfill,zobs,Zl,Zn,List.set_cons_zero,List.set_cons_succ,List.length_map,List.length_cons,List.map_nil,EVA,↓reduceIte,Nat.reduceEqDiff,Nat.reduceMul,reduceCtorEq,Nat.reduceAdd,Nat.reduceSub,Nat.reduceLeDiff,Nat.reduceLT,Int.reduceToNat,Int.reduceLE,Int.reduceLT,Zc,men]
   try rfl
  have eT:=eq_true hT
  obtain⟨v1,v2⟩:=Zka (sig:=sig) (s:=s) ⟨hB,hT⟩ fun B hB2=>(hrt B hB2).2
  rw[v1,v2]
  simp only[eT,ne_eq,not_true_eq_false,hcn,Zb,zfill,zobs,Zl,Zn,List.set_cons_zero,List.set_cons_succ,List.length_map,List.length_cons,EVA,↓reduceIte,Nat.reduceEqDiff,Nat.reduceMul,reduceCtorEq,Nat.reduceAdd,Nat.reduceSub,Nat.reduceLeDiff,Nat.reduceLT,Int.reduceToNat,Int.reduceLE,Int.reduceLT,Zc,men]
  trace_state
  try rfl
end Go.Fd

namespace Go.Fd
open Go.RowKit
set_option maxRecDepth 20000
theorem Zh0{sig:List TControl}{b:TBigraph}(hs:bigOK sig b){c:UInt8}(hc:¬ sfc c)(h32:c≠32)(h61:c≠61)(h64:c≠64)(h59:c≠59):c ∉ bl (Ui sig b):=by
 rw[Ze0]
 intro h
 rcases List.mem_append.1 h with h | h
 ·exact Y6 (Wi (ZiJ hs).roots) hc h
 ·obtain⟨p,hp,hm⟩:=List.mem_flatMap.1 h
  rcases List.mem_append.1 hm with h | h
  ·rw[show bl ySEMI=[59,32] from rfl] at h
   simp only[List.mem_cons,List.not_mem_nil,or_false] at h
   rcases h with h | h
   ·exact h59 h
   ·exact h32 h
  ·exact ZcK hs hc h32 h61 h64 p hp h
theorem Znx{sig:List TControl}{s:ByteArray}{b b':TBigraph}(h:PBg sig s b)(h':PBg sig s b'):b=b':=by
 have e1:ZH b.roots::Um sig b=ZH b'.roots::Um sig b':=by
  rw[<-ZcL h.1,<-ZcL h'.1,h.2,h'.2]
 have h1:=Zlo ZqS (p0:=ZH b.roots) (Q:=JP sig b) (a:=XP b) (b:=ZH b.edges) (c:=Xt b) (d:=Qp b) h rfl
 have h2:=Zlo ZqS (p0:=ZH b.roots) (Q:=JP sig b) (a:=XP b) (b:=ZH b.edges) (c:=Xt b) (d:=Qp b) h' e1.symm
 rw[<-h1.2,h2.2]
theorem Zqy{sig:List TControl}{b:TBigraph}(h:bigOK sig b):pbV sig (Ui sig b)=b/\pbB sig (Ui sig b)=true:=Zka ⟨h,rfl⟩ fun b' h' => Znx ⟨h,rfl⟩ h'
theorem Zga{sig:List TControl}{s:ByteArray}:bigOK sig (pbV sig s)\/pbV sig s=ZL:=by
 unfold pbV
 split
 ·rename_i h
  exact .inl h.choose_spec.1
 ·exact .inr rfl
theorem ZlT{sig:List TControl}{s:ByteArray}:ZP 4294967290 (pbV sig s):=by
 rcases Zga (sig:=sig) (s:=s) with h | h
 ·exact ZlS h
 ·rw[h]
  refine⟨by simp [ZL],by simp [ZL],by simp [ZL],by simp [ZL],by simp [ZL],by simp [ZL],by simp [ZL]⟩
theorem Ziy{n:Int}(h:smN n):WM .i64 n:=by
 rw[Zd]
 obtain⟨h1,h2⟩:=h
 omega
theorem ZlU{sig:List TControl}{s:ByteArray}:XK (pbV sig s):=by
 rcases Zga (sig:=sig) (s:=s) with h | h
 ·have f:=ZiJ h
  refine⟨Ziy f.roots,fun x hx=>?_,fun y hy=>Ziy (f.sites y hy),Ziy f.edges,fun w hw=>Ziy (f.wires w hw).1⟩
  obtain⟨i,hi,rfl⟩:=List.getElem_of_mem hx
  have q:=(h.nodes i hi).ctl
  have hsg:=h.sg.2.2
  exact⟨by rw[Zd];omega,Ziy (f.par _ hx),fun l hl=>Ziy ((f.links _ hx).1 l hl)⟩
 ·rw[h]
  refine⟨?_,?_,?_,?_,?_⟩ <;> simp [ZL,Zd]
def PRl(sig:List TControl)(s:ByteArray)(r:TRule):Prop:=ruleOK sig r/\UL sig r=s
def rlX(s:ByteArray):ByteArray:=(V1 s ZfY).1
def rlY(s:ByteArray):ByteArray:=(V1 (V1 s ZfY).2 ZhI).1
def rlZ(s:ByteArray):ByteArray:=(V1 (V1 s ZfY).2 ZhI).2
theorem Zlq{sig:List TControl}{r:TRule}(h:ruleOK sig r):rlX (UL sig r)=Ui sig r.redex/\rlY (UL sig r)=Ui sig r.reactum/\rlZ (UL sig r)=YJ spI ⟨#[]⟩ r.copies:=by
 have e1:V1 (UL sig r) ZfY=(Ui sig r.redex,YJ spI (Ui sig r.reactum++ZhI) r.copies) :=
  ZhR (c:=62) (p:=[32,45]) (q:=[32]) (by unfold UL;rw[JO,JO,List.append_assoc]) rfl (Zh0 h.red (by unfold sfc;decide) (by decide) (by decide) (by decide) (by decide)) (by decide)
 have e2:V1 (YJ spI (Ui sig r.reactum++ZhI) r.copies) ZhI=(Ui sig r.reactum,YJ spI ⟨#[]⟩ r.copies) :=
  ZhR (c:=124) (p:=[32]) (q:=[]) (by rw[Wd,Wd,JO,List.append_assoc];rfl) rfl (Zh0 h.rea (by unfold sfc;decide) (by decide) (by decide) (by decide) (by decide)) (by decide)
 have e3:(V1 (UL sig r) ZfY).1=Ui sig r.redex:=by rw[e1]
 have e4:(V1 (UL sig r) ZfY).2=YJ spI (Ui sig r.reactum++ZhI) r.copies:=by rw[e1]
 unfold rlX rlY rlZ
 rw[e3,e4,e2]
 exact⟨rfl,rfl,rfl⟩
noncomputable def rlV(rd:ByteArray->Option Int)(sig:List TControl)(s:ByteArray):TRule:=⟨pbV sig (rlX s),pbV sig (rlY s),Zac rd (tl0 (rlZ s))⟩
noncomputable def rlO(rd:ByteArray->Option Int)(sig:List TControl)(s:ByteArray):Bool:=(pbB sig (rlX s)&&pbB sig (rlY s))&&Zau rd (tl0 (rlZ s))
theorem Zqz{rd:ByteArray->Option Int}(hr:RD rd){sig:List TControl}{s:ByteArray}{r:TRule}(h:PRl sig s r):rlO rd sig s=true/\rlV rd sig s=r:=by
 obtain⟨h1,rfl⟩:=h
 obtain⟨e1,e2,e3⟩:=Zlq h1
 obtain⟨a1,a2⟩:=Zqy h1.red
 obtain⟨b1,b2⟩:=Zqy h1.rea
 have c1:=Zag h1
 obtain⟨_,t1⟩:=ZeW (w:=⟨#[]⟩) (l:=r.copies) (by decide) c1.1
 unfold rlO rlV
 rw[e1,e2,e3,a1,a2,b1,b2,t1,ZeV hr c1.1,Zg2 hr c1.1]
 exact⟨rfl,rfl⟩
open Classical in
noncomputable def Zr(sig:List TControl)(s:ByteArray):TRule:=if h:∃ r,PRl sig s r then h.choose else Jo
noncomputable def Vd(sig:List TControl)(s:ByteArray):Bool:=dc (∃ r,PRl sig s r)
theorem Ziz{sig:List TControl}{s:ByteArray}(h:∀ b,¬ PRl sig s b):Zr sig s=Jo/\Vd sig s=false:=by
 have hn:¬ ∃ b,PRl sig s b:=fun⟨b,hb⟩=>h b hb
 exact⟨dif_neg hn,Zh hn⟩
theorem ZlV{sig:List TControl}{s:ByteArray}{b:TRule}(h:PRl sig s b)(hu:∀ b',PRl sig s b'->b=b'):Zr sig s=b/\Vd sig s=true:=by
 have hy:∃ b,PRl sig s b:=⟨b,h⟩
 refine⟨?_,JF hy⟩
 unfold Zr
 rw[dif_pos hy]
 exact(hu _ hy.choose_spec).symm
theorem ZqA{rd:ByteArray->Option Int}{sig:List TControl}{s:ByteArray}(hs:s.size<=4294967296):Ws 4294967296 (rlV rd sig s):=by
 have h1:=ZeQ (rd:=rd) (ws:=tl0 (rlZ s))
 have h2:=Y5 (s:=rlZ s)
 have h3:=(Qy (s:=(V1 s ZfY).2) (sep:=ZhI)).2
 have h4:=(Qy (s:=s) (sep:=ZfY)).2
 refine⟨ZeY (by omega) ZlT,ZeY (by omega) ZlT,?_⟩
 show (Zac rd (tl0 (rlZ s))).length<=_
 unfold rlZ at *
 omega
theorem ZqB{rd:ByteArray->Option Int}(hr:∀ s v,rd s=some v->n64 v){sig:List TControl}{s:ByteArray}:ZjA (rlV rd sig s):=by
 refine⟨ZlU,ZlU,fun y hy=>?_⟩
 have hy2:y∈Zac rd (tl0 (rlZ s)):=hy
 unfold Zac at hy2
 split at hy2
 ·obtain⟨w,_,rfl⟩:=List.mem_map.1 hy2
  rw[Zd]
  cases e:rd w with
  | none=>simp
  | some v=>exact hr w v e
 ·cases hy2
theorem ZqC{s:ByteArray}:(V1 s ZfY).2.size<=s.size/\(rlX s).size<=s.size/\(rlY s).size<=s.size/\(rlZ s).size<=s.size:=by
 have h1:=Qy (s:=s) (sep:=ZfY)
 have h2:=Qy (s:=(V1 s ZfY).2) (sep:=ZhI)
 unfold rlX rlY rlZ
 omega
set_option maxHeartbeats 2000000 in
theorem Xu(sig:List TControl)(s:ByteArray)(hn:sig.length<=4294967296)(hbs:∀ y∈sig,Zz 4294967296 y)(hs:s.size<=1048576)(lvl:Nat)(S:Sto):Sem Proofs.Tryz.prog J9 lvl [.tr (.sl (sig.map Zg)),iS s] S (.tu [YR (Zr sig s),iB (Vd sig s)]) S:=by
 refine Ze Zbj (by simp [YR,low,men,Zc]) ?_
 obtain⟨z1,z2,z3,z4⟩:=ZqC (s:=s)
 have hrt:∀ r,PRl sig s r->rlO rdI sig s=true/\rlV rdI sig s=r:=fun r hr=>Zqz ZqS hr
 have tz:=YZ (s:=rlZ s)
 have tl:=Y5 (s:=rlZ s)
 have hun:UnR 1 ([ts (hd0 (rlZ s))]::List.map (fun n=>[ts n]) (tl0 (rlZ s))):=QK (fun n:ByteArray=>[ts n]) (fun _=>rfl) (hd0 (rlZ s)::tl0 (rlZ s))
 have hct:cut ([ts (hd0 (rlZ s))]::List.map (fun n=>[ts n]) (tl0 (rlZ s))) 1 ((tl0 (rlZ s)).length+1-1)=rS (tl0 (rlZ s)):=Zf3 (by omega)
 simp only[Wv,List.length_map,EVA,↓reduceIte,Nat.reduceEqDiff,Nat.reduceMul,reduceCtorEq,Nat.reduceAdd,Nat.reduceSub,Nat.reduceLeDiff,Nat.reduceLT,Int.reduceToNat,Int.reduceLE,Int.reduceLT,Zc,men]
 refine Za (ZeN s ZfY (by omega)) ?_
 simp only[List.length_map,EVA,↓reduceIte,Nat.reduceEqDiff,Nat.reduceMul,reduceCtorEq,Nat.reduceAdd,Nat.reduceSub,Nat.reduceLeDiff,Nat.reduceLT,Int.reduceToNat,Int.reduceLE,Int.reduceLT,Zc,men]
 refine Za (ZeN (V1 s ZfY).2 ZhI (by omega)) ?_
 simp only[zfill,zobs,Zl,Zn,List.set_cons_zero,List.set_cons_succ,List.length_map,List.length_cons,EVA,↓reduceIte,Nat.reduceEqDiff,Nat.reduceMul,reduceCtorEq,Nat.reduceAdd,Nat.reduceSub,Nat.reduceLeDiff,Nat.reduceLT,Int.reduceToNat,Int.reduceLE,Int.reduceLT,Zc,men]
 refine Za (V8 sig (rlX s) hn hbs (by omega)) ?_
 simp only[Zv,zfill,zobs,Zl,Zn,List.set_cons_zero,List.set_cons_succ,List.length_map,List.length_cons,EVA,↓reduceIte,Nat.reduceEqDiff,Nat.reduceMul,reduceCtorEq,Nat.reduceAdd,Nat.reduceSub,Nat.reduceLeDiff,Nat.reduceLT,Int.reduceToNat,Int.reduceLE,Int.reduceLT,Zc,men]
 refine Za (V8 sig (rlY s) hn hbs (by omega)) ?_
 simp only[Zv,zfill,zobs,Zl,Zn,List.set_cons_zero,List.set_cons_succ,List.length_map,List.length_cons,EVA,↓reduceIte,Nat.reduceEqDiff,Nat.reduceMul,reduceCtorEq,Nat.reduceAdd,Nat.reduceSub,Nat.reduceLeDiff,Nat.reduceLT,Int.reduceToNat,Int.reduceLE,Int.reduceLT,Zc,men]
 refine Za (Q3 (rlZ s) 32 (by omega)) ?_
 rw[XQ]
 simp only[zfill,zobs,Zl,Zn,List.set_cons_zero,List.set_cons_succ,List.length_map,List.length_cons,EVA,↓reduceIte,Nat.reduceEqDiff,Nat.reduceMul,reduceCtorEq,Nat.reduceAdd,Nat.reduceSub,Nat.reduceLeDiff,Nat.reduceLT,Int.reduceToNat,Int.reduceLE,Int.reduceLT,Zc,men]
 rw[hct]
 refine⟨fun _=>hun,Za (Q4 (tl0 (rlZ s)) (fun w hw=>by have:=tz w hw;omega) (by omega)) ?_⟩
 have hno:rlO rdI sig s=false->Zr sig s=Jo/\Vd sig s=false:=fun h=>Ziz fun r hr=>by
  have:=(hrt r hr).1
  rw[h] at this
  cases this
 have hcs:∀ l:List Int,cut (rI l) 0 l.length=rI l:=fun l=>Yn (by rw[List.length_map])
 have hcS:∀ l:List ByteArray,cut (rS l) 0 l.length=rS l:=fun l=>Yn (by rw[List.length_map])
 have hcw:∀ l:List TWire,cut (l.map ZK) 0 l.length=l.map ZK:=fun l=>Yn (by rw[List.length_map])
 have hcn:∀ l:List TNode,cut (l.map ZA) 0 l.length=l.map ZA:=fun l=>Yn (by rw[List.length_map])
 cases c1:pbB sig (rlX s)
 ·obtain⟨v1,v2⟩:=hno (by unfold rlO;rw[c1];rfl)
  rw[v1,v2]
  simp only[YR,Zv,Jo,ZL,ZM,Zb,zfill,zobs,Zl,Zn,List.set_cons_zero,List.set_cons_succ,List.length_map,List.length_cons,List.map_nil,EVA,↓reduceIte,Nat.reduceEqDiff,Nat.reduceMul,reduceCtorEq,Nat.reduceAdd,Nat.reduceSub,Nat.reduceLeDiff,Nat.reduceLT,Int.reduceToNat,Int.reduceLE,Int.reduceLT,Zc,men]
  try rfl
 cases c2:pbB sig (rlY s)
 ·obtain⟨v1,v2⟩:=hno (by unfold rlO;rw[c1,c2];rfl)
  rw[v1,v2]
  simp only[YR,Zv,Jo,ZL,ZM,Zb,zfill,zobs,Zl,Zn,List.set_cons_zero,List.set_cons_succ,List.length_map,List.length_cons,List.map_nil,EVA,↓reduceIte,Nat.reduceEqDiff,Nat.reduceMul,reduceCtorEq,Nat.reduceAdd,Nat.reduceSub,Nat.reduceLeDiff,Nat.reduceLT,Int.reduceToNat,Int.reduceLE,Int.reduceLT,Zc,men]
  try rfl
 cases c3:Zau rdI (tl0 (rlZ s))
 ·obtain⟨v1,v2⟩:=hno (by unfold rlO;rw[c1,c2,c3];rfl)
  rw[v1,v2]
  simp only[YR,Zv,Jo,ZL,ZM,Zb,zfill,zobs,Zl,Zn,List.set_cons_zero,List.set_cons_succ,List.length_map,List.length_cons,List.map_nil,EVA,↓reduceIte,Nat.reduceEqDiff,Nat.reduceMul,reduceCtorEq,Nat.reduceAdd,Nat.reduceSub,Nat.reduceLeDiff,Nat.reduceLT,Int.reduceToNat,Int.reduceLE,Int.reduceLT,Zc,men]
  try rfl
 have qG:=ZcE sig (rlV rdI sig s) hn hbs (ZqA (by omega)) (ZqB fun _ _=>Znn)
 simp only[ZM,rlV,List.map_cons,List.map_nil] at qG
 change ∀ lvl S,Sem Proofs.Tryz.prog _ lvl _ S (iB (dc (ruleOK sig (rlV rdI sig s)))) S at qG
 simp only[hcs,hcS,hcw,hcn,zfill,zobs,Zl,Zn,List.set_cons_zero,List.set_cons_succ,List.length_map,List.length_cons,EVA,↓reduceIte,Nat.reduceEqDiff,Nat.reduceMul,reduceCtorEq,Nat.reduceAdd,Nat.reduceSub,Nat.reduceLeDiff,Nat.reduceLT,Int.reduceToNat,Int.reduceLE,Int.reduceLT,Zc,men]
 refine Za qG ?_
 by_cases hB:ruleOK sig (rlV rdI sig s)
 rotate_left
 ·obtain⟨v1,v2⟩:=Ziz (sig:=sig) (s:=s) fun r hr=>hB (by rw[(hrt r hr).2];exact hr.1)
  rw[v1,v2,Zh hB]
  simp only[YR,Zv,Jo,ZL,ZM,Zb,zfill,zobs,Zl,Zn,List.set_cons_zero,List.set_cons_succ,List.length_map,List.length_cons,List.map_nil,EVA,↓reduceIte,Nat.reduceEqDiff,Nat.reduceMul,reduceCtorEq,Nat.reduceAdd,Nat.reduceSub,Nat.reduceLeDiff,Nat.reduceLT,Int.reduceToNat,Int.reduceLE,Int.reduceLT,Zc,men]
  try rfl
 rw[JF hB]
 have qT:=Zf8 sig (rlV rdI sig s) hB
 simp only[ZM,rlV,List.map_cons,List.map_nil] at qT
 change ∀ lvl S,Sem Proofs.Tryz.prog _ lvl _ S (iS (UL sig (rlV rdI sig s))) S at qT
 simp only[hcs,hcS,hcw,hcn,zfill,zobs,Zl,Zn,List.set_cons_zero,List.set_cons_succ,List.length_map,List.length_cons,EVA,↓reduceIte,Nat.reduceEqDiff,Nat.reduceMul,reduceCtorEq,Nat.reduceAdd,Nat.reduceSub,Nat.reduceLeDiff,Nat.reduceLT,Int.reduceToNat,Int.reduceLE,Int.reduceLT,Zc,men]
 refine Za qT ?_
 by_cases hT:UL sig (rlV rdI sig s)=s
 rotate_left
 ·have eT:=eq_false hT
  obtain⟨v1,v2⟩:=Ziz (sig:=sig) (s:=s) fun r hr=>hT (by rw[(hrt r hr).2];exact hr.2)
  rw[v1,v2]
  simp only[eT,ne_eq,not_false_eq_true,YR,Zv,Jo,ZL,ZM,Zb,zfill,zobs,Zl,Zn,List.set_cons_zero,List.set_cons_succ,List.length_map,List.length_cons,List.map_nil,EVA,↓reduceIte,Nat.reduceEqDiff,Nat.reduceMul,reduceCtorEq,Nat.reduceAdd,Nat.reduceSub,Nat.reduceLeDiff,Nat.reduceLT,Int.reduceToNat,Int.reduceLE,Int.reduceLT,Zc,men]
  try rfl
 have eT:=eq_true hT
 obtain⟨v1,v2⟩:=ZlV (sig:=sig) (s:=s) ⟨hB,hT⟩ fun r hr=>(hrt r hr).2
 rw[v1,v2]
 simp only[eT,ne_eq,not_true_eq_false,hcs,hcS,hcw,hcn,YR,ZM,zfill,zobs,Zl,Zn,List.set_cons_zero,List.set_cons_succ,List.length_map,List.length_cons,EVA,↓reduceIte,Nat.reduceEqDiff,Nat.reduceMul,reduceCtorEq,Nat.reduceAdd,Nat.reduceSub,Nat.reduceLeDiff,Nat.reduceLT,Int.reduceToNat,Int.reduceLE,Int.reduceLT,Zc,men]
 try rfl
set_option maxHeartbeats 2000000 in
theorem Zai(sig:List TControl)(s:ByteArray)(hn:sig.length<=4294967296)(hbs:∀ y∈sig,Zz 4294967296 y)(hs:s.size<=1048576)(lvl:Nat)(S:Sto):Sem Proofs.Tryz.prog Vo lvl [.tr (.sl (sig.map Zg)),iS s] S (.tu [.ag ((ZM (Zr sig s)).map .tr),iB (Vd sig s)]) S:=by
 refine Ze Zbi (by simp [low,men,Zc,ZM]) ?_
 obtain⟨z1,z2,z3,z4⟩:=ZqC (s:=s)
 have hrt:∀ r,PRl sig s r->rlO rdS sig s=true/\rlV rdS sig s=r:=fun r hr=>Zqz Zvl hr
 have tz:=YZ (s:=rlZ s)
 have tl:=Y5 (s:=rlZ s)
 simp only[Wu,List.length_map,EVA,↓reduceIte,Nat.reduceEqDiff,Nat.reduceMul,reduceCtorEq,Nat.reduceAdd,Nat.reduceSub,Nat.reduceLeDiff,Nat.reduceLT,Int.reduceToNat,Int.reduceLE,Int.reduceLT,Zc,men]
 refine Za (Zf0 s ZfY (by omega) (by decide) (by decide)) ?_
 simp only[List.length_map,EVA,↓reduceIte,Nat.reduceEqDiff,Nat.reduceMul,reduceCtorEq,Nat.reduceAdd,Nat.reduceSub,Nat.reduceLeDiff,Nat.reduceLT,Int.reduceToNat,Int.reduceLE,Int.reduceLT,Zc,men]
 refine Za (Zf0 (V1 s ZfY).2 ZhI (by omega) (by decide) (by decide)) ?_
 simp only[zfill,zobs,Zl,Zn,List.set_cons_zero,List.set_cons_succ,List.length_map,List.length_cons,EVA,↓reduceIte,Nat.reduceEqDiff,Nat.reduceMul,reduceCtorEq,Nat.reduceAdd,Nat.reduceSub,Nat.reduceLeDiff,Nat.reduceLT,Int.reduceToNat,Int.reduceLE,Int.reduceLT,Zc,men]
 refine Za (V9 sig (rlX s) hn hbs (by omega)) ?_
 simp only[Zb,zfill,zobs,Zl,Zn,List.set_cons_zero,List.set_cons_succ,List.length_map,List.length_cons,EVA,↓reduceIte,Nat.reduceEqDiff,Nat.reduceMul,reduceCtorEq,Nat.reduceAdd,Nat.reduceSub,Nat.reduceLeDiff,Nat.reduceLT,Int.reduceToNat,Int.reduceLE,Int.reduceLT,Zc,men]
 refine Za (V9 sig (rlY s) hn hbs (by omega)) ?_
 simp only[Zb,zfill,zobs,Zl,Zn,List.set_cons_zero,List.set_cons_succ,List.length_map,List.length_cons,EVA,↓reduceIte,Nat.reduceEqDiff,Nat.reduceMul,reduceCtorEq,Nat.reduceAdd,Nat.reduceSub,Nat.reduceLeDiff,Nat.reduceLT,Int.reduceToNat,Int.reduceLE,Int.reduceLT,Zc,men]
 refine Za (VU (rlZ s) 32 (by omega)) ?_
 rw[XQ]
 simp only[zfill,zobs,Zl,Zn,List.set_cons_zero,List.set_cons_succ,List.length_map,List.length_cons,EVA,↓reduceIte,Nat.reduceEqDiff,Nat.reduceMul,reduceCtorEq,Nat.reduceAdd,Nat.reduceSub,Nat.reduceLeDiff,Nat.reduceLT,Int.reduceToNat,Int.reduceLE,Int.reduceLT,Zc,men]
 refine Za (Wh (hd0 (rlZ s)) (tl0 (rlZ s)) (fun w hw=>by have:=tz w hw;omega) (by omega)) ?_
 have hno:rlO rdS sig s=false->Zr sig s=Jo/\Vd sig s=false:=fun h=>Ziz fun r hr=>by
  have:=(hrt r hr).1
  rw[h] at this
  cases this
 have hcs:∀ l:List Int,cut (rI l) 0 l.length=rI l:=fun l=>Yn (by rw[List.length_map])
 have hcS:∀ l:List ByteArray,cut (rS l) 0 l.length=rS l:=fun l=>Yn (by rw[List.length_map])
 have hcw:∀ l:List TWire,cut (l.map ZK) 0 l.length=l.map ZK:=fun l=>Yn (by rw[List.length_map])
 have hcn:∀ l:List TNode,cut (l.map ZA) 0 l.length=l.map ZA:=fun l=>Yn (by rw[List.length_map])
 cases c1:pbB sig (rlX s)
 ·obtain⟨v1,v2⟩:=hno (by unfold rlO;rw[c1];rfl)
  rw[v1,v2]
  simp only[YR,Zv,Jo,ZL,ZM,Zb,zfill,zobs,Zl,Zn,List.set_cons_zero,List.set_cons_succ,List.length_map,List.length_cons,List.map_nil,EVA,↓reduceIte,Nat.reduceEqDiff,Nat.reduceMul,reduceCtorEq,Nat.reduceAdd,Nat.reduceSub,Nat.reduceLeDiff,Nat.reduceLT,Int.reduceToNat,Int.reduceLE,Int.reduceLT,Zc,men]
  try rfl
 cases c2:pbB sig (rlY s)
 ·obtain⟨v1,v2⟩:=hno (by unfold rlO;rw[c1,c2];rfl)
  rw[v1,v2]
  simp only[YR,Zv,Jo,ZL,ZM,Zb,zfill,zobs,Zl,Zn,List.set_cons_zero,List.set_cons_succ,List.length_map,List.length_cons,List.map_nil,EVA,↓reduceIte,Nat.reduceEqDiff,Nat.reduceMul,reduceCtorEq,Nat.reduceAdd,Nat.reduceSub,Nat.reduceLeDiff,Nat.reduceLT,Int.reduceToNat,Int.reduceLE,Int.reduceLT,Zc,men]
  try rfl
 cases c3:Zau rdS (tl0 (rlZ s))
 ·obtain⟨v1,v2⟩:=hno (by unfold rlO;rw[c1,c2,c3];rfl)
  rw[v1,v2]
  simp only[YR,Zv,Jo,ZL,ZM,Zb,zfill,zobs,Zl,Zn,List.set_cons_zero,List.set_cons_succ,List.length_map,List.length_cons,List.map_nil,EVA,↓reduceIte,Nat.reduceEqDiff,Nat.reduceMul,reduceCtorEq,Nat.reduceAdd,Nat.reduceSub,Nat.reduceLeDiff,Nat.reduceLT,Int.reduceToNat,Int.reduceLE,Int.reduceLT,Zc,men]
  try rfl
 have qG:=Zim sig (rlV rdS sig s) hn hbs (ZqA (by omega)) (ZqB fun _ _=>Zj0)
 simp only[ZM,rlV,List.map_cons,List.map_nil] at qG
 change ∀ lvl S,Sem Proofs.Tryz.prog _ lvl _ S (iB (dc (ruleOK sig (rlV rdS sig s)))) S at qG
 simp only[hcs,hcS,hcw,hcn,zfill,zobs,Zl,Zn,List.set_cons_zero,List.set_cons_succ,List.length_map,List.length_cons,EVA,↓reduceIte,Nat.reduceEqDiff,Nat.reduceMul,reduceCtorEq,Nat.reduceAdd,Nat.reduceSub,Nat.reduceLeDiff,Nat.reduceLT,Int.reduceToNat,Int.reduceLE,Int.reduceLT,Zc,men]
 refine Za qG ?_
 by_cases hB:ruleOK sig (rlV rdS sig s)
 rotate_left
 ·obtain⟨v1,v2⟩:=Ziz (sig:=sig) (s:=s) fun r hr=>hB (by rw[(hrt r hr).2];exact hr.1)
  rw[v1,v2,Zh hB]
  simp only[YR,Zv,Jo,ZL,ZM,Zb,zfill,zobs,Zl,Zn,List.set_cons_zero,List.set_cons_succ,List.length_map,List.length_cons,List.map_nil,EVA,↓reduceIte,Nat.reduceEqDiff,Nat.reduceMul,reduceCtorEq,Nat.reduceAdd,Nat.reduceSub,Nat.reduceLeDiff,Nat.reduceLT,Int.reduceToNat,Int.reduceLE,Int.reduceLT,Zc,men]
  try rfl
 rw[JF hB]
 have qT:=Zis sig (rlV rdS sig s) hB
 simp only[ZM,rlV,List.map_cons,List.map_nil] at qT
 change ∀ lvl S,Sem Proofs.Tryz.prog _ lvl _ S (iS (UL sig (rlV rdS sig s))) S at qT
 simp only[hcs,hcS,hcw,hcn,zfill,zobs,Zl,Zn,List.set_cons_zero,List.set_cons_succ,List.length_map,List.length_cons,EVA,↓reduceIte,Nat.reduceEqDiff,Nat.reduceMul,reduceCtorEq,Nat.reduceAdd,Nat.reduceSub,Nat.reduceLeDiff,Nat.reduceLT,Int.reduceToNat,Int.reduceLE,Int.reduceLT,Zc,men]
 refine Za qT ?_
 by_cases hT:UL sig (rlV rdS sig s)=s
 rotate_left
 ·have eT:=eq_false hT
  obtain⟨v1,v2⟩:=Ziz (sig:=sig) (s:=s) fun r hr=>hT (by rw[(hrt r hr).2];exact hr.2)
  rw[v1,v2]
  simp only[eT,ne_eq,not_false_eq_true,YR,Zv,Jo,ZL,ZM,Zb,zfill,zobs,Zl,Zn,List.set_cons_zero,List.set_cons_succ,List.length_map,List.length_cons,List.map_nil,EVA,↓reduceIte,Nat.reduceEqDiff,Nat.reduceMul,reduceCtorEq,Nat.reduceAdd,Nat.reduceSub,Nat.reduceLeDiff,Nat.reduceLT,Int.reduceToNat,Int.reduceLE,Int.reduceLT,Zc,men]
  try rfl
 have eT:=eq_true hT
 obtain⟨v1,v2⟩:=ZlV (sig:=sig) (s:=s) ⟨hB,hT⟩ fun r hr=>(hrt r hr).2
 rw[v1,v2]
 simp only[eT,ne_eq,not_true_eq_false,hcs,hcS,hcw,hcn,YR,ZM,zfill,zobs,Zl,Zn,List.set_cons_zero,List.set_cons_succ,List.length_map,List.length_cons,EVA,↓reduceIte,Nat.reduceEqDiff,Nat.reduceMul,reduceCtorEq,Nat.reduceAdd,Nat.reduceSub,Nat.reduceLeDiff,Nat.reduceLT,Int.reduceToNat,Int.reduceLE,Int.reduceLT,Zc,men]
 try rfl
end Go.Fd

namespace Go.Fd
theorem XR{P:Program}{x:String×DataW Unit}{rest:List (String×DataW Unit)}{w:World}(h:laidMet P (x::rest) w):laidMet P rest w:=by
 obtain⟨n,d⟩:=x
 obtain⟨ps,⟨g,t,cs,fuel,p,q,_,_,_,_,hr,rfl⟩,hn,hc⟩:=h
 exact⟨q,hr,(List.nodup_append.1 hn).2.1,fun b off hb=>hc b off (List.mem_append_right _ hb)⟩
theorem Zh1 : "*" ++ ("errors.errorString")=("*errors.errorString"):=by decide
theorem Zkb(u:TypeId) (h:Proofs.Tryz.prog.typeName? 3 u=some ("*errors.errorString")):u=184 :=
 typeName_ptr_named (nm:=("errors.errorString")) (by rw[Zh1];kernel_rfl) (by kernel_rfl) (by decide) u (by rw[Zh1];exact h)
theorem Zkc{a b c:String×DataW Unit}{R S:List UInt8}{rest:List (String×DataW Unit)}{w:World}
  (h:laidMet Proofs.Tryz.prog (a::b::("internal/strconv.uint64pow10",Lib.tabData .u64 Lib.pow10Tab)::c::("strconv.ErrRange",.iface ("*errors.errorString") (.ptr (.agg [.lit (.string R)])))::("strconv.ErrSyntax",.iface ("*errors.errorString") (.ptr (.agg [.lit (.string S)])))::rest) w)
  (hs:w.ShapedOpen Proofs.Tryz.prog):Tabs.good w:=by
 have h2:=XR (XR h)
 have h4:=XR (XR h2)
 have h5:=XR h4
 have t1:=Lib.tabIs_of_head (g:=5) (t:=194) (e:=167) (n:=20) (by kernel_rfl) (by kernel_rfl) Proofs.Tryz.underlying194 Proofs.Tryz.underlying167 (by kernel_rfl) (by kernel_rfl) h2
 have t2:=Go.Proofs.cell_of_shapedOpen_int (g:=0) (k:=.i64) (t:=3) (zero:=#[.int .i64 0]) hs (of_decide_eq_true (by kernel_rfl)) (by kernel_rfl) rfl (by kernel_rfl) (by kernel_rfl) Proofs.Tryz.underlying3
 obtain⟨a1,_,e1,_⟩:=laid_sentinel h4 (g:=2) (ti:=109) (tp:=184) (te:=186) (by kernel_rfl) (by kernel_rfl) Proofs.Tryz.underlying109 Zkb Proofs.Tryz.underlying184 Proofs.Tryz.underlying186 rfl rfl Proofs.Tryz.underlying9 (by kernel_rfl) (by kernel_rfl)
 obtain⟨a2,_,e2,_⟩:=laid_sentinel h5 (g:=1) (ti:=109) (tp:=184) (te:=186) (by kernel_rfl) (by kernel_rfl) Proofs.Tryz.underlying109 Zkb Proofs.Tryz.underlying184 Proofs.Tryz.underlying186 rfl rfl Proofs.Tryz.underlying9 (by kernel_rfl) (by kernel_rfl)
 exact⟨t1,t2,⟨_,_,e2⟩,⟨_,_,e1⟩⟩
section
variable {H:Type} {enc:TypeId×Value->H}
theorem ZiA{a:Assume}{C:Checked}{os:Os}{f:FuncId}{fn:Func}{s:ChangeSpec}{conds:List PathCond}{UI fresh handsOn again:Bool}{X:World->Array Value->Prop}
  (hX:∀(w w':World) (args:Array Value),w.heap=w'.heap->X w args->X w' args)
  (own:ownKnob C.prog.godebug=none) (started:os.Started) (noInit:C.prog.inits.idxOf? f=none) (hfn:C.prog.funcs[f]? = some fn)
  (witness:∃(w:World) (tape:Tape) (i:Input),w.os=os/\(w.forCall tape i).Shaped C.prog/\i.vars=[]/\Input.okWide C.prog (w.forCall tape i) .any w.heap.size f i /\
   ((s.pre enc C.prog fn conds UI (w.forCall tape i).memory i.args/\X (w.forCall tape i).memory i.args)/\sizedMet enc C.prog fn (OpenSpec.ofChange s) UI (w.forCall tape i).memory i.args)/\a.holds C.prog (lone (Frame.enter C.prog f i.args .normal) [] (w.forCall tape i)))
  (contract:∀(W:World) (base:Nat) (args:Array Value) (ds gs:List (DataW H)) (before:List MemPlace),
   (∀(j:Nat) t v,fn.params[j]? = some t->args[j]? = some v->Value.okWide C.prog W .any base t v) ->
   DataW.Whole enc C.prog fn.params.toList s.vars UI W args.toList ds gs before->X W args->W.ShapedOpen C.prog ->
   Calls C.prog f args W fun e W' => ∃ v,e = .returned v/\s.post enc C.prog fn UI fresh handsOn again W args v W') :
  ReturnsInHanded a C os f .any (fun w args=>(s.pre enc C.prog fn conds UI w args/\X w args)/\sizedMet enc C.prog fn (OpenSpec.ofChange s) UI w args) (s.post enc C.prog fn UI fresh handsOn again):=by
 refine returnsInHanded_of_calls own started noInit witness ?_
 intro w tape i _ hsh _ hok hpre _
 obtain⟨_,_,_,fn',hfn',_,_,_,_,hval⟩:=hok
 have e:fn'=fn:=Option.some.inj (hfn'.symm.trans hfn)
 subst e
 obtain⟨⟨⟨ds,gs,before,hw,_⟩,hx⟩,_⟩:=hpre
 have hw':=DataW.Whole.of_heap (w':=w.forCall tape i) (by rfl) hw
 refine(contract (w.forCall tape i) w.heap.size i.args ds gs before hval hw' (hX _ _ _ (by rfl) hx) hsh).mono fun e W' ⟨v,he,hp⟩=>?_
 subst he
 exact ChangeSpec.post_blind hp
end
end Go.Fd

namespace Go.Fd
def VJ:F2 :=
 { nt:=104,res:=[.t 4 [0]],body:=(.sq (rg [om 4 (.k (.bool false))]) (.sq (.sq (rg [qM 16 1,oo 17 (.lg (.t 16)),oo 18 (.bi .gtr 0 (.t 17) (i6 1048576))]) (.cd (.t 18) (.sq (rg [om 4 (.k (.bool true))]) (.rt)) (.sk))) (.sq (rg [om 5 (i6 1048576)]) (.sq (rg [qM 19 0,qM 20 5,oo 21 (.ca .pure false (.f Y1) [.t 19,.t 20]),qM 5 21]) (.sq (.sq (rg [qM 22 5,oo 23 (.bi .lss 0 (.t 22) (i6 0))]) (.cd (.t 23) (.sq (rg [om 4 (.k (.bool true))]) (.rt)) (.sk))) (.sq (rg [qM 25 0,oo 26 (.ca .pure false (.f Z8) [.t 25]),qM 27 1,oo 28 (.ca .pure false (.f Vo) [.t 26,.t 27]),qM 24 28,qE 29 0 24,qE 30 1 24,oo 6 (.al [.int .i64 0,.slice none 0 0,.slice none 0 0,.int .i64 0,.slice none 0 0,.slice none 0 0,.int .i64 0,.slice none 0 0,.slice none 0 0,.int .i64 0,.slice none 0 0,.slice none 0 0,.slice none 0 0] []),on1 (.st 13 (.t 6) (.t 29)),qM 7 30]) (.sq (rg [qM 31 0,oo 32 (.ca .pure true (.f Z8) [.t 31]),qM 8 32]) (.sq (rg [qM 34 8,qM 35 1,oo 36 (.ca .pure true (.f J9) [.t 34,.t 35]),qM 33 36,qE 37 0 33,qE 38 1 33,oo 9 (.al [.int .i64 0,.slice none 0 0,.slice none 0 0,.int .i64 0,.slice none 0 0,.slice none 0 0,.int .i64 0,.slice none 0 0,.slice none 0 0,.int .i64 0,.slice none 0 0,.slice none 0 0,.slice none 0 0] []),on1 (.st 13 (.t 9) (.t 37)),qM 10 38]) (.sq (.sq (rg [qS 39 13 9,qS 40 13 6,oo 41 (.ca .pure false (.f Yh) [.t 39,.t 40]),oo 42 (.nt (.t 41)),qM 43 42,og 44 43 false (.mv (.t 10) none),og 45 43 false (.mv (.t 7) none),og 46 43 false (.bi .neq 2 (.t 44) (.t 45)),oo 47 (.pk (.t 43) (.k (.bool true)) (.t 46))]) (.cd (.t 47) (.sq (rg [om 4 (.k (.bool false))]) (.rt)) (.sk))) (.sq (.sq (rg [qM 48 8,qM 49 0,oo 50 (.ca .pure false (.f Z8) [.t 49]),oo 51 (.ca .pure false (.f Y2) [.t 48,.t 50]),oo 52 (.nt (.t 51))]) (.cd (.t 52) (.sq (rg [om 4 (.k (.bool false))]) (.rt)) (.sk))) (.sq (rg [om 11 (i6 1)]) (.sq (rg [qM 53 8,qM 54 11,oo 55 (.ca .any true (.f Yi) [.t 53,.t 54]),qM 11 55]) (.sq (.sq (rg [qM 56 11,oo 57 (.bi .lss 0 (.t 56) (i6 0)),qM 58 57,og 59 58 false (.ld (some 13) (.t 9)),og 60 58 false (.ld (some 13) (.t 6)),og 61 58 false (.ca .pure false (.f Yh) [.t 59,.t 60]),og 62 58 false (.nt (.t 61)),oo 63 (.pk (.t 58) (.k (.bool true)) (.t 62)),qM 64 63,og 65 64 false (.mv (.t 10) none),og 66 64 false (.mv (.t 7) none),og 67 64 false (.bi .neq 2 (.t 65) (.t 66)),oo 68 (.pk (.t 64) (.k (.bool true)) (.t 67))]) (.cd (.t 68) (.sq (rg [om 4 (.k (.bool false))]) (.rt)) (.sk))) (.sq (rg [om 12 (i6 1)]) (.sq (rg [qS 69 13 9,qM 70 12,oo 71 (.ca .any true (.f Yv) [.t 69,.t 70]),qM 12 71]) (.sq (rg [om 13 (i6 1)]) (.sq (rg [qS 72 13 9,qM 73 13,oo 74 (.ca .pure false (.f Yw) [.t 72,.t 73]),qM 13 74]) (.sq (.sq (rg [qM 75 13,oo 76 (.bi .lss 0 (.t 75) (i6 0))]) (.cd (.t 76) (.sq (rg [om 4 (.k (.bool false))]) (.rt)) (.sk))) (.sq (.sq (rg [qM 77 13,qM 78 12,qB 79 .neq 77 78]) (.cd (.t 79) (.sq (rg [om 4 (.k (.bool false))]) (.rt)) (.sk))) (.sq (rg [qM 81 0,oo 82 (.ca .pure false (.f Z8) [.t 81]),qM 83 1,oo 84 (.ca .pure false (.f J9) [.t 82,.t 83]),qM 80 84,qE 85 0 80,qE 86 1 80,oo 14 (.al [.int .i64 0,.slice none 0 0,.slice none 0 0,.int .i64 0,.slice none 0 0,.slice none 0 0,.int .i64 0,.slice none 0 0,.slice none 0 0,.int .i64 0,.slice none 0 0,.slice none 0 0,.slice none 0 0] []),on1 (.st 13 (.t 14) (.t 85)),qM 15 86]) (.sq (.sq (rg [qS 87 13 14,qS 88 13 6,oo 89 (.ca .pure false (.f Yh) [.t 87,.t 88]),oo 90 (.nt (.t 89)),qM 91 90,og 92 91 false (.mv (.t 15) none),og 93 91 false (.mv (.t 7) none),og 94 91 false (.bi .neq 2 (.t 92) (.t 93)),oo 95 (.pk (.t 91) (.k (.bool true)) (.t 94))]) (.cd (.t 95) (.sq (rg [om 4 (.k (.bool false))]) (.rt)) (.sk))) (.sq (rg [om 13 (i6 1)]) (.sq (rg [qS 96 13 9,qM 97 13,oo 98 (.ca .pure false (.f Yw) [.t 96,.t 97]),qM 13 98]) (.sq (.sq (rg [qM 99 13,oo 100 (.bi .lss 0 (.t 99) (i6 0))]) (.cd (.t 100) (.sq (rg [om 4 (.k (.bool false))]) (.rt)) (.sk))) (.sq (.sq (rg [qM 101 13,qM 102 12,qB 103 .neq 101 102]) (.cd (.t 103) (.sq (rg [om 4 (.k (.bool false))]) (.rt)) (.sk))) (.sq (rg [om 4 (.k (.bool true))]) (.rt))))))))))))))))))))))))))) }
theorem Wj:Z3 Proofs.Tryz.prog YS VJ=true:=by kernel_rfl
def Q6:F2 :=
 { nt:=35,res:=[.t 4 [0]],body:=(.sq (rg [om 4 (i6 0)]) (.sq (.sq (rg [om 5 (i6 0)]) (.bl 0 (.lp [0,1,5] [] (.sq (.sq (rg [qM 6 5,qM 7 0,qN 8 7,qB 9 .lss 6 8]) (.cd (.t 9) (.sk) (.ex 0))) (.sq (.bl 1 (.sq (rg [qM 12 0,qM 13 5,qM 14 1,oo 15 (.ca .pure false (.f Z9) [.t 14]),qI 16 3 12 13,qF 17 0 16,on1 (.st 1 (.t 17) (.t 15))]) (.sq (rg [qM 18 1,oo 19 (.bi .add 0 (.t 18) (i6 1)),qM 1 19]) (.sq (rg [qM 20 0,qM 21 5,qM 22 1,qI 23 3 20 21,qF 24 1 23,on1 (.st 1 (.t 24) (.t 22))]) (.sq (rg [qM 25 1,oo 26 (.bi .add 0 (.t 25) (i6 1)),qM 1 26]) (.sq (rg [qM 27 0,qM 28 5,qM 29 1,qI 30 3 27 28,qF 31 2 30,on1 (.st 1 (.t 31) (.t 29))])
 (rg [qM 32 1,oo 33 (.bi .add 0 (.t 32) (i6 1)),qM 1 33])))))))
 (rg [qM 10 5,oo 11 (.bi .add 0 (.t 10) (i6 1)),qM 5 11])))))) (.sq (rg [qM 34 1,qM 4 34]) (.rt)))) }
theorem Df:Z3 Proofs.Tryz.prog Yi Q6=true:=by kernel_rfl
def Un:F2 :=
 { nt:=18,res:=[.t 4 [0]],body:=(.sq (rg [oo 2 (.bx (.t 0)),om 4 (i6 0)]) (.sq (rg [qF 5 0 2,qS 6 6 5,qM 7 1,oo 8 (.ca .any true (.f Jl) [.t 6,.t 7]),qM 1 8]) (.sq (rg [qF 9 6 2,qS 10 6 9,qM 11 1,oo 12 (.ca .any true (.f Jl) [.t 10,.t 11]),qM 1 12]) (.sq (rg [qF 13 12 2,qL 14 13,qM 15 1,oo 16 (.ca .any true (.f JL) [.t 14,.t 15]),qM 1 16]) (.sq (rg [qM 17 1,qM 4 17]) (.rt)))))) }
theorem ZcM:Z3 Proofs.Tryz.prog Yv Un=true:=by kernel_rfl
def Uo:F2 :=
 { nt:=24,res:=[.t 4 [0]],body:=(.sq (rg [oo 2 (.bt (.t 0)),om 4 (i6 0)]) (.sq (rg [qF 5 0 2,qS 6 6 5,qM 7 1,oo 8 (.ca .pure false (.f JH) [.t 6,.t 7]),qM 1 8]) (.sq (.sq (rg [qM 9 1,oo 10 (.bi .lss 0 (.t 9) (i6 0))]) (.cd (.t 10) (.sq (rg [om 4 (i6 (-1))]) (.rt)) (.sk))) (.sq (rg [qF 11 6 2,qS 12 6 11,qM 13 1,oo 14 (.ca .pure false (.f JH) [.t 12,.t 13]),qM 1 14]) (.sq (.sq (rg [qM 15 1,oo 16 (.bi .lss 0 (.t 15) (i6 0))]) (.cd (.t 16) (.sq (rg [om 4 (i6 (-1))]) (.rt)) (.sk))) (.sq (rg [qF 17 12 2,qL 18 17,qM 19 1,oo 20 (.ca .pure false (.f JM) [.t 18,.t 19]),qM 1 20]) (.sq (.sq (rg [qM 21 1,oo 22 (.bi .lss 0 (.t 21) (i6 0))]) (.cd (.t 22) (.sq (rg [om 4 (i6 (-1))]) (.rt)) (.sk))) (.sq (rg [qM 23 1,qM 4 23]) (.rt))))))))) }
theorem ZcN:Z3 Proofs.Tryz.prog Yw Uo=true:=by kernel_rfl
def Up:F2 :=
 { nt:=20,res:=[.t 2 [0]],body:=(.sq (rg [om 2 (.k (.string ⟨#[]⟩))]) (.sq (.sq (rg [qM 4 0,oo 5 (.bi .leq 0 (.t 4) (i6 0))]) (.cd (.t 5) (.sq (rg [om 2 (.k (.string ⟨#[109,48]⟩))]) (.rt)) (.sk))) (.sq (rg [om 3 (.k (.string ⟨#[]⟩))]) (.sq (.bl 0 (.lp [0,3] [] (.sq (.sq (rg [qM 6 0,oo 7 (.bi .gtr 0 (.t 6) (i6 0))]) (.cd (.t 7) (.sk) (.ex 0))) (.bl 1 (.sq (rg [qM 8 0,oo 9 (.bi .rem 0 (.t 8) (i6 10)),oo 10 (.bi .add 0 (i6 48) (.t 9)),oo 11 (.cv (.int .u8) (.t 10)),oo 12 (.bs 1 1 [.int .u8 0] [(0,.t 11)]),oo 13 (.sb (.t 12)),qM 14 3,qB 15 .add 13 14,qM 3 15])
 (rg [qM 16 0,oo 17 (.bi .quo 0 (.t 16) (i6 10)),qM 0 17])))))) (.sq (rg [qM 18 3,oo 19 (.bi .add 0 (.k (.string ⟨#[109]⟩)) (.t 18)),qM 2 19]) (.rt)))))) }
theorem ZcO:Z3 Proofs.Tryz.prog Z9 Up=true:=by kernel_rfl
def Xv:F2 :=
 { nt:=22,res:=[.t 4 [0]],body:=(.sq (rg [oo 2 (.bx (.t 0)),om 4 (i6 0)]) (.sq (rg [qF 5 1 2,qL 6 5,qM 7 1,oo 8 (.ca .any true (.f Vv) [.t 6,.t 7]),qM 1 8]) (.sq (rg [qF 9 2 2,qL 10 9,qM 11 1,oo 12 (.ca .any true (.f JL) [.t 10,.t 11]),qM 1 12]) (.sq (rg [qF 13 4 2,qL 14 13,qM 15 1,oo 16 (.ca .any true (.f YD) [.t 14,.t 15]),qM 1 16]) (.sq (rg [qF 17 5 2,qL 18 17,qM 19 1,oo 20 (.ca .any true (.f Vw) [.t 18,.t 19]),qM 1 20]) (.sq (rg [qM 21 1,qM 4 21]) (.rt))))))) }
theorem Zaj:Z3 Proofs.Tryz.prog Jl Xv=true:=by kernel_rfl
def Uq:F2 :=
 { nt:=19,res:=[.t 4 [0]],body:=(.sq (rg [om 4 (i6 0)]) (.sq (.sq (rg [om 5 (i6 0)]) (.bl 0 (.lp [0,1,5] [] (.sq (.sq (rg [qM 6 5,qM 7 0,qN 8 7,qB 9 .lss 6 8]) (.cd (.t 9) (.sk) (.ex 0))) (.sq (.bl 1 (.sq (rg [qM 12 0,qM 13 5,qM 14 1,qI 15 1 12 13,on1 (.st 1 (.t 15) (.t 14))])
 (rg [qM 16 1,oo 17 (.bi .add 0 (.t 16) (i6 1)),qM 1 17])))
 (rg [qM 10 5,oo 11 (.bi .add 0 (.t 10) (i6 1)),qM 5 11])))))) (.sq (rg [qM 18 1,qM 4 18]) (.rt)))) }
theorem ZcP:Z3 Proofs.Tryz.prog JL Uq=true:=by kernel_rfl
def Xw:F2 :=
 { nt:=30,res:=[.t 4 [0]],body:=(.sq (rg [oo 2 (.bt (.t 0)),om 4 (i6 0)]) (.sq (rg [qF 5 1 2,qL 6 5,qM 7 1,oo 8 (.ca .pure false (.f Vx) [.t 6,.t 7]),qM 1 8]) (.sq (.sq (rg [qM 9 1,oo 10 (.bi .lss 0 (.t 9) (i6 0))]) (.cd (.t 10) (.sq (rg [om 4 (i6 (-1))]) (.rt)) (.sk))) (.sq (rg [qF 11 2 2,qL 12 11,qM 13 1,oo 14 (.ca .pure false (.f JM) [.t 12,.t 13]),qM 1 14]) (.sq (.sq (rg [qM 15 1,oo 16 (.bi .lss 0 (.t 15) (i6 0))]) (.cd (.t 16) (.sq (rg [om 4 (i6 (-1))]) (.rt)) (.sk))) (.sq (rg [qF 17 4 2,qL 18 17,qM 19 1,oo 20 (.ca .pure false (.f YE) [.t 18,.t 19]),qM 1 20]) (.sq (.sq (rg [qM 21 1,oo 22 (.bi .lss 0 (.t 21) (i6 0))]) (.cd (.t 22) (.sq (rg [om 4 (i6 (-1))]) (.rt)) (.sk))) (.sq (rg [qF 23 5 2,qL 24 23,qM 25 1,oo 26 (.ca .pure false (.f Vy) [.t 24,.t 25]),qM 1 26]) (.sq (.sq (rg [qM 27 1,oo 28 (.bi .lss 0 (.t 27) (i6 0))]) (.cd (.t 28) (.sq (rg [om 4 (i6 (-1))]) (.rt)) (.sk))) (.sq (rg [qM 29 1,qM 4 29]) (.rt))))))))))) }
theorem Zak:Z3 Proofs.Tryz.prog JH Xw=true:=by kernel_rfl
def Ur:F2 :=
 { nt:=21,res:=[.t 4 [0]],body:=(.sq (rg [om 4 (i6 0)]) (.sq (.sq (rg [om 5 (i6 0)]) (.bl 0 (.lp [0,1,5] [] (.sq (.sq (rg [qM 6 5,qM 7 0,qN 8 7,qB 9 .lss 6 8]) (.cd (.t 9) (.sk) (.ex 0))) (.sq (.bl 1 (.sq (.sq (rg [qM 12 0,qM 13 5,qI 14 1 12 13,qL 15 14,qM 16 1,qB 17 .neq 15 16]) (.cd (.t 17) (.sq (rg [om 4 (i6 (-1))]) (.rt)) (.sk)))
 (rg [qM 18 1,oo 19 (.bi .add 0 (.t 18) (i6 1)),qM 1 19])))
 (rg [qM 10 5,oo 11 (.bi .add 0 (.t 10) (i6 1)),qM 5 11])))))) (.sq (rg [qM 20 1,qM 4 20]) (.rt)))) }
theorem ZcQ:Z3 Proofs.Tryz.prog JM Ur=true:=by kernel_rfl
def WD:F2 :=
 { nt:=34,res:=[.t 4 [0]],body:=(.sq (rg [om 4 (i6 0)]) (.sq (.sq (rg [om 5 (i6 0)]) (.bl 0 (.lp [0,1,5] [] (.sq (.sq (rg [qM 6 5,qM 7 0,qN 8 7,qB 9 .lss 6 8]) (.cd (.t 9) (.sk) (.ex 0))) (.sq (.bl 1 (.sq (rg [qM 12 0,qM 13 5,qM 14 1,qI 15 3 12 13,qF 16 0 15,on1 (.st 1 (.t 16) (.t 14))]) (.sq (rg [qM 17 1,oo 18 (.bi .add 0 (.t 17) (i6 1)),qM 1 18]) (.sq (rg [qM 19 0,qM 20 5,qM 21 1,qI 22 3 19 20,qF 23 1 22,on1 (.st 1 (.t 23) (.t 21))]) (.sq (rg [qM 24 1,oo 25 (.bi .add 0 (.t 24) (i6 1)),qM 1 25])
 (rg [qM 26 0,qM 27 5,qI 28 3 26 27,qF 29 2 28,qL 30 29,qM 31 1,oo 32 (.ca .any true (.f JL) [.t 30,.t 31]),qM 1 32]))))))
 (rg [qM 10 5,oo 11 (.bi .add 0 (.t 10) (i6 1)),qM 5 11])))))) (.sq (rg [qM 33 1,qM 4 33]) (.rt)))) }
theorem Zbu:Z3 Proofs.Tryz.prog Vv WD=true:=by kernel_rfl
def Xx:F2 :=
 { nt:=20,res:=[.t 4 [0]],body:=(.sq (rg [om 4 (i6 0)]) (.sq (.sq (rg [om 5 (i6 0)]) (.bl 0 (.lp [0,1,5] [] (.sq (.sq (rg [qM 6 5,qM 7 0,qN 8 7,qB 9 .lss 6 8]) (.cd (.t 9) (.sk) (.ex 0))) (.sq (.bl 1 (.sq (rg [qM 12 0,qM 13 5,qM 14 1,oo 15 (.ca .pure false (.f Z9) [.t 14]),qI 16 1 12 13,on1 (.st 1 (.t 16) (.t 15))])
 (rg [qM 17 1,oo 18 (.bi .add 0 (.t 17) (i6 1)),qM 1 18])))
 (rg [qM 10 5,oo 11 (.bi .add 0 (.t 10) (i6 1)),qM 5 11])))))) (.sq (rg [qM 19 1,qM 4 19]) (.rt)))) }
theorem Zal:Z3 Proofs.Tryz.prog YD Xx=true:=by kernel_rfl
def WE:F2 :=
 { nt:=28,res:=[.t 4 [0]],body:=(.sq (rg [om 4 (i6 0)]) (.sq (.sq (rg [om 5 (i6 0)]) (.bl 0 (.lp [0,1,5] [] (.sq (.sq (rg [qM 6 5,qM 7 0,qN 8 7,qB 9 .lss 6 8]) (.cd (.t 9) (.sk) (.ex 0))) (.sq (.bl 1 (.sq (rg [qM 12 0,qM 13 5,qM 14 1,oo 15 (.ca .pure false (.f Z9) [.t 14]),qI 16 2 12 13,qF 17 0 16,on1 (.st 1 (.t 17) (.t 15))]) (.sq (rg [qM 18 1,oo 19 (.bi .add 0 (.t 18) (i6 1)),qM 1 19]) (.sq (rg [qM 20 0,qM 21 5,qM 22 1,qI 23 2 20 21,qF 24 1 23,on1 (.st 1 (.t 24) (.t 22))])
 (rg [qM 25 1,oo 26 (.bi .add 0 (.t 25) (i6 1)),qM 1 26])))))
 (rg [qM 10 5,oo 11 (.bi .add 0 (.t 10) (i6 1)),qM 5 11])))))) (.sq (rg [qM 27 1,qM 4 27]) (.rt)))) }
theorem Zbv:Z3 Proofs.Tryz.prog Vw WE=true:=by kernel_rfl
def WF:F2 :=
 { nt:=40,res:=[.t 4 [0]],body:=(.sq (rg [om 4 (i6 0)]) (.sq (.sq (rg [om 5 (i6 0)]) (.bl 0 (.lp [0,1,5] [] (.sq (.sq (rg [qM 6 5,qM 7 0,qN 8 7,qB 9 .lss 6 8]) (.cd (.t 9) (.sk) (.ex 0))) (.sq (.bl 1 (.sq (.sq (rg [qM 12 0,qM 13 5,qI 14 3 12 13,qF 15 0 14,qL 16 15,qM 17 1,qB 18 .neq 16 17]) (.cd (.t 18) (.sq (rg [om 4 (i6 (-1))]) (.rt)) (.sk))) (.sq (rg [qM 19 1,oo 20 (.bi .add 0 (.t 19) (i6 1)),qM 1 20]) (.sq (.sq (rg [qM 21 0,qM 22 5,qI 23 3 21 22,qF 24 1 23,qL 25 24,qM 26 1,qB 27 .neq 25 26]) (.cd (.t 27) (.sq (rg [om 4 (i6 (-1))]) (.rt)) (.sk))) (.sq (rg [qM 28 1,oo 29 (.bi .add 0 (.t 28) (i6 1)),qM 1 29]) (.sq (rg [qM 30 0,qM 31 5,qI 32 3 30 31,qF 33 2 32,qL 34 33,qM 35 1,oo 36 (.ca .pure false (.f JM) [.t 34,.t 35]),qM 1 36]) (.sq (rg [qM 37 1,oo 38 (.bi .lss 0 (.t 37) (i6 0))]) (.cd (.t 38) (.sq (rg [om 4 (i6 (-1))]) (.rt)) (.sk)))))))))
 (rg [qM 10 5,oo 11 (.bi .add 0 (.t 10) (i6 1)),qM 5 11])))))) (.sq (rg [qM 39 1,qM 4 39]) (.rt)))) }
theorem Zbw:Z3 Proofs.Tryz.prog Vx WF=true:=by kernel_rfl
def Xy:F2 :=
 { nt:=22,res:=[.t 4 [0]],body:=(.sq (rg [om 4 (i6 0)]) (.sq (.sq (rg [om 5 (i6 0)]) (.bl 0 (.lp [0,1,5] [] (.sq (.sq (rg [qM 6 5,qM 7 0,qN 8 7,qB 9 .lss 6 8]) (.cd (.t 9) (.sk) (.ex 0))) (.sq (.bl 1 (.sq (.sq (.rg (some 0) [qM 12 0,qM 13 5,qI 14 1 12 13,qL 15 14,qM 16 1,oo 17 (.ca .pure false (.f Z9) [.t 16]),qB 18 .neq 15 17]) (.cd (.t 18) (.sq (rg [om 4 (i6 (-1))]) (.rt)) (.sk)))
 (rg [qM 19 1,oo 20 (.bi .add 0 (.t 19) (i6 1)),qM 1 20])))
 (rg [qM 10 5,oo 11 (.bi .add 0 (.t 10) (i6 1)),qM 5 11])))))) (.sq (rg [qM 21 1,qM 4 21]) (.rt)))) }
theorem Zam:Z3 Proofs.Tryz.prog YE Xy=true:=by kernel_rfl
def WG:F2 :=
 { nt:=32,res:=[.t 4 [0]],body:=(.sq (rg [om 4 (i6 0)]) (.sq (.sq (rg [om 5 (i6 0)]) (.bl 0 (.lp [0,1,5] [] (.sq (.sq (rg [qM 6 5,qM 7 0,qN 8 7,qB 9 .lss 6 8]) (.cd (.t 9) (.sk) (.ex 0))) (.sq (.bl 1 (.sq (.sq (.rg (some 0) [qM 12 0,qM 13 5,qI 14 2 12 13,qF 15 0 14,qL 16 15,qM 17 1,oo 18 (.ca .pure false (.f Z9) [.t 17]),qB 19 .neq 16 18]) (.cd (.t 19) (.sq (rg [om 4 (i6 (-1))]) (.rt)) (.sk))) (.sq (rg [qM 20 1,oo 21 (.bi .add 0 (.t 20) (i6 1)),qM 1 21]) (.sq (.sq (rg [qM 22 0,qM 23 5,qI 24 2 22 23,qF 25 1 24,qL 26 25,qM 27 1,qB 28 .neq 26 27]) (.cd (.t 28) (.sq (rg [om 4 (i6 (-1))]) (.rt)) (.sk)))
 (rg [qM 29 1,oo 30 (.bi .add 0 (.t 29) (i6 1)),qM 1 30])))))
 (rg [qM 10 5,oo 11 (.bi .add 0 (.t 10) (i6 1)),qM 5 11])))))) (.sq (rg [qM 31 1,qM 4 31]) (.rt)))) }
theorem Zbx:Z3 Proofs.Tryz.prog Vy WG=true:=by kernel_rfl
end Go.Fd

namespace Go.Fd
set_option maxRecDepth 20000
abbrev Zan(_:Int)(k:Int):Int:=k
abbrev Ju(_:Int):Nat:=1
def mt(q:Nat)(o:ByteArray):ByteArray:=if q=0 then o else mt (q / 10) (⟨#[UInt8.ofNat (48+q % 10)]⟩++o)
 termination_by q
 decreasing_by omega
theorem ZqD{q:Nat}{o:ByteArray}(h:0<q):mt q o=mt (q / 10) (⟨#[UInt8.ofNat (48+q % 10)]⟩++o):=by
 rw[mt,if_neg (by omega)]
theorem Zny{o:ByteArray}:mt 0 o=o:=by rw[mt,if_pos rfl]
def Zkd(k:Int):ByteArray:=if k<=0 then ⟨#[109,48]⟩ else ⟨#[109]⟩++mt k.toNat ⟨#[]⟩
theorem Qa(k:Int)(h:k<=4611686018427387904)(lvl:Nat)(S:Sto):Sem Proofs.Tryz.prog Z9 lvl [iI k] S (iS (Zkd k)) S:=by
 refine Ze ZcO trivial ?_
 simp only[Up,EVA,seval,Zc,men]
 unfold Zkd
 refine Zk (fun h0=>?_) (fun h0=>?_)
 ·rw[if_pos h0]
 ·rw[if_neg h0]
  obtain⟨K,hK⟩:∃ K:Nat,k=K:=⟨k.toNat,by omega⟩
  subst hK
  rw[Int.toNat_natCast]
  refine JG (α:=Nat×ByteArray) K (fun j y=>⟨lvl,[(0,iI y.1),(3,iS y.2)],[],S⟩) (fun j y=>y.1+j<=K/\mt y.1 y.2=mt K ⟨#[]⟩/\y.1*10 ^ y.2.size<=K/\y.2.size<=19) (K,⟨#[]⟩) ⟨by simp only[EVA,seval,Zc,men],by simp only[EVA,seval,Zc,men]⟩ ⟨Nat.le_refl _,rfl,Nat.le_of_eq (Nat.mul_one K),(by decide:(0:Nat)<=19)⟩ ?_
  intro j y hj hA
  obtain⟨q,o⟩:=y
  obtain⟨h1,h2,h3,h4⟩:=hA
  simp only at h1 h2 h3 h4
  simp only[EVA,seval,Zc,men]
  refine Zk (fun hq=>?_) (fun hq=>?_)
  ·have hq0:0<q:=by omega
   have hby:byR [[Tr.v (Value.int IntKind.u8 (48+(q:Int) % 10))]]=some [UInt8.ofNat (48+q % 10)]:=by
    have e:(48+(q:Int) % 10).toNat=48+q % 10:=by omega
    simp only[cut,List.replicate_one,List.set_cons_zero,List.drop_zero,List.take_succ_cons,List.take_zero,byR,Option.map_some,e]
   have h5:o.size<19:=by
    apply Classical.byContradiction
    intro hc
    have e:o.size=19:=by omega
    rw[e] at h3
    have:1*10 ^ 19<=q*10 ^ 19:=Nat.mul_le_mul_right _ hq0
    omega
   have h6:q / 10*10 ^ (o.size+1)<=K:=by
    refine Nat.le_trans ?_ h3
    rw[Nat.pow_succ,Nat.mul_comm (10 ^ o.size) 10,<-Nat.mul_assoc]
    exact Nat.mul_le_mul_right _ (by omega)
   rw[hby]
   simp only[EVA,seval,Zc,men]
   have hs:(ByteArray.mk #[UInt8.ofNat (48+q % 10)]++o).size=o.size+1:=by
    rw[ByteArray.size_append,Nat.add_comm];rfl
   have e8:WM .u8 (48+(q:Int) % 10):=by
    constructor
    ·show (0:Int)<=_;omega
    ·show _<=(255:Int);omega
   refine⟨by rw[Zd];omega,e8,?_,by rw[Zd];omega,Zf (q / 10,ByteArray.mk #[UInt8.ofNat (48+q % 10)]++o) (by omega) ?_ ⟨by simp only;omega,?_,?_,?_⟩⟩
   ·show 1+o.size<=4294967296
    omega
   ·rfl
   ·rw[<-h2,ZqD hq0]
   ·simp only[hs];exact h6
   ·simp only[hs];omega
  ·have:q=0:=by omega
   subst this
   rw[<-h2,Zny]
   refine⟨?_,rfl⟩
   show 1+o.size<=4294967296
   omega
abbrev ZbU(_:ByteArray)(k:Int):ByteArray:=Zkd k
abbrev Yq(_:ByteArray):Nat:=1
end Go.Fd

namespace Go.Fd
set_option maxRecDepth 20000
theorem ZcR:MarkS Proofs.Tryz.prog JL (fun n:Int=>[tv n]) Zan Ju (fun _=>True):=by
 intro a k lvl S id p es r0 kk hw ver st cap hid hv hst h0 hk hl hB
 have hne:id.1≠lvl:=by omega
 have hgp:∀ r,getp (XV es p r) p=some r:=fun r=>QL hv
 refine Ze ZcP trivial ?_
 simp only[Uq,EVA,seval,Zc,men]
 refine JG (α:=Unit) a.length (fun j _=>⟨lvl,[(0,.hd id p 0 a.length cap st),(1,iI (kJ Ju a k j)),(5,iI j)],[],ZJ S id (.ar kk (XV es p ((lJ Zan Ju a k j).map (fun n:Int=>[tv n]))) true hw ver)⟩) (fun _ _=>True) () ⟨by simp only[Zw hne,EVA,seval,Zc,men],by (simp only[X7,Zck,EVA,seval,Zc,men]) <;> rfl⟩ trivial ?_
 intro j _ hj _
 simp only[List.length_map,EVA,seval,Zc,men]
 refine Zk (fun hlt=>?_) (fun hge=>?_)
 ·have hja:j<a.length:=by omega
  obtain⟨R,hjR,hR,hR'⟩:=ZfJ Zan Ju (fun n:Int=>[tv n]) (k:=k) hja
  have hge2:=Zel Ju (a:=a) (k:=k) (j:=j+1)
  rw[J5 Ju hja] at hge2
  have hge3:=Zem Ju (a:=a) (k:=k) (j:=j)
  rw[hR]
  try simp only[Ju] at hge2
  try simp only[QJ hne,Qu hne,Yu,UQ,hst,hgp,VX hjR,Qv hv hjR,Nat.zero_add,hja,Zw hne,List.length_map,tv,EVA,seval,Zc,men]
  refine⟨by rw[Zd];omega,⟨by rw[Zd];omega,Zf () hja ?_ trivial⟩⟩
  rw[J5 Ju hja,hR']
  simp only[Ju,Zan,tv,Int.natCast_add,Int.natCast_one,Int.add_assoc]
  try rfl
 ·have:j=a.length:=by omega
  subst this
  rw[Dy,ZfI]
  exact⟨rfl,rfl⟩
def Wl(x:TNode)(k:Int):TNode:={ control:=k,parent:=k+1,links:=mL Zan Ju x.links (k+1+1) }
def Zy(x:TNode):Nat:=1+1+nL Ju x.links
theorem ZiB:MarkS Proofs.Tryz.prog Vv ZA Wl Zy (Za6 4294967296):=by
 intro a k lvl S id p es r0 kk hw ver st cap hid hv hst h0 hk hl hB
 have hne:id.1≠lvl:=by omega
 have hgp:∀ r,getp (XV es p r) p=some r:=fun r=>QL hv
 refine Ze Zbu trivial ?_
 simp only[WD,EVA,seval,Zc,men]
 refine JG (α:=Unit) a.length (fun j _=>⟨lvl,[(0,.hd id p 0 a.length cap st),(1,iI (kJ Zy a k j)),(5,iI j)],[],ZJ S id (.ar kk (XV es p ((lJ Wl Zy a k j).map ZA)) true hw ver)⟩) (fun _ _=>True) () ⟨by simp only[Zw hne,EVA,seval,Zc,men],by (simp only[X7,Zck,EVA,seval,Zc,men]) <;> rfl⟩ trivial ?_
 intro j _ hj _
 simp only[List.length_map,EVA,seval,Zc,men]
 refine Zk (fun hlt=>?_) (fun hge=>?_)
 ·have hja:j<a.length:=by omega
  obtain⟨R,hjR,hR,hR'⟩:=ZfJ Wl Zy ZA (k:=k) hja
  have hge2:=Zel Zy (a:=a) (k:=k) (j:=j+1)
  rw[J5 Zy hja] at hge2
  have hge3:=Zem Zy (a:=a) (k:=k) (j:=j)
  rw[hR]
  try simp only[Zy] at hge2
  have hb:=hB _ (List.getElem_mem hja)
  have b0:(a[j]).links.length<=4294967296:=hb
  try simp only[QJ hne,Qu hne,Yu,UQ,hst,hgp,VX hjR,Qv hv hjR,Nat.zero_add,hja,Zw hne,List.length_map,ZA,EVA,seval,Zc,men]
  refine⟨by rw[Zd];omega,⟨by rw[Zd];omega,?_⟩⟩
  simp only[ZdN]
  refine Zk5 ZcR hid hv (by omega) (by omega) b0 (fun _ _=>trivial) hjR rfl (by simp only[List.length_map]) ?_
  simp only[List.set_cons_succ,List.set_cons_zero,QJ hne,Qu hne,Yu,UQ,hst,hgp,VX hjR,Qv hv hjR,Nat.zero_add,hja,Zw hne,List.length_map,ZA,EVA,seval,Zc,men]
  refine⟨by rw[Zd];omega,Zf () hja ?_ trivial⟩
  rw[J5 Zy hja,hR']
  simp only[Zy,Wl,ZA,Int.natCast_add,Int.natCast_one,Int.add_assoc]
  try rfl
 ·have:j=a.length:=by omega
  subst this
  rw[Dy,ZfI]
  exact⟨rfl,rfl⟩
theorem Zgb:MarkS Proofs.Tryz.prog YD (fun n:ByteArray=>[ts n]) ZbU Yq (fun x=>x.size<=4294967296):=by
 intro a k lvl S id p es r0 kk hw ver st cap hid hv hst h0 hk hl hB
 have hne:id.1≠lvl:=by omega
 have hgp:∀ r,getp (XV es p r) p=some r:=fun r=>QL hv
 refine Ze Zal trivial ?_
 simp only[Xx,EVA,seval,Zc,men]
 refine JG (α:=Unit) a.length (fun j _=>⟨lvl,[(0,.hd id p 0 a.length cap st),(1,iI (kJ Yq a k j)),(5,iI j)],[],ZJ S id (.ar kk (XV es p ((lJ ZbU Yq a k j).map (fun n:ByteArray=>[ts n]))) true hw ver)⟩) (fun _ _=>True) () ⟨by simp only[Zw hne,EVA,seval,Zc,men],by (simp only[X7,Zck,EVA,seval,Zc,men]) <;> rfl⟩ trivial ?_
 intro j _ hj _
 simp only[List.length_map,EVA,seval,Zc,men]
 refine Zk (fun hlt=>?_) (fun hge=>?_)
 ·have hja:j<a.length:=by omega
  obtain⟨R,hjR,hR,hR'⟩:=ZfJ ZbU Yq (fun n:ByteArray=>[ts n]) (k:=k) hja
  have hge2:=Zel Yq (a:=a) (k:=k) (j:=j+1)
  rw[J5 Yq hja] at hge2
  have hge3:=Zem Yq (a:=a) (k:=k) (j:=j)
  rw[hR]
  try simp only[Yq] at hge2
  try simp only[QJ hne,Qu hne,Yu,UQ,hst,hgp,VX hjR,Qv hv hjR,Nat.zero_add,hja,Zw hne,List.length_map,tv,EVA,seval,Zc,men]
  refine Za (Qa (kJ Yq a k j) (by omega)) ?_
  simp only[QJ hne,Qu hne,Yu,UQ,hst,hgp,VX hjR,Qv hv hjR,Nat.zero_add,hja,Zw hne,List.length_map,tv,EVA,seval,Zc,men]
  refine⟨by rw[Zd];omega,⟨by rw[Zd];omega,Zf () hja ?_ trivial⟩⟩
  rw[J5 Yq hja,hR']
  simp only[Yq,ZbU,tv,Int.natCast_add,Int.natCast_one,Int.add_assoc]
  try rfl
 ·have:j=a.length:=by omega
  subst this
  rw[Dy,ZfI]
  exact⟨rfl,rfl⟩
def Wm(x:TWire)(k:Int):TWire:={ name:=Zkd (k),link:=k+1 }
def Z5(x:TWire):Nat:=1+1
theorem ZiC:MarkS Proofs.Tryz.prog Vw ZK Wm Z5 (UR 4294967296):=by
 intro a k lvl S id p es r0 kk hw ver st cap hid hv hst h0 hk hl hB
 have hne:id.1≠lvl:=by omega
 have hgp:∀ r,getp (XV es p r) p=some r:=fun r=>QL hv
 refine Ze Zbv trivial ?_
 simp only[WE,EVA,seval,Zc,men]
 refine JG (α:=Unit) a.length (fun j _=>⟨lvl,[(0,.hd id p 0 a.length cap st),(1,iI (kJ Z5 a k j)),(5,iI j)],[],ZJ S id (.ar kk (XV es p ((lJ Wm Z5 a k j).map ZK)) true hw ver)⟩) (fun _ _=>True) () ⟨by simp only[Zw hne,EVA,seval,Zc,men],by (simp only[X7,Zck,EVA,seval,Zc,men]) <;> rfl⟩ trivial ?_
 intro j _ hj _
 simp only[List.length_map,EVA,seval,Zc,men]
 refine Zk (fun hlt=>?_) (fun hge=>?_)
 ·have hja:j<a.length:=by omega
  obtain⟨R,hjR,hR,hR'⟩:=ZfJ Wm Z5 ZK (k:=k) hja
  have hge2:=Zel Z5 (a:=a) (k:=k) (j:=j+1)
  rw[J5 Z5 hja] at hge2
  have hge3:=Zem Z5 (a:=a) (k:=k) (j:=j)
  rw[hR]
  try simp only[Z5] at hge2
  have hb:=hB _ (List.getElem_mem hja)
  have b0:(a[j]).name.size<=4294967296:=hb
  try simp only[QJ hne,Qu hne,Yu,UQ,hst,hgp,VX hjR,Qv hv hjR,Nat.zero_add,hja,Zw hne,List.length_map,ZK,EVA,seval,Zc,men]
  refine Za (Qa (kJ Z5 a k j) (by omega)) ?_
  simp only[QJ hne,Qu hne,Yu,UQ,hst,hgp,VX hjR,Qv hv hjR,Nat.zero_add,hja,Zw hne,List.length_map,ZK,EVA,seval,Zc,men]
  refine⟨by rw[Zd];omega,⟨by rw[Zd];omega,⟨by rw[Zd];omega,Zf () hja ?_ trivial⟩⟩⟩
  rw[J5 Z5 hja,hR']
  simp only[Z5,Wm,ZK,Int.natCast_add,Int.natCast_one,Int.add_assoc]
  try rfl
 ·have:j=a.length:=by omega
  subst this
  rw[Dy,ZfI]
  exact⟨rfl,rfl⟩
def ZbV(x:TControl)(k:Int):TControl:={ name:=Zkd (k),ports:=k+1,kind_:=k+1+1 }
def JY(x:TControl):Nat:=1+1+1
theorem Ze1:MarkS Proofs.Tryz.prog Yi Zg ZbV JY (Zz 4294967296):=by
 intro a k lvl S id p es r0 kk hw ver st cap hid hv hst h0 hk hl hB
 have hne:id.1≠lvl:=by omega
 have hgp:∀ r,getp (XV es p r) p=some r:=fun r=>QL hv
 refine Ze Df trivial ?_
 simp only[Q6,EVA,seval,Zc,men]
 refine JG (α:=Unit) a.length (fun j _=>⟨lvl,[(0,.hd id p 0 a.length cap st),(1,iI (kJ JY a k j)),(5,iI j)],[],ZJ S id (.ar kk (XV es p ((lJ ZbV JY a k j).map Zg)) true hw ver)⟩) (fun _ _=>True) () ⟨by simp only[Zw hne,EVA,seval,Zc,men],by (simp only[X7,Zck,EVA,seval,Zc,men]) <;> rfl⟩ trivial ?_
 intro j _ hj _
 simp only[List.length_map,EVA,seval,Zc,men]
 refine Zk (fun hlt=>?_) (fun hge=>?_)
 ·have hja:j<a.length:=by omega
  obtain⟨R,hjR,hR,hR'⟩:=ZfJ ZbV JY Zg (k:=k) hja
  have hge2:=Zel JY (a:=a) (k:=k) (j:=j+1)
  rw[J5 JY hja] at hge2
  have hge3:=Zem JY (a:=a) (k:=k) (j:=j)
  rw[hR]
  try simp only[JY] at hge2
  have hb:=hB _ (List.getElem_mem hja)
  have b0:(a[j]).name.size<=4294967296:=hb
  try simp only[QJ hne,Qu hne,Yu,UQ,hst,hgp,VX hjR,Qv hv hjR,Nat.zero_add,hja,Zw hne,List.length_map,Zg,EVA,seval,Zc,men]
  refine Za (Qa (kJ JY a k j) (by omega)) ?_
  simp only[QJ hne,Qu hne,Yu,UQ,hst,hgp,VX hjR,Qv hv hjR,Nat.zero_add,hja,Zw hne,List.length_map,Zg,EVA,seval,Zc,men]
  refine⟨by rw[Zd];omega,⟨by rw[Zd];omega,⟨by rw[Zd];omega,⟨by rw[Zd];omega,Zf () hja ?_ trivial⟩⟩⟩⟩
  rw[J5 JY hja,hR']
  simp only[JY,ZbV,Zg,Int.natCast_add,Int.natCast_one,Int.add_assoc]
  try rfl
 ·have:j=a.length:=by omega
  subst this
  rw[Dy,ZfI]
  exact⟨rfl,rfl⟩
end Go.Fd

namespace Go.Fd
def XT:F2 :=
 { nt:=23,res:=[.t 2 [4]],body:=(.sq (rg [om 2 (.k (.slice none 0 0))]) (.sq (rg [qM 5 0,qN 6 5,oo 7 (.ms 3 [.string ⟨#[]⟩,.int .i64 0,.int .i64 0] (.t 6)),qM 3 7]) (.sq (.sq (rg [om 4 (i6 0)]) (.bl 0 (.lp [0,3,4] [224] (.sq (.sq (rg [qM 8 4,qM 9 0,qN 10 9,qB 11 .lss 8 10]) (.cd (.t 11) (.sk) (.ex 0))) (.sq (.bl 1 (rg [qM 14 3,qM 15 4,qM 16 0,qM 17 4,qI 18 3 16 17,qS 19 3 18,oo 20 (.ca .pure true (.f Vq) [.t 19]),qI 21 3 14 15,on1 (.st 3 (.t 21) (.t 20))]))
 (rg [qM 12 4,oo 13 (.bi .add 0 (.t 12) (i6 1)),qM 4 13])))))) (.sq (rg [qM 22 3,qM 2 22]) (.rt))))) }
theorem ZaZ:Z3 Proofs.Tryz.prog Z8 XT=true:=by kernel_rfl
def Zao:F2 :=
 { nt:=23,res:=[.t 4 [0]],body:=(.sq (rg [oo 2 (.bt (.t 0)),oo 3 (.bt (.t 1)),om 4 (.k (.bool false))]) (.sq (.sq (rg [qF 5 0 2,qS 6 6 5,qF 7 0 3,qS 8 6 7,oo 9 (.ca .pure false (.f Ya) [.t 6,.t 8]),oo 10 (.nt (.t 9))]) (.cd (.t 10) (.sq (rg [om 4 (.k (.bool false))]) (.rt)) (.sk))) (.sq (.sq (rg [qF 11 6 2,qS 12 6 11,qF 13 6 3,qS 14 6 13,oo 15 (.ca .pure false (.f Ya) [.t 12,.t 14]),oo 16 (.nt (.t 15))]) (.cd (.t 16) (.sq (rg [om 4 (.k (.bool false))]) (.rt)) (.sk))) (.sq (.sq (rg [qF 17 12 2,qL 18 17,qF 19 12 3,qL 20 19,oo 21 (.ca .pure false (.f Yk) [.t 18,.t 20]),oo 22 (.nt (.t 21))]) (.cd (.t 22) (.sq (rg [om 4 (.k (.bool false))]) (.rt)) (.sk))) (.sq (rg [om 4 (.k (.bool true))]) (.rt)))))) }
theorem Ze2:Z3 Proofs.Tryz.prog Yh Zao=true:=by kernel_rfl
def WH:F2 :=
 { nt:=13,res:=[.t 4 [0]],body:=(.sq (rg [oo 2 (.bt (.t 0)),om 4 (i6 0)]) (.sq (rg [qM 5 1,qF 6 0 2,qL 7 6,oo 8 (.lg (.t 7)),qB 9 .sub 5 8,qM 1 9]) (.sq (.sq (rg [qM 10 1,oo 11 (.bi .lss 0 (.t 10) (i6 0))]) (.cd (.t 11) (.sq (rg [om 4 (i6 (-1))]) (.rt)) (.sk))) (.sq (rg [qM 12 1,qM 4 12]) (.rt))))) }
theorem Zby:Z3 Proofs.Tryz.prog Vp WH=true:=by kernel_rfl
def WI:F2 :=
 { nt:=14,res:=[.c 2 (some 3) [0,0,0]],body:=(.sq (rg [oo 1 (.bt (.t 0)),oo 2 (.al [.string ⟨#[]⟩,.int .i64 0,.int .i64 0] [])]) (.sq (rg [oo 3 (.al [.string ⟨#[]⟩,.int .i64 0,.int .i64 0] [])]) (.sq (rg [qF 4 0 1,qL 5 4,qF 6 0 3,on1 (.st 1 (.t 6) (.t 5))]) (.sq (rg [qF 7 1 1,qL 8 7,qF 9 1 3,on1 (.st 1 (.t 9) (.t 8))]) (.sq (rg [qF 10 2 1,qL 11 10,qF 12 2 3,on1 (.st 1 (.t 12) (.t 11))]) (.sq (rg [qS 13 3 3,on1 (.st 3 (.t 2) (.t 13))]) (.rt))))))) }
theorem Zbz:Z3 Proofs.Tryz.prog Vq WI=true:=by kernel_rfl
def WJ:F2 :=
 { nt:=39,res:=[.t 4 [0]],body:=(.sq (rg [oo 2 (.bt (.t 0)),oo 3 (.bt (.t 1)),om 4 (.k (.bool false))]) (.sq (.sq (rg [qF 5 0 2,qL 6 5,qF 7 0 3,qL 8 7,qB 9 .neq 6 8]) (.cd (.t 9) (.sq (rg [om 4 (.k (.bool false))]) (.rt)) (.sk))) (.sq (.sq (rg [qF 10 1 2,qL 11 10,qF 12 1 3,qL 13 12,oo 14 (.ca .pure false (.f Qg) [.t 11,.t 13]),oo 15 (.nt (.t 14))]) (.cd (.t 15) (.sq (rg [om 4 (.k (.bool false))]) (.rt)) (.sk))) (.sq (.sq (rg [qF 16 2 2,qL 17 16,qF 18 2 3,qL 19 18,oo 20 (.ca .pure false (.f Yk) [.t 17,.t 19]),oo 21 (.nt (.t 20))]) (.cd (.t 21) (.sq (rg [om 4 (.k (.bool false))]) (.rt)) (.sk))) (.sq (.sq (rg [qF 22 3 2,qL 23 22,qF 24 3 3,qL 25 24,qB 26 .neq 23 25]) (.cd (.t 26) (.sq (rg [om 4 (.k (.bool false))]) (.rt)) (.sk))) (.sq (.sq (rg [qF 27 4 2,qL 28 27,qF 29 4 3,qL 30 29,oo 31 (.ca .pure false (.f Vu) [.t 28,.t 30]),oo 32 (.nt (.t 31))]) (.cd (.t 32) (.sq (rg [om 4 (.k (.bool false))]) (.rt)) (.sk))) (.sq (.sq (rg [qF 33 5 2,qL 34 33,qF 35 5 3,qL 36 35,oo 37 (.ca .pure false (.f Qh) [.t 34,.t 36]),oo 38 (.nt (.t 37))]) (.cd (.t 38) (.sq (rg [om 4 (.k (.bool false))]) (.rt)) (.sk))) (.sq (rg [om 4 (.k (.bool true))]) (.rt))))))))) }
theorem ZbA:Z3 Proofs.Tryz.prog Ya WJ=true:=by kernel_rfl
def WK:F2 :=
 { nt:=20,res:=[.t 4 [0]],body:=(.sq (rg [oo 2 (.bt (.t 0)),oo 3 (.bt (.t 1)),om 4 (.k (.bool false))]) (.sq (.sq (rg [qF 5 0 2,qL 6 5,qF 7 0 3,qL 8 7,qB 9 .neq 6 8]) (.cd (.t 9) (.sq (rg [om 4 (.k (.bool false))]) (.rt)) (.sk))) (.sq (.sq (rg [qF 10 1 2,qL 11 10,qF 12 1 3,qL 13 12,qB 14 .neq 11 13]) (.cd (.t 14) (.sq (rg [om 4 (.k (.bool false))]) (.rt)) (.sk))) (.sq (.sq (rg [qF 15 2 2,qL 16 15,qF 17 2 3,qL 18 17,qB 19 .neq 16 18]) (.cd (.t 19) (.sq (rg [om 4 (.k (.bool false))]) (.rt)) (.sk))) (.sq (rg [om 4 (.k (.bool true))]) (.rt)))))) }
theorem ZbB:Z3 Proofs.Tryz.prog Vr WK=true:=by kernel_rfl
def Zap:F2 :=
 { nt:=21,res:=[.t 4 [0]],body:=(.sq (rg [oo 2 (.bt (.t 0)),oo 3 (.bt (.t 1)),om 4 (.k (.bool false))]) (.sq (.sq (rg [qF 5 0 2,qL 6 5,qF 7 0 3,qL 8 7,qB 9 .neq 6 8]) (.cd (.t 9) (.sq (rg [om 4 (.k (.bool false))]) (.rt)) (.sk))) (.sq (.sq (rg [qF 10 1 2,qL 11 10,qF 12 1 3,qL 13 12,qB 14 .neq 11 13]) (.cd (.t 14) (.sq (rg [om 4 (.k (.bool false))]) (.rt)) (.sk))) (.sq (.sq (rg [qF 15 2 2,qL 16 15,qF 17 2 3,qL 18 17,oo 19 (.ca .pure false (.f Yk) [.t 16,.t 18]),oo 20 (.nt (.t 19))]) (.cd (.t 20) (.sq (rg [om 4 (.k (.bool false))]) (.rt)) (.sk))) (.sq (rg [om 4 (.k (.bool true))]) (.rt)))))) }
theorem Ze3:Z3 Proofs.Tryz.prog QR Zap=true:=by kernel_rfl
def Zaq:F2 :=
 { nt:=15,res:=[.t 4 [0]],body:=(.sq (rg [oo 2 (.bt (.t 0)),oo 3 (.bt (.t 1)),om 4 (.k (.bool false))]) (.sq (.sq (rg [qF 5 0 2,qL 6 5,qF 7 0 3,qL 8 7,qB 9 .neq 6 8]) (.cd (.t 9) (.sq (rg [om 4 (.k (.bool false))]) (.rt)) (.sk))) (.sq (.sq (rg [qF 10 1 2,qL 11 10,qF 12 1 3,qL 13 12,qB 14 .neq 11 13]) (.cd (.t 14) (.sq (rg [om 4 (.k (.bool false))]) (.rt)) (.sk))) (.sq (rg [om 4 (.k (.bool true))]) (.rt))))) }
theorem Ze4:Z3 Proofs.Tryz.prog QT Zaq=true:=by kernel_rfl
end Go.Fd

namespace Go.Fd
theorem ZT{S:Sto}{id i:Oid}{ob:Ob}(h:i≠id):ZJ S id ob i=S i:=if_neg h
theorem Wn{lvl:Nat}{loc:List (Nat×Ob)}{out:Sto}{id:Oid}(h:id.1≠lvl):ZI lvl loc out id=out id:=if_neg h
theorem ZlW{α:Type}{m:α->Int->α}{n:α->Nat}:∀{a:List α} {k:Int} {j:Nat} (h:j<a.length),(mL m n a k)[j]? = some (m a[j] (kJ n a k j))
 | [],_,_,h=>by cases h
 | x::r,k,0,_=>by simp [mL,kJ,nL]
 | x::r,k,j+1,h=>by
  simp only[mL,List.getElem?_cons_succ,List.getElem_cons_succ]
  rw[ZlW (by simpa using h)]
  simp only[kJ,List.take_succ_cons,nL]
  congr 2
  omega
theorem Zh2{α:Type}{c:α->List Tr}{m:α->Int->α}{n:α->Nat}{a:List α}{k:Int}{j:Nat}(h:j<a.length):((mL m n a k).map c)[j]? = some (c (m a[j] (kJ n a k j))):=by
 rw[List.getElem?_map,ZlW h];rfl
theorem VM{α:Type}{c:α->List Tr}{m:α->Int->α}{n:α->Nat}{a:List α}{k:Int}:cut ((mL m n a k).map c) 0 a.length=(mL m n a k).map c:=by
 simp only[cut,List.drop_zero]
 exact List.take_of_length_le (by rw[List.length_map,ZG];exact Nat.le_refl _)
theorem J6{α:Type}{c:α->List Tr}{a:List α}:cut (a.map c) 0 a.length=a.map c:=by
 simp only[cut,List.drop_zero]
 exact List.take_of_length_le (by rw[List.length_map];exact Nat.le_refl _)
end Go.Fd

namespace Go.Fd
set_option maxRecDepth 20000
def Zx(x:TBigraph):Nat:=nL Zy x.nodes+nL Ju x.sites+nL Yq x.outer+nL Z5 x.inner
theorem ZcS(x:TBigraph)(k:Int)(lvl:Nat)(S:Sto)(i1 i2 i3 i4:Oid)(k1 h1 v1 k2 h2 v2 k3 h3 v3 k4 h4 v4:Nat)(c1 c2 c3 c4:Option Nat)(l1:i1.1<lvl)(l2:i2.1<lvl)(l3:i3.1<lvl)(l4:i4.1<lvl)(n2_1:i2≠i1)(n3_1:i3≠i1)(n3_2:i3≠i2)(n4_1:i4≠i1)(n4_2:i4≠i2)(n4_3:i4≠i3)(s1:S i1=some (.ar k1 (x.nodes.map ZA) true h1 v1))(s2:S i2=some (.ar k2 (rI x.sites) true h2 v2))(s3:S i3=some (.ar k3 (rS x.outer) true h3 v3))(s4:S i4=some (.ar k4 (x.inner.map ZK) true h4 v4))(h0:0<=k)(hk:k+Zx x<=4611686018427387904)(hb:ZP 4294967296 x) :
  Sem Proofs.Tryz.prog Jl lvl [.ag [iI x.roots,.hd i1 [] 0 x.nodes.length c1 h1,.hd i2 [] 0 x.sites.length c2 h2,iI x.edges,.hd i3 [] 0 x.outer.length c3 h3,.hd i4 [] 0 x.inner.length c4 h4],iI k] S (iI (k+Zx x)) (ZJ (ZJ (ZJ (ZJ S i1 (.ar k1 (((mL Wl Zy x.nodes (k))).map ZA) true h1 v1)) i2 (.ar k2 (rI (mL Zan Ju x.sites (k+(nL Zy x.nodes:Nat)))) true h2 v2)) i3 (.ar k3 (rS (mL ZbU Yq x.outer (k+(nL Zy x.nodes:Nat)+(nL Ju x.sites:Nat)))) true h3 v3)) i4 (.ar k4 (((mL Wm Z5 x.inner (k+(nL Zy x.nodes:Nat)+(nL Ju x.sites:Nat)+(nL Yq x.outer:Nat)))).map ZK) true h4 v4)):=by
 obtain⟨b0,b1,b2,b3,b4,b5,b6⟩:=hb
 have e1:i1.1≠lvl:=by omega
 have e2:i2.1≠lvl:=by omega
 have e3:i3.1≠lvl:=by omega
 have e4:i4.1≠lvl:=by omega
 simp only[Zx] at hk
 refine Ze Zaj trivial ?_
 simp only[Xv,Zw e1,Zw e2,Zw e3,Zw e4,EVA,seval,Zc,men]
 simp only[ZdN]
 refine W5 ZiB l1 s1 (by omega) (by omega) b0 b1 ?_
 simp only[Zw e1,Zw e2,Zw e3,Zw e4,EVA,seval,Zc,men]
 simp only[ZdN]
 refine W5 ZcR l2 (by rw[ZT n2_1];exact s2) (by omega) (by omega) b2 (fun _ _=>trivial) ?_
 simp only[Zw e1,Zw e2,Zw e3,Zw e4,EVA,seval,Zc,men]
 simp only[ZdN]
 refine W5 Zgb l3 (by rw[ZT n3_2,ZT n3_1];exact s3) (by omega) (by omega) b3 b4 ?_
 simp only[Zw e1,Zw e2,Zw e3,Zw e4,EVA,seval,Zc,men]
 simp only[ZdN]
 refine W5 ZiC l4 (by rw[ZT n4_3,ZT n4_2,ZT n4_1];exact s4) (by omega) (by omega) b5 b6 ?_
 simp only[Zw e1,Zw e2,Zw e3,Zw e4,EVA,seval,Zc,men]
 simp only[Zx,Int.natCast_add,<-Int.add_assoc]
 try exact⟨rfl,rfl⟩
theorem WL{x:TBigraph}{k:Int}{lvl:Nat}{out:Sto}{i1 i2 i3 i4:Oid}{k1 h1 v1 k2 h2 v2 k3 h3 v3 k4 h4 v4:Nat}{c1 c2 c3 c4:Option Nat}{env:List (Nat×IV)}{loc:List (Nat×Ob)}{d:Option Nat}{K:St->Prop}(l1:i1.1<lvl)(l2:i2.1<lvl)(l3:i3.1<lvl)(l4:i4.1<lvl)(n2_1:i2≠i1)(n3_1:i3≠i1)(n3_2:i3≠i2)(n4_1:i4≠i1)(n4_2:i4≠i2)(n4_3:i4≠i3)(s1:out i1=some (.ar k1 (x.nodes.map ZA) true h1 v1))(s2:out i2=some (.ar k2 (rI x.sites) true h2 v2))(s3:out i3=some (.ar k3 (rS x.outer) true h3 v3))(s4:out i4=some (.ar k4 (x.inner.map ZK) true h4 v4))(h0:0<=k)(hk:k+Zx x<=4611686018427387904)(hb:ZP 4294967296 x)
  (hK:K ⟨lvl,ptd d (iI (k+Zx x)) env,loc,(ZJ (ZJ (ZJ (ZJ out i1 (.ar k1 (((mL Wl Zy x.nodes (k))).map ZA) true h1 v1)) i2 (.ar k2 (rI (mL Zan Ju x.sites (k+(nL Zy x.nodes:Nat)))) true h2 v2)) i3 (.ar k3 (rS (mL ZbU Yq x.outer (k+(nL Zy x.nodes:Nat)+(nL Ju x.sites:Nat)))) true h3 v3)) i4 (.ar k4 (((mL Wm Z5 x.inner (k+(nL Zy x.nodes:Nat)+(nL Ju x.sites:Nat)+(nL Yq x.outer:Nat)))).map ZK) true h4 v4))⟩) :
  kcy (Sem Proofs.Tryz.prog) Jl true lvl env loc out d K [.ag [iI x.roots,.hd i1 [] 0 x.nodes.length c1 h1,.hd i2 [] 0 x.sites.length c2 h2,iI x.edges,.hd i3 [] 0 x.outer.length c3 h3,.hd i4 [] 0 x.inner.length c4 h4],iI k]:=by
 have e1:i1.1≠lvl:=by omega
 have e2:i2.1≠lvl:=by omega
 have e3:i3.1≠lvl:=by omega
 have e4:i4.1≠lvl:=by omega
 refine W4 (r:=iI (k+Zx x)) loc (ZJ (ZJ (ZJ (ZJ out i1 (.ar k1 (((mL Wl Zy x.nodes (k))).map ZA) true h1 v1)) i2 (.ar k2 (rI (mL Zan Ju x.sites (k+(nL Zy x.nodes:Nat)))) true h2 v2)) i3 (.ar k3 (rS (mL ZbU Yq x.outer (k+(nL Zy x.nodes:Nat)+(nL Ju x.sites:Nat)))) true h3 v3)) i4 (.ar k4 (((mL Wm Z5 x.inner (k+(nL Zy x.nodes:Nat)+(nL Ju x.sites:Nat)+(nL Yq x.outer:Nat)))).map ZK) true h4 v4)) (fun i hi=>?_) ?_ ⟨trivial,hK⟩
 ·rw[ZT (fun e=>e4 (by rw[<-e];exact hi)),ZT (fun e=>e3 (by rw[<-e];exact hi)),ZT (fun e=>e2 (by rw[<-e];exact hi)),ZT (fun e=>e1 (by rw[<-e];exact hi))]
 ·rw[VO e4,VO e3,VO e2,VO e1]
  exact ZcS x k (lvl+1) _ i1 i2 i3 i4 k1 h1 v1 k2 h2 v2 k3 h3 v3 k4 h4 v4 c1 c2 c3 c4 (by omega) (by omega) (by omega) (by omega) n2_1 n3_1 n3_2 n4_1 n4_2 n4_3 (by rw[Wn e1];exact s1) (by rw[Wn e2];exact s2) (by rw[Wn e3];exact s3) (by rw[Wn e4];exact s4) h0 hk hb
def YA(x:TBigraph)(k:Int):TBigraph:={ x with nodes:=mL Wl Zy x.nodes (k),sites:=mL Zan Ju x.sites (k+(nL Zy x.nodes:Nat)),outer:=mL ZbU Yq x.outer (k+(nL Zy x.nodes:Nat)+(nL Ju x.sites:Nat)),inner:=mL Wm Z5 x.inner (k+(nL Zy x.nodes:Nat)+(nL Ju x.sites:Nat)+(nL Yq x.outer:Nat)) }
def WP(x:TRule):Nat:=Zx x.redex+Zx x.reactum+nL Ju x.copies
theorem Zgc(x:TRule)(k:Int)(lvl:Nat)(S:Sto)(i1 i2 i3 i4 i5 i6 i7 i8 i9:Oid)(k1 h1 v1 k2 h2 v2 k3 h3 v3 k4 h4 v4 k5 h5 v5 k6 h6 v6 k7 h7 v7 k8 h8 v8 k9 h9 v9:Nat)(c1 c2 c3 c4 c5 c6 c7 c8 c9:Option Nat)(l1:i1.1<lvl)(l2:i2.1<lvl)(l3:i3.1<lvl)(l4:i4.1<lvl)(l5:i5.1<lvl)(l6:i6.1<lvl)(l7:i7.1<lvl)(l8:i8.1<lvl)(l9:i9.1<lvl)(n2_1:i2≠i1)(n3_1:i3≠i1)(n3_2:i3≠i2)(n4_1:i4≠i1)(n4_2:i4≠i2)(n4_3:i4≠i3)(n5_1:i5≠i1)(n5_2:i5≠i2)(n5_3:i5≠i3)(n5_4:i5≠i4)(n6_1:i6≠i1)(n6_2:i6≠i2)(n6_3:i6≠i3)(n6_4:i6≠i4)(n6_5:i6≠i5)(n7_1:i7≠i1)(n7_2:i7≠i2)(n7_3:i7≠i3)(n7_4:i7≠i4)(n7_5:i7≠i5)(n7_6:i7≠i6)(n8_1:i8≠i1)(n8_2:i8≠i2)(n8_3:i8≠i3)(n8_4:i8≠i4)(n8_5:i8≠i5)(n8_6:i8≠i6)(n8_7:i8≠i7)(n9_1:i9≠i1)(n9_2:i9≠i2)(n9_3:i9≠i3)(n9_4:i9≠i4)(n9_5:i9≠i5)(n9_6:i9≠i6)(n9_7:i9≠i7)(n9_8:i9≠i8)(s1:S i1=some (.ar k1 (x.redex.nodes.map ZA) true h1 v1))(s2:S i2=some (.ar k2 (rI x.redex.sites) true h2 v2))(s3:S i3=some (.ar k3 (rS x.redex.outer) true h3 v3))(s4:S i4=some (.ar k4 (x.redex.inner.map ZK) true h4 v4))(s5:S i5=some (.ar k5 (x.reactum.nodes.map ZA) true h5 v5))(s6:S i6=some (.ar k6 (rI x.reactum.sites) true h6 v6))(s7:S i7=some (.ar k7 (rS x.reactum.outer) true h7 v7))(s8:S i8=some (.ar k8 (x.reactum.inner.map ZK) true h8 v8))(s9:S i9=some (.ar k9 (rI x.copies) true h9 v9))(h0:0<=k)(hk:k+WP x<=4611686018427387904)(hb:Ws 4294967296 x) :
  Sem Proofs.Tryz.prog Yv lvl [.ag [iI x.redex.roots,.hd i1 [] 0 x.redex.nodes.length c1 h1,.hd i2 [] 0 x.redex.sites.length c2 h2,iI x.redex.edges,.hd i3 [] 0 x.redex.outer.length c3 h3,.hd i4 [] 0 x.redex.inner.length c4 h4,iI x.reactum.roots,.hd i5 [] 0 x.reactum.nodes.length c5 h5,.hd i6 [] 0 x.reactum.sites.length c6 h6,iI x.reactum.edges,.hd i7 [] 0 x.reactum.outer.length c7 h7,.hd i8 [] 0 x.reactum.inner.length c8 h8,.hd i9 [] 0 x.copies.length c9 h9],iI k] S (iI (k+WP x)) (ZJ (ZJ (ZJ (ZJ (ZJ (ZJ (ZJ (ZJ (ZJ S i1 (.ar k1 (((mL Wl Zy x.redex.nodes (k))).map ZA) true h1 v1)) i2 (.ar k2 (rI (mL Zan Ju x.redex.sites (k+(nL Zy x.redex.nodes:Nat)))) true h2 v2)) i3 (.ar k3 (rS (mL ZbU Yq x.redex.outer (k+(nL Zy x.redex.nodes:Nat)+(nL Ju x.redex.sites:Nat)))) true h3 v3)) i4 (.ar k4 (((mL Wm Z5 x.redex.inner (k+(nL Zy x.redex.nodes:Nat)+(nL Ju x.redex.sites:Nat)+(nL Yq x.redex.outer:Nat)))).map ZK) true h4 v4)) i5 (.ar k5 (((mL Wl Zy x.reactum.nodes (k+(nL Zy x.redex.nodes:Nat)+(nL Ju x.redex.sites:Nat)+(nL Yq x.redex.outer:Nat)+(nL Z5 x.redex.inner:Nat)))).map ZA) true h5 v5)) i6 (.ar k6 (rI (mL Zan Ju x.reactum.sites (k+(nL Zy x.redex.nodes:Nat)+(nL Ju x.redex.sites:Nat)+(nL Yq x.redex.outer:Nat)+(nL Z5 x.redex.inner:Nat)+(nL Zy x.reactum.nodes:Nat)))) true h6 v6)) i7 (.ar k7 (rS (mL ZbU Yq x.reactum.outer (k+(nL Zy x.redex.nodes:Nat)+(nL Ju x.redex.sites:Nat)+(nL Yq x.redex.outer:Nat)+(nL Z5 x.redex.inner:Nat)+(nL Zy x.reactum.nodes:Nat)+(nL Ju x.reactum.sites:Nat)))) true h7 v7)) i8 (.ar k8 (((mL Wm Z5 x.reactum.inner (k+(nL Zy x.redex.nodes:Nat)+(nL Ju x.redex.sites:Nat)+(nL Yq x.redex.outer:Nat)+(nL Z5 x.redex.inner:Nat)+(nL Zy x.reactum.nodes:Nat)+(nL Ju x.reactum.sites:Nat)+(nL Yq x.reactum.outer:Nat)))).map ZK) true h8 v8)) i9 (.ar k9 (rI (mL Zan Ju x.copies (k+(nL Zy x.redex.nodes:Nat)+(nL Ju x.redex.sites:Nat)+(nL Yq x.redex.outer:Nat)+(nL Z5 x.redex.inner:Nat)+(nL Zy x.reactum.nodes:Nat)+(nL Ju x.reactum.sites:Nat)+(nL Yq x.reactum.outer:Nat)+(nL Z5 x.reactum.inner:Nat)))) true h9 v9)):=by
 obtain⟨b0,b1,b2⟩:=hb
 have e1:i1.1≠lvl:=by omega
 have e2:i2.1≠lvl:=by omega
 have e3:i3.1≠lvl:=by omega
 have e4:i4.1≠lvl:=by omega
 have e5:i5.1≠lvl:=by omega
 have e6:i6.1≠lvl:=by omega
 have e7:i7.1≠lvl:=by omega
 have e8:i8.1≠lvl:=by omega
 have e9:i9.1≠lvl:=by omega
 simp only[WP,Zx] at hk
 refine Ze ZcM trivial ?_
 simp only[Un,Zw e1,Zw e2,Zw e3,Zw e4,Zw e5,Zw e6,Zw e7,Zw e8,Zw e9,EVA,seval,Zc,men]
 simp only[ZdN]
 refine WL l1 l2 l3 l4 n2_1 n3_1 n3_2 n4_1 n4_2 n4_3 s1 s2 s3 s4 (by omega) (by simp only[WP,Zx];omega) b0 ?_
 simp only[Zw e1,Zw e2,Zw e3,Zw e4,Zw e5,Zw e6,Zw e7,Zw e8,Zw e9,EVA,seval,Zc,men]
 simp only[Zx,Int.natCast_add,<-Int.add_assoc]
 simp only[ZdN]
 refine WL l5 l6 l7 l8 n6_5 n7_5 n7_6 n8_5 n8_6 n8_7 (by rw[ZT n5_4,ZT n5_3,ZT n5_2,ZT n5_1];exact s5) (by rw[ZT n6_4,ZT n6_3,ZT n6_2,ZT n6_1];exact s6) (by rw[ZT n7_4,ZT n7_3,ZT n7_2,ZT n7_1];exact s7) (by rw[ZT n8_4,ZT n8_3,ZT n8_2,ZT n8_1];exact s8) (by omega) (by simp only[WP,Zx];omega) b1 ?_
 simp only[Zw e1,Zw e2,Zw e3,Zw e4,Zw e5,Zw e6,Zw e7,Zw e8,Zw e9,EVA,seval,Zc,men]
 simp only[Zx,Int.natCast_add,<-Int.add_assoc]
 simp only[ZdN]
 refine W5 ZcR l9 (by rw[ZT n9_8,ZT n9_7,ZT n9_6,ZT n9_5,ZT n9_4,ZT n9_3,ZT n9_2,ZT n9_1];exact s9) (by omega) (by omega) b2 (fun _ _=>trivial) ?_
 simp only[Zw e1,Zw e2,Zw e3,Zw e4,Zw e5,Zw e6,Zw e7,Zw e8,Zw e9,EVA,seval,Zc,men]
 simp only[WP,Zx,Int.natCast_add,<-Int.add_assoc]
 try exact⟨rfl,rfl⟩
theorem Zgd{x:TRule}{k:Int}{lvl a1 a2 a3 a4 a5 a6 a7 a8 a9:Nat}{out:Sto}{k1 h1 v1 k2 h2 v2 k3 h3 v3 k4 h4 v4 k5 h5 v5 k6 h6 v6 k7 h7 v7 k8 h8 v8 k9 h9 v9:Nat}{c1 c2 c3 c4 c5 c6 c7 c8 c9:Option Nat}{env:List (Nat×IV)}{loc:List (Nat×Ob)}{d:Option Nat}{K:St->Prop}(n2_1:a2≠a1)(n3_1:a3≠a1)(n3_2:a3≠a2)(n4_1:a4≠a1)(n4_2:a4≠a2)(n4_3:a4≠a3)(n5_1:a5≠a1)(n5_2:a5≠a2)(n5_3:a5≠a3)(n5_4:a5≠a4)(n6_1:a6≠a1)(n6_2:a6≠a2)(n6_3:a6≠a3)(n6_4:a6≠a4)(n6_5:a6≠a5)(n7_1:a7≠a1)(n7_2:a7≠a2)(n7_3:a7≠a3)(n7_4:a7≠a4)(n7_5:a7≠a5)(n7_6:a7≠a6)(n8_1:a8≠a1)(n8_2:a8≠a2)(n8_3:a8≠a3)(n8_4:a8≠a4)(n8_5:a8≠a5)(n8_6:a8≠a6)(n8_7:a8≠a7)(n9_1:a9≠a1)(n9_2:a9≠a2)(n9_3:a9≠a3)(n9_4:a9≠a4)(n9_5:a9≠a5)(n9_6:a9≠a6)(n9_7:a9≠a7)(n9_8:a9≠a8)(s1:lkO a1 loc=some (.ar k1 (x.redex.nodes.map ZA) true h1 v1))(s2:lkO a2 loc=some (.ar k2 (rI x.redex.sites) true h2 v2))(s3:lkO a3 loc=some (.ar k3 (rS x.redex.outer) true h3 v3))(s4:lkO a4 loc=some (.ar k4 (x.redex.inner.map ZK) true h4 v4))(s5:lkO a5 loc=some (.ar k5 (x.reactum.nodes.map ZA) true h5 v5))(s6:lkO a6 loc=some (.ar k6 (rI x.reactum.sites) true h6 v6))(s7:lkO a7 loc=some (.ar k7 (rS x.reactum.outer) true h7 v7))(s8:lkO a8 loc=some (.ar k8 (x.reactum.inner.map ZK) true h8 v8))(s9:lkO a9 loc=some (.ar k9 (rI x.copies) true h9 v9))(h0:0<=k)(hk:k+WP x<=4611686018427387904)(hb:Ws 4294967296 x)
  (hK:K ⟨lvl,ptd d (iI (k+WP x)) env,(ptO a9 (.ar k9 (rI (mL Zan Ju x.copies (k+(nL Zy x.redex.nodes:Nat)+(nL Ju x.redex.sites:Nat)+(nL Yq x.redex.outer:Nat)+(nL Z5 x.redex.inner:Nat)+(nL Zy x.reactum.nodes:Nat)+(nL Ju x.reactum.sites:Nat)+(nL Yq x.reactum.outer:Nat)+(nL Z5 x.reactum.inner:Nat)))) true h9 v9) (ptO a8 (.ar k8 (((mL Wm Z5 x.reactum.inner (k+(nL Zy x.redex.nodes:Nat)+(nL Ju x.redex.sites:Nat)+(nL Yq x.redex.outer:Nat)+(nL Z5 x.redex.inner:Nat)+(nL Zy x.reactum.nodes:Nat)+(nL Ju x.reactum.sites:Nat)+(nL Yq x.reactum.outer:Nat)))).map ZK) true h8 v8) (ptO a7 (.ar k7 (rS (mL ZbU Yq x.reactum.outer (k+(nL Zy x.redex.nodes:Nat)+(nL Ju x.redex.sites:Nat)+(nL Yq x.redex.outer:Nat)+(nL Z5 x.redex.inner:Nat)+(nL Zy x.reactum.nodes:Nat)+(nL Ju x.reactum.sites:Nat)))) true h7 v7) (ptO a6 (.ar k6 (rI (mL Zan Ju x.reactum.sites (k+(nL Zy x.redex.nodes:Nat)+(nL Ju x.redex.sites:Nat)+(nL Yq x.redex.outer:Nat)+(nL Z5 x.redex.inner:Nat)+(nL Zy x.reactum.nodes:Nat)))) true h6 v6) (ptO a5 (.ar k5 (((mL Wl Zy x.reactum.nodes (k+(nL Zy x.redex.nodes:Nat)+(nL Ju x.redex.sites:Nat)+(nL Yq x.redex.outer:Nat)+(nL Z5 x.redex.inner:Nat)))).map ZA) true h5 v5) (ptO a4 (.ar k4 (((mL Wm Z5 x.redex.inner (k+(nL Zy x.redex.nodes:Nat)+(nL Ju x.redex.sites:Nat)+(nL Yq x.redex.outer:Nat)))).map ZK) true h4 v4) (ptO a3 (.ar k3 (rS (mL ZbU Yq x.redex.outer (k+(nL Zy x.redex.nodes:Nat)+(nL Ju x.redex.sites:Nat)))) true h3 v3) (ptO a2 (.ar k2 (rI (mL Zan Ju x.redex.sites (k+(nL Zy x.redex.nodes:Nat)))) true h2 v2) (ptO a1 (.ar k1 (((mL Wl Zy x.redex.nodes (k))).map ZA) true h1 v1) loc))))))))),out⟩) :
  kcy (Sem Proofs.Tryz.prog) Yv true lvl env loc out d K [.ag [iI x.redex.roots,.hd (lvl,a1) [] 0 x.redex.nodes.length c1 h1,.hd (lvl,a2) [] 0 x.redex.sites.length c2 h2,iI x.redex.edges,.hd (lvl,a3) [] 0 x.redex.outer.length c3 h3,.hd (lvl,a4) [] 0 x.redex.inner.length c4 h4,iI x.reactum.roots,.hd (lvl,a5) [] 0 x.reactum.nodes.length c5 h5,.hd (lvl,a6) [] 0 x.reactum.sites.length c6 h6,iI x.reactum.edges,.hd (lvl,a7) [] 0 x.reactum.outer.length c7 h7,.hd (lvl,a8) [] 0 x.reactum.inner.length c8 h8,.hd (lvl,a9) [] 0 x.copies.length c9 h9],iI k]:=by
 refine W4 (r:=iI (k+WP x)) (ptO a9 (.ar k9 (rI (mL Zan Ju x.copies (k+(nL Zy x.redex.nodes:Nat)+(nL Ju x.redex.sites:Nat)+(nL Yq x.redex.outer:Nat)+(nL Z5 x.redex.inner:Nat)+(nL Zy x.reactum.nodes:Nat)+(nL Ju x.reactum.sites:Nat)+(nL Yq x.reactum.outer:Nat)+(nL Z5 x.reactum.inner:Nat)))) true h9 v9) (ptO a8 (.ar k8 (((mL Wm Z5 x.reactum.inner (k+(nL Zy x.redex.nodes:Nat)+(nL Ju x.redex.sites:Nat)+(nL Yq x.redex.outer:Nat)+(nL Z5 x.redex.inner:Nat)+(nL Zy x.reactum.nodes:Nat)+(nL Ju x.reactum.sites:Nat)+(nL Yq x.reactum.outer:Nat)))).map ZK) true h8 v8) (ptO a7 (.ar k7 (rS (mL ZbU Yq x.reactum.outer (k+(nL Zy x.redex.nodes:Nat)+(nL Ju x.redex.sites:Nat)+(nL Yq x.redex.outer:Nat)+(nL Z5 x.redex.inner:Nat)+(nL Zy x.reactum.nodes:Nat)+(nL Ju x.reactum.sites:Nat)))) true h7 v7) (ptO a6 (.ar k6 (rI (mL Zan Ju x.reactum.sites (k+(nL Zy x.redex.nodes:Nat)+(nL Ju x.redex.sites:Nat)+(nL Yq x.redex.outer:Nat)+(nL Z5 x.redex.inner:Nat)+(nL Zy x.reactum.nodes:Nat)))) true h6 v6) (ptO a5 (.ar k5 (((mL Wl Zy x.reactum.nodes (k+(nL Zy x.redex.nodes:Nat)+(nL Ju x.redex.sites:Nat)+(nL Yq x.redex.outer:Nat)+(nL Z5 x.redex.inner:Nat)))).map ZA) true h5 v5) (ptO a4 (.ar k4 (((mL Wm Z5 x.redex.inner (k+(nL Zy x.redex.nodes:Nat)+(nL Ju x.redex.sites:Nat)+(nL Yq x.redex.outer:Nat)))).map ZK) true h4 v4) (ptO a3 (.ar k3 (rS (mL ZbU Yq x.redex.outer (k+(nL Zy x.redex.nodes:Nat)+(nL Ju x.redex.sites:Nat)))) true h3 v3) (ptO a2 (.ar k2 (rI (mL Zan Ju x.redex.sites (k+(nL Zy x.redex.nodes:Nat)))) true h2 v2) (ptO a1 (.ar k1 (((mL Wl Zy x.redex.nodes (k))).map ZA) true h1 v1) loc))))))))) out (fun _ _=>rfl) ?_ ⟨trivial,hK⟩
 rw[YQ,YQ,YQ,YQ,YQ,YQ,YQ,YQ,YQ]
 exact Zgc x k (lvl+1) _ (lvl,a1) (lvl,a2) (lvl,a3) (lvl,a4) (lvl,a5) (lvl,a6) (lvl,a7) (lvl,a8) (lvl,a9) k1 h1 v1 k2 h2 v2 k3 h3 v3 k4 h4 v4 k5 h5 v5 k6 h6 v6 k7 h7 v7 k8 h8 v8 k9 h9 v9 c1 c2 c3 c4 c5 c6 c7 c8 c9 (Nat.lt_succ_self _) (Nat.lt_succ_self _) (Nat.lt_succ_self _) (Nat.lt_succ_self _) (Nat.lt_succ_self _) (Nat.lt_succ_self _) (Nat.lt_succ_self _) (Nat.lt_succ_self _) (Nat.lt_succ_self _) (fun e=>n2_1 (congrArg Prod.snd e)) (fun e=>n3_1 (congrArg Prod.snd e)) (fun e=>n3_2 (congrArg Prod.snd e)) (fun e=>n4_1 (congrArg Prod.snd e)) (fun e=>n4_2 (congrArg Prod.snd e)) (fun e=>n4_3 (congrArg Prod.snd e)) (fun e=>n5_1 (congrArg Prod.snd e)) (fun e=>n5_2 (congrArg Prod.snd e)) (fun e=>n5_3 (congrArg Prod.snd e)) (fun e=>n5_4 (congrArg Prod.snd e)) (fun e=>n6_1 (congrArg Prod.snd e)) (fun e=>n6_2 (congrArg Prod.snd e)) (fun e=>n6_3 (congrArg Prod.snd e)) (fun e=>n6_4 (congrArg Prod.snd e)) (fun e=>n6_5 (congrArg Prod.snd e)) (fun e=>n7_1 (congrArg Prod.snd e)) (fun e=>n7_2 (congrArg Prod.snd e)) (fun e=>n7_3 (congrArg Prod.snd e)) (fun e=>n7_4 (congrArg Prod.snd e)) (fun e=>n7_5 (congrArg Prod.snd e)) (fun e=>n7_6 (congrArg Prod.snd e)) (fun e=>n8_1 (congrArg Prod.snd e)) (fun e=>n8_2 (congrArg Prod.snd e)) (fun e=>n8_3 (congrArg Prod.snd e)) (fun e=>n8_4 (congrArg Prod.snd e)) (fun e=>n8_5 (congrArg Prod.snd e)) (fun e=>n8_6 (congrArg Prod.snd e)) (fun e=>n8_7 (congrArg Prod.snd e)) (fun e=>n9_1 (congrArg Prod.snd e)) (fun e=>n9_2 (congrArg Prod.snd e)) (fun e=>n9_3 (congrArg Prod.snd e)) (fun e=>n9_4 (congrArg Prod.snd e)) (fun e=>n9_5 (congrArg Prod.snd e)) (fun e=>n9_6 (congrArg Prod.snd e)) (fun e=>n9_7 (congrArg Prod.snd e)) (fun e=>n9_8 (congrArg Prod.snd e)) (by rw[J8];exact s1) (by rw[J8];exact s2) (by rw[J8];exact s3) (by rw[J8];exact s4) (by rw[J8];exact s5) (by rw[J8];exact s6) (by rw[J8];exact s7) (by rw[J8];exact s8) (by rw[J8];exact s9) h0 hk hb
def Za0(x:TRule)(k:Int):TRule:={ x with redex:=YA x.redex (k),reactum:=YA x.reactum (k+(Zx x.redex:Nat)),copies:=mL Zan Ju x.copies (k+(Zx x.redex:Nat)+(Zx x.reactum:Nat)) }
theorem ZcT(a:List Int)(k:Int)(hl:a.length<=4294967296)(h0:0<=k)(hk:k+nL Ju a<=4611686018427387904)(lvl:Nat)(S:Sto):Sem Proofs.Tryz.prog JM lvl [.tr (.sl (rI (mL Zan Ju a k))),iI k] S (iI (k+nL Ju a)) S:=by
 refine Ze ZcQ trivial ?_
 simp only[Ur,EVA,seval,Zc,men]
 refine JG (α:=Unit) a.length (fun j _=>⟨lvl,[(0,.tr (.sl (rI (mL Zan Ju a k)))),(1,iI (kJ Ju a k j)),(5,iI j)],[],S⟩) (fun _ _=>True) () ⟨by simp only[EVA,seval,Zc,men],by (simp only[X7,EVA,seval,Zc,men]) <;> rfl⟩ trivial ?_
 intro j _ hj _
 simp only[List.length_map,ZG,EVA,seval,Zc,men]
 refine Zk (fun hlt=>?_) (fun hge=>?_)
 ·have hja:j<a.length:=by omega
  have ga:=Zh2 (c:=(fun n:Int=>[tv n])) (m:=Zan) (n:=Ju) (k:=k) hja
  have hge2:=Zel Ju (a:=a) (k:=k) (j:=j+1)
  rw[J5 Ju hja] at hge2
  have hge3:=Zem Ju (a:=a) (k:=k) (j:=j)
  try simp only[Ju] at hge2
  simp only[ga,Zan,ZbU,Nat.zero_add,hja,ne_eq,not_true_eq_false,EVA,seval,Zc,men]
  refine⟨by rw[Zd];omega,⟨by rw[Zd];omega,Zf () hja ?_ trivial⟩⟩
  rw[J5 Ju hja]
  simp only[Ju,Int.natCast_add,Int.natCast_one,Int.add_assoc]
  try rfl
 ·have:j=a.length:=by omega
  subst this
  rw[Dy]
theorem ZiD(a:List TNode)(k:Int)(hl:a.length<=4294967296)(hB:∀ x∈a,(Za6 4294967296) x)(h0:0<=k)(hk:k+nL Zy a<=4611686018427387904)(lvl:Nat)(S:Sto):Sem Proofs.Tryz.prog Vx lvl [.tr (.sl (((mL Wl Zy a k)).map ZA)),iI k] S (iI (k+nL Zy a)) S:=by
 refine Ze Zbw trivial ?_
 simp only[WF,EVA,seval,Zc,men]
 refine JG (α:=Unit) a.length (fun j _=>⟨lvl,[(0,.tr (.sl (((mL Wl Zy a k)).map ZA))),(1,iI (kJ Zy a k j)),(5,iI j)],[],S⟩) (fun _ _=>True) () ⟨by simp only[EVA,seval,Zc,men],by (simp only[X7,EVA,seval,Zc,men]) <;> rfl⟩ trivial ?_
 intro j _ hj _
 simp only[List.length_map,ZG,EVA,seval,Zc,men]
 refine Zk (fun hlt=>?_) (fun hge=>?_)
 ·have hja:j<a.length:=by omega
  have ga:=Zh2 (c:=ZA) (m:=Wl) (n:=Zy) (k:=k) hja
  have hge2:=Zel Zy (a:=a) (k:=k) (j:=j+1)
  rw[J5 Zy hja] at hge2
  have hge3:=Zem Zy (a:=a) (k:=k) (j:=j)
  try simp only[Zy] at hge2
  have hb:=hB _ (List.getElem_mem hja)
  simp only[ga,ZA,Wl,Zan,ZbU,Nat.zero_add,hja,ne_eq,not_true_eq_false,EVA,seval,Zc,men]
  refine⟨by rw[Zd];omega,⟨by rw[Zd];omega,?_⟩⟩
  refine Za (ZcT (a[j]).links (kJ Zy a k j+1+1) hb (by omega) (by omega)) ?_
  have hz2:¬ (kJ Zy a k j+1+1+(nL Ju (a[j]).links:Nat)<0):=by omega
  simp only[ga,ZA,Wl,Zan,ZbU,Nat.zero_add,hja,ne_eq,not_true_eq_false,hz2,EVA,seval,Zc,men]
  refine⟨by rw[Zd];omega,Zf () hja ?_ trivial⟩
  rw[J5 Zy hja]
  simp only[Zy,Int.natCast_add,Int.natCast_one,Int.add_assoc]
  try rfl
 ·have:j=a.length:=by omega
  subst this
  rw[Dy]
theorem Zge(a:List ByteArray)(k:Int)(hl:a.length<=4294967296)(hB:∀ x∈a,(fun x=>x.size<=4294967296) x)(h0:0<=k)(hk:k+nL Yq a<=4611686018427387904)(lvl:Nat)(S:Sto):Sem Proofs.Tryz.prog YE lvl [.tr (.sl (rS (mL ZbU Yq a k))),iI k] S (iI (k+nL Yq a)) S:=by
 refine Ze Zam trivial ?_
 simp only[Xy,EVA,seval,Zc,men]
 refine JG (α:=Unit) a.length (fun j _=>⟨lvl,[(0,.tr (.sl (rS (mL ZbU Yq a k)))),(1,iI (kJ Yq a k j)),(5,iI j)],[],S⟩) (fun _ _=>True) () ⟨by simp only[EVA,seval,Zc,men],by (simp only[X7,EVA,seval,Zc,men]) <;> rfl⟩ trivial ?_
 intro j _ hj _
 simp only[List.length_map,ZG,EVA,seval,Zc,men]
 refine Zk (fun hlt=>?_) (fun hge=>?_)
 ·have hja:j<a.length:=by omega
  have ga:=Zh2 (c:=(fun n:ByteArray=>[ts n])) (m:=ZbU) (n:=Yq) (k:=k) hja
  have hge2:=Zel Yq (a:=a) (k:=k) (j:=j+1)
  rw[J5 Yq hja] at hge2
  have hge3:=Zem Yq (a:=a) (k:=k) (j:=j)
  try simp only[Yq] at hge2
  have hb:=hB _ (List.getElem_mem hja)
  simp only[ga,ZbU,Zan,Nat.zero_add,hja,ne_eq,not_true_eq_false,EVA,seval,Zc,men]
  refine Za (Qa (kJ Yq a k j) (by omega)) ?_
  simp only[ga,ZbU,Zan,Nat.zero_add,hja,ne_eq,not_true_eq_false,EVA,seval,Zc,men]
  refine⟨by rw[Zd];omega,⟨by rw[Zd];omega,Zf () hja ?_ trivial⟩⟩
  rw[J5 Yq hja]
  simp only[Yq,Int.natCast_add,Int.natCast_one,Int.add_assoc]
  try rfl
 ·have:j=a.length:=by omega
  subst this
  rw[Dy]
theorem ZiE(a:List TWire)(k:Int)(hl:a.length<=4294967296)(hB:∀ x∈a,(UR 4294967296) x)(h0:0<=k)(hk:k+nL Z5 a<=4611686018427387904)(lvl:Nat)(S:Sto):Sem Proofs.Tryz.prog Vy lvl [.tr (.sl (((mL Wm Z5 a k)).map ZK)),iI k] S (iI (k+nL Z5 a)) S:=by
 refine Ze Zbx trivial ?_
 simp only[WG,EVA,seval,Zc,men]
 refine JG (α:=Unit) a.length (fun j _=>⟨lvl,[(0,.tr (.sl (((mL Wm Z5 a k)).map ZK))),(1,iI (kJ Z5 a k j)),(5,iI j)],[],S⟩) (fun _ _=>True) () ⟨by simp only[EVA,seval,Zc,men],by (simp only[X7,EVA,seval,Zc,men]) <;> rfl⟩ trivial ?_
 intro j _ hj _
 simp only[List.length_map,ZG,EVA,seval,Zc,men]
 refine Zk (fun hlt=>?_) (fun hge=>?_)
 ·have hja:j<a.length:=by omega
  have ga:=Zh2 (c:=ZK) (m:=Wm) (n:=Z5) (k:=k) hja
  have hge2:=Zel Z5 (a:=a) (k:=k) (j:=j+1)
  rw[J5 Z5 hja] at hge2
  have hge3:=Zem Z5 (a:=a) (k:=k) (j:=j)
  try simp only[Z5] at hge2
  have hb:=hB _ (List.getElem_mem hja)
  simp only[ga,ZK,Wm,Zan,ZbU,Nat.zero_add,hja,ne_eq,not_true_eq_false,EVA,seval,Zc,men]
  refine Za (Qa (kJ Z5 a k j) (by omega)) ?_
  simp only[ga,ZK,Wm,Zan,ZbU,Nat.zero_add,hja,ne_eq,not_true_eq_false,EVA,seval,Zc,men]
  refine⟨by rw[Zd];omega,⟨by rw[Zd];omega,⟨by rw[Zd];omega,Zf () hja ?_ trivial⟩⟩⟩
  rw[J5 Z5 hja]
  simp only[Z5,Int.natCast_add,Int.natCast_one,Int.add_assoc]
  try rfl
 ·have:j=a.length:=by omega
  subst this
  rw[Dy]
theorem Zbe(x:TBigraph)(k:Int)(hb:ZP 4294967296 x)(h0:0<=k)(hk:k+Zx x<=4611686018427387904)(lvl:Nat)(S:Sto):Sem Proofs.Tryz.prog JH lvl [.ag ((Zb (YA x k)).map .tr),iI k] S (iI (k+Zx x)) S:=by
 obtain⟨b0,b1,b2,b3,b4,b5,b6⟩:=hb
 simp only[Zx] at hk
 refine Ze Zak trivial ?_
 simp only[Xw,Zb,YA,EVA,seval,Zc,men]
 refine Za (ZiD x.nodes (k) b0 b1 (by omega) (by omega)) ?_
 have hz0:¬ (k+(nL Zy x.nodes:Nat)<0):=by omega
 simp only[Zb,YA,hz0,EVA,seval,Zc,men]
 refine Za (ZcT x.sites (k+(nL Zy x.nodes:Nat)) b2 (by omega) (by omega)) ?_
 have hz1:¬ (k+(nL Zy x.nodes:Nat)+(nL Ju x.sites:Nat)<0):=by omega
 simp only[Zb,YA,hz1,EVA,seval,Zc,men]
 refine Za (Zge x.outer (k+(nL Zy x.nodes:Nat)+(nL Ju x.sites:Nat)) b3 b4 (by omega) (by omega)) ?_
 have hz2:¬ (k+(nL Zy x.nodes:Nat)+(nL Ju x.sites:Nat)+(nL Yq x.outer:Nat)<0):=by omega
 simp only[Zb,YA,hz2,EVA,seval,Zc,men]
 refine Za (ZiE x.inner (k+(nL Zy x.nodes:Nat)+(nL Ju x.sites:Nat)+(nL Yq x.outer:Nat)) b5 b6 (by omega) (by omega)) ?_
 have hz3:¬ (k+(nL Zy x.nodes:Nat)+(nL Ju x.sites:Nat)+(nL Yq x.outer:Nat)+(nL Z5 x.inner:Nat)<0):=by omega
 simp only[Zb,YA,hz3,EVA,seval,Zc,men]
 simp only[Zx,Int.natCast_add,<-Int.add_assoc]
theorem Zke(x:TRule)(k:Int)(hb:Ws 4294967296 x)(h0:0<=k)(hk:k+WP x<=4611686018427387904)(lvl:Nat)(S:Sto):Sem Proofs.Tryz.prog Yw lvl [.ag ((ZM (Za0 x k)).map .tr),iI k] S (iI (k+WP x)) S:=by
 obtain⟨b0,b1,b2⟩:=hb
 simp only[WP] at hk
 refine Ze ZcN trivial ?_
 simp only[Uo,ZM,Za0,EVA,seval,Zc,men]
 have hc0:=Zbe x.redex (k) b0 (by omega) (by omega)
 simp only[Zb,List.map_cons,List.map_nil] at hc0
 refine Za hc0 ?_
 have hz0:¬ (k+(Zx x.redex:Nat)<0):=by omega
 simp only[ZM,Za0,hz0,EVA,seval,Zc,men]
 have hc1:=Zbe x.reactum (k+(Zx x.redex:Nat)) b1 (by omega) (by omega)
 simp only[Zb,List.map_cons,List.map_nil] at hc1
 refine Za hc1 ?_
 have hz1:¬ (k+(Zx x.redex:Nat)+(Zx x.reactum:Nat)<0):=by omega
 simp only[ZM,Za0,hz1,EVA,seval,Zc,men]
 refine Za (ZcT x.copies (k+(Zx x.redex:Nat)+(Zx x.reactum:Nat)) b2 (by omega) (by omega)) ?_
 have hz2:¬ (k+(Zx x.redex:Nat)+(Zx x.reactum:Nat)+(nL Ju x.copies:Nat)<0):=by omega
 simp only[ZM,Za0,hz2,EVA,seval,Zc,men]
 simp only[WP,Int.natCast_add,<-Int.add_assoc]
end Go.Fd

namespace Go.Fd
theorem Zkf:∀(l:List Int),nL Ju l=l.length
 | []=>rfl
 | x::r=>by simp only[nL,List.length_cons,Zkf r,Ju];omega
theorem ZqE{α:Type}{n:α->Nat}{B:Nat}:∀(l:List α),(∀ x∈l,n x<=B)->nL n l<=l.length*B
 | [],_=>Nat.zero_le _
 | x::r,h=>by
  have h1:=h x (by simp)
  have h2:=ZqE r (fun y hy=>h y (by simp [hy]))
  simp only[nL,List.length_cons,Nat.add_mul]
  omega
end Go.Fd

namespace Go.Fd
theorem Zkg(x:TControl):Zq 256 (fun l=>J0 x l) (JY x):=ZlL (ZuF (by omega) (by omega) (Zqh x.name.size) ZuE) (by simp only[JY];omega)
end Go.Fd

namespace Go.Fd
set_option maxRecDepth 20000
theorem ZlX{α:Type}{f:α->Int->Int}:∀(a:List α) (l:Int),(∀ x∈a,∀ l:Int,0<=l->l<=1048576->f x l<=l)->0<=l->l<=1048576->szF f a l<=l
 | [],l,_,_,_=>Int.le_refl l
 | x::r,l,hf,h0,h1=>by
  simp only[szF]
  have:=hf x (by simp) l h0 h1
  split
  ·omega
  ·have h2:=ZlX r (f x l) (fun y hy=>hf y (by simp [hy])) (by omega) (by omega)
   omega
theorem ZqF{α:Type}{f:α->Int->Int}(a:List α){l:Int}(hf:∀ x∈a,∀ l:Int,0<=l->l<=1048576->f x l<=l)(h0:0<=l)(h1:l<=1048576):szL f a l<=l:=by
 unfold szL
 split
 ·omega
 ·have:=ZlX a (l-a.length) hf (by omega) (by omega)
  omega
theorem Znz{l m:Int}{g:Int->Int}(h0:0<=l)(h:m<=l)(hg:0<=m->g m<=m):Zjz m g<=l:=by
 unfold Zjz
 split
 ·omega
 ·have:=hg (by omega)
  omega
theorem Zar(x:TControl)(hb:Zz 9223372036854775807 x)(l:Int)(h0:0<=l)(h1:l<=1048576):J0 x l<=l/\∀ lvl S,Sem Proofs.Tryz.prog Vp lvl [.ag ((Zg x).map .tr),iI l] S (iI (J0 x l)) S:=by
 have b0:x.name.size<=9223372036854775807:=hb
 refine⟨?_,fun lvl S=>?_⟩
 ·unfold J0
  refine Znz h0 (m:=l-x.name.size) (by omega) (fun p0=>?_)
  have r0:_<=(1048576:Int):=Int.le_trans (show l-x.name.size<=l by omega) h1
  exact Int.le_refl _
 ·refine Ze Zby trivial ?_
  simp only[WH,Zg,List.map_cons,List.map_nil,EVA,seval,Zc,men]
  unfold J0
  refine⟨by rw[Zd];omega,?_⟩
  obtain⟨l1,hl1⟩:∃ m:Int,m=l-x.name.size:=⟨_,rfl⟩
  have u1:l1<=l:=by omega
  rw[<-hl1]
  split
  ·rename_i hn;rw[Zjz,if_pos hn]
  rename_i hn0
  rw[Zjz,if_neg hn0]
theorem Zgf:Z3 Proofs.Tryz.prog Y1 (ZuD 3 (some 3) Vp)=true:=by kernel_rfl
theorem Zdi(a:List TControl)(hl:a.length<=9223372036854775807)(hb:∀ y∈a,Zz 9223372036854775807 y)(l:Int)(h0:0<=l)(h1:l<=1048576):szL J0 a l<=l/\∀ lvl S,Sem Proofs.Tryz.prog Y1 lvl [.tr (.sl (a.map Zg)),iI l] S (iI (szL J0 a l)) S :=
 ⟨ZqF a (fun x hx l h0 h1=>(Zar x (hb x hx) l h0 h1).1) h0 h1,fun lvl S=>Zk4 Zgf Zg J0 W6 a l hl h0 h1 (fun x hx l h0 h1=>Zar x (hb x hx) l h0 h1) lvl S⟩
end Go.Fd

namespace Go.Fd
set_option maxRecDepth 20000
theorem Ze5(x y:TControl)(hb:Zz 9223372036854775807 x)(lvl:Nat)(S:Sto):Sem Proofs.Tryz.prog Vr lvl [.ag ((Zg x).map .tr),.ag ((Zg y).map .tr)] S (iB (decide (x=y))) S:=by
 have b0:x.name.size<=9223372036854775807:=hb
 refine Ze ZbB trivial ?_
 simp only[WK,Zg,List.map_cons,List.map_nil,EVA,seval,Zc,men]
 refine Zk (fun hne=>?_) (fun heq0=>?_)
 ·have:¬ x=y:=fun e=>(by rw[e] at hne;simp at hne)
  simp [this]
 refine Zk (fun hne=>?_) (fun heq1=>?_)
 ·have:¬ x=y:=fun e=>(by rw[e] at hne;simp at hne)
  simp [this]
 refine Zk (fun hne=>?_) (fun heq2=>?_)
 ·have:¬ x=y:=fun e=>(by rw[e] at hne;simp at hne)
  simp [this]
 have:x=y:=by
  cases x;cases y;simp_all
 simp [this]
theorem Zgg:Z3 Proofs.Tryz.prog Y2 (Zqd 3 (some 3) Vr)=true:=by kernel_rfl
theorem Zdj(a b:(List TControl))(ha:a.length<=9223372036854775807)(ha2:∀ y∈a,Zz 9223372036854775807 y)(lvl:Nat)(S:Sto):Sem Proofs.Tryz.prog Y2 lvl [.tr (.sl (a.map Zg)),.tr (.sl (b.map Zg))] S (iB (decide (a=b))) S :=
 Zei Zgg Zg (fun _=>rfl) a b ha (fun x hx y _ lvl S=>Ze5 x y (ha2 x hx) lvl S) lvl S
theorem Zlr:Z3 Proofs.Tryz.prog Yk ZnE=true:=by kernel_rfl
theorem Za1(a b:(List Int))(ha:a.length<=9223372036854775807)(lvl:Nat)(S:Sto):Sem Proofs.Tryz.prog Yk lvl [.tr (.sl (rI a)),.tr (.sl (rI b))] S (iB (decide (a=b))) S:=Znc Zlr a b ha lvl S
theorem ZiF(x y:TNode)(hb:Za6 9223372036854775807 x)(lvl:Nat)(S:Sto):Sem Proofs.Tryz.prog QR lvl [.ag ((ZA x).map .tr),.ag ((ZA y).map .tr)] S (iB (decide (x=y))) S:=by
 have b0:x.links.length<=9223372036854775807:=hb
 refine Ze Ze3 trivial ?_
 simp only[Zap,ZA,List.map_cons,List.map_nil,EVA,seval,Zc,men]
 refine Zk (fun hne=>?_) (fun heq0=>?_)
 ·have:¬ x=y:=fun e=>(by rw[e] at hne;simp at hne)
  simp [this]
 refine Zk (fun hne=>?_) (fun heq1=>?_)
 ·have:¬ x=y:=fun e=>(by rw[e] at hne;simp at hne)
  simp [this]
 refine Za (Za1 x.links y.links b0) ?_
 simp only[Bool.not_eq_true',EVA,seval,Zc,men]
 refine Zk (fun hne=>?_) (fun heq2=>?_)
 ·have:¬ x=y:=fun e=>(by rw[e] at hne;simp at hne)
  simp [this]
 have:x=y:=by
  cases x;cases y;simp_all
 simp [this]
theorem Zkh:Z3 Proofs.Tryz.prog Qg (Zqd 3 (some 3) QR)=true:=by kernel_rfl
theorem Zg3(a b:(List TNode))(ha:a.length<=9223372036854775807)(ha2:∀ y∈a,Za6 9223372036854775807 y)(lvl:Nat)(S:Sto):Sem Proofs.Tryz.prog Qg lvl [.tr (.sl (a.map ZA)),.tr (.sl (b.map ZA))] S (iB (decide (a=b))) S :=
 Zei Zkh ZA (fun _=>rfl) a b ha (fun x hx y _ lvl S=>ZiF x y (ha2 x hx) lvl S) lvl S
theorem ZiG(x y:TWire)(hb:UR 9223372036854775807 x)(lvl:Nat)(S:Sto):Sem Proofs.Tryz.prog QT lvl [.ag ((ZK x).map .tr),.ag ((ZK y).map .tr)] S (iB (decide (x=y))) S:=by
 have b0:x.name.size<=9223372036854775807:=hb
 refine Ze Ze4 trivial ?_
 simp only[Zaq,ZK,List.map_cons,List.map_nil,EVA,seval,Zc,men]
 refine Zk (fun hne=>?_) (fun heq0=>?_)
 ·have:¬ x=y:=fun e=>(by rw[e] at hne;simp at hne)
  simp [this]
 refine Zk (fun hne=>?_) (fun heq1=>?_)
 ·have:¬ x=y:=fun e=>(by rw[e] at hne;simp at hne)
  simp [this]
 have:x=y:=by
  cases x;cases y;simp_all
 simp [this]
theorem Zki:Z3 Proofs.Tryz.prog Qh (Zqd 2 (some 2) QT)=true:=by kernel_rfl
theorem Zg4(a b:(List TWire))(ha:a.length<=9223372036854775807)(ha2:∀ y∈a,UR 9223372036854775807 y)(lvl:Nat)(S:Sto):Sem Proofs.Tryz.prog Qh lvl [.tr (.sl (a.map ZK)),.tr (.sl (b.map ZK))] S (iB (decide (a=b))) S :=
 Zei Zki ZK (fun _=>rfl) a b ha (fun x hx y _ lvl S=>ZiG x y (ha2 x hx) lvl S) lvl S
theorem Zg5:Z3 Proofs.Tryz.prog Vu ZnE=true:=by kernel_rfl
theorem Ze6(a b:(List ByteArray))(ha:a.length<=9223372036854775807)(lvl:Nat)(S:Sto):Sem Proofs.Tryz.prog Vu lvl [.tr (.sl (rS a)),.tr (.sl (rS b))] S (iB (decide (a=b))) S:=Znd Zg5 a b ha lvl S
theorem Zas(x y:TBigraph)(hb:ZP 9223372036854775807 x)(lvl:Nat)(S:Sto):Sem Proofs.Tryz.prog Ya lvl [.ag ((Zb x).map .tr),.ag ((Zb y).map .tr)] S (iB (decide (x=y))) S:=by
 obtain⟨b0,b1,b2,b3,b4,b5,b6⟩:=hb
 refine Ze ZbA trivial ?_
 simp only[WJ,Zb,List.map_cons,List.map_nil,EVA,seval,Zc,men]
 refine Zk (fun hne=>?_) (fun heq0=>?_)
 ·have:¬ x=y:=fun e=>(by rw[e] at hne;simp at hne)
  simp [this]
 refine Za (Zg3 x.nodes y.nodes b0 b1) ?_
 simp only[Bool.not_eq_true',EVA,seval,Zc,men]
 refine Zk (fun hne=>?_) (fun heq1=>?_)
 ·have:¬ x=y:=fun e=>(by rw[e] at hne;simp at hne)
  simp [this]
 refine Za (Za1 x.sites y.sites b2) ?_
 simp only[Bool.not_eq_true',EVA,seval,Zc,men]
 refine Zk (fun hne=>?_) (fun heq2=>?_)
 ·have:¬ x=y:=fun e=>(by rw[e] at hne;simp at hne)
  simp [this]
 refine Zk (fun hne=>?_) (fun heq3=>?_)
 ·have:¬ x=y:=fun e=>(by rw[e] at hne;simp at hne)
  simp [this]
 refine Za (Ze6 x.outer y.outer b3) ?_
 simp only[Bool.not_eq_true',EVA,seval,Zc,men]
 refine Zk (fun hne=>?_) (fun heq4=>?_)
 ·have:¬ x=y:=fun e=>(by rw[e] at hne;simp at hne)
  simp [this]
 refine Za (Zg4 x.inner y.inner b5 b6) ?_
 simp only[Bool.not_eq_true',EVA,seval,Zc,men]
 refine Zk (fun hne=>?_) (fun heq5=>?_)
 ·have:¬ x=y:=fun e=>(by rw[e] at hne;simp at hne)
  simp [this]
 have:x=y:=by
  cases x;cases y;simp_all
 simp [this]
theorem Za2(x y:TRule)(hb:Ws 9223372036854775807 x)(lvl:Nat)(S:Sto):Sem Proofs.Tryz.prog Yh lvl [.ag ((ZM x).map .tr),.ag ((ZM y).map .tr)] S (iB (decide (x=y))) S:=by
 obtain⟨b0,b1,b2⟩:=hb
 refine Ze Ze2 trivial ?_
 simp only[Zao,ZM,List.map_cons,List.map_nil,EVA,seval,Zc,men]
 refine Za (Zas x.redex y.redex b0) ?_
 simp only[Bool.not_eq_true',EVA,seval,Zc,men]
 refine Zk (fun hne=>?_) (fun heq0=>?_)
 ·have:¬ x=y:=fun e=>(by rw[e] at hne;simp at hne)
  simp [this]
 refine Za (Zas x.reactum y.reactum b1) ?_
 simp only[Bool.not_eq_true',EVA,seval,Zc,men]
 refine Zk (fun hne=>?_) (fun heq1=>?_)
 ·have:¬ x=y:=fun e=>(by rw[e] at hne;simp at hne)
  simp [this]
 refine Za (Za1 x.copies y.copies b2) ?_
 simp only[Bool.not_eq_true',EVA,seval,Zc,men]
 refine Zk (fun hne=>?_) (fun heq2=>?_)
 ·have:¬ x=y:=fun e=>(by rw[e] at hne;simp at hne)
  simp [this]
 have:x=y:=by
  cases x;cases y;simp_all
 simp [this]
end Go.Fd

namespace Go.Fd
set_option maxRecDepth 20000
theorem Ze7(x:TControl)(hb:Zz 4294967296 x)(lvl:Nat)(S:Sto):Sem Proofs.Tryz.prog Vq lvl [.ag ((Zg x).map .tr)] S (ZbM x) S:=by
 have b0:x.name.size<=4294967296:=hb
 refine Ze Zbz (by simp [ZbM,low,men,Zc]) ?_
 simp only[WI,Zg,zfill,zobs,List.map_cons,List.map_nil,Zl,Zn,List.set_cons_zero,List.set_cons_succ,EVA,seval,Zc,men]
 rfl
theorem V2(a:(List TControl))(ha:a.length<=4294967296)(hb:∀ y∈a,Zz 4294967296 y)(lvl:Nat)(S:Sto):Sem Proofs.Tryz.prog Z8 lvl [.tr (.sl (a.map Zg))] S (.ow 3 (a.map Zg) true) S:=by
 refine Ze ZaZ trivial ?_
 simp only[XT,List.length_map,bigN,Int.natCast_nonneg,EVA,seval,Zc,men]
 refine⟨by omega,?_⟩
 refine JG (α:=Unit) a.length (fun j _=>⟨lvl,[(0,.tr (.sl (a.map Zg))),(3,.hd (lvl,224) [] 0 a.length none a.length),(4,iI j)],[(224,.ar 3 (Xe Zg [ts ⟨#[]⟩,tv 0,tv 0] a j) true a.length (j*0))],S⟩) (fun _ _=>True) () ⟨by simp only[EVA,seval,Zc,men],by (simp only[ZgI,EVA,seval,Zc,men]) <;> rfl⟩ trivial ?_
 intro j _ hj _
 simp only[List.length_map,EVA,seval,Zc,men]
 refine Zk (fun hlt=>?_) (fun hge=>?_)
 ·have hja:j<a.length:=by omega
  have ga:(a.map Zg)[j]? = some (Zg a[j]):=by simp [hja]
  have gz:(Xe Zg [ts ⟨#[]⟩,tv 0,tv 0] a j)[j]? = some [ts ⟨#[]⟩,tv 0,tv 0]:=Zic hja
  have hfl:(Xe Zg [ts ⟨#[]⟩,tv 0,tv 0] a j).length=a.length:=Zej hj
  have hsem:=fun lvl S=>Ze7 a[j] (hb a[j] (List.getElem_mem hja)) lvl S
  simp only[ga,gz,Int.natCast_nonneg,Nat.le_refl,hja,Zg,ZbM,Nat.reduceLeDiff,EVA,↓reduceIte,Nat.reduceEqDiff,Nat.reduceMul,reduceCtorEq,Nat.reduceAdd,Nat.reduceSub,Nat.reduceLT,Int.reduceToNat,Int.reduceLE,Int.reduceLT,Zc,men]
  refine Za hsem ?_
  simp only[ZbM,gz,Int.natCast_nonneg,Nat.le_refl,hja,hfl,Y7,List.getElem?_set_self,List.set_set,List.length_set,List.set_cons_zero,List.set_cons_succ,Prod.mk.injEq,ne_eq,not_false_eq_true,EVA,seval,Zc,men]
  refine⟨by rw[Zd];omega,Zf () hja ?_ trivial⟩
  have hse:=Zid (c:=Zg) (z:=[ts ⟨#[]⟩,tv 0,tv 0]) (e:=[ts a[j].name,tv a[j].ports,tv a[j].kind_]) hja rfl
  rw[hse,show (j+1)*0=j*0 from by omega]
  rfl
 ·have:j=a.length:=by omega
  subst this
  rw[Zib]
  simp
end Go.Fd

namespace Go.Fd
theorem Ze8{α:Type}{f:α->Nat}{B:Nat}(l:List α)(h:∀ x∈l,f x<=B){n:Nat}(hl:l.length<=n):nL f l<=n*B:=Nat.le_trans (ZqE l h) (Nat.mul_le_mul_right _ hl)
theorem Zkj{sig:List TControl}{b:TBigraph}(h:bigOK sig b):ZP 4294967296 b/\Zx b<=1000000:=by
 refine⟨ZeY (by omega) (ZhZ h),?_⟩
 have hs:=h.small
 have n1:=Ze8 (f:=Zy) (B:=1002) b.nodes (fun x hx=>by have:=hs.links x hx;simp only[Zy,Zkf];omega) hs.nodes
 have n2:=Ze8 (f:=Ju) (B:=1) b.sites (fun x _=>by simp [Ju]) hs.sites
 have n3:=Ze8 (f:=Yq) (B:=1) b.outer (fun x _=>by simp [Yq]) hs.outer
 have n4:=Ze8 (f:=Z5) (B:=2) b.inner (fun x _=>by simp [Z5]) hs.inner
 unfold Zx
 omega
theorem Zls:Ws 4294967296 Jo/\1+(WP Jo:Int)<=4611686018427387904:=by
 refine⟨⟨⟨by simp [Jo,ZL],by simp [Jo,ZL],by simp [Jo,ZL],by simp [Jo,ZL],by simp [Jo,ZL],by simp [Jo,ZL],by simp [Jo,ZL]⟩,⟨by simp [Jo,ZL],by simp [Jo,ZL],by simp [Jo,ZL],by simp [Jo,ZL],by simp [Jo,ZL],by simp [Jo,ZL],by simp [Jo,ZL]⟩,by simp [Jo]⟩,?_⟩
 simp [WP,Zx,Jo,ZL,nL]
theorem Zgh(sig:List TControl)(s:ByteArray)(_hn:sig.length<=4294967296)(_hbs:∀ y∈sig,Zz 4294967296 y)(_hs:s.size<=1048576):Ws 4294967296 (Zr sig s)/\1+(WP (Zr sig s):Int)<=4611686018427387904:=by
 unfold Zr
 split
 ·rename_i h
  have hr:=h.choose_spec.1
  obtain⟨a1,a2⟩:=Zkj hr.red
  obtain⟨b1,b2⟩:=Zkj hr.rea
  have hc:=(Zag hr).2
  refine⟨⟨a1,b1,by omega⟩,?_⟩
  have hn:nL Ju h.choose.copies<=4:=by rw[Zkf];omega
  show 1+((Zx h.choose.redex+Zx h.choose.reactum+nL Ju h.choose.copies:Nat):Int)<=_
  omega
 ·exact Zls
end Go.Fd

namespace Go.Fd
set_option maxRecDepth 20000
theorem UM(x0:(List TControl))(x1:ByteArray)(hb0_0:x0.length<=9223372036854775807)(hb0_1:∀ y∈x0,Zz 9223372036854775807 y)(hb1_0:x1.size<=9223372036854775807)(lvl:Nat)(S:Sto):Sem Proofs.Tryz.prog YS lvl [.tr (.sl (x0.map Zg)),iS x1] S (iB true) S:=by
 refine Ze Wj trivial ?_
 simp only[VJ,List.length_map,J6,VM,ZG,ne_eq,not_true_eq_false,bne_self_eq_false,Zb,Zv,ZM,YR,EVA,seval,Zc,men]
 refine Zk (fun _=>trivial) (fun hl1=>?_)
 have hs1_0:x1.size<=1048576:=by omega
 have ul:(1048576:Int)<=1048576:=Int.le_refl _
 obtain⟨_,ha0⟩:=Zdi x0 hb0_0 hb0_1 (1048576) (by omega) (by omega)
 refine Za ha0 ?_
 simp only[List.length_map,J6,VM,ZG,ne_eq,not_true_eq_false,bne_self_eq_false,Zb,Zv,ZM,YR,EVA,seval,Zc,men]
 refine Zk (fun _=>trivial) (fun hz0=>?_)
 have zp0:=(ZwE (f:=J0) (fun y=>(ZjI y)) x0) (1048576) (by omega) (by omega)
 have zq0:=(ZwD (f:=J0) (n:=JY) (fun y=>ZlL (Zkg y) (by omega)) x0) (1048576) (by omega) (by omega)
 simp only at zp0 zq0
 have hp0:=zp0.2 (by omega)
 have hq0:=zq0.2 (by omega)
 obtain⟨hs0_0,hs0_1⟩:=hp0
 refine Za (V2 x0 hs0_0 hs0_1) ?_
 simp only[List.length_map,J6,VM,ZG,ne_eq,not_true_eq_false,bne_self_eq_false,Zb,Zv,ZM,YR,EVA,seval,Zc,men]
 refine Za (Zai x0 x1 hs0_0 hs0_1 hs1_0) ?_
 simp only[List.length_map,J6,VM,ZG,ne_eq,not_true_eq_false,bne_self_eq_false,Zb,Zv,ZM,YR,EVA,seval,Zc,men]
 refine Za (V2 x0 hs0_0 hs0_1) ?_
 simp only[List.length_map,J6,VM,ZG,ne_eq,not_true_eq_false,bne_self_eq_false,Zb,Zv,ZM,YR,EVA,seval,Zc,men]
 refine Za (Xu x0 x1 hs0_0 hs0_1 hs1_0) ?_
 simp only[List.length_map,J6,VM,ZG,ne_eq,not_true_eq_false,bne_self_eq_false,Zb,Zv,ZM,YR,EVA,seval,Zc,men]
 obtain⟨hr0_0,hrn⟩:=Zgh x0 x1 hs0_0 hs0_1 hs1_0
 refine Za (Za2 (Zr x0 x1) (Zr x0 x1) (ZeC hr0_0)) ?_
 simp only[List.length_map,J6,VM,ZG,ne_eq,not_true_eq_false,bne_self_eq_false,Zb,Zv,ZM,YR,EVA,seval,Zc,men]
 refine Za (V2 x0 hs0_0 hs0_1) ?_
 simp only[List.length_map,J6,VM,ZG,ne_eq,not_true_eq_false,bne_self_eq_false,Zb,Zv,ZM,YR,EVA,seval,Zc,men]
 refine Za (Zdj x0 x0 hb0_0 hb0_1) ?_
 simp only[List.length_map,J6,VM,ZG,ne_eq,not_true_eq_false,bne_self_eq_false,Zb,Zv,ZM,YR,EVA,seval,Zc,men]
 simp only[ZdN]
 refine Zjy Ze1 (a:=x0) rfl (by omega) (by omega) hs0_0 hs0_1 ?_
 simp only[List.length_map,J6,VM,ZG,ne_eq,not_true_eq_false,bne_self_eq_false,Zb,Zv,ZM,YR,EVA,seval,Zc,men]
 have hk0:¬ (1+(nL JY x0:Nat)<(0:Int)):=by omega
 simp only[hk0,List.length_map,J6,VM,ZG,ne_eq,not_true_eq_false,bne_self_eq_false,Zb,Zv,ZM,YR,EVA,seval,Zc,men]
 refine Za (Za2 (Zr x0 x1) (Zr x0 x1) (ZeC hr0_0)) ?_
 simp only[List.length_map,J6,VM,ZG,ne_eq,not_true_eq_false,bne_self_eq_false,Zb,Zv,ZM,YR,EVA,seval,Zc,men]
 simp only[ZdN]
 refine Zgd (x:=(Zr x0 x1)) (by decide) (by decide) (by decide) (by decide) (by decide) (by decide) (by decide) (by decide) (by decide) (by decide) (by decide) (by decide) (by decide) (by decide) (by decide) (by decide) (by decide) (by decide) (by decide) (by decide) (by decide) (by decide) (by decide) (by decide) (by decide) (by decide) (by decide) (by decide) (by decide) (by decide) (by decide) (by decide) (by decide) (by decide) (by decide) (by decide) rfl rfl rfl rfl rfl rfl rfl rfl rfl (by omega) (by omega) hr0_0 ?_
 simp only[List.length_map,J6,VM,ZG,ne_eq,not_true_eq_false,bne_self_eq_false,Zb,Zv,ZM,YR,EVA,seval,Zc,men]
 have hH:=Zke (Zr x0 x1) (1) hr0_0 (by omega) (by omega)
 have hE1:(1:Int)+(Zx (Zr x0 x1).redex:Nat)=1+(nL Zy (Zr x0 x1).redex.nodes:Nat)+(nL Ju (Zr x0 x1).redex.sites:Nat)+(nL Yq (Zr x0 x1).redex.outer:Nat)+(nL Z5 (Zr x0 x1).redex.inner:Nat):=by unfold Zx;omega
 have hE2:∀ k:Int,k+(Zx (Zr x0 x1).reactum:Nat)=k+(nL Zy (Zr x0 x1).reactum.nodes:Nat)+(nL Ju (Zr x0 x1).reactum.sites:Nat)+(nL Yq (Zr x0 x1).reactum.outer:Nat)+(nL Z5 (Zr x0 x1).reactum.inner:Nat):=fun k=>by unfold Zx;omega
 simp only[ZM,Za0,YA,List.map_cons,List.map_nil,hE1,hE2] at hH
 refine Za hH ?_
 have hh0:¬ (1+(WP (Zr x0 x1):Nat)<(0:Int)):=by omega
 simp only[hh0,List.length_map,J6,VM,ZG,ne_eq,not_true_eq_false,bne_self_eq_false,Zb,Zv,ZM,YR,EVA,seval,Zc,men]
 refine Za (V2 x0 hs0_0 hs0_1) ?_
 simp only[List.length_map,J6,VM,ZG,ne_eq,not_true_eq_false,bne_self_eq_false,Zb,Zv,ZM,YR,EVA,seval,Zc,men]
 refine Za (Xu x0 x1 hs0_0 hs0_1 hs1_0) ?_
 simp only[List.length_map,J6,VM,ZG,ne_eq,not_true_eq_false,bne_self_eq_false,Zb,Zv,ZM,YR,EVA,seval,Zc,men]
 refine Za (Za2 (Zr x0 x1) (Zr x0 x1) (ZeC hr0_0)) ?_
 simp only[List.length_map,J6,VM,ZG,ne_eq,not_true_eq_false,bne_self_eq_false,Zb,Zv,ZM,YR,EVA,seval,Zc,men]
 refine Za hH ?_
 have hh0:¬ (1+(WP (Zr x0 x1):Nat)<(0:Int)):=by omega
 simp only[hh0,List.length_map,J6,VM,ZG,ne_eq,not_true_eq_false,bne_self_eq_false,Zb,Zv,ZM,YR,EVA,seval,Zc,men]
end Go.Fd

namespace Go.Fd
set_option maxRecDepth 20000
theorem ZwM:U7 Proofs.Tryz.prog 9 (fun n:ByteArray=>[ts n]) (fun n=>n.size<=9223372036854775807):=Zfx Proofs.Tryz.underlying9
theorem Zvp:U7 Proofs.Tryz.prog 3 (fun n:Int=>[tv n]) (WM .i64):=Zjt Proofs.Tryz.underlying3
theorem ZuP:U7 Proofs.Tryz.prog 43 Zg (fun x=>Zz 9223372036854775807 x/\ZfK x):=Zk2 (Zfz Proofs.Tryz.underlying43 (show Zfy Proofs.Tryz.prog 0 [(0,9),(1,3),(2,3)] _ _ from (U8 (k:=1) (by kernel_rfl) (fun _=>rfl) ZwM (U8 (k:=1) (by kernel_rfl) (fun _=>rfl) Zvp (U8 (k:=1) (by kernel_rfl) (fun _=>rfl) Zvp Zia))))) (fun p=>TControl.mk p.1 p.2.1 p.2.2.1) (fun _=>rfl) (fun x h=>⟨h.1,⟨h.2.1,h.2.2.1⟩⟩)
theorem ZuQ:U7 Proofs.Tryz.prog 22 (fun l:List TControl=>[Tr.sl (l.map Zg)]) (fun l=>l.length<=9223372036854775807/\∀ x∈l,(fun x=>Zz 9223372036854775807 x/\ZfK x) x):=ZgG (k:=2) Proofs.Tryz.underlying22 (by kernel_rfl) (fun _=>rfl) ZuP
end Go.Fd
