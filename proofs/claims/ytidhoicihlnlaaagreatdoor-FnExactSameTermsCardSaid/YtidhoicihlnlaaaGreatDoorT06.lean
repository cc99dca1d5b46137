/-
  LISTS IN ORDER, OF ANY KIND: SORTED, EACH ONCE; CALLS THAT CHANGE ONE OBJECT. Own work.
-/
import Derived.Test.YtidhoicihlnlaaaGreatDoorT05
import Derived.Sort.Row
import Derived.Sort.Grow
import Derived.Shelf.Sort.Plain
set_option linter.all false
namespace Go.Fd
set_option maxRecDepth 20000
def cz{α:Type}[DecidableEq α](g:Nat->α):Nat->List α
 | 0=>[]
 | m+1=>cz g m++if m≠0/\g m=g (m-1) then [] else [g m]
theorem Zyq{α:Type}[DecidableEq α](g:Nat->α):∀ m,(cz g m).length<=m
 | 0=>Nat.le_refl _
 | m+1=>by
  have:=Zyq g m
  simp only[cz,List.length_append]
  split <;> simp <;> omega
theorem ZuT{α:Type}[DecidableEq α]{g:Nat->α}{m:Nat}(h0:m≠0)(h:g m=g (m-1)):cz g (m+1)=cz g m:=by
 rw[cz,if_pos ⟨h0,h⟩,List.append_nil]
theorem ZC6{α:Type}[DecidableEq α]{g:Nat->α}{m:Nat}(h:g m≠g (m-1)):cz g (m+1)=cz g m++[g m]:=by
 rw[cz,if_neg (fun e=>h e.2)]
theorem Zdz{α:Type}{y:List α}{i:Nat}{v:α}(h:i<y.length):(y.set i v).take (i+1)=y.take i++[v]:=by
 rw[List.take_succ_eq_append_getElem (by rw[List.length_set];exact h),List.getElem_set_self,List.take_set_of_le (Nat.le_refl i)]
theorem Zyr{lvl:Nat}{S:Sto}{id:Oid}{k hw ver:Nat}{es:Row}{u:Bool}(hne:id.1≠lvl)(hS:S id=some (.ar k es u hw ver)):wid (Zu lvl [] S) id [] k:=by
 unfold wid
 rw[ZS hne,hS]
theorem Zbr{C:Zl}{env:List (Nat×IV)}{loc:List (Nat×Ob)}{out:Sto}{d:Option Nat}{K:St->Prop}{fid:FuncId}{imp:Bool}{lvl:Nat}{args:List IV}{r:IV}(key:Nat)(o:Ob)(h:C fid (lvl+1) args (Zu lvl loc out) r (ZN (Zu lvl loc out) (lvl,key) o))
  (hk:freshK (keyOf d) (ptO key o loc) (impv imp lvl (keyOf d) 0 r).2.length/\K ⟨lvl,ptd d (impv imp lvl (keyOf d) 0 r).1 env,addO (keyOf d) (impv imp lvl (keyOf d) 0 r).2 (ptO key o loc),out⟩):kcy C fid imp lvl env loc out d K args :=
 Xs (ptO key o loc) out (fun _ _=>rfl) (by rw[Zga];exact h) hk
theorem ZmM{C:Zl}{env:List (Nat×IV)}{loc:List (Nat×Ob)}{out:Sto}{d:Option Nat}{K:St->Prop}{fid:FuncId}{imp:Bool}{lvl:Nat}{args:List IV}{r:IV}(key:Nat)(o:Nat->Ob)(h:∃ v,C fid (lvl+1) args (Zu lvl loc out) r (ZN (Zu lvl loc out) (lvl,key) (o v)))
  (hk:∀ v,freshK (keyOf d) (ptO key (o v) loc) (impv imp lvl (keyOf d) 0 r).2.length/\K ⟨lvl,ptd d (impv imp lvl (keyOf d) 0 r).1 env,addO (keyOf d) (impv imp lvl (keyOf d) 0 r).2 (ptO key (o v) loc),out⟩):kcy C fid imp lvl env loc out d K args:=by
 obtain⟨v,h⟩:=h
 exact Zbr key (o v) h (hk v)
section
variable {α:Type} {e0:α} {lt:α->α->Prop}
def gx(e0:α)(l:List α)(i:Nat):α:=l.getD i e0
theorem US{l:List α}{i:Nat}(h:i<l.length):gx e0 l i=l[i]:=by
 unfold gx
 rw[List.getD_eq_getElem?_getD,List.getElem?_eq_getElem h]
 rfl
def Zi6(e0:α)(lt:α->α->Prop)(x:List α)(i:Nat):Prop:=∀ p q,p<q->q<i -> ¬ lt (gx e0 x q) (gx e0 x p)
def Zkr(e0:α)(lt:α->α->Prop)(x:List α)(i j:Nat):Prop:=(∀ p q,p<q->q<=i->p≠j->q≠j -> ¬ lt (gx e0 x q) (gx e0 x p))/\∀ q,j<q->q<=i -> ¬ lt (gx e0 x q) (gx e0 x j)
def ZvD(e0:α)(x:List α)(j:Nat):List α:=(x.set j (gx e0 x (j-1))).set (j-1) (gx e0 x j)
theorem ZmN{y:List α}{a b:Nat}{v:α}(h:a<y.length):gx e0 (y.set a v) b=if a=b then v else gx e0 y b:=by
 show (y.set a v).getD b e0=if a=b then v else y.getD b e0
 rw[List.getD_eq_getElem?_getD,List.getElem?_set,List.getD_eq_getElem?_getD]
 by_cases e:a=b
 ·rw[if_pos e,if_pos e,if_pos (by omega)];rfl
 ·rw[if_neg e,if_neg e]
theorem ZlC{y:List α}{i:Nat}(h:Zkr e0 lt y i 0):Zi6 e0 lt y (i+1):=fun p q h1 h2=>by
 by_cases e:p=0
 ·subst e;exact h.2 q h1 (by omega)
 ·exact h.1 p q h1 (by omega) e (by omega)
theorem ZlD(tr:∀ a b c,¬ lt b a -> ¬ lt c b -> ¬ lt c a){y:List α}{i j:Nat}(h:Zkr e0 lt y i j)(hj:0<j)(hji:j<=i)(hle:¬ lt (gx e0 y j) (gx e0 y (j-1))):Zi6 e0 lt y (i+1):=fun p q h1 h2=>by
 by_cases e:p=j
 ·subst e;exact h.2 q h1 (by omega)
 ·by_cases e2:q=j
  ·subst e2
   by_cases e3:p=q-1
   ·subst e3;exact hle
   ·exact tr _ _ _ (h.1 p (q-1) (by omega) (by omega) e (by omega)) hle
  ·exact h.1 p q h1 (by omega) e e2
theorem ZnF(asym:∀ a b,lt a b -> ¬ lt b a){y:List α}{i j:Nat}(h:Zkr e0 lt y i j)(hj:0<j)(hji:j<=i)(hi:i<y.length)(hlt:lt (gx e0 y j) (gx e0 y (j-1))):Zkr e0 lt (ZvD e0 y j) i (j-1):=by
 have e:∀ b,gx e0 (ZvD e0 y j) b=if j-1=b then gx e0 y j else if j=b then gx e0 y (j-1) else gx e0 y b:=fun b=>by
  unfold ZvD
  rw[ZmN (by rw[List.length_set];omega),ZmN (by omega)]
 refine⟨fun p q h1 h2 h3 h4=>?_,fun q h1 h2=>?_⟩
 ·rw[e p,e q,if_neg (show ¬ j-1=p from fun g=>h3 g.symm),if_neg (show ¬ j-1=q from fun g=>h4 g.symm)]
  by_cases ep:j=p
  ·rw[if_pos ep,if_neg (show ¬ j=q by omega)]
   exact h.1 (j-1) q (by omega) h2 (by omega) (by omega)
  ·rw[if_neg ep]
   by_cases eq:j=q
   ·rw[if_pos eq]
    exact h.1 p (j-1) (by omega) (by omega) (by omega) (by omega)
   ·rw[if_neg eq]
    exact h.1 p q h1 h2 (fun g=>ep g.symm) (fun g=>eq g.symm)
 ·rw[e (j-1),e q,if_pos rfl,if_neg (show ¬ j-1=q by omega)]
  by_cases eq:j=q
  ·rw[if_pos eq];exact asym _ _ hlt
  ·rw[if_neg eq]
   exact h.2 q (by omega) h2
theorem Zps{y:List α}{j:Nat}(hj:0<j)(hi:j<y.length):(ZvD e0 y j).Perm y:=by
 have h:=@List.set_set_perm _ y j (j-1) hi (by omega)
 unfold ZvD
 rw[US hi,US (by omega)]
 exact h
theorem ZfI{γ:Type}{c:α->γ}{l:List α}{i:Nat}(h:i<l.length):(l.map c)[i]? = some (c (gx e0 l i)):=by
 rw[US h];simp [h]
end
theorem Zi7{α:Type}[DecidableEq α]{e0:α}{l:List α}:∀{n:Nat},n<=l.length->(∀ m,0<m->m<n->gx e0 l m≠gx e0 l (m-1))->cz (gx e0 l) n=l.take n
 | 0,_,_=>by simp [cz]
 | n+1,hn,h=>by
  have ih:=Zi7 (n:=n) (by omega) fun m h0 h1=>h m h0 (by omega)
  have hx:cz (gx e0 l) (n+1)=cz (gx e0 l) n++[gx e0 l n]:=by
   rw[cz,if_neg (fun e=>h n (by omega) (by omega) e.2)]
  rw[hx,ih,List.take_succ_eq_append_getElem (by omega)]
  rw[US (by omega)]
structure Ords {α:Type} (lt:α->α->Prop):Prop where
 irr:∀ a,¬ lt a a
 tr:∀ a b c,lt a b->lt b c->lt a c
 tri:∀ a b,lt a b\/a=b\/lt b a
theorem Ords.asym{α:Type}{lt:α->α->Prop}(O:Ords lt)(a b:α)(h:lt a b):¬ lt b a:=fun g=>O.irr a (O.tr _ _ _ h g)
section
variable {α:Type} {e0:α} {lt:α->α->Prop}
theorem Zks(O:Ords lt):∀{x y:List α},x.Pairwise lt->y.Pairwise lt->(∀ c,c∈x↔c∈y)->x=y
 | [],[],_,_,_=>rfl
 | [],b::s,_,_,h=>by have:=(h b).2 (by simp);simp at this
 | a::r,[],_,_,h=>by have:=(h a).1 (by simp);simp at this
 | a::r,b::s,hx,hy,h=>by
  rw[List.pairwise_cons] at hx hy
  have e:a=b:=by
   rcases List.mem_cons.1 ((h a).1 (by simp)) with e | h1
   ·exact e
   ·rcases List.mem_cons.1 ((h b).2 (by simp)) with e | h2
    ·exact e.symm
    ·exact absurd (hy.1 a h1) (O.asym _ _ (hx.1 b h2))
  subst e
  congr 1
  refine Zks O hx.2 hy.2 fun c=>⟨fun hc=>?_,fun hc=>?_⟩
  ·rcases List.mem_cons.1 ((h c).1 (by simp [hc])) with e | h1
   ·subst e;exact absurd (hx.1 c hc) (O.irr c)
   ·exact h1
  ·rcases List.mem_cons.1 ((h c).2 (by simp [hc])) with e | h1
   ·subst e;exact absurd (hy.1 c hc) (O.irr c)
   ·exact h1
theorem Zeo(O:Ords lt):∀{x y:List α},x.Pairwise (fun a b=>¬ lt b a)->y.Pairwise (fun a b=>¬ lt b a)->x.Perm y->x=y
 | [],y,_,_,h=>by rw[List.nil_perm.1 h]
 | a::r,[],_,_,h=>by have:=h.length_eq;simp at this
 | a::r,b::s,hx,hy,h=>by
  rw[List.pairwise_cons] at hx hy
  have e:a=b:=by
   rcases List.mem_cons.1 (h.mem_iff.1 (List.mem_cons_self (a:=a) (l:=r))) with e | h1
   ·exact e
   ·rcases List.mem_cons.1 (h.mem_iff.2 (List.mem_cons_self (a:=b) (l:=s))) with e | h2
    ·exact e.symm
    ·rcases O.tri a b with g | g | g
     ·exact absurd g (hy.1 a h1)
     ·exact g
     ·exact absurd g (hx.1 b h2)
  subst e
  congr 1
  exact Zeo O hx.2 hy.2 h.cons_inv
theorem ZrU{x:List α}(h:Zi6 e0 lt x x.length):x.Pairwise (fun a b=>¬ lt b a):=List.pairwise_iff_getElem.2 fun i j hi hj hij=>by
 have:=h i j hij hj
 rwa [US hi,US hj] at this
noncomputable def Zi8(lt:α->α->Prop)(l:List α):List α:=l.mergeSort fun a b=>@decide (¬ lt b a) (Classical.propDecidable _)
theorem srtG_perm{l:List α}:(Zi8 lt l).Perm l:=List.mergeSort_perm ..
theorem Zep(O:Ords lt){l:List α}:(Zi8 lt l).Pairwise (fun a b=>¬ lt b a):=by
 classical
 have h:=List.pairwise_mergeSort (le:=fun a b=>@decide (¬ lt b a) (Classical.propDecidable _)) (fun a b c h1 h2=>by
  simp only[decide_eq_true_eq] at *
  intro g
  rcases O.tri a b with k | k | k
  ·exact h2 (O.tr _ _ _ g k)
  ·subst k;exact h2 g
  ·exact h1 k) (fun a b=>by
  simp only[Bool.or_eq_true,decide_eq_true_eq]
  by_cases g:lt b a
  ·exact .inr (O.asym _ _ g)
  ·exact .inl g) l
 exact h.imp (fun h=>by simpa using h)
theorem ZrV(O:Ords lt){l x:List α}(hp:x.Perm l)(hu:Zi6 e0 lt x l.length):x=Zi8 lt l:=by
 rw[<-hp.length_eq] at hu
 exact Zeo O (ZrU hu) (Zep O) (hp.trans srtG_perm.symm)
theorem cz_mem[DecidableEq α]{g:Nat->α}{c:α}:∀{n:Nat},c∈cz g n↔∃ i,i<n/\g i=c
 | 0=>by simp [cz]
 | n+1=>by
  rw[cz,List.mem_append,cz_mem (n:=n)]
  constructor
  ·rintro(⟨i,h1,h2⟩ | h)
   ·exact⟨i,by omega,h2⟩
   ·split at h
    ·cases h
    ·exact⟨n,by omega,(List.mem_singleton.1 h).symm⟩
  ·rintro⟨i,h1,h2⟩
   by_cases e:i=n
   ·subst e
    by_cases k:i≠0/\g i=g (i-1)
    ·exact .inl ⟨i-1,by omega,k.2.symm.trans h2⟩
    ·rw[if_neg k];exact .inr (by simp [h2])
   ·exact .inl ⟨i,by omega,h2⟩
theorem Zys(O:Ords lt)[DecidableEq α]{g:Nat->α}:∀{n:Nat},(∀ i j,i<j->j<n -> ¬ lt (g j) (g i))->(cz g n).Pairwise lt
 | 0,_=>by simp [cz]
 | n+1,h=>by
  have ih:=Zys O (n:=n) fun i j h1 h2=>h i j h1 (by omega)
  by_cases k:n≠0/\g n=g (n-1)
  ·rw[ZuT k.1 k.2];exact ih
  ·have hx:cz g (n+1)=cz g n++[g n]:=by rw[cz,if_neg k]
   rw[hx,List.pairwise_append]
   refine⟨ih,by simp,fun c hc d hd=>?_⟩
   rw[List.mem_singleton] at hd
   subst hd
   obtain⟨i,h1,rfl⟩:=cz_mem.1 hc
   have hn0:n≠0:=by omega
   rcases O.tri (g i) (g n) with e | e | e
   ·exact e
   ·exfalso
    have e1:¬ lt (g n) (g (n-1)):=h (n-1) n (by omega) (by omega)
    have e2:¬ lt (g (n-1)) (g i):=by
     by_cases q:i=n-1
     ·subst q;exact O.irr _
     ·exact h i (n-1) (by omega) (by omega)
    rw[e] at e2
    rcases O.tri (g n) (g (n-1)) with q | q | q
    ·exact e1 q
    ·exact k ⟨hn0,q⟩
    ·exact e2 q
   ·exact absurd e (h i n h1 (by omega))
noncomputable def ZvE[DecidableEq α](e0:α)(lt:α->α->Prop)(l:List α):List α:=cz (gx e0 (Zi8 lt l)) (Zi8 lt l).length
theorem Zpt(O:Ords lt)[DecidableEq α]{l:List α}:(ZvE e0 lt l).Pairwise lt:=Zys O fun i j h1 h2=>by
 rw[US h2,US (Nat.lt_trans h1 h2)]
 exact List.pairwise_iff_getElem.1 (Zep O) i j _ _ h1
theorem setG_mem[DecidableEq α]{l:List α}{c:α}:c∈ZvE e0 lt l↔c∈l:=by
 unfold ZvE
 rw[cz_mem,<-(srtG_perm (lt:=lt) (l:=l)).mem_iff]
 constructor
 ·rintro⟨i,h1,h2⟩
  rw[US h1] at h2
  rw[<-h2];exact List.getElem_mem h1
 ·intro h
  obtain⟨i,h1,h2⟩:=List.getElem_of_mem h
  exact⟨i,h1,by rw[US h1];exact h2⟩
theorem Zi9(O:Ords lt)[DecidableEq α]{l y:List α}(hy:y.Pairwise lt)(h:∀ c,c∈l↔c∈y):ZvE e0 lt l=y:=Zks O (Zpt O) hy fun c=>setG_mem.trans (h c)
theorem Zpu[DecidableEq α]{l:List α}:(ZvE e0 lt l).length<=l.length:=Nat.le_trans (Zyq _ _) (Nat.le_of_eq srtG_perm.length_eq)
end
end Go.Fd

/-
  SORTING A FEW STRINGS: slices.Sort, slices.Compact ON ANOTHER'S ROW. Own work.
-/
namespace Go.Fd
set_option maxRecDepth 20000
abbrev e0S:ByteArray:=⟨#[]⟩
abbrev gS(l:List ByteArray)(i:Nat):ByteArray:=gx e0S l i
theorem bl_irr:∀(x:List UInt8),Op.bytesLess x x=false
 | []=>rfl
 | a::x=>by
  have e:¬ a<a:=UInt8.lt_irrefl a
  simp [Op.bytesLess,e,bl_irr x]
theorem ZmO:∀(x y z:List UInt8),Op.bytesLess x y=true->Op.bytesLess y z=true->Op.bytesLess x z=true
 | [],[],_,h,_=>by simp [Op.bytesLess] at h
 | [],_::_,[],_,h=>by simp [Op.bytesLess] at h
 | [],_::_,_::_,_,_=>by simp [Op.bytesLess]
 | _::_,[],_,h,_=>by simp [Op.bytesLess] at h
 | _::_,_::_,[],_,h=>by simp [Op.bytesLess] at h
 | a::x,b::y,c::z,h1,h2=>by
  have ih:=ZmO x y z
  have irr:∀ a:UInt8,¬ a<a:=UInt8.lt_irrefl
  simp only[Op.bytesLess] at h1 h2 ⊢
  by_cases e1:a=b
  ·subst e1
   simp only[irr,decide_false,Bool.false_or,beq_self_eq_true,Bool.true_and] at h1
   by_cases e2:a=c
   ·subst e2
    simp [irr] at h1 h2 ⊢
    exact ih h1 h2
   ·by_cases l2:a<c
    ·simp [l2]
    ·simp [l2,e2] at h2
  ·by_cases l1:a<b
   ·by_cases e2:b=c
    ·subst e2;simp [l1]
    ·by_cases l2:b<c
     ·simp [UInt8.lt_trans l1 l2]
     ·simp [l2,e2] at h2
   ·simp [l1,e1] at h1
theorem ordsS:Ords ltS:=by
 refine⟨fun a h=>?_,fun a b c=>ZmO _ _ _,fun a b=>?_⟩
 ·unfold ltS at h
  rw[bl_irr] at h
  cases h
 ·have h:=Zpq a.data.toList b.data.toList
  unfold ltS
  cases h1:Op.bytesLess a.data.toList b.data.toList with
  | true=>exact .inl rfl
  | false =>
   rw[h1] at h
   cases h2:Op.bytesLess b.data.toList a.data.toList with
   | true=>exact .inr (.inr rfl)
   | false =>
    rw[h2] at h
    refine .inr (.inl ?_)
    have:a.data.toList=b.data.toList:=by simpa using h
    cases a with | mk a=>cases b with | mk b=>exact congrArg ByteArray.mk (Array.toList_inj.1 this)
theorem ZrW(a b:ByteArray)(h:ltS a b):¬ ltS b a:=ordsS.asym a b h
theorem ltS_tr(a b c:ByteArray)(h1:¬ ltS b a)(h2:¬ ltS c b):¬ ltS c a:=fun h=>by
 rcases ordsS.tri b c with g | g | g
 ·exact h1 (ordsS.tr _ _ _ g h)
 ·subst g;exact h1 h
 ·exact h2 g
theorem ZrX{y:List ByteArray}{j:Nat}{v:ByteArray}(h:j<y.length):Vs (rS y) [] j 0 (.v (.string v))=rS (y.set j v):=by
 simp only[Vs]
 rw[ZfI (e0:=e0S) (c:=fun n:ByteArray=>[ts n]) h]
 exact(List.map_set (f:=fun n:ByteArray=>[ts n]) (l:=y) (i:=j) (a:=v)).symm
theorem ZnG(a:ByteArray)(lvl:Nat)(S:Sto):Sem Proofs.Tryz.prog YU lvl [iS a] S (iB false) S:=by
 refine Zc Zdw trivial ?_
 simp only[U7,EVA,seval]
theorem Zpv(a b:ByteArray)(lvl:Nat)(S:Sto):Sem Proofs.Tryz.prog Vf lvl [iS a,iS b] S (iB (dc (ltS a b))) S:=by
 refine Zc Zel trivial ?_
 simp only[DL,EVA,seval,Zf,men]
 refine Za (ZnG a) ?_
 simp only[EVA,seval]
 have:Op.bytesLess a.data.toList b.data.toList=dc (ltS a b):=by
  unfold ltS
  rw[Y1,Bool.decide_eq_true]
 rw[this]
theorem ZrY(l:List ByteArray)(hl:l.length<=12)(lvl:Nat)(S:Sto)(id:Oid)(u:Bool)(hw ver:Nat)(hid:id.1<lvl)(hS:S id=some (.ar 1 (rS l) u hw ver))(srt:List ByteArray)(hsrt:∀ x:List ByteArray,x.Perm l->Zi6 e0S ltS x l.length->x=srt) :
  Sem Proofs.Tryz.prog Ja lvl [.hd id [] 0 l.length none hw,iI 0,iI l.length] S (.tu []) (ZN S id (.ar 1 (rS srt) u hw ver)):=by
 have hne:id.1≠lvl:=by omega
 refine Zc QE trivial ?_
 simp only[J6,EVA,seval]
 refine⟨by rw[Zd];omega,?_⟩
 refine Jp (α:=List ByteArray) l.length (fun k x=>⟨lvl,[(0,.hd id [] 0 l.length none hw),(1,iI 0),(2,iI l.length),(6,iI ((k+1:Nat):Int))],[],ZN S id (.ar 1 (rS x) u hw ver)⟩) (fun k x=>x.Perm l/\Zi6 e0S ltS x (k+1)) l ⟨by simp only[YN hne,EVA,seval],by (simp only[Qs hS,EVA,seval]) <;> rfl⟩ ⟨List.Perm.refl _,fun p q h1 h2=>by omega⟩ ?_
 intro k x hk ⟨hA1,hA2⟩
 have hxl:x.length=l.length:=hA1.length_eq
 simp only[EVA,seval]
 refine Zk (fun hlt=>?_) (fun hge=>?_)
 ·have hk1:k+1<l.length:=by omega
  refine Jp (α:=List ByteArray) (k+1) (fun m y=>⟨lvl,[(0,.hd id [] 0 l.length none hw),(1,iI 0),(2,iI l.length),(6,iI ((k+1:Nat):Int)),(7,iI ((k+1-m:Nat):Int))],[],ZN S id (.ar 1 (rS y) u hw ver)⟩) (fun m y=>y.Perm l/\Zkr e0S ltS y (k+1) (k+1-m)) x ⟨by simp only[YN hne,EVA,seval],by (simp only[EVA,seval]) <;> rfl⟩ ⟨hA1,fun p q h1 h2 h3 h4=>hA2 p q h1 (by omega),fun q h1 h2=>by omega⟩ ?_
  intro m y hm ⟨hB1,hB2⟩
  have hyl:y.length=l.length:=hB1.length_eq
  generalize hj:k+1-m=j at hB2 ⊢
  by_cases hj0:j=0
  ·subst hj0
   simp only[EVA,seval,men]
   exact⟨by rw[Zd];omega,fun h=>absurd h hne,Ze y (by omega) rfl ⟨hB1,ZlC hB2⟩⟩
  ·have g1:(0:Int)<j:=by omega
   have e1:((j:Int)-1)=((j-1:Nat):Int):=by omega
   have gj:=ZfI (e0:=e0S) (c:=fun n:ByteArray=>[ts n]) (l:=y) (i:=j) (by omega)
   have gj1:=ZfI (e0:=e0S) (c:=fun n:ByteArray=>[ts n]) (l:=y) (i:=j-1) (by omega)
   have l1:j<l.length:=by omega
   have l2:j-1<l.length:=by omega
   simp only[g1,ZS hne,Xc,e1,gj,gj1,l1,l2,Nat.zero_add,EVA,seval,Zf,men]
   refine⟨by rw[Zd];omega,Za (Zpv (gS y j) (gS y (j-1))) ?_⟩
   by_cases hlt2:ltS (gS y j) (gS y (j-1))
   ·rw[Zy hlt2]
    have s1:=ZrX (y:=y) (j:=j) (v:=gS y (j-1)) (by omega)
    have s2:=ZrX (y:=y.set j (gS y (j-1))) (j:=j-1) (v:=gS y j) (by rw[List.length_set];omega)
    have gj2:=ZfI (e0:=e0S) (c:=fun n:ByteArray=>[ts n]) (l:=y.set j (gS y (j-1))) (i:=j-1) (by rw[List.length_set];omega)
    simp only[ZS hne,Wl hne,Wa,Xc,YN hne,e1,gj,gj1,gj2,s1,s2,l1,l2,Nat.zero_add,EVA,seval]
    subst hj
    refine⟨by rw[Zd];omega,by rw[Zd];omega,by rw[Zd];omega,Ze (ZvD e0S y (k+1-m)) (by omega) (by rw[show k+1-(m+1)=k+1-m-1 from by omega];rfl) ⟨(Zps (by omega) (by omega)).trans hB1,?_⟩⟩
    rw[show k+1-(m+1)=k+1-m-1 from by omega]
    exact ZnF ZrW hB2 (by omega) (by omega) (by omega) hlt2
   ·rw[Zg hlt2]
    simp only[EVA,seval,men]
    exact⟨by rw[Zd];omega,fun h=>absurd h hne,Ze y (by omega) rfl ⟨hB1,ZlD ltS_tr hB2 (by omega) (by omega) hlt2⟩⟩
 ·have:k+1=l.length\/k=l.length:=by omega
  have hup:Zi6 e0S ltS x l.length:=fun p q h1 h2=>hA2 p q h1 (by omega)
  have hx:=hsrt x hA1 hup
  rw[hx]
theorem ZrZ(l:List ByteArray)(hl:l.length<=12)(r:Int)(lvl:Nat)(S:Sto)(id:Oid)(u:Bool)(hw ver:Nat)(hid:id.1<lvl)(hS:S id=some (.ar 1 (rS l) u hw ver))(srt:List ByteArray)(hsrt:∀ x:List ByteArray,x.Perm l->Zi6 e0S ltS x l.length->x=srt) :
  Sem Proofs.Tryz.prog ZP lvl [.hd id [] 0 l.length none hw,iI 0,iI l.length,iI r] S (.tu []) (ZN S id (.ar 1 (rS srt) u hw ver)):=by
 have hne:id.1≠lvl:=by omega
 refine Zc WA trivial ?_
 simp only[Y6,EVA,seval]
 refine Jp (α:=Unit) 0 (fun _ _=>⟨lvl,[(0,.hd id [] 0 l.length none hw),(1,iI 0),(2,iI l.length),(3,iI r),(8,iB true),(9,iB true)],[],S⟩) (fun _ _=>True) () ⟨by simp only[YN hne,EVA,seval],by (simp only[EVA,seval]) <;> rfl⟩ trivial ?_
 intro _ _ _ _
 have h12:(l.length:Int)-0<=12:=by omega
 simp only[h12,EVA,seval]
 refine⟨by rw[Zd];omega,?_⟩
 simp only[Znw]
 refine Xs [] (ZN S id (.ar 1 (rS srt) u hw ver)) (fun i hi=>by unfold ZN;rw[if_neg (fun e=>hne (by rw[<-e];exact hi))]) (by
  rw[ZbM hne]
  exact ZrY l hl (lvl+1) (Zu lvl [] S) id u hw ver (by omega) (by rw[ZS hne];exact hS) srt hsrt) ?_
 simp only[EVA,seval]
theorem Zpw{v:Int}(h0:0<=v)(h:v<=12):∃ r:Int,∀(lvl:Nat) (S:Sto),Sem Proofs.Tryz.prog Q0 lvl [.tr (.v (.int .u64 v))] S (iI r) S:=by
 have:v=0\/v=1\/v=2\/v=3\/v=4\/v=5\/v=6\/v=7\/v=8\/v=9\/v=10\/v=11\/v=12:=by omega
 rcases this with rfl | rfl | rfl | rfl | rfl | rfl | rfl | rfl | rfl | rfl | rfl | rfl | rfl
 ·refine⟨0,fun lvl S=>Zc ZF trivial ?_⟩
  simp only[ZA,EVA,seval]
  simp [X3,IntKind.min,IntKind.max,IntKind.signed,IntKind.bits]
 ·refine⟨1,fun lvl S=>Zc ZF trivial ?_⟩
  simp only[ZA,EVA,seval]
  simp [X3,IntKind.min,IntKind.max,IntKind.signed,IntKind.bits]
 ·refine⟨2,fun lvl S=>Zc ZF trivial ?_⟩
  simp only[ZA,EVA,seval]
  simp [X3,IntKind.min,IntKind.max,IntKind.signed,IntKind.bits]
 ·refine⟨2,fun lvl S=>Zc ZF trivial ?_⟩
  simp only[ZA,EVA,seval]
  simp [X3,IntKind.min,IntKind.max,IntKind.signed,IntKind.bits]
 ·refine⟨3,fun lvl S=>Zc ZF trivial ?_⟩
  simp only[ZA,EVA,seval]
  simp [X3,IntKind.min,IntKind.max,IntKind.signed,IntKind.bits]
 ·refine⟨3,fun lvl S=>Zc ZF trivial ?_⟩
  simp only[ZA,EVA,seval]
  simp [X3,IntKind.min,IntKind.max,IntKind.signed,IntKind.bits]
 ·refine⟨3,fun lvl S=>Zc ZF trivial ?_⟩
  simp only[ZA,EVA,seval]
  simp [X3,IntKind.min,IntKind.max,IntKind.signed,IntKind.bits]
 ·refine⟨3,fun lvl S=>Zc ZF trivial ?_⟩
  simp only[ZA,EVA,seval]
  simp [X3,IntKind.min,IntKind.max,IntKind.signed,IntKind.bits]
 ·refine⟨4,fun lvl S=>Zc ZF trivial ?_⟩
  simp only[ZA,EVA,seval]
  simp [X3,IntKind.min,IntKind.max,IntKind.signed,IntKind.bits]
 ·refine⟨4,fun lvl S=>Zc ZF trivial ?_⟩
  simp only[ZA,EVA,seval]
  simp [X3,IntKind.min,IntKind.max,IntKind.signed,IntKind.bits]
 ·refine⟨4,fun lvl S=>Zc ZF trivial ?_⟩
  simp only[ZA,EVA,seval]
  simp [X3,IntKind.min,IntKind.max,IntKind.signed,IntKind.bits]
 ·refine⟨4,fun lvl S=>Zc ZF trivial ?_⟩
  simp only[ZA,EVA,seval]
  simp [X3,IntKind.min,IntKind.max,IntKind.signed,IntKind.bits]
 ·refine⟨4,fun lvl S=>Zc ZF trivial ?_⟩
  simp only[ZA,EVA,seval]
  simp [X3,IntKind.min,IntKind.max,IntKind.signed,IntKind.bits]
theorem ZlE{v:Int}(h0:0<=v)(h:v<=12):∃ r:Int,∀(lvl:Nat) (S:Sto),Sem Proofs.Tryz.prog YX lvl [.tr (.v (.int .u64 v))] S (iI r) S:=by
 obtain⟨r,hr⟩:=Zpw h0 h
 refine⟨r,fun lvl S=>Zc Zgc trivial ?_⟩
 simp only[Zbb,EVA,seval,Zf,men]
 refine Za hr ?_
 simp only[EVA,seval]
theorem Zpx(l:List ByteArray)(hl:l.length<=12)(lvl:Nat)(S:Sto)(id:Oid)(u:Bool)(hw ver:Nat)(hid:id.1<lvl)(hS:S id=some (.ar 1 (rS l) u hw ver))(srt:List ByteArray)(hsrt:∀ x:List ByteArray,x.Perm l->Zi6 e0S ltS x l.length->x=srt) :
  Sem Proofs.Tryz.prog ZX lvl [.hd id [] 0 l.length none hw] S (.tu []) (ZN S id (.ar 1 (rS srt) u hw ver)):=by
 have hne:id.1≠lvl:=by omega
 obtain⟨r,hr⟩:=ZlE (v:=(l.length:Int)) (by omega) (by omega)
 refine Zc UI trivial ?_
 simp only[VU,EVA,seval,Zf,men]
 refine⟨⟨by show (0:Int)<=l.length;omega,by show (l.length:Int)<=18446744073709551615;omega⟩,Za hr ?_⟩
 simp only[EVA,seval]
 refine Xs [] (ZN S id (.ar 1 (rS srt) u hw ver)) (fun i hi=>by unfold ZN;rw[if_neg (fun e=>hne (by rw[<-e];exact hi))]) (by
  rw[ZbM hne]
  exact ZrZ l hl r (lvl+1) (Zu lvl [] S) id u hw ver (by omega) (by rw[ZS hne];exact hS) srt hsrt) ?_
 simp only[EVA,seval]
theorem Zkt(l:List ByteArray)(hl:l.length<=4294967290)(lvl:Nat)(S:Sto)(id:Oid)(u:Bool)(hw ver:Nat)(hid:id.1<lvl)(hS:S id=some (.ar 1 (rS l) u hw ver)) :
  ∃ v2,Sem Proofs.Tryz.prog JD lvl [.hd id [] 0 l.length none hw] S (.hd id [] 0 (cz (gS l) l.length).length none hw) (ZN S id (.ar 1 (rS (cz (gS l) l.length)) u hw v2)):=by
 have hne:id.1≠lvl:=by omega
 by_cases hd:∀ m,0<m->m<l.length->gS l m≠gS l (m-1)
 ·refine⟨ver,?_⟩
  rw[Zi7 (Nat.le_refl _) hd,List.take_length,Qs hS]
  refine Zc Y5 hid ?_
  simp only[JL,EVA,seval]
  by_cases h2:(l.length:Int)<2
  ·rw[if_pos h2]
   simp only[Zf9 hne,EVA,seval]
  rw[if_neg h2]
  refine Jp (α:=Unit) l.length (fun k _=>⟨lvl,[(0,.hd id [] 0 l.length none hw),(3,iI ((k+1:Nat):Int))],[],S⟩) (fun k _=>k+1<=l.length) () ⟨by simp only[YN hne,EVA,seval],by (simp only[EVA,seval]) <;> rfl⟩ (by omega) ?_
  intro k _ hk hA
  simp only[EVA,seval]
  refine Zk (fun hlt=>?_) (fun hge=>?_)
  ·have gj:=ZfI (e0:=e0S) (c:=fun n:ByteArray=>[ts n]) (l:=l) (i:=k+1) (by omega)
   have gj1:=ZfI (e0:=e0S) (c:=fun n:ByteArray=>[ts n]) (l:=l) (i:=k) (by omega)
   have l1:k+1<l.length:=by omega
   have l2:k<l.length:=by omega
   have hx:=hd (k+1) (by omega) l1
   rw[Nat.add_sub_cancel] at hx
   have e1:(((k+1:Nat):Int)-1)=(k:Int):=by omega
   simp only[ZS hne,hS,e1,gj,gj1,l1,l2,hx,Nat.zero_add,YN hne,EVA,seval]
   exact⟨by rw[Zd];omega,by rw[Zd];omega,Ze () (by omega) rfl (by omega)⟩
  ·simp only[Zf9 hne,EVA,seval]
 ·refine⟨ver+1,?_⟩
  refine Zc Y5 hid ?_
  simp only[JL,EVA,seval]
  by_cases h2:(l.length:Int)<2
  ·exact absurd (fun m h0 h1=>by omega) hd
  rw[if_neg h2]
  refine Jp (α:=Unit) l.length (fun k _=>⟨lvl,[(0,.hd id [] 0 l.length none hw),(3,iI ((k+1:Nat):Int))],[],S⟩) (fun k _=>k+1<=l.length/\∀ m,0<m->m<k+1->gS l m≠gS l (m-1)) () ⟨by simp only[YN hne,EVA,seval],by (simp only[EVA,seval]) <;> rfl⟩ ⟨by omega,fun m h0 h1=>by omega⟩ ?_
  intro k _ hk ⟨hA,hB⟩
  simp only[EVA,seval]
  refine Zk (fun hlt=>?_) (fun hge=>?_)
  ·have gj:=ZfI (e0:=e0S) (c:=fun n:ByteArray=>[ts n]) (l:=l) (i:=k+1) (by omega)
   have gj1:=ZfI (e0:=e0S) (c:=fun n:ByteArray=>[ts n]) (l:=l) (i:=k) (by omega)
   have l1:k+1<l.length:=by omega
   have l2:k<l.length:=by omega
   have e1:(((k+1:Nat):Int)-1)=(k:Int):=by omega
   by_cases hx:gS l (k+1)=gS l k
   ·have hc1:=Zi7 (l:=l) (n:=k+1) (by omega) hB
    have hc2:cz (gS l) (k+1+1)=cz (gS l) (k+1):=ZuT (by omega) (by rw[Nat.add_sub_cancel];exact hx)
    simp only[ZS hne,hS,e1,gj,gj1,l1,l2,hx,Nat.zero_add,EVA,seval]
    refine⟨by rw[Zd];omega,by omega,Zyr hne hS,?_⟩
    refine Jp (α:=Nat×List ByteArray) l.length (fun m x=>⟨lvl,[(0,.hd id [] 0 l.length none hw),(3,iI (x.1:Int)),(4,.hd id [] (k+1) (l.length-(k+1)) none hw),(5,iI ((m+1:Nat):Int))],[],ZN S id (.ar 1 (rS x.2) u hw ver)⟩) (fun m x=>k+1+m+1<=l.length/\x.2.length=l.length/\x.1=(cz (gS l) (k+1+m+1)).length/\x.2.take x.1=cz (gS l) (k+1+m+1)/\x.1<=k+1+m/\∀ q,k+1+m<=q->gS x.2 q=gS l q) (k+1,l) ⟨by simp only[YN hne,EVA,seval],by (simp only[Qs hS,EVA,seval]) <;> rfl⟩ ⟨by omega,rfl,by rw[Nat.add_zero,hc2,hc1,List.length_take];omega,by rw[Nat.add_zero,hc2,hc1],by omega,fun _ _=>rfl⟩ ?_
    intro m ⟨i,y⟩ hm ⟨hm1,hy,hi,ht,hle,hq⟩
    dsimp only at hy hi ht hle hq
    simp only[EVA,seval]
    refine Zk (fun hlt2=>?_) (fun hge2=>?_)
    ·have b1:k+1+(m+1)<l.length:=by omega
     have b2:m+1<l.length-(k+1):=by omega
     have b3:m<l.length-(k+1):=by omega
     have gy:=ZfI (e0:=e0S) (c:=fun n:ByteArray=>[ts n]) (l:=y) (i:=k+1+(m+1)) (by omega)
     have gy1:=ZfI (e0:=e0S) (c:=fun n:ByteArray=>[ts n]) (l:=y) (i:=k+1+m) (by omega)
     have q1:=hq (k+1+(m+1)) (by omega)
     have q2:=hq (k+1+m) (by omega)
     have e2:(((m+1:Nat):Int)-1)=(m:Int):=by omega
     have b4:i<l.length:=by omega
     by_cases hx2:gS l (k+1+(m+1))=gS l (k+1+m)
     ·have hc3:cz (gS l) (k+1+(m+1)+1)=cz (gS l) (k+1+m+1):=ZuT (by omega) hx2
      simp only[ZS hne,Xc,e2,gy,gy1,q1,q2,b2,b3,hx2,YN hne,EVA,seval]
      exact⟨by rw[Zd];omega,by rw[Zd];omega,Ze (i,y) (by omega) rfl ⟨by omega,hy,by rw[show k+1+(m+1)+1=k+1+(m+1)+1 from rfl,hc3];exact hi,by rw[hc3];exact ht,by show i<=k+1+(m+1);omega,fun q hqq=>hq q (by omega)⟩⟩
     ·have hc3:cz (gS l) (k+1+(m+1)+1)=cz (gS l) (k+1+m+1)++[gS l (k+1+(m+1))]:=ZC6 hx2
      have s1:=ZrX (y:=y) (j:=i) (v:=gS l (k+1+(m+1))) (by omega)
      have gy0:=ZfI (e0:=e0S) (c:=fun n:ByteArray=>[ts n]) (l:=y) (i:=i) (by omega)
      simp only[ZS hne,Wl hne,Wa,Xc,e2,gy,gy0,gy1,q1,q2,b2,b3,b4,hx2,s1,Nat.zero_add,YN hne,EVA,seval]
      exact⟨by rw[Zd];omega,by rw[Zd];omega,by rw[Zd];omega,Ze (i+1,y.set i (gS l (k+1+(m+1)))) (by omega) rfl ⟨by omega,by rw[List.length_set];exact hy,by rw[hc3,List.length_append,<-hi];rfl,by rw[Zdz (by omega),ht,hc3],by show i+1<=k+1+(m+1);omega,fun q hqq=>by
       show gx e0S (y.set i (gS l (k+1+(m+1)))) q=_
       rw[ZmN (by omega),if_neg (by omega)]
       exact hq q (by omega)⟩⟩
    ·have en:k+1+m+1=l.length:=by omega
     rw[en] at hi ht
     refine⟨by omega,Zyr hne (Xc ..),?_⟩
     have tk:(rS y).take i=rS (cz (gS l) l.length):=by rw[<-ht];exact(List.map_take ..).symm
     simp only[ZS hne,Wl hne,Wa,Xc,tk,List.length_map,hy,EVA,seval]
     refine⟨by omega,by omega,by omega,by omega,Zyr hne (Xc ..),?_⟩
     simp only[Zf9 hne,Nat.sub_zero,hi,EVA,seval]
   ·simp only[ZS hne,hS,e1,gj,gj1,l1,l2,hx,Nat.zero_add,YN hne,EVA,seval]
    exact⟨by rw[Zd];omega,by rw[Zd];omega,Ze () (by omega) rfl ⟨by omega,fun m h0 h1=>by
     by_cases e:m=k+1
     ·subst e;exact hx
     ·exact hB m h0 (by omega)⟩⟩
  ·exact absurd (fun m h0 h1=>hB m h0 (by omega)) hd
end Go.Fd

/-
  FOUNDATION 55: a function of the library that orders a row of scalars in place, by the guide's contract. Own work.
-/
namespace Go.Fd
variable [Tabs]
open Go.Sort
section
variable {P:Program} {α:Type} [Inhabited α] {enc:α->Value}
abbrev Zq2(enc:α->Value)(l:List α):Row:=l.map fun x=>[.v (enc x)]
theorem ZdA{l:List α}{p:Pth}{es2:Row}(hp:p≠[]):getp (Zq2 enc l) p≠some es2:=fun h=>by
 cases p with
 | nil=>exact hp rfl
 | cons cd q =>
  obtain⟨c,d⟩:=cd
  obtain⟨e,x,h1,h2,_⟩:=JW h
  obtain⟨n,_,rfl⟩:=List.mem_map.1 (List.mem_of_getElem? h1)
  have:=List.mem_of_getElem? h2
  simp at this
theorem ZlF{l:List α}:UnR 1 (Zq2 enc l):=Za5 (fun x=>[.v (enc x)]) (fun _=>rfl) l
theorem Zja{d:Array α}{off:Nat}{c:Array Value}:(putCells enc off d c).size=c.size:=by simp [putCells]
theorem Zku{d:List α}{c:Array Value}{i:Nat}(h:i<d.length)(hc:i<c.size):(putCells enc 0 d.toArray c)[i]? = some (enc d[i]):=by
 simp [putCells,hc,h]
theorem Ze6{f:FuncId}{lvl:Nat}{S:Sto}{id:Oid}{xs ys:List α}{u:Bool}{hw ver:Nat}(hc:UW P f)(hid:id.1<lvl)(hS:S id=some (.ar 1 (Zq2 enc xs) u hw ver))
  (hsc:∀ x:α,Zaz (enc x)=true) (hl:ys.length=xs.length)
  (h0:xs=[]->∀(a:Option Addr) (cap:Nat) (w:World),Calls P f #[.slice a 0 cap] w fun e w' => e = .returned (.tuple #[])/\∃ n,w'=Sort.ahead w n)
  (h1:xs≠[]->∀(b cap:Nat) (w:World),Holds enc w b 0 xs.toArray->b<w.heap.size->Calls P f #[.slice (some ⟨b,0,none⟩) xs.length cap] w fun e w' => e = .returned (.tuple #[])/\∃ n os,w'=grow (putRow enc (Sort.ahead w n) b 0 ys.toArray) os) :
  Sem P f lvl [.hd id [] 0 xs.length none hw] S (.tu []) (ZN S id (.ar 1 (Zq2 enc ys) u hw ver)):=by
 refine⟨trivial,hc,fun hlow G w vs hok hv _=>?_⟩
 simp only[VRs] at hv
 obtain⟨v,vr,rfl,hv,rfl⟩:=hv
 simp only[VR] at hv
 obtain⟨⟨a0,c0,hv0,hlc0⟩,k2,es2,u2,hw2,ver2,hs2,_,hrel⟩:=hv
 rw[hS] at hs2;cases hs2
 obtain⟨es3,k',a,c,hg3,hk,hun,rfl,hlc,hcap,hcap2,hor⟩:=hrel rfl
 cases hg3
 have hk1:=hk rfl
 subst hk1
 by_cases hx:xs=[]
 ·subst hx
  have hy:ys=[]:=List.length_eq_zero_iff.1 (by simpa using hl)
  subst hy
  rw[Qs hS]
  refine(h0 rfl a c w).mono ?_
  rintro e w' ⟨rfl,n,rfl⟩
  have e:Ext w (Sort.ahead w n):=⟨Nat.le_refl _,fun _ _=>rfl,rfl,rfl,rfl⟩
  exact⟨_,G,rfl,hok.ext e,by simp [impv,impvs,VR,VRs],hlow,Frm.of_ext e⟩
 ·have hpos:0<xs.length:=List.length_pos_iff.2 hx
  rcases hor with hz | ⟨hz,_⟩ | ⟨b,cc,hG,rfl,hoc⟩
  ·omega
  ·exact absurd rfl hz
  ·obtain⟨o1,o2,o3,o4,o5⟩:=hok.obs _ _ hS
   have hr:=o4 [] _ (.inl rfl) rfl
   unfold WF at hr
   rw[hG] at hr
   obtain⟨k3,cells,ty,g1,g2,g3,g4,g5,g6⟩:=hr
   have hk3:=g1 rfl
   subst hk3
   have hbs:b<w.heap.size:=by
    rcases Nat.lt_or_ge b w.heap.size with h | h
    ·exact h
    ·rw[Array.getElem?_eq_none h] at g3;cases g3
   have hH:Holds enc w b 0 xs.toArray:=fun j hj=>by
    have hj:j<xs.length:=by simpa using hj
    obtain⟨x,hx1,hx2⟩:=g6 j [.v (enc xs[j])] 0 (.v (enc xs[j])) (by simp [hj]) rfl
    simp only[YO] at hx2
    obtain⟨rfl,_⟩:=hx2
    refine⟨?_,by simp [World.frozen?,g3]⟩
    have:(xs.toArray)[j]! = xs[j]:=by simp [hj]
    rw[this,cell_of_row w b (0+j) cells ty (0,0) g3]
    simpa using hx1
   refine(h1 hx b c w hH hbs).mono ?_
   rintro e w' ⟨rfl,n,os,rfl⟩
   have hsz:w.heap.size<=(grow (putRow enc (Sort.ahead w n) b 0 ys.toArray) os).heap.size:=by simp [grow,putRow,mapBlock,Sort.ahead]
   have hheap:∀ b2,b2<w.heap.size->b2≠b->(grow (putRow enc (Sort.ahead w n) b 0 ys.toArray) os).heap[b2]? = w.heap[b2]?:=fun b2 h2 hne=>by
    simp only[grow,putRow,mapBlock,Sort.ahead]
    rw[Array.getElem?_append_left (by simpa using h2),Array.getElem?_modify,if_neg (fun e=>hne e.symm)]
   have hrow:(grow (putRow enc (Sort.ahead w n) b 0 ys.toArray) os).heap[b]? = some (.cells (putCells enc 0 ys.toArray cells) ty (0,0)):=by
    simp only[grow,putRow,mapBlock,Sort.ahead]
    rw[Array.getElem?_append_left (by simpa using hbs),Array.getElem?_modify,if_pos rfl,g3]
    rfl
   have hown:∀ ob b2,ob=(.ar 1 (Zq2 enc ys) u hw ver:Ob)->VB G id ob b2->b2=b:=fun ob b2 ho h=>by
    subst ho
    obtain⟨p,c2,hp,hq,hg⟩:=h
    by_cases hp0:p=[]
    ·subst hp0
     rw[hG] at hg
     cases hg
     rfl
    ·obtain⟨e2,he2⟩:=Option.isSome_iff_exists.1 hq
     exact absurd he2 (ZdA hp0)
   have hbown:VB G id (.ar 1 (Zq2 enc xs) u hw ver) b:=⟨[],cc,.inl rfl,rfl,hG⟩
   have t:Trn G G S (ZN S id (.ar 1 (Zq2 enc ys) u hw ver)) w (grow (putRow enc (Sort.ahead w n) b 0 ys.toArray) os) (· = id) (fun _=>False):=by
    refine⟨fun _ _=>rfl,fun i ob hi _ hs=>⟨ob,by unfold ZN;rw[if_neg hi];exact hs,Wk.refl ob⟩,fun i ob hi hs=>⟨fun h=>h,ob,by unfold ZN at hs;rw[if_neg hi] at hs;exact hs,Wk.refl ob⟩,hsz,fun b2 h2 hn=>hheap b2 h2 fun e=>hn id _ rfl hS (e ▸ hbown),fun i ob b2 hi hs ho=>?_,fun i ob hi _ hs=>?_⟩
    ·subst hi
     unfold ZN at hs;rw[if_pos rfl] at hs;cases hs
     have:=hown _ b2 rfl ho
     subst this
     exact .inl ⟨i,_,.inl rfl,hS,hbown⟩
    ·subst hi
     rw[hS] at hs;cases hs
     refine⟨.ar 1 (Zq2 enc ys) u hw ver,by unfold ZN;rw[if_pos rfl],rfl,Nat.le_refl _,Nat.le_refl _,fun p st _ hst=>⟨hst,fun es' he=>?_⟩⟩
     by_cases hp0:p=[]
     ·subst hp0
      exact⟨rfl,_,rfl,fun k' hkk _=>by rw[hkk rfl];exact ZlF⟩
     ·exact absurd he (ZdA hp0)
   refine⟨_,G,rfl,t.ok hok (fun i ob hi hs=>?_) (fun i ob j ob' b hi hj _ _ _ _=>hi.trans hj.symm) (fun i cells hi hs=>?_),by simp [impv,impvs,VR,VRs],fun i ob hs=>?_,t.frm (fun _ h=>h.elim) rfl rfl rfl⟩
   ·subst hi
    simp only[impv,impvs,Qp,ZN,if_true] at hs;cases hs
    refine⟨by rw[List.length_map] at *;omega,ZlF,o3,fun p es2 hp he=>?_,fun p p' b1 c1 c2 hp hp' g1 g2 g3 g4=>?_⟩
    ·by_cases hp0:p=[]
     ·subst hp0
      cases he
      unfold WF
      rw[hG]
      refine⟨1,_,ty,fun _=>rfl,ZlF,hrow,by rw[Zja];exact g4,by rw[List.length_map] at *;omega,fun i e f t hi hf=>?_⟩
      rw[List.getElem?_map] at hi
      obtain⟨y,hy,rfl⟩:=Option.map_eq_some_iff.1 hi
      obtain⟨hil,hyy⟩:=List.getElem?_eq_some_iff.1 hy
      have hf0:f=0/\t = .v (enc y):=by
       cases f with
       | zero=>simp at hf;exact⟨rfl,hf.symm⟩
       | succ f=>simp at hf
      obtain⟨rfl,rfl⟩:=hf0
      refine⟨enc y,?_,rfl,hsc y⟩
      rw[List.length_map] at g5
      rw[show i*1+0=i from by omega,Zku hil (by omega),hyy]
     ·exact absurd he (ZdA hp0)
    ·by_cases hp0:p=[]
     ·by_cases hp1:p'=[]
      ·rw[hp0,hp1]
      ·obtain⟨e2,he2⟩:=Option.isSome_iff_exists.1 g2
       exact absurd he2 (ZdA hp1)
     ·obtain⟨e2,he2⟩:=Option.isSome_iff_exists.1 g1
      exact absurd he2 (ZdA hp0)
   ·subst hi
    simp only[impv,impvs,Qp,ZN,if_true] at hs;cases hs
   ·simp only[ZN] at hs
    split at hs
    ·rename_i h;rw[h];exact hid
    ·exact hlow i ob hs
end
end Go.Fd

/-
  SORTING STRINGS, ANY NUMBER OF THEM, BY THE GUIDE'S CONTRACT. Own work.
-/
namespace Go.Fd
set_option maxRecDepth 20000
theorem Zyt:∀(x y:List UInt8),x<y↔Op.bytesLess x y=true
 | [],[]=>by simp [Op.bytesLess]
 | [],_::_=>by simp [Op.bytesLess]
 | _::_,[]=>by simp [Op.bytesLess]
 | a::x,b::y=>by
  rw[List.cons_lt_cons_iff,Zyt x y]
  simp [Op.bytesLess]
abbrev bsL(s:ByteArray):List UInt8:=s.data.toList
abbrev lbS(l:List UInt8):ByteArray:=⟨l.toArray⟩
theorem Zyu{s:ByteArray}:lbS (bsL s)=s:=by simp [lbS,bsL]
theorem Ztd{l:List ByteArray}:Zq2 Go.Proofs.encStr (l.map bsL)=rS l:=by
 simp only[Zq2,List.map_map]
 refine List.map_congr_left fun s _=>?_
 show [Tr.v (Value.string (lbS (bsL s)))]=_
 rw[Zyu]
theorem Zyv(l:List ByteArray):(l.map bsL).mergeSort (fun x y=>decide (x<=y))=(Zi8 ltS l).map bsL:=by
 have e1:((l.map bsL).mergeSort (fun x y=>decide (x<=y))).map lbS=Zi8 ltS l:=by
  refine Zeo ordsS ?_ (Zep ordsS) (List.Perm.trans ?_ srtG_perm.symm)
  ·rw[List.pairwise_map]
   have h:=List.pairwise_mergeSort (le:=fun x y:List UInt8=>decide (x<=y)) (fun a b c h1 h2=>by simp only[decide_eq_true_eq] at *;exact List.le_trans h1 h2) (fun a b=>by simp only[Bool.or_eq_true,decide_eq_true_eq];exact List.le_total a b) (l.map bsL)
   refine h.imp fun {x y} h=>?_
   simp only[decide_eq_true_eq] at h
   intro hlt
   exact h ((Zyt y x).2 hlt)
  ·have h:=(List.mergeSort_perm (l.map bsL) (fun x y=>decide (x<=y))).map lbS
   rw[List.map_map] at h
   have:l.map (lbS ∘ bsL)=l:=by
    rw[show (lbS ∘ bsL)=id from funext fun s=>Zyu]
    exact List.map_id l
   rwa [this] at h
 rw[<-e1,List.map_map]
 rw[show (bsL ∘ lbS)=id from funext fun s=>by simp [bsL,lbS]]
 exact(List.map_id _).symm
theorem Zjb(l:List ByteArray)(hl:l.length<=4294967296)(lvl:Nat)(S:Sto)(id:Oid)(u:Bool)(hw ver:Nat)(hid:id.1<lvl)(hS:S id=some (.ar 1 (rS l) u hw ver)) :
  Sem Proofs.Tryz.prog ZX lvl [.hd id [] 0 l.length none hw] S (.tu []) (ZN S id (.ar 1 (rS (Zi8 ltS l)) u hw ver)):=by
 by_cases hs:l.length<=12
 ·exact Zpx l hs lvl S id u hw ver hid hS _ fun x hp hu=>ZrV ordsS hp hu
 ·have h:=Ze6 (P:=Proofs.Tryz.prog) (f:=ZX) (lvl:=lvl) (S:=S) (id:=id) (xs:=l.map bsL) (ys:=(Zi8 ltS l).map bsL) (enc:=Go.Proofs.encStr) (u:=u) (hw:=hw) (ver:=ver) (Zdy (by kernel_rfl)) hid (by rw[Ztd];exact hS) (fun _=>rfl) (by rw[List.length_map,List.length_map,srtG_perm.length_eq])
   (fun h=>absurd (congrArg List.length h) (by rw[List.length_map];show ¬ l.length=0;omega))
   (fun _ b cap w hH hb=>by
    have:=Go.Proofs.Any.slices_Sort_string Proofs.Tryz.lays190 b 0 cap (l.map bsL) w hH hb (by rw[List.length_map];omega)
    rw[Zyv] at this
    exact this)
  rw[Ztd,List.length_map] at h
  exact h
end Go.Fd

/-
  CHILDREN, POINTS, REDEXES, BOTH SIDES. Own work.
-/
namespace Go.Fd
set_option maxRecDepth 20000
def cP2(x:Int×Int):List Tr:=[tv x.1,tv x.2]
def Zkv(l:Int)(i:Nat)(ls:List Int):Nat->List (Int×Int)
 | 0=>[]
 | k+1=>if g0 ls k=l then Zkv l i ls k++[((i:Int),(k:Int))] else Zkv l i ls k
theorem ZlG{l:Int}{i:Nat}{ls:List Int}:∀{k:Nat},(Zkv l i ls k).length<=k
 | 0=>Nat.le_refl 0
 | k+1=>by
  unfold Zkv
  have:=ZlG (l:=l) (i:=i) (ls:=ls) (k:=k)
  split
  ·rw[List.length_append,List.length_singleton];omega
  ·omega
theorem Zr0{l:Int}{i:Nat}{ls:List Int}{k:Nat}(h:g0 ls k=l):Zkv l i ls (k+1)=Zkv l i ls k++[((i:Int),(k:Int))]:=by rw[Zkv,if_pos h]
theorem Zpy{l:Int}{i:Nat}{ls:List Int}{k:Nat}(h:¬ g0 ls k=l):Zkv l i ls (k+1)=Zkv l i ls k:=by rw[Zkv,if_neg h]
def Zeq(b:TBigraph)(j:Nat):List Int:=((b.nodes[j]?).map TNode.links).getD []
theorem Zer{b:TBigraph}{j:Nat}(h:j<b.nodes.length):Zeq b j=b.nodes[j].links:=by simp [Zeq,h]
def W1(b:TBigraph)(l:Int):Nat->List (Int×Int)
 | 0=>[]
 | i+1=>W1 b l i++Zkv l i (Zeq b i) (Zeq b i).length
def ports(b:TBigraph)(l:Int):List (Int×Int):=W1 b l b.nodes.length
theorem Zgv{b:TBigraph}{l:Int}(h:∀ x∈b.nodes,x.links.length<=1000):∀{j:Nat},j<=b.nodes.length->(W1 b l j).length<=j*1000
 | 0,_=>Nat.zero_le _
 | j+1,hj=>by
  have ih:=Zgv h (l:=l) (j:=j) (by omega)
  have h1:=ZlG (l:=l) (i:=j) (ls:=Zeq b j) (k:=(Zeq b j).length)
  have h2:=h _ (List.getElem_mem (show j<b.nodes.length by omega))
  rw[W1,List.length_append]
  rw[Zer (by omega)] at h1 ⊢
  omega
def Zyw(b:TBigraph)(j:Nat):Int:=((b.inner[j]?).map TWire.link).getD 0
def Zzg(b:TBigraph)(j:Nat):ByteArray:=((b.inner[j]?).map TWire.name).getD ⟨#[]⟩
theorem ZlH{b:TBigraph}{j:Nat}(h:j<b.inner.length):Zyw b j=b.inner[j].link:=by simp [Zyw,h]
theorem ZuU{b:TBigraph}{j:Nat}(h:j<b.inner.length):Zzg b j=b.inner[j].name:=by simp [Zzg,h]
def Zbs(b:TBigraph)(l:Int):Nat->List ByteArray
 | 0=>[]
 | j+1=>if Zyw b j=l then Zbs b l j++[Zzg b j] else Zbs b l j
theorem Zjc{b:TBigraph}{l:Int}:∀{j:Nat},(Zbs b l j).length<=j
 | 0=>Nat.le_refl 0
 | j+1=>by
  unfold Zbs
  have:=Zjc (b:=b) (l:=l) (j:=j)
  split
  ·rw[List.length_append,List.length_singleton];omega
  ·omega
theorem Zpz{b:TBigraph}{l:Int}{j:Nat}(h:Zyw b j=l):Zbs b l (j+1)=Zbs b l j++[Zzg b j]:=by rw[Zbs,if_pos h]
theorem Zr1{b:TBigraph}{l:Int}{j:Nat}(h:¬ Zyw b j=l):Zbs b l (j+1)=Zbs b l j:=by rw[Zbs,if_neg h]
def Zyx(b:TBigraph)(l:Int):List ByteArray:=Zbs b l b.inner.length
theorem ZuV(a b:List (Int×Int)):(a++b).map cP2=a.map cP2++b.map cP2:=List.map_append
theorem Zkw(b:TBigraph)(l:Int)(hn:b.nodes.length<=1000)(hk:∀ x∈b.nodes,x.links.length<=1000)(hi:b.inner.length<=4294967296)(lvl:Nat)(S:Sto):Sem Proofs.Tryz.prog YJ lvl [.ag ((Zb b).map .tr),iI l] S (.tu [.ow 2 ((ports b l).map cP2) true,.ow 1 (rS (Zyx b l)) true]) S:=by
 refine Zc Zaj ⟨trivial,trivial,trivial⟩ ?_
 simp only[XO,Zb,List.length_map,EVA,seval]
 refine Zv (α:=Unit) b.nodes.length (fun j _=>[(6,.hd (lvl,448) [] 0 (W1 b l j).length none (W1 b l j).length),(19,iI j)]) (fun j _=>[(448,.ar 2 ((W1 b l j).map cP2) true (W1 b l j).length 0)]) (fun _ _=>True) () (by simp only[EVA,seval]) (by (simp only[EVA,seval]) <;> rfl) trivial ?_
 intro j _ hj _
 simp only[List.length_map,EVA,seval]
 refine Zk (fun hlt=>?_) (fun hge=>?_)
 ·have hja:j<b.nodes.length:=by omega
  have ga:=Xh (c:=ZK) hja
  have hle:=Zgv hk (l:=l) hj
  have hlk:=hk _ (List.getElem_mem hja)
  simp only[ga,ZK,List.length_map,EVA,seval]
  refine Zv (α:=Unit) b.nodes[j].links.length (fun k _=>[(6,.hd (lvl,448) [] 0 (W1 b l j++Zkv l j b.nodes[j].links k).length none (W1 b l j++Zkv l j b.nodes[j].links k).length),(27,iI k)]) (fun k _=>[(448,.ar 2 ((W1 b l j++Zkv l j b.nodes[j].links k).map cP2) true (W1 b l j++Zkv l j b.nodes[j].links k).length 0)]) (fun _ _=>True) () (by simp only[EVA,seval]) (by (simp only[Zkv,List.append_nil,EVA,seval]) <;> rfl) trivial ?_
  intro k _ hkk _
  simp only[EVA,seval]
  refine Zk (fun hlt2=>?_) (fun hge2=>?_)
  ·have hka:k<b.nodes[j].links.length:=by omega
   have gl:=Jo hka
   have hr:=ZlG (l:=l) (i:=j) (ls:=b.nodes[j].links) (k:=k)
   simp only[gl,List.length_map,EVA,seval]
   refine Zk (fun he=>?_) (fun hne=>?_)
   ·refine⟨by rw[List.length_append];omega,by rw[Zd];omega,Ze () hka ?_ trivial⟩
    rw[Zr0 he,<-List.append_assoc,List.length_append (bs:=[_]),ZuV (W1 b l j++_)]
    rfl
   ·refine⟨by rw[Zd];omega,Ze () hka ?_ trivial⟩
    rw[Zpy hne]
    rfl
  ·have:k=b.nodes[j].links.length:=by omega
   subst this
   refine⟨by rw[Zd];omega,Ze () hja ?_ trivial⟩
   rw[W1,Zer hja]
   rfl
 have:j=b.nodes.length:=by omega
 subst this
 refine Zv (α:=Unit) b.inner.length (fun j _=>[(7,.hd (lvl,480) [] 0 (Zbs b l j).length none (Zbs b l j).length),(46,iI j)]) (fun j _=>[(480,.ar 1 (rS (Zbs b l j)) true (Zbs b l j).length 0)]) (fun _ _=>True) () (by simp only[EVA,seval]) (by (simp only[EVA,seval]) <;> rfl) trivial ?_
 intro j _ hj _
 simp only[List.length_map,EVA,seval]
 refine Zk (fun hlt=>?_) (fun hge=>?_)
 ·have hja:j<b.inner.length:=by omega
  have ga:=Xh (c:=Z3) hja
  have hle:=Zjc (b:=b) (l:=l) (j:=j)
  simp only[ga,Z3,List.length_map,EVA,seval]
  refine Zk (fun he=>?_) (fun hne=>?_)
  ·refine⟨by omega,by rw[Zd];omega,Ze () hja ?_ trivial⟩
   rw[Zpz (by rw[ZlH hja];exact he),List.length_append,Zgr,ZuU hja]
   rfl
  ·refine⟨by rw[Zd];omega,Ze () hja ?_ trivial⟩
   rw[Zr1 (by rw[ZlH hja];exact hne)]
   rfl
 ·have:j=b.inner.length:=by omega
  subst this
  rfl
end Go.Fd

/-
  REDEXES, BOTH SIDES. Own work.
-/
namespace Go.Fd
set_option maxRecDepth 20000
def idle(b:TBigraph)(l:Int):Prop:=(ports b l).length=0/\(Zyx b l).length=0
structure small (b:TBigraph):Prop where
 nodes:b.nodes.length<=8
 links:∀ x∈b.nodes,x.links.length<=1000
 sites:b.sites.length<=4
 outer:b.outer.length<=16
 inner:b.inner.length<=16
 roots:0<=b.roots/\b.roots<=4
 edges:0<=b.edges/\b.edges<=8
theorem ZnH{sig:List TControl}(h:Vh sig)(c:Int):Vi sig c<=3:=by
 unfold Vi
 cases e:sig[c.toNat]? with
 | none=>decide
 | some x =>
  obtain⟨hl,rfl⟩:=List.getElem?_eq_some_iff.1 e
  exact((h.1 _ hl).1).2.1.2
theorem bigOK.small{sig:List TControl}{b:TBigraph}(h:bigOK sig b):small b :=
 ⟨h.nodesL,fun x hx=>by
  obtain⟨k,hk,rfl⟩:=List.getElem_of_mem hx
  have h1:=(h.nodes k hk).ports
  have h2:=ZnH h.sg b.nodes[k].control
  omega,h.sitesL,h.outer.2,by have:=h.inn.2;rw[Zar] at this;exact this,h.roots,h.edges⟩
theorem ZnI(b:TBigraph)(l:Int)(hs:small b)(lvl:Nat)(S:Sto):Sem Proofs.Tryz.prog Vb lvl [.ag ((Zb b).map .tr),iI l] S (iB (dc (idle b l))) S:=by
 have s1:=hs.nodes
 have s2:=hs.inner
 have e1:(ports b l).length<=b.nodes.length*1000:=Zgv hs.links (Nat.le_refl _)
 have e2:(Zyx b l).length<=b.inner.length:=Zjc
 refine Zc Za9 trivial ?_
 simp only[Wv,Zb,EVA,seval,Zf,men]
 refine Za (Zkw b l (by omega) hs.links (by omega)) ?_
 simp only[List.length_map,EVA,seval]
 refine⟨by rw[Zd];omega,?_⟩
 have hiff:idle b l↔((ports b l).length:Int)+(Zyx b l).length=0:=⟨fun h=>by have:=h.1;have:=h.2;omega,fun h=>⟨by omega,by omega⟩⟩
 rw[J3 hiff,Y1]
end Go.Fd

/-
  SORTINGS, BOTH SIDES: VALID, FREE, FINER. Own work.
-/
namespace Go.Fd
set_option maxRecDepth 20000
def Xj(n:Nat):List Int:=(List.range n).map fun i:Nat=>(i:Int)
theorem J4{n:Nat}:(Xj n).length=n:=by simp [Xj]
theorem ZpA{n:Nat}:Xj (n+1)=Xj n++[(n:Int)]:=by simp [Xj,List.range_succ]
theorem JA{es:Row}{n:Nat}(h:es.length=n):cut es 0 n=es:=by
 simp only[cut,List.drop_zero]
 exact List.take_of_length_le (by omega)
end Go.Fd

/-
  LINKS THAT ARE TURNED: WHAT COMPOSITION COMPUTES, IN PLAIN TERMS. Own work.
-/
namespace Go.Fd
set_option maxRecDepth 20000
def ZfJ(b:TBigraph)(l:Int):Int×ByteArray:=if l<b.edges then (l,e0S) else (0,gS b.outer (l-b.edges).toNat)
def ixS(l:List ByteArray)(s:ByteArray):Int:=ixF (fun x=>decide (s=x)) l 0
def ZdB(b:TBigraph)(e:Int)(o:List ByteArray)(T:Int×ByteArray->Int×ByteArray)(l:Int):Int:=if (T (ZfJ b l)).2=e0S then (T (ZfJ b l)).1 else e+ixS o (T (ZfJ b l)).2
def Dw(b:TBigraph)(F:Int->Int)(e:Int)(o:List ByteArray):TBigraph:=⟨b.roots,b.nodes.map fun x=>⟨x.control,x.parent,x.links.map F⟩,b.sites,e,o,b.inner.map fun w=>⟨w.name,F w.link⟩⟩
theorem Zjd{α:Type}{f:α->Bool}:∀{l:List α} {j:Int},(ixF f l j = -1/\∀ x∈l,f x=false)\/∃ i,∃ h:i<l.length,ixF f l j=j+i/\(∀ x∈l.take i,f x=false)/\f l[i]=true
 | [],j=>.inl ⟨rfl,fun _ h=>by cases h⟩
 | x::r,j=>by
  rw[W9]
  cases hx:f x with
  | true=>exact .inr ⟨0,by simp,by simp,by simp,hx⟩
  | false =>
   rcases Zjd (f:=f) (l:=r) (j:=j+1) with ⟨h1,h2⟩ | ⟨i,h,h1,h2,h3⟩
   ·exact .inl ⟨by simp [h1],fun y hy=>by
     rcases List.mem_cons.1 hy with rfl | hy
     ·exact hx
     ·exact h2 y hy⟩
   ·refine .inr ⟨i+1,by simpa using h,by simp only[Bool.false_eq_true,if_false,h1];omega,fun y hy=>?_,by simpa using h3⟩
    rw[List.take_succ_cons] at hy
    rcases List.mem_cons.1 hy with rfl | hy
    ·exact hx
    ·exact h2 y hy
theorem ZhM{α:Type}{f:α->Bool}{l:List α}(h:∀ x∈l,f x=false):(l.filter fun n=>!f n)=l:=List.filter_eq_self.2 fun x hx=>by simp [h x hx]
theorem Zgw{α:Type}{f:α->Bool}{l:List α}{j:Nat}(h:j<l.length):((l.take (j+1)).filter fun n=>!f n)=((l.take j).filter fun n=>!f n)++if f l[j]=true then [] else [l[j]]:=by
 rw[List.take_succ_eq_append_getElem h,List.filter_append]
 cases hx:f l[j] <;> simp [hx]
theorem Zte{α:Type}{f:α->Bool}:∀{l:List α} {i:Nat} {j:Int} (h:i<l.length),f l[i]=true->(∀ k (hk:k<i),f (l[k]'(by omega))=false)->ixF f l j=j+i
 | [],_,_,h,_,_=>by simp at h
 | x::r,0,j,_,h1,_=>by
  have:f x=true:=h1
  rw[W9,if_pos this];omega
 | x::r,i+1,j,h,h1,h2=>by
  have:f x=false:=h2 0 (by omega)
  rw[W9,this,if_neg (by decide)]
  rw[Zte (i:=i) (by simpa using h) (by simpa using h1) fun k hk=>by
   have:=h2 (k+1) (by omega)
   simpa using this]
  omega
theorem ZmP{α:Type}{f:α->Bool}:∀{l:List α} {j:Int},(∀ x∈l,f x=false)->ixF f l j = -1
 | [],_,_=>rfl
 | x::r,j,h=>by
  rw[W9,h x (by simp),if_neg (by decide)]
  exact ZmP fun y hy=>h y (by simp [hy])
theorem Zyy{l:List ByteArray}(h:l.Pairwise ltS){i j:Nat}(hi:i<l.length)(hj:j<l.length)(e:l[i]=l[j]):i=j:=by
 rcases Nat.lt_trichotomy i j with g | g | g
 ·have:=List.pairwise_iff_getElem.1 h i j hi hj g
  rw[e] at this
  exact absurd this (ordsS.irr _)
 ·exact g
 ·have:=List.pairwise_iff_getElem.1 h j i hj hi g
  rw[e] at this
  exact absurd this (ordsS.irr _)
theorem Zyz{l:List ByteArray}(h:l.Pairwise ltS){i:Nat}(hi:i<l.length):ixS l l[i]=i:=by
 unfold ixS
 rw[Zte hi (by simp) fun k hk=>by
  simp only[decide_eq_false_iff_not]
  intro e
  have:=Zyy h hi (by omega) e
  omega]
 omega
theorem ZmQ{l:List ByteArray}{s:ByteArray}(h:s ∉ l):ixS l s = -1:=ZmP fun x hx=>by
 simp only[decide_eq_false_iff_not]
 intro e
 exact h (e ▸ hx)
theorem ixS_nn{l:List ByteArray}{s:ByteArray}:0<=ixS l s↔s∈l:=by
 unfold ixS
 rw[Zi4 (Int.le_refl 0)]
 simp
theorem ZmR{l:List ByteArray}{s:ByteArray}(h:s∈l):ixS l s<l.length:=by
 rcases Zjd (f:=fun x=>decide (s=x)) (l:=l) (j:=0) with ⟨_,h2⟩ | ⟨i,hi,h1,_⟩
 ·have:=h2 s h
  simp at this
 ·unfold ixS
  rw[h1];omega
theorem Zje{l:List ByteArray}(h:VW l):l.Pairwise ltS:=by
 have key:∀ d i (hi:i+d+1<l.length),ltS (l[i]'(by omega)) (l[i+d+1]'hi):=fun d=>by
  induction d with
  | zero =>
   intro i hi
   exact(h.1 (i+0+1) hi).2 (by omega)
  | succ d ih =>
   intro i hi
   have h1:=ih i (by omega)
   have h2:=(h.1 (i+(d+1)+1) hi).2 (by omega)
   exact ordsS.tr _ _ _ h1 h2
 refine List.pairwise_iff_getElem.2 fun i j hi hj hij=>?_
 have:=key (j-i-1) i (by omega)
 simp only[show i+(j-i-1)+1=j from by omega] at this
 exact this
theorem ZbN{l:List ByteArray}(h:VW l){s:ByteArray}(hs:s∈l):s≠e0S:=by
 obtain⟨i,hi,rfl⟩:=List.getElem_of_mem hs
 intro e
 have:=(h.1 i hi).1.2.1
 rw[e] at this
 exact absurd this (by decide)
theorem ZhN{b:TBigraph}{l:Int}(h:l<b.edges):ZfJ b l=(l,e0S):=if_pos h
theorem ZhO{b:TBigraph}{i:Nat}(h:i<b.outer.length):ZfJ b (b.edges+i)=(0,b.outer[i]):=by
 unfold ZfJ
 rw[if_neg (by omega),show (b.edges+(i:Int)-b.edges).toNat=i from by omega]
 rw[show gS b.outer i=b.outer[i] from US h]
theorem Yd{b:TBigraph}{l:Int}(h:ZQ b l):(0<=l/\l<b.edges)\/∃ i:Nat,∃ _:i<b.outer.length,l=b.edges+i:=by
 unfold ZQ at h
 by_cases hl:l<b.edges
 ·exact .inl ⟨h.1,hl⟩
 ·exact .inr ⟨(l-b.edges).toNat,by omega,by omega⟩
theorem ZhP{sig:List TControl}{b:TBigraph}(h:bigOK sig b){F F':Int->Int}{e:Int}{o:List ByteArray}(hF:∀ l,ZQ b l->F l=F' l):Dw b F e o=Dw b F' e o:=by
 unfold Dw
 congr 1
 ·refine List.map_congr_left fun x hx=>?_
  obtain⟨i,hi,rfl⟩:=List.getElem_of_mem hx
  have hn:=h.nodes i hi
  congr 1
  exact List.map_congr_left fun l hl=>hF l (hn.links l hl)
 ·refine List.map_congr_left fun w hw=>?_
  rw[hF _ (h.inner w hw)]
def ZmS(b:TBigraph)(f:Int->Int)(g:ByteArray->Int):List Int:=(Xj b.edges.toNat).map f++b.outer.map g
theorem Zcr{b:TBigraph}{f:Int->Int}{g:ByteArray->Int}{l:Int}(h0:0<=l)(h:l<b.edges):g0 (ZmS b f g) l.toNat=f l:=by
 have hl:l.toNat<(Xj b.edges.toNat).length:=by rw[J4];omega
 have hx:l.toNat<((Xj b.edges.toNat).map f).length:=by rw[List.length_map];exact hl
 show (ZmS b f g).getD l.toNat 0=_
 unfold ZmS
 rw[List.getD_eq_getElem?_getD,List.getElem?_append_left hx,List.getElem?_map]
 simp [Xj,List.getElem?_map,List.getElem?_range (show l.toNat<b.edges.toNat by omega)]
 congr 1
 omega
theorem Zcs{b:TBigraph}{f:Int->Int}{g:ByteArray->Int}(hb:0<=b.edges){i:Nat}(h:i<b.outer.length):g0 (ZmS b f g) (b.edges+i).toNat=g b.outer[i]:=by
 have hl:((Xj b.edges.toNat).map f).length=b.edges.toNat:=by rw[List.length_map,J4]
 show (ZmS b f g).getD _ 0=_
 unfold ZmS
 rw[List.getD_eq_getElem?_getD,List.getElem?_append_right (by rw[hl];omega),hl,List.getElem?_map,show (b.edges+(i:Int)).toNat-b.edges.toNat=i from by omega,List.getElem?_eq_getElem h]
 rfl
def Q5(o:List ByteArray)(s:ByteArray):List ByteArray:=o.filter fun x=>!decide (x=s)
theorem lessN_mem{o:List ByteArray}{s c:ByteArray}:c∈Q5 o s↔c∈o/\c≠s:=by simp [Q5]
theorem Zr2{o:List ByteArray}{s:ByteArray}(h:o.Pairwise ltS):(Q5 o s).Pairwise ltS:=h.filter _
noncomputable def VG(l:List ByteArray):List ByteArray:=ZvE e0S ltS l
def ZhQ(b:TBigraph)(s:ByteArray)(e:Int×ByteArray):Int×ByteArray:=if e.2=s then (b.edges,e0S) else e
def DN(b:TBigraph)(s:ByteArray):List Int:=ZmS b (fun l=>l) fun x=>if x=s then b.edges else b.edges+1+ixS (Q5 b.outer s) x
def XW(b:TBigraph)(s:ByteArray):TBigraph:=Dw b (fun l=>g0 (DN b s) l.toNat) (b.edges+1) (Q5 b.outer s)
theorem Zr3{sig:List TControl}{b:TBigraph}{s:ByteArray}(h:bigOK sig b)(hs:s∈b.outer):Dw b (ZdB b (b.edges+1) (VG (Q5 b.outer s)) (ZhQ b s)) (b.edges+1) (VG (Q5 b.outer s))=XW b s:=by
 have hp:=Zje h.outer
 have e1:VG (Q5 b.outer s)=Q5 b.outer s:=Zi9 ordsS (Zr2 hp) fun _=>Iff.rfl
 rw[e1]
 refine ZhP h fun l hl=>?_
 unfold DN
 have hse:=ZbN h.outer hs
 rcases Yd hl with ⟨h0,h1⟩ | ⟨i,hi,rfl⟩
 ·rw[Zcr h0 h1]
  unfold ZdB ZhQ
  rw[ZhN h1]
  simp [Ne.symm hse]
 ·rw[Zcs h.edges.1 hi]
  unfold ZdB ZhQ
  rw[ZhO hi]
  have hne:=ZbN h.outer (List.getElem_mem hi)
  by_cases he:b.outer[i]=s
  ·simp [he]
  ·simp [he,hne]
end Go.Fd

/-
  LINKS THAT ARE TURNED, THE PROGRAM'S SIDE. Own work.
-/
namespace Go.Fd
set_option maxRecDepth 20000
theorem ZpB{l:List ByteArray}:ScR (rS l)=True:=eq_true fun e he t ht=>by
 obtain⟨n,_,rfl⟩:=List.mem_map.1 he
 simp only[List.mem_cons,List.not_mem_nil,or_false] at ht
 subst ht
 rfl
theorem ZpC{l:List ByteArray}:UnR 1 (rS l)=True:=eq_true (Za5 (fun n:ByteArray=>[ts n]) (fun _=>rfl) l)
theorem Zbt{l:List Int}:ScR (rI l)=True:=eq_true fun e he t ht=>by
 obtain⟨n,_,rfl⟩:=List.mem_map.1 he
 simp only[List.mem_cons,List.not_mem_nil,or_false] at ht
 subst ht
 rfl
theorem Zbu{l:List Int}:UnR 1 (rI l)=True:=eq_true (Za5 (fun n:Int=>[tv n]) (fun _=>rfl) l)
theorem ZyA{l:List TWire}:ScR (l.map Z3)=True:=eq_true fun e he t ht=>by
 obtain⟨n,_,rfl⟩:=List.mem_map.1 he
 simp only[Z3,List.mem_cons,List.not_mem_nil,or_false] at ht
 rcases ht with rfl | rfl <;> rfl
theorem ZyB{l:List TWire}:UnR 2 (l.map Z3)=True:=eq_true (Za5 Z3 (fun _=>rfl) l)
theorem Wf(l:List Int)(hl:l.length<=4294967296)(lvl:Nat)(S:Sto):Sem Proofs.Tryz.prog ZU lvl [tI l] S (.ow 1 (rI l) true) S:=by
 refine Zc ZaR trivial ?_
 simp only[X5,List.length_map,Zbt,Zbu,EVA,seval]
 exact⟨hl,fun h=>by rw[h]⟩
theorem ZbO(l:List ByteArray)(hl:l.length<=4294967296)(lvl:Nat)(S:Sto):Sem Proofs.Tryz.prog ZJ lvl [.tr (.sl (rS l))] S (.ow 1 (rS l) true) S:=by
 refine Zc W6 trivial ?_
 simp only[VF,List.length_map,ZpB,ZpC,EVA,seval]
 exact⟨hl,fun h=>by rw[h]⟩
theorem ZnJ(l:List TWire)(hl:l.length<=4294967296)(lvl:Nat)(S:Sto):Sem Proofs.Tryz.prog Jh lvl [.tr (.sl (l.map Z3))] S (.ow 2 (l.map Z3) true) S:=by
 refine Zc Xg trivial ?_
 simp only[Yo,List.length_map,ZyA,ZyB,EVA,seval]
 exact⟨hl,fun h=>by rw[h]⟩
theorem Zbv(l:List ByteArray)(hl:l.length<=4294967290)(lvl:Nat)(S:Sto):Sem Proofs.Tryz.prog YT lvl [.tr (.sl (rS l))] S (.ow 1 (rS (VG l)) true) S:=by
 refine Zc Zdv trivial ?_
 simp only[U6,EVA,seval,Zf,men]
 refine Za (ZbO l (by omega)) ?_
 simp only[EVA,seval]
 have hp:(Zi8 ltS l).length=l.length:=srtG_perm.length_eq
 have s1:=fun S' hS=>Zjb l (by omega) (lvl+1) S' (lvl,160) true l.length 0 (Nat.lt_succ_self _) hS
 refine Zbr 160 _ (s1 _ ?_) ?_
 ·rw[J5];rfl
 simp only[EVA,seval]
 have s2:=fun S' hS=>Zkt (Zi8 ltS l) (by omega) (lvl+1) S' (lvl,160) true l.length 0 (Nat.lt_succ_self _) hS
 rw[show Znw (IV.hd (lvl,160) [] 0 l.length none l.length)=IV.hd (lvl,160) [] 0 (Zi8 ltS l).length none l.length from by rw[hp];rfl]
 refine ZmM 160 _ (s2 _ ?_) fun v=>?_
 ·rw[J5];rfl
 simp only[List.length_map,EVA,seval]
 rfl
abbrev oE(e:Int×ByteArray):IV:=.ag [iI e.1,iS e.2]
theorem ZpD(b:TBigraph)(l:Int)(he:0<=b.edges)(hl:ZQ b l)(ho:b.outer.length<=4294967296)(hb:b.edges<=4294967296)(lvl:Nat)(S:Sto):Sem Proofs.Tryz.prog Vz lvl [.ag ((Zb b).map .tr),iI l] S (oE (ZfJ b l)) S:=by
 refine Zc ZbX (by simp [low,men,Zf]) ?_
 simp only[WZ,Zb,EVA,seval]
 rcases Yd hl with ⟨h0,h1⟩ | ⟨i,hi,rfl⟩
 ·rw[ZhN h1]
  simp only[h1,seval]
  try rfl
 ·rw[ZhO hi]
  have h1:¬ b.edges+(i:Int)<b.edges:=by omega
  have ga:=ZfI (e0:=e0S) (c:=fun n:ByteArray=>[ts n]) hi
  have e1:b.edges+(i:Int)-b.edges=i:=by omega
  rw[US hi] at ga
  simp only[h1,e1,ga,EVA,seval]
  rw[Zd];omega
theorem Wq(b:TBigraph)(hb:Zr 4294967290 b)(lvl:Nat)(S:Sto):Sem Proofs.Tryz.prog JF lvl [.ag ((Zb b).map .tr)] S (Zh b) S:=by
 obtain⟨b1,b2,b3,b4,b5,b6,b7⟩:=hb
 refine Zc Zeg (by simp [Zh,low,men,Zf]) ?_
 simp only[DG,Zb,EVA,seval,Zf,men]
 refine Za (Wf b.sites (by omega)) ?_
 simp only[List.length_map,EVA,seval,Zf,men]
 refine Za (ZbO b.outer (by omega)) ?_
 simp only[List.length_map,EVA,seval,Zf,men]
 refine Za (ZnJ b.inner (by omega)) ?_
 simp only[List.length_map,EVA,seval]
 refine Zv (α:=Unit) b.nodes.length (fun j _=>[(23,iI j)]) (fun j _=>[(96,.bx [iI b.roots,.hd (lvl,608) [] 0 j none j,.hd (lvl,320) [] 0 b.sites.length none b.sites.length,iI b.edges,.hd (lvl,480) [] 0 b.outer.length none b.outer.length,.hd (lvl,576) [] 0 b.inner.length none b.inner.length]),(608,.ar 3 ((b.nodes.take j).map ZK) true j 0)]) (fun _ _=>True) () (by simp only[EVA,seval]) (by (simp only[EVA,seval]) <;> rfl) trivial ?_
 intro j _ hj _
 simp only[List.length_map,EVA,seval]
 refine Zk (fun hlt=>?_) (fun hge=>?_)
 ·have hja:j<b.nodes.length:=by omega
  have ga:=Xh (c:=ZK) hja
  have k2:b.nodes[j].links.length<=4294967290:=b2 _ (List.getElem_mem hja)
  have hl1:((b.nodes.take j).map ZK).length=j:=by rw[List.length_map,List.length_take];omega
  have st1:(b.nodes.take j).map ZK++[[Tr.v (Value.int .i64 b.nodes[j].control),Tr.v (Value.int .i64 b.nodes[j].parent),Tr.sl (rI b.nodes[j].links)]]=(b.nodes.take (j+1)).map ZK:=by
   rw[List.take_succ_eq_append_getElem hja,List.map_append]
   rfl
  simp only[ga,ZK,EVA,seval,Zf,men]
  refine Za (Wf b.nodes[j].links (by omega)) ?_
  have hl2:(List.map (fun x=>[Tr.v (Value.int .i64 x.control),Tr.v (Value.int .i64 x.parent),Tr.sl (rI x.links)]) (b.nodes.take j)).length=j:=by rw[List.length_map,List.length_take];omega
  simp only[hl1,st1,EVA,seval]
  exact⟨by omega,by rw[Zd];omega,Ze () hja rfl trivial⟩
 ·have:j=b.nodes.length:=by omega
  subst this
  rw[List.take_length]
  exact⟨rfl,rfl⟩
end Go.Fd

/-
  LINKS THAT ARE TURNED, THE REFERENCE'S SIDE. Own work.
-/
namespace Go.Fd
set_option maxRecDepth 20000
theorem Zas(l:List ByteArray)(s:ByteArray)(hl:l.length<=4294967296)(lvl:Nat)(S:Sto):Sem Proofs.Tryz.prog Yx lvl [.tr (.sl (rS l)),iS s] S (iI (ixS l s)) S:=by
 refine Zc ZlB trivial ?_
 simp only[Zgj,EVA,seval]
 refine Zv (α:=Unit) l.length (fun j _=>[(5,iI j)]) (fun _ _=>[]) (fun j _=>ixF (fun x=>decide (s=x)) (l.drop j) j=ixS l s) () (by simp only[EVA,seval]) (by (simp only[EVA,seval]) <;> rfl) rfl ?_
 intro j _ hj hA
 simp only[List.length_map,EVA,seval]
 refine Zk (fun hlt=>?_) (fun hge=>?_)
 ·have hja:j<l.length:=by omega
  have ga:=ZfI (e0:=e0S) (c:=fun n:ByteArray=>[ts n]) hja
  rw[US hja] at ga
  rw[Zdx hja,W9] at hA
  by_cases h:l[j]=s
  ·rw[if_pos (by simp [h])] at hA
   simp only[ga,h,EVA,seval]
   rw[<-hA]
  ·rw[if_neg (by simp;exact fun e=>h e.symm)] at hA
   simp only[ga,h,EVA,seval]
   exact⟨by rw[Zd];omega,Ze () hja rfl hA⟩
 ·have:j=l.length:=by omega
  subst this
  rw[List.drop_length] at hA
  rw[<-hA]
  rfl
theorem ZnK{o:List ByteArray}{s:ByteArray}{j:Nat}(h:j<o.length):Q5 (o.take (j+1)) s=Q5 (o.take j) s++if o[j]=s then [] else [o[j]]:=by
 unfold Q5
 rw[List.take_succ_eq_append_getElem h,List.filter_append]
 by_cases e:o[j]=s <;> simp [e]
theorem ZnL(o:List ByteArray)(s:ByteArray)(ho:o.length<=4294967290)(lvl:Nat)(S:Sto):Sem Proofs.Tryz.prog UA lvl [.tr (.sl (rS o)),iS s] S (.ow 1 (rS (Q5 o s)) true) S:=by
 refine Zc Zi0 trivial ?_
 simp only[Zdp,EVA,seval]
 refine Zv (α:=Unit) o.length (fun j _=>[(5,.hd (lvl,224) [] 0 (Q5 (o.take j) s).length none (Q5 (o.take j) s).length),(6,iI j)]) (fun j _=>[(224,.ar 1 (rS (Q5 (o.take j) s)) true (Q5 (o.take j) s).length 0)]) (fun _ _=>True) () (by simp only[EVA,seval]) (by (simp only[EVA,seval]) <;> rfl) trivial ?_
 intro j _ hj _
 simp only[List.length_map,EVA,seval]
 refine Zk (fun hlt=>?_) (fun hge=>?_)
 ·have hja:j<o.length:=by omega
  have ga:=ZfI (e0:=e0S) (c:=fun n:ByteArray=>[ts n]) hja
  rw[US hja] at ga
  have hs:=ZnK (s:=s) hja
  have hle:(Q5 (o.take j) s).length<=j:=Nat.le_trans (List.length_filter_le ..) (by rw[List.length_take];omega)
  by_cases h:o[j]=s
  ·rw[if_pos h,List.append_nil] at hs
   simp only[ga,h,EVA,seval]
   exact⟨by rw[Zd];omega,Ze () hja (by rw[hs];rfl) trivial⟩
  ·rw[if_neg h] at hs
   simp only[ga,h,List.length_map,EVA,seval]
   exact⟨by omega,by rw[Zd];omega,Ze () hja (by rw[hs,List.length_append,Zgr];rfl) trivial⟩
 ·have:j=o.length:=by omega
  subst this
  rw[List.take_length]
def UT(a:Int)(n:Nat):List Int:=(List.range n).map fun i:Nat=>a+i
theorem ZnM{a:Int}{n:Nat}:UT a (n+1)=UT a n++[a+n]:=by simp [UT,List.range_succ]
theorem fromN_len{a:Int}{n:Nat}:(UT a n).length=n:=by simp [UT]
theorem UJ(a:Int)(n:Nat)(ha:-4294967296<=a/\a<=4294967296)(hn:n<=4294967290)(lvl:Nat)(S:Sto):Sem Proofs.Tryz.prog JR lvl [iI a,iI n] S (.ow 1 (rI (UT a n)) true) S:=by
 refine Zc Zhb trivial ?_
 simp only[Zck,EVA,seval]
 refine Zv (α:=Unit) n (fun j _=>[(5,.hd (lvl,224) [] 0 j none j),(6,iI j)]) (fun j _=>[(224,.ar 1 (rI (UT a j)) true j 0)]) (fun _ _=>True) () (by simp only[EVA,seval]) (by (simp only[EVA,seval]) <;> rfl) trivial ?_
 intro j _ hj _
 simp only[List.length_map,EVA,seval]
 refine Zk (fun hlt=>?_) (fun hge=>?_)
 ·have hl:=fromN_len (a:=a) (n:=j)
  have hs:rI (UT a j)++[[Tr.v (.int .i64 (a+j))]]=rI (UT a (j+1)):=by rw[ZnM,Y7];rfl
  simp only[hl,hs,EVA,seval]
  exact⟨by rw[Zd];omega,by omega,by rw[Zd];omega,Ze () (by omega) rfl trivial⟩
 ·have:j=n:=by omega
  subst this
  exact⟨fromN_len.symm,rfl⟩
def JI(a:Int)(n:Nat):List Int:=(List.range n).map fun i:Nat=>-1-a-i
theorem ZlI{a:Int}{n:Nat}:JI a (n+1)=JI a n++[-1-a-n]:=by simp [JI,List.range_succ]
theorem rootsN_len{a:Int}{n:Nat}:(JI a n).length=n:=by simp [JI]
theorem Zat(a:Int)(n:Nat)(ha:-4294967296<=a/\a<=4294967296)(hn:n<=4294967290)(lvl:Nat)(S:Sto):Sem Proofs.Tryz.prog Yq lvl [iI a,iI n] S (.ow 1 (rI (JI a n)) true) S:=by
 refine Zc Zhd trivial ?_
 simp only[Zcm,EVA,seval]
 refine Zv (α:=Unit) n (fun j _=>[(5,.hd (lvl,224) [] 0 j none j),(6,iI j)]) (fun j _=>[(224,.ar 1 (rI (JI a j)) true j 0)]) (fun _ _=>True) () (by simp only[EVA,seval]) (by (simp only[EVA,seval]) <;> rfl) trivial ?_
 intro j _ hj _
 simp only[List.length_map,EVA,seval]
 refine Zk (fun hlt=>?_) (fun hge=>?_)
 ·have hl:=rootsN_len (a:=a) (n:=j)
  have hs:rI (JI a j)++[[Tr.v (.int .i64 (-1-a-j))]]=rI (JI a (j+1)):=by rw[ZlI,Y7];rfl
  simp only[hl,hs,EVA,seval]
  exact⟨by rw[Zd];omega,by rw[Zd];omega,by omega,by rw[Zd];omega,Ze () (by omega) rfl trivial⟩
 ·have:j=n:=by omega
  subst this
  exact⟨rootsN_len.symm,rfl⟩
def Zes(by_:Int)(ps:List Int)(p:Int):Int:=if p<0 then g0 ps (-1-p).toNat else p+by_
theorem Zbw(p by_:Int)(ps:List Int)(h0:-4294967296<=p/\p<=4294967296)(h1:-4294967296<=by_/\by_<=4294967296)(h2:p<0->(-1-p).toNat<ps.length)(lvl:Nat)(S:Sto):Sem Proofs.Tryz.prog YY lvl [iI p,iI by_,tI ps] S (iI (Zes by_ ps p)) S:=by
 refine Zc Zgl trivial ?_
 simp only[Zbk,EVA,seval]
 unfold Zes
 refine Zk (fun hlt=>?_) (fun hge=>?_)
 ·rw[if_pos hlt]
  have hk:=h2 hlt
  obtain⟨k,hkk⟩:∃ k:Nat,-1-p=k:=⟨(-1-p).toNat,by omega⟩
  rw[hkk] at hk ⊢
  rw[Int.toNat_natCast] at hk ⊢
  have ga:=Jo hk
  simp only[ga,EVA,seval]
  rw[Zd];omega
 ·rw[if_neg hge]
  exact⟨by rw[Zd];omega,rfl⟩
theorem Wg(b:TBigraph)(by_:Int)(ps:List Int)(hl:b.sites.length<=4294967290)(h1:-4294967296<=by_/\by_<=4294967296)(hp:∀ p∈b.sites,(-4294967296<=p/\p<=4294967296)/\(p<0->(-1-p).toNat<ps.length))(lvl:Nat)(S:Sto):Sem Proofs.Tryz.prog JC lvl [.ag ((Zb b).map .tr),iI by_,tI ps] S (.ow 1 (rI (b.sites.map (Zes by_ ps))) true) S:=by
 refine Zc Zhf trivial ?_
 simp only[Zco,Zb,EVA,seval]
 refine Zv (α:=Unit) b.sites.length (fun j _=>[(7,.hd (lvl,288) [] 0 j none j),(8,iI j)]) (fun j _=>[(288,.ar 1 (rI ((b.sites.take j).map (Zes by_ ps))) true j 0)]) (fun _ _=>True) () (by simp only[EVA,seval]) (by (simp only[EVA,seval]) <;> rfl) trivial ?_
 intro j _ hj _
 simp only[List.length_map,EVA,seval]
 refine Zk (fun hlt=>?_) (fun hge=>?_)
 ·have hja:j<b.sites.length:=by omega
  have ga:=Jo hja
  have e0:g0 b.sites j=b.sites[j]:=by simp [hja]
  have hq:=hp _ (List.getElem_mem hja)
  rw[<-e0] at hq
  have hl1:(List.map (Zes by_ ps) (b.sites.take j)).length=j:=by rw[List.length_map,List.length_take];omega
  have hl2:(b.sites.take j).length=j:=by rw[List.length_take];omega
  simp only[ga,EVA,seval,Zf,men]
  refine Za (Zbw (g0 b.sites j) by_ ps hq.1 h1 hq.2) ?_
  have hs:rI ((b.sites.take j).map (Zes by_ ps))++[[Tr.v (.int .i64 (Zes by_ ps (g0 b.sites j)))]]=rI ((b.sites.take (j+1)).map (Zes by_ ps)):=by
   rw[List.take_succ_eq_append_getElem hja,List.map_append,Y7,e0];rfl
  simp only[hl1,hs,List.length_map,EVA,seval]
  exact⟨by omega,by rw[Zd];omega,Ze () hja rfl trivial⟩
 ·have:j=b.sites.length:=by omega
  subst this
  rw[List.take_length]
  exact⟨by simp,rfl⟩
def Zkx(ls:List Int)(w:TWire):TWire:=⟨w.name,g0 ls w.link.toNat⟩
theorem Zau(b:TBigraph)(ls:List Int)(hl:b.inner.length<=4294967290)(hp:∀ w∈b.inner,0<=w.link/\w.link<ls.length)(lvl:Nat)(S:Sto):Sem Proofs.Tryz.prog Yr lvl [.ag ((Zb b).map .tr),tI ls] S (.ow 2 ((b.inner.map (Zkx ls)).map Z3) true) S:=by
 refine Zc Zhh trivial ?_
 simp only[Zcq,Zb,EVA,seval]
 refine Zv (α:=Unit) b.inner.length (fun j _=>[(5,.hd (lvl,224) [] 0 j none j),(6,iI j)]) (fun j _=>[(224,.ar 2 (((b.inner.take j).map (Zkx ls)).map Z3) true j 0)]) (fun _ _=>True) () (by simp only[EVA,seval]) (by (simp only[EVA,seval]) <;> rfl) trivial ?_
 intro j _ hj _
 simp only[List.length_map,EVA,seval]
 refine Zk (fun hlt=>?_) (fun hge=>?_)
 ·have hja:j<b.inner.length:=by omega
  have ga:=Xh (c:=Z3) hja
  have hq:=hp _ (List.getElem_mem hja)
  obtain⟨k,hk⟩:∃ k:Nat,b.inner[j].link=k:=⟨b.inner[j].link.toNat,by omega⟩
  have hkl:k<ls.length:=by omega
  have gl:=Jo hkl
  have hl2:(b.inner.take j).length=j:=by rw[List.length_take];omega
  have hs:((b.inner.take j).map (Zkx ls)).map Z3++[[ts b.inner[j].name,tv (g0 ls k)]]=((b.inner.take (j+1)).map (Zkx ls)).map Z3:=by
   rw[List.take_succ_eq_append_getElem hja,List.map_append,List.map_append]
   simp [Zkx,Z3,hk]
  simp only[ga,Z3,hk,gl,hl2,List.length_map,EVA,seval]
  exact⟨by omega,by rw[Zd];omega,Ze () hja (by rw[<-hs];rfl) trivial⟩
 ·have:j=b.inner.length:=by omega
  subst this
  rw[List.take_length]
  exact⟨by simp,rfl⟩
def Zgx(by_:Int)(ps ls:List Int)(x:TNode):TNode:=⟨x.control,Zes by_ ps x.parent,x.links.map fun l=>g0 ls l.toNat⟩
theorem UK(b:TBigraph)(by_:Int)(ps ls:List Int)(hl:b.nodes.length<=4294967290)(h1:-4294967296<=by_/\by_<=4294967296)(hp:∀ x∈b.nodes,x.links.length<=4294967290/\((-4294967296<=x.parent/\x.parent<=4294967296)/\(x.parent<0->(-1-x.parent).toNat<ps.length))/\∀ l∈x.links,0<=l/\l<ls.length)(lvl:Nat)(S:Sto):Sem Proofs.Tryz.prog JS lvl [.ag ((Zb b).map .tr),iI by_,tI ps,tI ls] S (.ow 3 ((b.nodes.map (Zgx by_ ps ls)).map ZK) true) S:=by
 refine Zc Zhe trivial ?_
 simp only[Zcn,Zb,EVA,seval]
 refine Zv (α:=Unit) b.nodes.length (fun j _=>[(9,.hd (lvl,416) [] 0 j none j),(10,iI j)]) (fun j _=>[(416,.ar 3 (((b.nodes.take j).map (Zgx by_ ps ls)).map ZK) true j 0)]) (fun _ _=>True) () (by simp only[EVA,seval]) (by (simp only[EVA,seval]) <;> rfl) trivial ?_
 intro j _ hj _
 simp only[List.length_map,EVA,seval]
 refine Zk (fun hlt=>?_) (fun hge=>?_)
 ·have hja:j<b.nodes.length:=by omega
  have ga:=Xh (c:=ZK) hja
  obtain⟨q1,q2,q3⟩:=hp _ (List.getElem_mem hja)
  have hl2:(b.nodes.take j).length=j:=by rw[List.length_take];omega
  refine Zv (α:=Unit) b.nodes[j].links.length (fun k _=>[(11,.hd (lvl,672) [] 0 k none k),(12,iI k)]) (fun k _=>[(672,.ar 1 (rI ((b.nodes[j].links.take k).map fun l=>g0 ls l.toNat)) true k 0)]) (fun _ _=>True) () (by simp only[EVA,seval]) (by (simp only[EVA,seval]) <;> rfl) trivial ?_
  intro k _ hk _
  simp only[ga,ZK,List.length_map,EVA,seval,Zf,men]
  refine Zk (fun hlt2=>?_) (fun hge2=>?_)
  ·have hka:k<b.nodes[j].links.length:=by omega
   have gl:=Jo hka
   have e0:g0 b.nodes[j].links k=b.nodes[j].links[k]:=by simp [hka]
   have hq:=q3 _ (List.getElem_mem hka)
   rw[<-e0] at hq
   obtain⟨m,hm⟩:∃ m:Nat,g0 b.nodes[j].links k=m:=⟨(g0 b.nodes[j].links k).toNat,by omega⟩
   have hml:m<ls.length:=by omega
   have gm:=Jo hml
   have hl3:(b.nodes[j].links.take k).length=k:=by rw[List.length_take];omega
   have hs:rI ((b.nodes[j].links.take k).map fun l=>g0 ls l.toNat)++[[tv (g0 ls m)]]=rI ((b.nodes[j].links.take (k+1)).map fun l=>g0 ls l.toNat):=by
    rw[List.take_succ_eq_append_getElem hka,List.map_append,Y7,<-e0]
    simp only[List.map_cons,List.map_nil,hm,Int.toNat_natCast]
   simp only[gl,hm,gm,hl3,hs,List.length_map,EVA,seval]
   exact⟨by omega,by rw[Zd];omega,Ze () hka rfl trivial⟩
  ·have:k=b.nodes[j].links.length:=by omega
   subst this
   rw[List.take_length]
   refine Za (Zbw b.nodes[j].parent by_ ps q2.1 h1 q2.2) ?_
   have hs:((b.nodes.take j).map (Zgx by_ ps ls)).map ZK++[[tv b.nodes[j].control,tv (Zes by_ ps b.nodes[j].parent),Tr.sl (rI (b.nodes[j].links.map fun l=>g0 ls l.toNat))]]=((b.nodes.take (j+1)).map (Zgx by_ ps ls)).map ZK:=by
    rw[List.take_succ_eq_append_getElem hja,List.map_append,List.map_append]
    simp [Zgx,ZK]
   simp only[hl2,List.length_map,EVA,seval]
   exact⟨by omega,by rw[Zd];omega,Ze () hja (by rw[<-hs];rfl) trivial⟩
 ·have:j=b.nodes.length:=by omega
  subst this
  rw[List.take_length]
  exact⟨by simp,rfl⟩
end Go.Fd

/-
  A LINK IS TURNED: relinked AND ITS CLOSURE. Own work.
-/
namespace Go.Fd
set_option maxRecDepth 20000
theorem ZyC:ZE Proofs.Tryz.prog ZV Zze=true:=by kernel_rfl
theorem ZC7:ZE Proofs.Tryz.prog ZL (ZC5 ZV)=true:=by kernel_rfl
theorem ZhR(l:List ByteArray)(s:ByteArray)(hl:l.length<=4294967296)(lvl:Nat)(S:Sto):Sem Proofs.Tryz.prog ZV lvl [.tr (.sl (rS l)),iS s] S (iI (ixS l s)) S:=Zpj ZyC ZuM l s (by omega) lvl S
theorem Zav(l:List ByteArray)(s:ByteArray)(hl:l.length<=4294967296)(lvl:Nat)(S:Sto):Sem Proofs.Tryz.prog ZL lvl [.tr (.sl (rS l)),iS s] S (iB (dc (s∈l))) S:=by
 have h:=ZuP ZC7 ZyC ZuM l s (by omega) lvl S
 have e:∀ i:Decidable (s∈l),@decide (s∈l) i=dc (s∈l):=fun i=>(@Y1 _ i).symm
 rw[e] at h
 exact h
theorem Zgy{l:List ByteArray}{s:ByteArray}:-1<=ixS l s:=by
 by_cases h:s∈l
 ·have:=ixS_nn.2 h;omega
 ·rw[ZmQ h];omega
theorem Ze7{l:List ByteArray}{s:ByteArray}:ixS l s<=l.length:=by
 by_cases h:s∈l
 ·have:=ZmR h;omega
 ·rw[ZmQ h];omega
mutual
theorem ZuW{P Q:Oid->Prop}:∀ x,men P x->men Q x->men (fun i=>P i/\Q i) x
 | .hd ..,h,g=>⟨h,g⟩
 | .ab ..,h,g=>⟨h,g⟩
 | .sv _,h,g=>⟨h,g⟩
 | .ae ..,h,g=>⟨h,g⟩
 | .ag l,h,g=>by simp only[men] at *;exact ZdC l h g
 | .tu l,h,g=>by simp only[men] at *;exact ZdC l h g
 | .fn f l,h,g=>by simp only[men] at *;exact ZdC l h g
 | .un,_,_=>trivial
 | .tr _,_,_=>trivial
 | .cs _,_,_=>trivial
 | .ta _,_,_=>trivial
 | .ow ..,_,_=>trivial
 | .er,_,_=>trivial
theorem ZdC{P Q:Oid->Prop}:∀ l,Zf P l->Zf Q l->Zf (fun i=>P i/\Q i) l
 | [],_,_=>trivial
 | x::r,h,g=>⟨ZuW x h.1 g.1,ZdC r h.2 g.2⟩
end
theorem Zky{B S S':Sto}{loc:List (Nat×Ob)}{lvl l':Nat}{cps:List IV}(h:Zf (Znx B S lvl) cps)(h2:Zf (Znx (Zu lvl loc S) S' l') cps):Zf (Znx B S' l') cps :=
 ZG (fun i hi=>⟨hi.2.1,fun ob hb=>hi.2.2 ob (by rw[show Zu lvl loc S i=S i from if_neg (by have:=hi.1.1;omega)];exact hi.1.2 ob hb)⟩) _ (ZdC _ h h2)
theorem Zkz{L S:Sto}{l:Nat}{cps:List IV}(h:Zf (Zh7 L S l) cps):Zf (Znx L S l) cps:=ZG (fun _ hi=>hi.1) _ h
theorem Zr4{B S:Sto}{lvl:Nat}{cps:List IV}(h:Zf (Znx B S lvl) cps)(js:List Nat):Zme lvl js cps=True:=eq_true (ZG (fun i hi e=>absurd e (by have:=hi.1;omega)) _ h)
theorem ZuX{B S:Sto}{lvl:Nat}{cs:List (List Tr)}:Zf (Znx B S lvl) (cs.map IV.ta):=by rw[Yn];trivial
theorem Zhj(b:TBigraph)(l:Int)(e:Int)(o:List ByteArray)(tf:FuncId)(cps:List IV)(B:Sto)(T:Int×ByteArray->Int×ByteArray)(he0:0<=b.edges)(hl:ZQ b l)(ho:b.outer.length<=4294967296)(hb:b.edges<=4294967296)(he:0<=e/\e<=4294967296)(hol:o.length<=4294967296)
  (hT:∀ l' S',Zf (Znx B S' l') cps->Sem Proofs.Tryz.prog tf l' (oE (ZfJ b l)::cps) S' (oE (T (ZfJ b l))) S')
  (lvl:Nat) (S:Sto) (hcp:Zf (Znx B S lvl) cps) (iT iO io:Oid) (c0 c1 c2 c3 c5:IV) (hwo ver:Nat) (u:Bool) (hT1:iT.1<lvl) (hO1:iO.1<lvl) (ho1:io.1<lvl) (sT:S iT=some (.bx [.fn tf cps])) (sO:S iO=some (.bx [c0,c1,c2,c3,.hd io [] 0 o.length none hwo,c5])) (so:S io=some (.ar 1 (rS o) u hwo ver)) :
  Sem Proofs.Tryz.prog Jx lvl [iI l,.ab iT 0,.ta (Zb b),.ta [tv e],.ab iO 0] S (iI (ZdB b e o T l)) S:=by
 have hneT:iT.1≠lvl:=by omega
 have hneO:iO.1≠lvl:=by omega
 have hneo:io.1≠lvl:=by omega
 refine Zc Dq trivial ?_
 simp only[QD,Zb,ZS hneT,sT,EVA,seval,Zf,men]
 refine Za (ZpD b l he0 hl ho hb) ?_
 simp only[EVA,seval]
 refine ZcV (fun l' S' hs=>hT l' S' (Zky hcp (Zkz hs.2))) ?_
 simp only[EVA,seval]
 unfold ZdB
 by_cases h2:(T (ZfJ b l)).2=e0S
 ·rw[if_pos h2]
  simp only[h2,seval]
 ·rw[if_neg h2]
  simp only[h2,ZS hneO,ZS hneo,sO,so,EVA,seval,Zf,men]
  rw[show cut (rS o) 0 o.length=rS o from JA (by rw[List.length_map])]
  refine Za (ZhR o (T (ZfJ b l)).2 (by omega)) ?_
  have:=Zgy (l:=o) (s:=(T (ZfJ b l)).2)
  have:=Ze7 (l:=o) (s:=(T (ZfJ b l)).2)
  simp only[EVA,seval]
  rw[Zd];omega
theorem ZpE{y:List Int}{j:Nat}{v:Int}(h:j<y.length):Vs (rI y) [] j 0 (.v (.int .i64 v))=rI (y.set j v):=by
 simp only[Vs]
 rw[Jo h]
 exact(List.map_set (f:=fun n:Int=>[tv n]) (l:=y) (i:=j) (a:=v)).symm
def ZlJ(F:Int->Int)(x:TNode):TNode:=⟨x.control,x.parent,x.links.map F⟩
def Vj(F:Int->Int)(l:List TNode)(j:Nat):List TNode:=(l.take j).map (ZlJ F)++l.drop j
def YP(F:Int->Int)(l:List Int)(k:Nat):List Int:=(l.take k).map F++l.drop k
theorem Zbx{F:Int->Int}{l:List Int}{k:Nat}:(YP F l k).length=l.length:=by simp [YP];omega
theorem Zgz{F:Int->Int}{l:List Int}{k:Nat}(h:k<l.length):g0 (YP F l k) k=g0 l k:=by
 show (YP F l k).getD k 0=l.getD k 0
 have:((l.take k).map F).length=k:=by rw[List.length_map,List.length_take];omega
 rw[List.getD_eq_getElem?_getD,List.getD_eq_getElem?_getD,YP,List.getElem?_append_right (by omega),this,List.getElem?_drop]
 simp
theorem ZgA{F:Int->Int}{l:List Int}{k:Nat}(h:k<l.length):(YP F l k).set k (F (g0 l k))=YP F l (k+1):=by
 have hl:((l.take k).map F).length=k:=by rw[List.length_map,List.length_take];omega
 have e:g0 l k=l[k]:=by simp [h]
 unfold YP
 rw[List.set_append_right _ _ (by omega),hl,Nat.sub_self,List.drop_eq_getElem_cons h,List.set_cons_zero,List.take_succ_eq_append_getElem h,List.map_append,e,List.append_assoc]
 rfl
theorem ZdD{F:Int->Int}{l:List TNode}{j:Nat}:(Vj F l j).length=l.length:=by simp [Vj];omega
theorem ZgB{F:Int->Int}{l:List TNode}{j:Nat}(h:j<l.length):(Vj F l j)[j]? = some l[j]:=by
 have:((l.take j).map (ZlJ F)).length=j:=by rw[List.length_map,List.length_take];omega
 rw[Vj,List.getElem?_append_right (by omega),this,List.getElem?_drop]
 simp [h]
theorem ZkA{F:Int->Int}{l:List TNode}{j:Nat}(h:j<l.length):(Vj F l j).set j (ZlJ F l[j])=Vj F l (j+1):=by
 have hl:((l.take j).map (ZlJ F)).length=j:=by rw[List.length_map,List.length_take];omega
 unfold Vj
 rw[List.set_append_right _ _ (by omega),hl,Nat.sub_self,List.drop_eq_getElem_cons h,List.set_cons_zero,List.take_succ_eq_append_getElem h,List.map_append,List.append_assoc]
 rfl
def ZbP(F:Int->Int)(w:TWire):TWire:=⟨w.name,F w.link⟩
def UL(F:Int->Int)(l:List TWire)(j:Nat):List TWire:=(l.take j).map (ZbP F)++l.drop j
theorem ZpF{F:Int->Int}{l:List TWire}{j:Nat}:(UL F l j).length=l.length:=by simp [UL];omega
theorem ZgC{F:Int->Int}{l:List TWire}{j:Nat}(h:j<l.length):(UL F l j)[j]? = some l[j]:=by
 have:((l.take j).map (ZbP F)).length=j:=by rw[List.length_map,List.length_take];omega
 rw[UL,List.getElem?_append_right (by omega),this,List.getElem?_drop]
 simp [h]
theorem ZgD{F:Int->Int}{l:List TWire}{j:Nat}(h:j<l.length):(UL F l j).set j (ZbP F l[j])=UL F l (j+1):=by
 have hl:((l.take j).map (ZbP F)).length=j:=by rw[List.length_map,List.length_take];omega
 unfold UL
 rw[List.set_append_right _ _ (by omega),hl,Nat.sub_self,List.drop_eq_getElem_cons h,List.set_cons_zero,List.take_succ_eq_append_getElem h,List.map_append,List.append_assoc]
 rfl
theorem Ztf{X:List TNode}{j k:Nat}{x:TNode}{v:Int}(h:X[j]? = some x)(hk:k<x.links.length):Vs (X.map ZK) [(j,2)] k 0 (.v (.int .i64 v))=(X.set j ⟨x.control,x.parent,x.links.set k v⟩).map ZK:=by
 have h1:=ZpE (y:=x.links) (j:=k) (v:=v) hk
 have e1:Vs (X.map ZK) [(j,2)] k 0 (.v (.int .i64 v))=(X.map ZK).set j [tv x.control,tv x.parent,Tr.sl (Vs (rI x.links) [] k 0 (.v (.int .i64 v)))]:=by
  simp only[Vs,List.getElem?_map,h,Option.map_some,ZK,List.getElem?_cons_succ,List.getElem?_cons_zero,List.set_cons_succ,List.set_cons_zero]
 rw[e1,h1,List.map_set]
 rfl
theorem ZdE(b:TBigraph)(e:Int)(o:List ByteArray)(tf:FuncId)(cps:List IV)(B:Sto)(T:Int×ByteArray->Int×ByteArray)(he0:0<=b.edges)(hbd:Zr 4294967290 b)(hb:b.edges<=4294967296)(he:0<=e/\e<=4294967296)(ho:o.length<=4294967290)
  (hln:∀ x∈b.nodes,∀ l∈x.links,ZQ b l) (hlw:∀ w∈b.inner,ZQ b w.link) (hT:∀ l,ZQ b l->∀ l' S',Zf (Znx B S' l') cps->Sem Proofs.Tryz.prog tf l' (oE (ZfJ b l)::cps) S' (oE (T (ZfJ b l))) S')
  (lvl:Nat) (S:Sto) (hcp:Zf (Znx B S lvl) cps):Sem Proofs.Tryz.prog Zx lvl [.ag ((Zb b).map .tr),iI e,.tr (.sl (rS o)),.fn tf cps] S (Zh (Dw b (ZdB b e (VG o) T) e (VG o))) S:=by
 have hok:=Zr4 hcp
 refine Zc Zan (by simp [Zh,low,men,Zf]) ?_
 simp only[XT,Zb,EVA,seval,Zf,men]
 refine Za (Wq b hbd) ?_
 simp only[Zh,List.length_map,EVA,seval,Zf,men]
 refine Za (Zbv o ho) ?_
 obtain⟨b1,b2,b3,b4,b5,b6,b7⟩:=hbd
 simp only[List.length_map,EVA,seval]
 have hFdef:∃ F,F=ZdB b e (VG o) T:=⟨_,rfl⟩
 obtain⟨F,hF⟩:=hFdef
 rw[<-hF]
 have hsl:(VG o).length<=4294967296:=Nat.le_trans Zpu (by omega)
 have hc:∀(loc:List (Nat×Ob)) (l:Int),ZQ b l->lkO 224 loc=some (.bx [.fn tf cps])->lkO 288 loc=some (.bx [iI b.roots,.hd (lvl,576) [] 0 b.nodes.length none b.nodes.length,.hd (lvl,577) [] 0 b.sites.length none b.sites.length,iI e,.hd (lvl,672) [] 0 (VG o).length none (VG o).length,.hd (lvl,579) [] 0 b.inner.length none b.inner.length])->lkO 672 loc=some (.ar 1 (rS (VG o)) true (VG o).length 0) ->
   ∀ l' S',Zf (Zh7 (Zu lvl loc S) S' l') [iI l,.ab (lvl,224) 0,.ta (Zb b),.ta [tv e],.ab (lvl,288) 0]->Sem Proofs.Tryz.prog Jx l' [iI l,.ab (lvl,224) 0,.ta (Zb b),.ta [tv e],.ab (lvl,288) 0] S' (iI (F l)) S':=fun loc l hl h1 h2 h3 l' S' hs=>by
  simp only[Zf,men] at hs
  obtain⟨_,h224,_,_,h288,_⟩:=hs
  have sT:=h224.1.2 _ (by rw[J5];exact h1)
  have hc2:=h224.2 _ (by rw[J5];exact h1)
  simp only[Zf,men,and_true] at hc2
  have sO:=h288.1.2 _ (by rw[J5];exact h2)
  have hm:=h288.2 _ (by rw[J5];exact h2)
  simp only[Zf,men] at hm
  obtain⟨_,_,_,_,h672,_,_⟩:=hm
  have so:=h672.2 _ (by rw[J5];exact h3)
  rw[hF]
  exact Zhj b l e (VG o) tf cps B T he0 hl (by omega) hb he hsl (hT l hl) l' S' (Zky hcp hc2) (lvl,224) (lvl,288) (lvl,672) _ _ _ _ _ _ _ _ h224.1.1 h288.1.1 h672.1 sT sO so
 refine Zv (α:=Unit) b.nodes.length (fun j _=>[(28,iI j)]) (fun j _=>[(576,.ar 3 ((Vj F b.nodes j).map ZK) true b.nodes.length 0)]) (fun _ _=>True) () (by simp only[hok,EVA,seval]) (by (simp only[EVA,seval]) <;> rfl) trivial ?_
 intro j _ hj _
 simp only[EVA,seval]
 refine Zk (fun hlt=>?_) (fun hge=>?_)
 ·have hja:j<b.nodes.length:=by omega
  have gp:=ZgB (F:=F) hja
  have ga:((Vj F b.nodes j).map ZK)[j]? = some [Tr.v (.int .i64 b.nodes[j].control),Tr.v (.int .i64 b.nodes[j].parent),Tr.sl (rI b.nodes[j].links)]:=by rw[List.getElem?_map,gp];rfl
  have hkl:b.nodes[j].links.length<=4294967290:=b2 _ (List.getElem_mem hja)
  simp only[ga,hja,List.length_map,EVA,seval]
  have e0:(Vj F b.nodes j).set j ⟨b.nodes[j].control,b.nodes[j].parent,YP F b.nodes[j].links 0⟩=Vj F b.nodes j:=by
   have:(⟨b.nodes[j].control,b.nodes[j].parent,YP F b.nodes[j].links 0⟩:TNode)=b.nodes[j]:=by simp [YP]
   rw[this]
   have hl:j<(Vj F b.nodes j).length:=by rw[ZdD];exact hja
   have e:b.nodes[j]=(Vj F b.nodes j)[j]:=by
    have:=gp
    rw[List.getElem?_eq_getElem hl] at this
    exact(Option.some.inj this).symm
   rw[e]
   exact List.set_getElem_self hl
  refine Zv (α:=Unit) b.nodes[j].links.length (fun k _=>[(35,iI k)]) (fun k _=>[(576,.ar 3 (((Vj F b.nodes j).set j ⟨b.nodes[j].control,b.nodes[j].parent,YP F b.nodes[j].links k⟩).map ZK) true b.nodes.length 0)]) (fun _ _=>True) () (by simp only[hok,EVA,seval]) (by (simp only[e0,EVA,seval]) <;> rfl) trivial ?_
  intro k _ hk _
  have gq:((Vj F b.nodes j).set j ⟨b.nodes[j].control,b.nodes[j].parent,YP F b.nodes[j].links k⟩)[j]? = some ⟨b.nodes[j].control,b.nodes[j].parent,YP F b.nodes[j].links k⟩:=by
   rw[List.getElem?_set_self (by rw[ZdD];exact hja)]
  have hgp:(((Vj F b.nodes j).set j ⟨b.nodes[j].control,b.nodes[j].parent,YP F b.nodes[j].links k⟩).map ZK)[j]? = some [Tr.v (.int .i64 b.nodes[j].control),Tr.v (.int .i64 b.nodes[j].parent),Tr.sl (rI (YP F b.nodes[j].links k))]:=by rw[List.getElem?_map,gq];rfl
  simp only[hgp,EVA,seval]
  refine Zk (fun hlt2=>?_) (fun hge2=>?_)
  ·have hka:k<b.nodes[j].links.length:=by omega
   have hpl:=Zbx (F:=F) (l:=b.nodes[j].links) (k:=k)
   have gk:(rI (YP F b.nodes[j].links k))[k]? = some [tv (g0 b.nodes[j].links k)]:=by rw[Jo (by omega),Zgz hka]
   have hlk:ZQ b (g0 b.nodes[j].links k):=hln _ (List.getElem_mem hja) _ (by simp [hka])
   have hsp:=Ztf (v:=F (g0 b.nodes[j].links k)) gq (k:=k) (by show k<(YP F b.nodes[j].links k).length;omega)
   simp only[hgp,gk,hka,Nat.zero_add,EVA,seval]
   refine ZcV (hc _ (g0 b.nodes[j].links k) hlk rfl rfl rfl) ?_
   have hst:((Vj F b.nodes j).set j ⟨b.nodes[j].control,b.nodes[j].parent,YP F b.nodes[j].links k⟩).set j ⟨b.nodes[j].control,b.nodes[j].parent,(YP F b.nodes[j].links k).set k (F (g0 b.nodes[j].links k))⟩=(Vj F b.nodes j).set j ⟨b.nodes[j].control,b.nodes[j].parent,YP F b.nodes[j].links (k+1)⟩:=by
    rw[List.set_set,ZgA hka]
   rw[hst] at hsp
   simp only[hgp,gk,hka,hsp,hok,Nat.zero_add,EVA,seval]
   exact⟨by rw[Zd];omega,Ze () hka rfl trivial⟩
  ·have:k=b.nodes[j].links.length:=by omega
   subst this
   have hst:(Vj F b.nodes j).set j ⟨b.nodes[j].control,b.nodes[j].parent,YP F b.nodes[j].links b.nodes[j].links.length⟩=Vj F b.nodes (j+1):=by
    rw[<-ZkA hja]
    congr 1
    simp [ZlJ,YP]
   rw[hst]
   simp only[hok,EVA,seval]
   exact⟨by rw[Zd];omega,Ze () hja rfl trivial⟩
 ·have:j=b.nodes.length:=by omega
  subst this
  have hpn:Vj F b.nodes b.nodes.length=(Dw b F e (VG o)).nodes:=by simp [Vj,Dw,ZlJ]
  rw[hpn]
  refine Zv (α:=Unit) b.inner.length (fun j _=>[(52,iI j)]) (fun j _=>[(579,.ar 2 ((UL F b.inner j).map Z3) true b.inner.length 0)]) (fun _ _=>True) () (by simp only[hok,EVA,seval]) (by (simp only[EVA,seval]) <;> rfl) trivial ?_
  intro j _ hj _
  simp only[List.length_map,EVA,seval]
  refine Zk (fun hlt=>?_) (fun hge=>?_)
  ·have hja:j<b.inner.length:=by omega
   have gp:=ZgC (F:=F) hja
   have ga:((UL F b.inner j).map Z3)[j]? = some [ts b.inner[j].name,tv b.inner[j].link]:=by rw[List.getElem?_map,gp];rfl
   have hsp:Vs ((UL F b.inner j).map Z3) [] j 1 (.v (.int .i64 (F b.inner[j].link)))=(UL F b.inner (j+1)).map Z3:=by
    simp only[Vs]
    rw[ga,<-ZgD hja,List.map_set]
    rfl
   have hlk:ZQ b b.inner[j].link:=hlw _ (List.getElem_mem hja)
   simp only[ga,hja,Nat.zero_add,EVA,seval]
   refine ZcV (hc _ b.inner[j].link hlk rfl rfl rfl) ?_
   simp only[ga,hja,hsp,hok,Nat.zero_add,EVA,seval]
   exact⟨by rw[Zd];omega,Ze () hja rfl trivial⟩
  ·have:j=b.inner.length:=by omega
   subst this
   have hpw:UL F b.inner b.inner.length=(Dw b F e (VG o)).inner:=by simp [UL,Dw,ZbP]
   rw[hpw]
   exact⟨by simp [Dw],by simp [Dw],rfl⟩
theorem U8(b:TBigraph)(e:Int)(o:List ByteArray)(tf:FuncId)(cs:List (List Tr))(T:Int×ByteArray->Int×ByteArray)(he0:0<=b.edges)(hbd:Zr 4294967290 b)(hb:b.edges<=4294967296)(he:0<=e/\e<=4294967296)(ho:o.length<=4294967290)
  (hln:∀ x∈b.nodes,∀ l∈x.links,ZQ b l) (hlw:∀ w∈b.inner,ZQ b w.link) (hT:∀ l,ZQ b l->∀ lvl S,Sem Proofs.Tryz.prog tf lvl (oE (ZfJ b l)::cs.map IV.ta) S (oE (T (ZfJ b l))) S)
  (lvl:Nat) (S:Sto):Sem Proofs.Tryz.prog Zx lvl [.ag ((Zb b).map .tr),iI e,.tr (.sl (rS o)),.fn tf (cs.map IV.ta)] S (Zh (Dw b (ZdB b e (VG o) T) e (VG o))) S :=
 ZdE b e o tf (cs.map IV.ta) (fun _=>none) T he0 hbd hb he ho hln hlw (fun l hl l' S' _=>hT l hl l' S') lvl S ZuX
end Go.Fd

/-
  A NAME BECOMES AN EDGE, AN EDGE A NAME: THE PROGRAM'S SIDE. Own work.
-/
namespace Go.Fd
set_option maxRecDepth 20000
theorem ZyD:ZE Proofs.Tryz.prog ZY (Zpg 1 none)=true:=by kernel_rfl
theorem ZgE(l:List ByteArray)(hl:l.length<=4294967290)(f:ByteArray->Bool){fe:FuncId}{cs:List (List Tr)}(hf:∀ x lvl S,Sem Proofs.Tryz.prog fe lvl (iS x::cs.map IV.ta) S (iB (f x)) S)(lvl:Nat)(S:Sto)(id:Oid)(u:Bool)(hw ver:Nat)(hid:id.1<lvl)(hS:S id=some (.ar 1 (rS l) u hw ver)) :
  ∃ v2,Sem Proofs.Tryz.prog Jm lvl [.hd id [] 0 l.length none hw,.fn fe (cs.map IV.ta)] S (.hd id [] 0 (l.filter fun n=>!f n).length none hw) (ZN S id (.ar 1 (rS (l.filter fun n=>!f n)) u hw v2)):=by
 have hne:id.1≠lvl:=by omega
 have hix:=ZmJ (P:=Proofs.Tryz.prog) ZyD (t:=fun n:ByteArray=>ts n) (f:=f) (fe:=fe) (cs:=cs) l (by omega) (fun x _ lvl S=>hf x lvl S)
 rcases Zjd (f:=f) (l:=l) (j:=0) with ⟨h1,h2⟩ | ⟨i0,h,h1,h2,h3⟩
 ·refine⟨ver,?_⟩
  rw[ZhM h2,Qs hS]
  refine Zc YD hid ?_
  simp only[Jy,ZaJ,Yn,ZS hne,hS,EVA,seval,Zf,men]
  rw[show cut (rS l) 0 l.length=rS l from JA (by rw[List.length_map])]
  refine Za hix ?_
  simp only[h1,Zf9 hne,EVA,seval,Zf,men]
 ·refine⟨ver+1,?_⟩
  rw[Int.zero_add] at h1
  refine Zc YD hid ?_
  simp only[Jy,ZaJ,Yn,ZS hne,hS,EVA,seval,Zf,men]
  rw[show cut (rS l) 0 l.length=rS l from JA (by rw[List.length_map])]
  refine Za hix ?_
  have hm1:¬ (i0:Int) = -1:=by omega
  simp only[h1,hm1,EVA,seval,Zf,men]
  refine⟨by rw[Zd];omega,?_⟩
  have f0:(l.take i0).filter (fun n=>!f n)=l.take i0:=ZhM h2
  have f1:(l.take (i0+1)).filter (fun n=>!f n)=l.take i0:=by rw[Zgw h,f0,if_pos h3,List.append_nil]
  refine Jp (α:=Nat×List ByteArray) l.length (fun m x=>⟨lvl,[(0,.hd id [] 0 l.length none hw),(1,.fn fe (cs.map IV.ta)),(5,iI (x.1:Int)),(6,iI ((i0+1+m:Nat):Int))],[],ZN S id (.ar 1 (rS x.2) u hw ver)⟩) (fun m x=>i0+1+m<=l.length/\x.2.length=l.length/\x.1=((l.take (i0+1+m)).filter fun n=>!f n).length/\x.2.take x.1=(l.take (i0+1+m)).filter (fun n=>!f n)/\x.1<=i0+m/\∀ q,i0+1+m<=q->gS x.2 q=gS l q) (i0,l) ⟨by simp only[YN hne,YV,EVA,seval,Zf,men],by (simp only[Qs hS,EVA,seval,Zf,men]) <;> rfl⟩ ⟨by omega,rfl,by rw[Nat.add_zero,f1,List.length_take];omega,by rw[Nat.add_zero,f1],by omega,fun _ _=>rfl⟩ ?_
  intro m ⟨i,y⟩ hm ⟨hm1,hy,hi,ht,hle,hq⟩
  dsimp only at hy hi ht hle hq
  simp only[EVA,seval,Zf,men]
  refine Zk (fun hlt2=>?_) (fun hge2=>?_)
  ·have b1:i0+1+m<l.length:=by omega
   have gy:=ZfI (e0:=e0S) (c:=fun n:ByteArray=>[ts n]) (l:=y) (i:=i0+1+m) (by omega)
   have q1:=hq (i0+1+m) (by omega)
   have b4:i<l.length:=by omega
   have e0:gS l (i0+1+m)=l[i0+1+m]:=US b1
   have fs:=Zgw (f:=f) b1
   simp only[ZS hne,Xc,gy,q1,b1,YN hne,ZaJ,Yn,Nat.zero_add,EVA,seval,Zf,men]
   refine Za (hf (gS l (i0+1+m))) ?_
   rw[<-e0] at fs
   cases hx:f (gS l (i0+1+m)) with
   | true =>
    rw[if_pos hx,List.append_nil] at fs
    simp only[hx,YN hne,YV,EVA,seval,Zf,men]
    exact⟨by rw[Zd];omega,Ze (i,y) (by omega) rfl ⟨by omega,hy,by rw[show i0+1+(m+1)=i0+1+m+1 from rfl,fs];exact hi,by rw[show i0+1+(m+1)=i0+1+m+1 from rfl,fs];exact ht,by show i<=i0+(m+1);omega,fun q hqq=>hq q (by omega)⟩⟩
   | false =>
    rw[if_neg (by rw[hx];decide)] at fs
    have s1:=ZrX (y:=y) (j:=i) (v:=gS l (i0+1+m)) (by omega)
    have gy0:=ZfI (e0:=e0S) (c:=fun n:ByteArray=>[ts n]) (l:=y) (i:=i) (by omega)
    simp only[ZS hne,Wl hne,Wa,Xc,gy,gy0,q1,b1,b4,s1,hx,Nat.zero_add,YN hne,YV,EVA,seval,Zf,men]
    exact⟨by rw[Zd];omega,by rw[Zd];omega,Ze (i+1,y.set i (gS l (i0+1+m))) (by omega) rfl ⟨by omega,by rw[List.length_set];exact hy,by rw[show i0+1+(m+1)=i0+1+m+1 from rfl,fs,List.length_append,<-hi];rfl,by rw[Zdz (by omega),ht,show i0+1+(m+1)=i0+1+m+1 from rfl,fs],by show i+1<=i0+(m+1);omega,fun q hqq=>by
     show gx e0S (y.set i (gS l (i0+1+m))) q=_
     rw[ZmN (by omega),if_neg (by omega)]
     exact hq q (by omega)⟩⟩
  ·have en:i0+1+m=l.length:=by omega
   rw[en,List.take_length] at hi ht
   refine⟨by omega,Zyr hne (Xc ..),?_⟩
   have tk:(rS y).take i=rS (l.filter fun n=>!f n):=by rw[<-ht];exact(List.map_take ..).symm
   simp only[ZS hne,Wl hne,Wa,Xc,tk,List.length_map,hy,EVA,seval,Zf,men]
   refine⟨by omega,by omega,by omega,by omega,Zyr hne (Xc ..),?_⟩
   simp only[Zf9 hne,Nat.sub_zero,hi,EVA,seval,Zf,men]
theorem Zet(x s:ByteArray)(lvl:Nat)(S:Sto):Sem Proofs.Tryz.prog Ym lvl [iS x,.ta [ts s]] S (iB (decide (x=s))) S:=by
 refine Zc ZbY trivial ?_
 simp only[W0,EVA,seval,Zf,men]
theorem ZgF(o:List ByteArray)(s:ByteArray)(ho:o.length<=4294967290)(lvl:Nat)(S:Sto):Sem Proofs.Tryz.prog Qi lvl [.tr (.sl (rS o)),iS s] S (.ow 1 (rS (Q5 o s)) true) S:=by
 refine Zc Zdu trivial ?_
 simp only[U5,EVA,seval,Zf,men]
 refine Za (ZbO o (by omega)) ?_
 simp only[EVA,seval,Zf,men]
 have h1:=fun S' hS=>ZgE o ho (fun n=>decide (n=s)) (fe:=Ym) (cs:=[[ts s]]) (fun n lvl S=>Zet n s lvl S) (lvl+1) S' (lvl,192) true o.length 0 (Nat.lt_succ_self _) hS
 refine ZmM 192 _ (h1 _ ?_) fun v=>?_
 ·rw[J5];rfl
 simp only[List.length_map,EVA,seval,Zf,men]
 rfl
theorem Zfm(b:TBigraph)(s:ByteArray)(e:Int×ByteArray)(lvl:Nat)(S:Sto):Sem Proofs.Tryz.prog Ji lvl [oE e,.ta [ts s],.ta (Zb b)] S (oE (ZhQ b s e)) S:=by
 refine Zc UG (by simp [low,men,Zf]) ?_
 simp only[VS,Zb,EVA,seval,Zf,men]
 unfold ZhQ
 by_cases h:e.2=s
 ·rw[if_pos h]
  simp only[h,EVA,seval,Zf,men]
  try rfl
 ·rw[if_neg h]
  simp only[h,EVA,seval,Zf,men]
  try rfl
theorem ZdF(sig:List TControl)(b:TBigraph)(hn:sig.length<=4294967296)(hbs:∀ y∈sig,Zq 4294967296 y)(hb:Zr 4294967290 b)(hf:ZB b)(lvl:Nat)(S:Sto):Sem Proofs.Tryz.prog Vv lvl [.tr (.sl (sig.map Zj)),.ag ((Zb b).map .tr)] S (.tu [Zh (@ite TBigraph (bigOK sig b) (Classical.propDecidable _) b ⟨0,[],[],0,[],[]⟩),iB (dc (bigOK sig b))]) S:=by
 have hb2:Zr 4294967296 b:=by
  obtain⟨b1,b2,b3,b4,b5,b6,b7⟩:=hb
  exact⟨by omega,fun y hy=>Nat.le_trans (b2 y hy) (by omega),by omega,by omega,fun y hy=>Nat.le_trans (b5 y hy) (by omega),by omega,fun y hy=>Nat.le_trans (b7 y hy) (by omega)⟩
 refine Zc Zkj (by simp [Zh,low,men,Zf]) ?_
 simp only[Ze2,Zb,EVA,seval,Zf,men]
 refine Za (Jz sig b hn hbs hb2) ?_
 cases h:dc (bigOK sig b)
 ·rw[if_neg (dc_not.1 h)]
  simp only[EVA,seval,Zf,men]
  try rfl
 ·rw[if_pos (dc_iff.1 h)]
  simp only[Zb,EVA,seval,Zf,men]
  refine Za (Wq b hb) ?_
  simp only[Zh,Zb,List.length_map,EVA,seval,Zf,men]
  try rfl
end Go.Fd

/-
  A NAME BECOMES AN EDGE: BOTH SIDES. Own work.
-/
namespace Go.Fd
set_option maxRecDepth 20000
theorem ZnN{n:Nat}{k:Nat}(h:k<n):g0 (JI 0 n) k = -1-(k:Int):=by
 show (JI 0 n).getD k 0=_
 rw[List.getD_eq_getElem?_getD,JI,List.getElem?_map,List.getElem?_range h]
 simp
theorem Zjf{b:TBigraph}{n:Nat}(hn:b.roots=n){p:Int}(h:-b.roots<=p):Zes 0 (JI 0 n) p=p:=by
 unfold Zes
 split
 ·rw[ZnN (by omega)];omega
 ·omega
theorem Jq{sig:List TControl}{b:TBigraph}{p below:Int}(hr:0<=b.roots)(h:Ua sig b p below):-b.roots<=p:=by
 rcases h with h | h <;> omega
theorem ZkB(sig:List TControl)(b:TBigraph)(h:bigOK sig b)(ls:List Int)(e:Int)(o:List ByteArray)(hb:Zr 4294967296 b)(hls:∀ l,ZQ b l->l<ls.length)(ho:o.length<=4294967290)(lvl:Nat)(S:Sto):Sem Proofs.Tryz.prog Wd lvl [.ag ((Zb b).map .tr),tI ls,iI e,.tr (.sl (rS o))] S (Zh (Dw b (fun l=>g0 ls l.toNat) e o)) S:=by
 obtain⟨n,hn⟩:∃ n:Nat,b.roots=n:=⟨b.roots.toNat,by have:=h.roots;omega⟩
 have hr:=h.roots
 have hsm:=h.small
 have hpar:∀ p,-b.roots<=p->p<=100->(-4294967296<=p/\p<=4294967296)/\(p<0->(-1-p).toNat<(JI 0 n).length):=fun p h1 h2=>⟨by omega,fun h3=>by rw[rootsN_len];omega⟩
 have hN:∀ x∈b.nodes,x.links.length<=4294967290/\((-4294967296<=x.parent/\x.parent<=4294967296)/\(x.parent<0->(-1-x.parent).toNat<(JI 0 n).length))/\∀ l∈x.links,0<=l/\l<ls.length:=fun x hx=>by
  obtain⟨k,hk,rfl⟩:=List.getElem_of_mem hx
  have hnode:=h.nodes k hk
  have hl:=hsm.links _ hx
  have hnl:=h.nodesL
  refine⟨by omega,hpar _ (Jq hr.1 hnode.par) ?_,fun l hl=>⟨(hnode.links l hl).1,hls l (hnode.links l hl)⟩⟩
  have:=hnode.par
  unfold Ua at this
  omega
 have hP:∀ p∈b.sites,(-4294967296<=p/\p<=4294967296)/\(p<0->(-1-p).toNat<(JI 0 n).length):=fun p hp=>by
  have hu:=h.sites p hp
  have hnl:=h.nodesL
  refine hpar _ (Jq hr.1 hu) ?_
  unfold Ua at hu
  omega
 have hW:∀ w∈b.inner,0<=w.link/\w.link<ls.length:=fun w hw=>⟨(h.inner w hw).1,hls _ (h.inner w hw)⟩
 have e1:b.nodes.map (Zgx 0 (JI 0 n) ls)=(Dw b (fun l=>g0 ls l.toNat) e o).nodes:=by
  unfold Dw
  refine List.map_congr_left fun x hx=>?_
  obtain⟨k,hk,rfl⟩:=List.getElem_of_mem hx
  unfold Zgx
  rw[Zjf hn (Jq hr.1 (h.nodes k hk).par)]
 have e2:b.sites.map (Zes 0 (JI 0 n))=b.sites:=by
  have:b.sites.map (Zes 0 (JI 0 n))=b.sites.map id:=List.map_congr_left fun p hp=>Zjf hn (Jq hr.1 (h.sites p hp))
  rw[this,List.map_id]
 have s1:=hsm.nodes;have s2:=hsm.sites;have s3:=hsm.inner
 refine Zc Zgk (by simp [Zh,low,men,Zf]) ?_
 simp only[Zbj,Zb,hn,EVA,seval,Zf,men]
 refine Za (Zat 0 n (by omega) (by omega)) ?_
 simp only[EVA,seval,Zf,men]
 have q1:=UK b 0 (JI 0 n) ls (by omega) (by omega) hN
 rw[e1] at q1
 simp only[Zb,hn,List.map_cons,List.map_nil] at q1
 refine Za q1 ?_
 simp only[List.length_map,EVA,seval,Zf,men]
 have q2:=Wg b 0 (JI 0 n) (by omega) (by omega) hP
 rw[e2] at q2
 simp only[Zb,hn,List.map_cons,List.map_nil] at q2
 refine Za q2 ?_
 simp only[ZpB,ZpC,List.length_map,EVA,seval,Zf,men]
 refine⟨by omega,?_⟩
 have q3:=Zau b ls (by omega) hW
 rw[show b.inner.map (Zkx ls)=(Dw b (fun l=>g0 ls l.toNat) e o).inner from rfl] at q3
 simp only[Zb,hn,List.map_cons,List.map_nil] at q3
 refine Za q3 ?_
 simp only[List.length_map,EVA,seval]
 rw[<-hn]
 rfl
def J7:TBigraph:=⟨0,[],[],0,[],[]⟩
theorem Ze8(sig:List TControl)(b:TBigraph)(hn:sig.length<=4294967296)(hbs:∀ y∈sig,Zq 4294967296 y)(hb:Zr 4294967296 b)(hf:ZB b)(hG:bigOK sig b)(lvl:Nat)(S:Sto):Sem Proofs.Tryz.prog VM lvl [.tr (.sl (sig.map Zj)),.ag ((Zb b).map .tr)] S (.tu [.ag ((Zb b).map .tr),iB true]) S:=by
 refine Zc Zdq (by simp [Zb,low,men,Zf]) ?_
 simp only[Zap,Zb,EVA,seval,Zf,men]
 refine Za (We sig b hn hbs hb hf) ?_
 rw[Zy hG]
 simp only[EVA,seval]
theorem Ze9(sig:List TControl)(b:TBigraph)(hn:sig.length<=4294967296)(hbs:∀ y∈sig,Zq 4294967296 y)(hb:Zr 4294967296 b)(hf:ZB b)(hG:¬ bigOK sig b)(lvl:Nat)(S:Sto):Sem Proofs.Tryz.prog VM lvl [.tr (.sl (sig.map Zj)),.ag ((Zb b).map .tr)] S (.tu [Zh J7,iB false]) S:=by
 refine Zc Zdq (by simp [Zh,low,men,Zf]) ?_
 simp only[Zap,Zb,EVA,seval,Zf,men]
 refine Za (We sig b hn hbs hb hf) ?_
 rw[Zg hG]
 simp only[EVA,seval]
 rfl
def Q6(sig:List TControl)(b:TBigraph)(s:ByteArray):Prop:=bigOK sig b/\s∈b.outer/\bigOK sig (XW b s)
theorem ZnO{b:TBigraph}{s:ByteArray}(h:0<=b.edges):((DN b s).length:Int)=b.edges+b.outer.length:=by
 unfold DN ZmS
 rw[List.length_append,List.length_map,List.length_map,J4]
 omega
theorem ZnP{sig:List TControl}{b:TBigraph}{s:ByteArray}(h:bigOK sig b){l:Int}(hl:ZQ b l):0<=g0 (DN b s) l.toNat/\g0 (DN b s) l.toNat<=100:=by
 have he:=h.edges
 have ho:=h.outer.2
 unfold DN
 rcases Yd hl with ⟨h0,h1⟩ | ⟨i,hi,rfl⟩
 ·rw[Zcr h0 h1];omega
 ·rw[Zcs h.edges.1 hi]
  split
  ·omega
  ·rename_i hne
   have h1:b.outer[i]∈Q5 b.outer s:=lessN_mem.2 ⟨List.getElem_mem hi,hne⟩
   have:=ixS_nn.2 h1
   have:=ZmR h1
   have:(Q5 b.outer s).length<=b.outer.length:=List.length_filter_le ..
   omega
theorem ZlK{sig:List TControl}{b:TBigraph}(h:bigOK sig b){F:Int->Int}{e:Int}{o:List ByteArray}(hb:Zr 4294967296 b)(ho:o.length<=100)(hos:∀ y∈o,y.size<=4294967290):Zr 4294967290 (Dw b F e o):=by
 obtain⟨b1,b2,b3,b4,b5,b6,b7⟩:=hb
 have hs:=h.small
 have s1:=hs.nodes;have s2:=hs.sites;have s3:=hs.inner
 refine⟨by simp only[Dw,List.length_map];omega,fun y hy=>?_,by simp only[Dw];omega,by simp only[Dw];omega,hos,by simp only[Dw,List.length_map];omega,fun y hy=>?_⟩
 ·obtain⟨x,hx,rfl⟩:=List.mem_map.1 hy
  have:=hs.links x hx
  simp only[Zj9,List.length_map]
  omega
 ·obtain⟨w,hw,rfl⟩:=List.mem_map.1 hy
  have hn:w.name∈inn b:=List.mem_map.2 ⟨w,hw,rfl⟩
  obtain⟨i,hi,hie⟩:=List.getElem_of_mem hn
  have:=(h.inn.1 i hi).1.2.2
  rw[hie] at this
  simp only[ZeR]
  omega
theorem ZpG{sig:List TControl}{b:TBigraph}(h:bigOK sig b){F:Int->Int}{e:Int}{o:List ByteArray}(hf:ZB b)(hF:∀ l,ZQ b l->0<=F l/\F l<=100)(he:X3 .i64 e):ZB (Dw b F e o):=by
 obtain⟨f1,f2,f3,f4,f5⟩:=hf
 refine⟨f1,fun y hy=>?_,f3,he,fun y hy=>?_⟩
 ·obtain⟨x,hx,rfl⟩:=List.mem_map.1 hy
  have hq:=f2 x hx
  obtain⟨i,hi,hie⟩:=List.getElem_of_mem hx
  refine⟨hq.1,hq.2.1,fun l hl=>?_⟩
  obtain⟨l0,hl0,rfl⟩:=List.mem_map.1 hl
  have:=hF l0 ((h.nodes i hi).links l0 (by rw[hie];exact hl0))
  rw[Zd];omega
 ·obtain⟨w,hw,rfl⟩:=List.mem_map.1 hy
  have:=hF _ (h.inner w hw)
  show X3 .i64 (F w.link)
  rw[Zd];omega
theorem Ys{l:List ByteArray}(h:VW l){s:ByteArray}(hs:s∈l):s.size<=4:=by
 obtain⟨i,hi,rfl⟩:=List.getElem_of_mem hs
 exact(h.1 i hi).1.2.2
theorem Zjg{sig:List TControl}{b:TBigraph}{s:ByteArray}(h:bigOK sig b)(hb:Zr 4294967296 b):Zr 4294967290 (XW b s) :=
 ZlK h hb (Nat.le_trans (List.length_filter_le ..) (by have:=h.outer.2;omega)) fun y hy=>by
  have:=Ys h.outer (lessN_mem.1 hy).1
  omega
theorem Zjh{sig:List TControl}{b:TBigraph}{s:ByteArray}(h:bigOK sig b)(hf:ZB b):ZB (XW b s) :=
 ZpG h hf (fun l hl=>ZnP h hl) (by have:=h.edges;rw[Zd];omega)
end Go.Fd

/-
  A NAME BECOMES AN EDGE: BOTH ANSWERS. Own work.
-/
namespace Go.Fd
set_option maxRecDepth 20000
open Classical in
noncomputable def J8(sig:List TControl)(b:TBigraph)(s:ByteArray):TBigraph:=if Q6 sig b s then XW b s else J7
noncomputable def J9(sig:List TControl)(b:TBigraph)(s:ByteArray):Bool:=dc (Q6 sig b s)
theorem Q7{a c:Nat}{b:TBigraph}(h:a<=c)(hb:Zr a b):Zr c b:=by
 obtain⟨b1,b2,b3,b4,b5,b6,b7⟩:=hb
 exact⟨by omega,fun y hy=>Nat.le_trans (b2 y hy) h,by omega,by omega,fun y hy=>Nat.le_trans (b5 y hy) h,by omega,fun y hy=>Nat.le_trans (b7 y hy) h⟩
theorem XX{sig:List TControl}{b:TBigraph}(h:bigOK sig b):Zr 1000 b:=by
 have hs:=h.small
 have s1:=hs.nodes;have s2:=hs.sites;have s3:=hs.inner;have s4:=hs.outer
 refine⟨by omega,fun y hy=>hs.links y hy,by omega,by omega,fun y hy=>?_,by omega,fun w hw=>?_⟩
 ·have:=Ys h.outer hy;omega
 ·have hn:w.name∈inn b:=List.mem_map.2 ⟨w,hw,rfl⟩
  have:=Ys h.inn hn
  simp only[ZeR]
  omega
theorem Zhk(sig:List TControl)(b:TBigraph)(s:ByteArray)(h:bigOK sig b)(hs:s∈b.outer)(lvl:Nat)(S:Sto):Sem Proofs.Tryz.prog Yk lvl [.ag ((Zb b).map .tr),iS s] S (Zh (XW b s)) S:=by
 have hsm:=h.small
 have s4:=hsm.outer
 have he:=h.edges
 have hle:(Q5 b.outer s).length<=16:=Nat.le_trans (List.length_filter_le ..) s4
 refine Zc Dp (by simp [Zh,low,men,Zf]) ?_
 simp only[QC,Zb,EVA,seval,Zf,men]
 refine⟨by rw[Zd];omega,?_⟩
 refine Za (ZgF b.outer s (by omega)) ?_
 simp only[EVA,seval,Zf,men]
 have q:=U8 b (b.edges+1) (Q5 b.outer s) Ji [[ts s],Zb b] (ZhQ b s) he.1 (Q7 (by omega) (XX h)) (by omega) (by omega) (by omega) (fun x hx l hl=>by
  obtain⟨k,hk,rfl⟩:=List.getElem_of_mem hx
  exact(h.nodes k hk).links l hl) h.inner (fun l hl lvl S=>Zfm b s (ZfJ b l) lvl S)
 rw[Zr3 h hs] at q
 simp only[Zb,List.map_cons,List.map_nil] at q
 refine Za q ?_
 simp only[Zh,List.length_map,EVA,seval]
theorem ZdG(sig:List TControl)(b:TBigraph)(s:ByteArray)(hn:sig.length<=4294967296)(hbs:∀ y∈sig,Zq 4294967296 y)(hb:Zr 4294967296 b)(_hs:s.size<=4294967296)(hf:ZB b)(lvl:Nat)(S:Sto):Sem Proofs.Tryz.prog XF lvl [.tr (.sl (sig.map Zj)),.ag ((Zb b).map .tr),iS s] S (.tu [Zh (J8 sig b s),iB (J9 sig b s)]) S:=by
 refine Zc Zfi (by simp [Zh,low,men,Zf]) ?_
 simp only[ZaG,Zb,EVA,seval,Zf,men]
 refine Za (Jz sig b hn hbs hb) ?_
 unfold J8 J9
 cases h1:dc (bigOK sig b)
 ·have hno:¬ Q6 sig b s:=fun g=>dc_not.1 h1 g.1
  rw[if_neg hno,Zg hno]
  simp only[EVA,seval]
  rfl
 have hG:=dc_iff.1 h1
 simp only[EVA,seval,Zf,men]
 refine Za (Zav b.outer s (by have:=hb.2.2.2.1;omega)) ?_
 cases h2:dc (s∈b.outer)
 ·have hno:¬ Q6 sig b s:=fun g=>dc_not.1 h2 g.2.1
  rw[if_neg hno,Zg hno]
  simp only[EVA,seval]
  rfl
 have hM:=dc_iff.1 h2
 simp only[EVA,seval,Zf,men]
 have q:=Zhk sig b s hG hM
 simp only[Zb,List.map_cons,List.map_nil] at q
 refine Za q ?_
 simp only[Zh,EVA,seval,Zf,men]
 have qv:=ZdF sig (XW b s) hn hbs (Zjg hG hb) (Zjh hG hf)
 simp only[Zb,List.map_cons,List.map_nil] at qv
 refine Za qv ?_
 cases h3:dc (bigOK sig (XW b s))
 ·have hno:¬ Q6 sig b s:=fun g=>dc_not.1 h3 g.2.2
  rw[if_neg hno,Zg hno,if_neg (dc_not.1 h3)]
  simp only[Zh,EVA,seval]
  rfl
 ·have hyes:Q6 sig b s:=⟨hG,hM,dc_iff.1 h3⟩
  rw[if_pos hyes,Zy hyes,if_pos (dc_iff.1 h3)]
  simp only[Zh,List.length_map,EVA,seval]
theorem ZhS{n:Nat}:UT 0 n=(Xj n).map fun l=>l:=by simp [UT,Xj]
theorem ZuY{o:List ByteArray}{s:ByteArray}(hp:o.Pairwise ltS)(hs:s∈o){j:Nat}(h:j<o.length):(j:Int)=ixS o s↔o[j]=s:=by
 obtain⟨k,hk,rfl⟩:=List.getElem_of_mem hs
 rw[Zyz hp hk]
 constructor
 ·intro e
  have:j=k:=by omega
  subst this;rfl
 ·intro e
  have:=Zyy hp h hk e
  omega
def ZnQ(b:TBigraph)(g:ByteArray->Int)(j:Nat):List Int:=(Xj b.edges.toNat).map (fun l=>l)++(b.outer.take j).map g
theorem Zr5{b:TBigraph}{g:ByteArray->Int}{j:Nat}(h:j<=b.outer.length):(ZnQ b g j).length=b.edges.toNat+j:=by
 unfold ZnQ
 rw[List.length_append,List.length_map,List.length_map,J4,List.length_take]
 omega
theorem ZpH{b:TBigraph}{g:ByteArray->Int}{j:Nat}(h:j<b.outer.length):ZnQ b g (j+1)=ZnQ b g j++[g b.outer[j]]:=by
 unfold ZnQ
 rw[List.take_succ_eq_append_getElem h,List.map_append,List.append_assoc]
 rfl
theorem Zhl(sig:List TControl)(b:TBigraph)(s:ByteArray)(hn:sig.length<=4294967296)(hbs:∀ y∈sig,Zq 4294967296 y)(hb:Zr 4294967296 b)(hf:ZB b)(hno:¬ (bigOK sig b/\s∈b.outer))(lvl:Nat)(S:Sto):Sem Proofs.Tryz.prog JP lvl [.tr (.sl (sig.map Zj)),.ag ((Zb b).map .tr),iS s] S (.tu [Zh J7,iB false]) S:=by
 refine Zc ZaH (by simp [Zh,low,men,Zf]) ?_
 simp only[WT,Zb,EVA,seval,Zf,men]
 refine Za (Zas b.outer s (by have:=hb.2.2.2.1;omega)) ?_
 simp only[EVA,seval,Zf,men]
 refine Za (We sig b hn hbs hb hf) ?_
 cases h1:dc (bigOK sig b)
 ·simp only[EVA,seval]
  rfl
 have hG:=dc_iff.1 h1
 have hm:s ∉ b.outer:=fun g=>hno ⟨hG,g⟩
 have e:=ZmQ hm
 simp only[e,EVA,seval]
 rfl
theorem DO(sig:List TControl)(b:TBigraph)(s:ByteArray)(hn:sig.length<=4294967296)(hbs:∀ y∈sig,Zq 4294967296 y)(hb:Zr 4294967296 b)(hf:ZB b)(hG:bigOK sig b)(hM:s∈b.outer)
  (lvl:Nat) (S:Sto):Sem Proofs.Tryz.prog JP lvl [.tr (.sl (sig.map Zj)),.ag ((Zb b).map .tr),iS s] S (.tu [@ite IV (bigOK sig (XW b s)) (Classical.propDecidable _) (.ag ((Zb (XW b s)).map .tr)) (Zh J7),iB (dc (bigOK sig (XW b s)))]) S:=by
 have hsm:=hG.small
 have s4:=hsm.outer
 have he:=hG.edges
 have hp:=Zje hG.outer
 have hix:=ixS_nn.2 hM
 have hle:(Q5 b.outer s).length<=16:=Nat.le_trans (List.length_filter_le ..) s4
 refine Zc ZaH (by split <;> simp [Zh,Zb,low,men,Zf]) ?_
 simp only[WT,Zb,EVA,seval,Zf,men]
 refine Za (Zas b.outer s (by omega)) ?_
 simp only[EVA,seval,Zf,men]
 refine Za (We sig b hn hbs hb hf) ?_
 rw[Zy hG]
 have hnl:¬ ixS b.outer s<0:=by omega
 simp only[hnl,EVA,seval,Zf,men]
 refine Za (ZnL b.outer s (by omega)) ?_
 simp only[EVA,seval,Zf,men]
 obtain⟨n,hn2⟩:∃ n:Nat,b.edges=n:=⟨b.edges.toNat,by omega⟩
 have qE:=UJ 0 n (by omega) (by omega)
 obtain⟨g,hg⟩:∃ g:ByteArray->Int,g=fun x=>if x=s then b.edges else b.edges+1+ixS (Q5 b.outer s) x:=⟨_,rfl⟩
 have e0:UT 0 n=ZnQ b g 0:=by
  unfold ZnQ
  rw[ZhS,show b.edges.toNat=n from by omega]
  simp
 rw[<-hn2,e0] at qE
 refine Za qE ?_
 simp only[List.length_map,EVA,seval]
 refine Zv (α:=Unit) b.outer.length (fun j _=>[(10,.hd (lvl,992) [] 0 (ZnQ b g j).length none (ZnQ b g j).length),(11,iI j)]) (fun j _=>[(992,.ar 1 (rI (ZnQ b g j)) true (ZnQ b g j).length 0)]) (fun _ _=>True) () (by simp only[EVA,seval]) (by (simp only[EVA,seval]) <;> rfl) trivial ?_
 intro j _ hj _
 simp only[List.length_map,EVA,seval,Zf,men]
 refine Zk (fun hlt=>?_) (fun hge=>?_)
 ·have hja:j<b.outer.length:=by omega
  have ga:=ZfI (e0:=e0S) (c:=fun n:ByteArray=>[ts n]) hja
  rw[US hja] at ga
  have htl:=Zr5 (b:=b) (g:=g) hj
  have hs:=ZpH (b:=b) (g:=g) hja
  have hiff:=ZuY hp hM hja
  by_cases hx:b.outer[j]=s
  ·have hx2:=hiff.2 hx
   have hgx:g b.outer[j]=b.edges:=by rw[hg];simp [hx]
   rw[hgx] at hs
   have hx3:ixS b.outer s=(j:Int):=hx2.symm
   simp only[hx3,seval]
   exact⟨by omega,by rw[Zd];omega,Ze () hja (by rw[hs,List.length_append,Y7];rfl) trivial⟩
  ·have hx3:¬ (j:Int)=ixS b.outer s:=fun e=>hx (hiff.1 e)
   have hgx:g b.outer[j]=b.edges+1+ixS (Q5 b.outer s) b.outer[j]:=by rw[hg];simp [hx]
   rw[hgx] at hs
   have hm:b.outer[j]∈Q5 b.outer s:=lessN_mem.2 ⟨List.getElem_mem hja,hx⟩
   have:=ixS_nn.2 hm
   have:=ZmR hm
   simp only[hx3,ga,EVA,seval,Zf,men]
   refine⟨by rw[Zd];omega,?_⟩
   refine Za (Zas (Q5 b.outer s) b.outer[j] (by omega)) ?_
   simp only[List.length_map,EVA,seval]
   have:(Q5 b.outer s).length<=16:=hle
   exact⟨by rw[Zd];omega,by omega,by rw[Zd];omega,Ze () hja (by rw[hs,List.length_append,Y7];rfl) trivial⟩
 ·have:j=b.outer.length:=by omega
  subst this
  have hfin:ZnQ b g b.outer.length=DN b s:=by rw[hg,ZnQ,List.take_length];rfl
  rw[hfin]
  refine⟨by rw[Zd];omega,?_⟩
  rw[show cut (rI (DN b s)) 0 (DN b s).length=rI (DN b s) from JA (by rw[List.length_map])]
  have qR:=ZkB sig b hG (DN b s) (b.edges+1) (Q5 b.outer s) hb (fun l hl=>by rw[ZnO he.1];have:=hl.2;omega) (by omega)
  rw[show Dw b (fun l=>g0 (DN b s) l.toNat) (b.edges+1) (Q5 b.outer s)=XW b s from rfl] at qR
  simp only[Zb,List.map_cons,List.map_nil] at qR
  refine Za qR ?_
  simp only[Zh,EVA,seval,Zf,men]
  by_cases hq:bigOK sig (XW b s)
  ·have qG:=Ze8 sig (XW b s) hn hbs (Q7 (by omega) (Zjg hG hb)) (Zjh hG hf) hq
   simp only[Zb,List.map_cons,List.map_nil] at qG
   rw[if_pos hq,Zy hq]
   refine Za qG ?_
   simp only[EVA,seval]
  ·have qG:=Ze9 sig (XW b s) hn hbs (Q7 (by omega) (Zjg hG hb)) (Zjh hG hf) hq
   simp only[Zb,List.map_cons,List.map_nil] at qG
   rw[if_neg hq,Zg hq]
   refine Za qG ?_
   simp only[Zh,List.length_map,EVA,seval]
   try rfl
theorem ZbZ(sig:List TControl)(b:TBigraph)(s:ByteArray)(hn:sig.length<=4294967296)(hbs:∀ y∈sig,Zq 4294967296 y)(hb:Zr 4294967296 b)(_hs:s.size<=4294967296)(hf:ZB b)(hB:Q6 sig b s)(lvl:Nat)(S:Sto):Sem Proofs.Tryz.prog JP lvl [.tr (.sl (sig.map Zj)),.ag ((Zb b).map .tr),iS s] S (.tu [.ag ((Zb (J8 sig b s)).map .tr),iB (J9 sig b s)]) S:=by
 have h:=DO sig b s hn hbs hb hf hB.1 hB.2.1 lvl S
 unfold J8 J9
 rw[if_pos hB,Zy hB]
 rw[if_pos hB.2.2,Zy hB.2.2] at h
 exact h
theorem Zb0(sig:List TControl)(b:TBigraph)(s:ByteArray)(hn:sig.length<=4294967296)(hbs:∀ y∈sig,Zq 4294967296 y)(hb:Zr 4294967296 b)(_hs:s.size<=4294967296)(hf:ZB b)(hB:¬ Q6 sig b s)(lvl:Nat)(S:Sto):Sem Proofs.Tryz.prog JP lvl [.tr (.sl (sig.map Zj)),.ag ((Zb b).map .tr),iS s] S (.tu [Zh (J8 sig b s),iB (J9 sig b s)]) S:=by
 unfold J8 J9
 rw[if_neg hB,Zg hB]
 by_cases hl:bigOK sig b/\s∈b.outer
 ·have h:=DO sig b s hn hbs hb hf hl.1 hl.2 lvl S
  have hq:¬ bigOK sig (XW b s):=fun g=>hB ⟨hl.1,hl.2,g⟩
  rw[if_neg hq,Zg hq] at h
  exact h
 ·exact Zhl sig b s hn hbs hb hf hl lvl S
end Go.Fd

/-
  TWO NAMES BECOME ONE: THE PROGRAM'S SIDE; A COPY BY NUMBERING ANEW. Own work.
-/
namespace Go.Fd
set_option maxRecDepth 20000
theorem Zji{n k:Nat}(h:k<n):g0 (Xj n) k=k:=by
 show (Xj n).getD k 0=_
 rw[List.getD_eq_getElem?_getD,Xj,List.getElem?_map,List.getElem?_range h]
 simp
theorem ZdH(p:Int)(n:Nat)(h:p<n)(lvl:Nat)(S:Sto):Sem Proofs.Tryz.prog Yj lvl [iI p,tI (Xj n)] S (iI p) S:=by
 refine Zc Zdc trivial ?_
 simp only[W7,EVA,seval]
 refine Zk (fun hlt=>?_) (fun hge=>?_)
 ·trivial
 ·obtain⟨k,rfl⟩:∃ k:Nat,p=k:=⟨p.toNat,by omega⟩
  have hk:k<(Xj n).length:=by rw[J4];omega
  have ga:=Jo hk
  rw[Zji (by omega)] at ga
  simp only[ga,EVA,seval]
  try rfl
theorem Zfa(b:TBigraph)(l:Int)(n:Nat)(hn:b.edges=n)(h:0<=l)(lvl:Nat)(S:Sto):Sem Proofs.Tryz.prog Wn lvl [.ag ((Zb b).map .tr),iI l,tI (Xj n)] S (iI l) S:=by
 refine Zc Zkg trivial ?_
 simp only[ZeZ,Zb,hn,EVA,seval]
 refine Zk (fun hlt=>?_) (fun hge=>?_)
 ·trivial
 ·obtain⟨k,rfl⟩:∃ k:Nat,l=k:=⟨l.toNat,by omega⟩
  have hk:k<(Xj n).length:=by rw[J4];omega
  have ga:=Jo hk
  rw[Zji (by omega)] at ga
  simp only[ga,EVA,seval]
  try rfl
def ZcE(l:List TNode)(j:Nat):Row:=(l.take j).map ZK++List.replicate (l.length-j) [tv 0,tv 0,Tr.sl []]
theorem ZuZ{l:List TNode}:List.replicate l.length [tv 0,tv 0,Tr.sl []]=ZcE l 0:=by simp [ZcE]
theorem Zu0{l:List TNode}:ZcE l l.length=l.map ZK:=by simp [ZcE]
theorem ZpI{l:List TNode}{j:Nat}(h:j<=l.length):(ZcE l j).length=l.length:=by simp [ZcE];omega
theorem ZpJ{l:List TNode}{j:Nat}(h:j<l.length):(ZcE l j)[j]? = some [tv 0,tv 0,Tr.sl []]:=by
 have:(((l.take j).map ZK)).length=j:=by rw[List.length_map,List.length_take];omega
 rw[ZcE,List.getElem?_append_right (by omega),this,List.getElem?_replicate]
 rw[if_pos (by omega)]
theorem ZpK{l:List TNode}{j:Nat}(h:j<l.length):(ZcE l j).set j (ZK l[j])=ZcE l (j+1):=by
 have e:(((l.take j).map ZK)).length=j:=by rw[List.length_map,List.length_take];omega
 rw[ZcE,List.set_append_right _ _ (by omega),e,Nat.sub_self]
 rw[show l.length-j=(l.length-(j+1))+1 by omega,List.replicate_succ,List.set_cons_zero,ZcE,List.take_succ_eq_append_getElem h,List.map_append,List.append_assoc]
 rfl
theorem Zjj{R:Row}{j k:Nat}{e:List Tr}{t:Tr}(h:R[j]? = some e):Vs R [] j k t=R.set j (e.set k t):=by
 simp only[Vs,h]
theorem Zjk{R:Row}{j:Nat}{e:List Tr}(h:j<R.length):(R.set j e)[j]? = some e:=List.getElem?_set_self h
theorem Zeu(b:TBigraph)(n E:Nat)(hn:b.nodes.length=n)(hE:b.edges=E)(hbd:Zr 4294967290 b)(hE2:E<=4294967290)(hp:∀ x∈b.nodes,x.parent<n/\∀ l∈x.links,0<=l)(hs:∀ p∈b.sites,p<n)(hw:∀ w∈b.inner,0<=w.link)(lvl:Nat)(S:Sto):Sem Proofs.Tryz.prog QY lvl [.ag ((Zb b).map .tr),tI (Xj n),tI (Xj E)] S (Zh b) S:=by
 refine Zc Zeh (by simp [Zh,low,men,Zf]) ?_
 simp only[DH,Zb,ZpB,ZpC,Nat.zero_max,List.length_map,EVA,seval]
 obtain⟨b1,b2,b3,b4,b5,b6,b7⟩:=hbd
 refine⟨by omega,by omega,?_⟩
 refine Zv (α:=Unit) b.nodes.length (fun j _=>[(8,iI j)]) (fun j _=>[(576,.ar 3 (ZcE b.nodes j) true b.nodes.length j)]) (fun _ _=>True) () (by simp only[EVA,seval]) (by (simp only[ZuZ,EVA,seval]) <;> rfl) trivial ?_
 intro j _ hj _
 simp only[List.length_map,EVA,seval]
 refine Zk (fun hlt=>?_) (fun hge=>?_)
 ·have hja:j<b.nodes.length:=by omega
  have ga:=Xh (c:=ZK) hja
  have hkl:b.nodes[j].links.length<=4294967290:=b2 _ (List.getElem_mem hja)
  obtain⟨p1,p2⟩:=hp _ (List.getElem_mem hja)
  refine Zv (α:=Unit) b.nodes[j].links.length (fun k _=>[(9,.hd (lvl,1056) [] 0 k none k),(10,iI k)]) (fun k _=>[(1056,.ar 1 (rI (b.nodes[j].links.take k)) true k 0)]) (fun _ _=>True) () (by simp only[EVA,seval]) (by (simp only[EVA,seval]) <;> rfl) trivial ?_
  intro k _ hk _
  simp only[ga,ZK,List.length_map,EVA,seval]
  refine Zk (fun hlt2=>?_) (fun hge2=>?_)
  ·have hka:k<b.nodes[j].links.length:=by omega
   have gl:=Jo hka
   have e0:g0 b.nodes[j].links k=b.nodes[j].links[k]:=by simp [hka]
   have hq:=p2 _ (List.getElem_mem hka)
   rw[<-e0] at hq
   have hl3:(b.nodes[j].links.take k).length=k:=by rw[List.length_take];omega
   have hs:rI (b.nodes[j].links.take k)++[[tv (g0 b.nodes[j].links k)]]=rI (b.nodes[j].links.take (k+1)):=by
    rw[List.take_succ_eq_append_getElem hka,Y7,<-e0]
    rfl
   simp only[gl,EVA,seval,Zf,men]
   have q:=Zfa b (g0 b.nodes[j].links k) E hE hq
   simp only[Zb,List.map_cons,List.map_nil] at q
   refine Za q ?_
   simp only[hl3,hs,List.length_map,EVA,seval]
   exact⟨by omega,by rw[Zd];omega,Ze () hka rfl trivial⟩
  ·have:k=b.nodes[j].links.length:=by omega
   subst this
   rw[List.take_length]
   rw[<-hn] at p1
   have hj2:(Xj n).length=n:=J4
   have gu:=Jo (l:=Xj n) (i:=j) (by omega)
   rw[Zji (by omega)] at gu
   have q:=ZdH b.nodes[j].parent n (by omega)
   have g1:=ZpJ hja
   have hfl:=ZpI (Nat.le_of_lt hja)
   have hst:=ZpK hja
   simp only[ga,ZK,gu,EVA,seval,Zf,men]
   refine Za q ?_
   have t1:=Zjj (k:=0) (t:=Tr.v (.int .i64 b.nodes[j].control)) g1
   simp only[List.set_cons_zero] at t1
   have t2:=Zjj (k:=1) (t:=Tr.v (.int .i64 b.nodes[j].parent)) (Zjk (e:=[Tr.v (.int .i64 b.nodes[j].control),tv 0,Tr.sl []]) (by rw[hfl];exact hja))
   simp only[List.set_cons_zero,List.set_cons_succ,List.set_set] at t2
   have t3:=Zjj (k:=2) (t:=Tr.sl (rI b.nodes[j].links)) (Zjk (e:=[Tr.v (.int .i64 b.nodes[j].control),Tr.v (.int .i64 b.nodes[j].parent),Tr.sl []]) (by rw[hfl];exact hja))
   simp only[List.set_cons_zero,List.set_cons_succ,List.set_set] at t3
   have hst':(ZcE b.nodes j).set j [Tr.v (.int .i64 b.nodes[j].control),Tr.v (.int .i64 b.nodes[j].parent),Tr.sl (rI b.nodes[j].links)]=ZcE b.nodes (j+1):=hst
   rw[hst'] at t3
   have g2:=Zjk (e:=[Tr.v (.int .i64 b.nodes[j].control),tv 0,Tr.sl []]) (by rw[hfl];exact hja)
   have g3:=Zjk (e:=[Tr.v (.int .i64 b.nodes[j].control),Tr.v (.int .i64 b.nodes[j].parent),Tr.sl []]) (by rw[hfl];exact hja)
   simp only[g1,g2,g3,t1,t2,t3,hja,List.length_map,EVA,seval]
   exact⟨by rw[Zd];omega,Ze () hja rfl trivial⟩
 ·have:j=b.nodes.length:=by omega
  subst this
  rw[Zu0]
  refine Zv (α:=Unit) b.sites.length (fun j _=>[(11,iI j)]) (fun j _=>[(224,.bx [iI b.roots,.hd (lvl,576) [] 0 b.nodes.length none b.nodes.length,.hd (lvl,800) [] 0 j none j,iI b.edges,.hd (lvl,672) [] 0 b.outer.length none b.outer.length,.hd (lvl,801) [] 0 0 none 0]),(800,.ar 1 (rI (b.sites.take j)) true j 0)]) (fun _ _=>True) () (by simp only[EVA,seval]) (by (simp only[EVA,seval]) <;> rfl) trivial ?_
  intro j _ hj _
  simp only[List.length_map,EVA,seval]
  refine Zk (fun hlt=>?_) (fun hge=>?_)
  ·have hja:j<b.sites.length:=by omega
   have ga:=Jo hja
   have e0:g0 b.sites j=b.sites[j]:=by simp [hja]
   have hq:=hs _ (List.getElem_mem hja)
   rw[<-e0] at hq
   have hl3:(b.sites.take j).length=j:=by rw[List.length_take];omega
   have hs:rI (b.sites.take j)++[[tv (g0 b.sites j)]]=rI (b.sites.take (j+1)):=by
    rw[List.take_succ_eq_append_getElem hja,Y7,<-e0]
    rfl
   simp only[ga,EVA,seval,Zf,men]
   refine Za (ZdH (g0 b.sites j) n hq) ?_
   simp only[hl3,hs,List.length_map,EVA,seval]
   exact⟨by omega,by rw[Zd];omega,Ze () hja rfl trivial⟩
  ·have:j=b.sites.length:=by omega
   subst this
   rw[List.take_length]
   refine Zv (α:=Unit) b.inner.length (fun j _=>[(12,iI j)]) (fun j _=>[(224,.bx [iI b.roots,.hd (lvl,576) [] 0 b.nodes.length none b.nodes.length,.hd (lvl,800) [] 0 b.sites.length none b.sites.length,iI b.edges,.hd (lvl,672) [] 0 b.outer.length none b.outer.length,.hd (lvl,801) [] 0 j none j]),(801,.ar 2 ((b.inner.take j).map Z3) true j 0)]) (fun _ _=>True) () (by simp only[EVA,seval]) (by (simp only[EVA,seval]) <;> rfl) trivial ?_
   intro j _ hj _
   simp only[List.length_map,EVA,seval]
   refine Zk (fun hlt=>?_) (fun hge=>?_)
   ·have hja:j<b.inner.length:=by omega
    have ga:=Xh (c:=Z3) hja
    have hq:=hw _ (List.getElem_mem hja)
    have hl3:(b.inner.take j).length=j:=by rw[List.length_take];omega
    have hs:(b.inner.take j).map Z3++[[ts b.inner[j].name,tv b.inner[j].link]]=(b.inner.take (j+1)).map Z3:=by
     rw[List.take_succ_eq_append_getElem hja,List.map_append]
     rfl
    simp only[ga,Z3,EVA,seval,Zf,men]
    have q:=Zfa b b.inner[j].link E hE hq
    simp only[Zb,List.map_cons,List.map_nil] at q
    refine Za q ?_
    simp only[hl3,hs,List.length_map,EVA,seval]
    exact⟨by omega,by rw[Zd];omega,Ze () hja rfl trivial⟩
   ·have:j=b.inner.length:=by omega
    subst this
    rw[List.take_length]
    exact⟨rfl,rfl⟩
theorem ZgG(b:TBigraph)(E:Nat)(hE:b.edges=E)(hbd:Zr 4294967290 b)(hE2:E<=4294967290)(hp:∀ x∈b.nodes,x.parent<b.nodes.length/\∀ l∈x.links,0<=l)(hs:∀ p∈b.sites,p<b.nodes.length)(hw:∀ w∈b.inner,0<=w.link)(lvl:Nat)(S:Sto):Sem Proofs.Tryz.prog Vu lvl [.ag ((Zb b).map .tr)] S (Zh b) S:=by
 refine Zc Zkc (by simp [Zh,low,men,Zf]) ?_
 simp only[ZeU,Zb,EVA,seval]
 have b1:=hbd.1
 refine Zv (α:=Unit) b.nodes.length (fun j _=>[(3,.hd (lvl,224) [] 0 j none j),(5,iI j)]) (fun j _=>[(224,.ar 1 (rI (Xj j)) true j 0)]) (fun _ _=>True) () (by simp only[EVA,seval]) (by (simp only[EVA,seval]) <;> rfl) trivial ?_
 intro j _ hj _
 simp only[List.length_map,EVA,seval]
 refine Zk (fun hlt=>?_) (fun hge=>?_)
 ·have hja:j<b.nodes.length:=by omega
  have hl:(Xj j).length=j:=J4
  have hs:rI (Xj j)++[[tv (j:Int)]]=rI (Xj (j+1)):=by simp [Xj,rI,List.range_succ]
  simp only[hl,hs,EVA,seval]
  exact⟨by omega,by rw[Zd];omega,Ze () hja rfl trivial⟩
 ·have:j=b.nodes.length:=by omega
  subst this
  refine Zv (α:=Unit) E (fun j _=>[(4,.hd (lvl,256) [] 0 j none j),(6,iI j)]) (fun j _=>[(256,.ar 1 (rI (Xj j)) true j 0)]) (fun _ _=>True) () (by simp only[EVA,seval]) (by (simp only[EVA,seval]) <;> rfl) trivial ?_
  intro j _ hj _
  simp only[hE,List.length_map,EVA,seval,Zf,men]
  refine Zk (fun hlt=>?_) (fun hge=>?_)
  ·have hja:j<E:=by omega
   have hl:(Xj j).length=j:=J4
   have hs:rI (Xj j)++[[tv (j:Int)]]=rI (Xj (j+1)):=by simp [Xj,rI,List.range_succ]
   simp only[hl,hs,EVA,seval]
   exact⟨by omega,by rw[Zd];omega,Ze () hja rfl trivial⟩
  ·have:j=E:=by omega
   subst this
   have l1:(Xj b.nodes.length).length=b.nodes.length:=J4
   have l2:(Xj j).length=j:=J4
   have q:=Zeu b b.nodes.length j rfl hE hbd hE2 hp hs hw
   simp only[Zb,List.map_cons,List.map_nil,hE] at q
   rw[show cut (rI (Xj b.nodes.length)) 0 b.nodes.length=rI (Xj b.nodes.length) from JA (by rw[List.length_map,l1]),show cut (rI (Xj j)) 0 j=rI (Xj j) from JA (by rw[List.length_map,l2])]
   refine⟨by omega,by omega,Za q ?_⟩
   simp only[Zh,hE,List.length_map,EVA,seval]
   try rfl
theorem ZnR{F:Int->Int}{l:List TNode}{j:Nat}(h:j<l.length):(Vj F l j).set j ⟨l[j].control,l[j].parent,YP F l[j].links 0⟩=Vj F l j:=by
 have:(⟨l[j].control,l[j].parent,YP F l[j].links 0⟩:TNode)=l[j]:=by simp [YP]
 rw[this]
 have hl:j<(Vj F l j).length:=by rw[ZdD];exact h
 have e:l[j]=(Vj F l j)[j]:=by
  have:=ZgB (F:=F) h
  rw[List.getElem?_eq_getElem hl] at this
  exact(Option.some.inj this).symm
 rw[e]
 exact List.set_getElem_self hl
theorem ZnS{F:Int->Int}{l:List Int}{k:Nat}(h:k<l.length)(hf:F (g0 l k)=g0 l k):YP F l (k+1)=YP F l k:=by
 rw[<-ZgA h,hf]
 have e:g0 l k=(YP F l k)[k]'(by rw[Zbx];exact h):=by
  have:=Zgz (F:=F) h
  rw[<-this]
  simp [Zbx,h]
 rw[e]
 exact List.set_getElem_self _
theorem ZnT{F:Int->Int}{l:List TWire}{j:Nat}(h:j<l.length)(hf:F l[j].link=l[j].link):UL F l (j+1)=UL F l j:=by
 rw[<-ZgD h]
 have hl:j<(UL F l j).length:=by rw[ZpF];exact h
 have e:ZbP F l[j]=(UL F l j)[j]:=by
  have:=ZgC (F:=F) h
  rw[List.getElem?_eq_getElem hl] at this
  rw[Option.some.inj this,ZbP,hf]
 rw[e]
 exact List.set_getElem_self hl
def Zq3(b:TBigraph)(names o:List ByteArray)(l:Int):Int:=if b.edges<=l then b.edges+ixS o (gS names (l-b.edges).toNat) else l
theorem ZlL(b:TBigraph)(names o:List ByteArray)(E:Nat)(hE:b.edges=E)(hbd:Zr 4294967290 b)(hE2:E<=4294967290)(hp:∀ x∈b.nodes,x.parent<b.nodes.length/\∀ l∈x.links,0<=l/\l<E+names.length)(hs:∀ p∈b.sites,p<b.nodes.length)(hw:∀ w∈b.inner,0<=w.link/\w.link<E+names.length)(hn:names.length<=4294967290)(ho:o.length<=4294967290)(lvl:Nat)(S:Sto):Sem Proofs.Tryz.prog QM lvl [.ag ((Zb b).map .tr),.tr (.sl (rS names)),.tr (.sl (rS o))] S (Zh (Dw b (Zq3 b names o) b.edges o)) S:=by
 refine Zc Zhc (by simp [Zh,low,men,Zf]) ?_
 simp only[Zcl,Zb,EVA,seval,Zf,men]
 have q:=ZgG b E hE hbd hE2 (fun x hx=>⟨(hp x hx).1,fun l hl=>((hp x hx).2 l hl).1⟩) hs (fun w hh=>(hw w hh).1)
 simp only[Zb,List.map_cons,List.map_nil] at q
 refine Za q ?_
 simp only[Zh,ZpB,ZpC,Nat.zero_max,List.length_map,EVA,seval]
 obtain⟨b1,b2,b3,b4,b5,b6,b7⟩:=hbd
 refine⟨by omega,?_⟩
 have hFdef:∃ F,F=Zq3 b names o:=⟨_,rfl⟩
 obtain⟨F,hF⟩:=hFdef
 rw[<-hF]
 refine Zv (α:=Unit) b.nodes.length (fun j _=>[(8,iI j)]) (fun j _=>[(448,.ar 3 ((Vj F b.nodes j).map ZK) true b.nodes.length 0)]) (fun _ _=>True) () (by simp only[EVA,seval]) (by (simp only[EVA,seval]) <;> rfl) trivial ?_
 intro j _ hj _
 simp only[EVA,seval]
 refine Zk (fun hlt=>?_) (fun hge=>?_)
 ·have hja:j<b.nodes.length:=by omega
  have gp:=ZgB (F:=F) hja
  have ga:((Vj F b.nodes j).map ZK)[j]? = some [Tr.v (.int .i64 b.nodes[j].control),Tr.v (.int .i64 b.nodes[j].parent),Tr.sl (rI b.nodes[j].links)]:=by rw[List.getElem?_map,gp];rfl
  have hkl:b.nodes[j].links.length<=4294967290:=b2 _ (List.getElem_mem hja)
  have e0:(Vj F b.nodes j).set j ⟨b.nodes[j].control,b.nodes[j].parent,YP F b.nodes[j].links 0⟩=Vj F b.nodes j:=ZnR hja
  refine Zv (α:=Unit) b.nodes[j].links.length (fun k _=>[(9,iI k)]) (fun k _=>[(448,.ar 3 (((Vj F b.nodes j).set j ⟨b.nodes[j].control,b.nodes[j].parent,YP F b.nodes[j].links k⟩).map ZK) true b.nodes.length 0)]) (fun _ _=>True) () (by simp only[EVA,seval]) (by (simp only[e0,EVA,seval]) <;> rfl) trivial ?_
  intro k _ hk _
  have gq:((Vj F b.nodes j).set j ⟨b.nodes[j].control,b.nodes[j].parent,YP F b.nodes[j].links k⟩)[j]? = some ⟨b.nodes[j].control,b.nodes[j].parent,YP F b.nodes[j].links k⟩:=by
   rw[List.getElem?_set_self (by rw[ZdD];exact hja)]
  have hgp:(((Vj F b.nodes j).set j ⟨b.nodes[j].control,b.nodes[j].parent,YP F b.nodes[j].links k⟩).map ZK)[j]? = some [Tr.v (.int .i64 b.nodes[j].control),Tr.v (.int .i64 b.nodes[j].parent),Tr.sl (rI (YP F b.nodes[j].links k))]:=by rw[List.getElem?_map,gq];rfl
  simp only[hgp,hja,List.length_map,EVA,seval]
  refine Zk (fun hlt2=>?_) (fun hge2=>?_)
  ·have hpl:=Zbx (F:=F) (l:=b.nodes[j].links) (k:=k)
   have hka:k<b.nodes[j].links.length:=by omega
   have gk:(rI (YP F b.nodes[j].links k))[k]? = some [tv (g0 b.nodes[j].links k)]:=by rw[Jo (by omega),Zgz hka]
   have hlk:=(hp _ (List.getElem_mem hja)).2 _ (show g0 b.nodes[j].links k∈b.nodes[j].links by simp [hka])
   have hsp:=Ztf (v:=F (g0 b.nodes[j].links k)) gq (k:=k) (by show k<(YP F b.nodes[j].links k).length;omega)
   have hst:((Vj F b.nodes j).set j ⟨b.nodes[j].control,b.nodes[j].parent,YP F b.nodes[j].links k⟩).set j ⟨b.nodes[j].control,b.nodes[j].parent,(YP F b.nodes[j].links k).set k (F (g0 b.nodes[j].links k))⟩=(Vj F b.nodes j).set j ⟨b.nodes[j].control,b.nodes[j].parent,YP F b.nodes[j].links (k+1)⟩:=by
    rw[List.set_set,ZgA hka]
   rw[hst] at hsp
   simp only[hgp,gk,hja,hka,hpl,Nat.zero_add,List.length_map,EVA,seval]
   refine Zk (fun hl1=>?_) (fun hl1=>?_)
   ·obtain⟨i,hi⟩:∃ i:Nat,g0 b.nodes[j].links k-b.edges=i:=⟨(g0 b.nodes[j].links k-b.edges).toNat,by omega⟩
    have hin:i<names.length:=by omega
    have gn:=ZfI (e0:=e0S) (c:=fun n:ByteArray=>[ts n]) hin
    have hFe:F (g0 b.nodes[j].links k)=b.edges+ixS o (gS names i):=by rw[hF,Zq3,if_pos hl1,hi,Int.toNat_natCast]
    have x1:=Zgy (l:=o) (s:=gS names i)
    have x2:=Ze7 (l:=o) (s:=gS names i)
    rw[hFe] at hsp
    simp only[hi,gn,Nat.zero_add,EVA,seval,Zf,men]
    refine⟨by rw[Zd];omega,?_⟩
    refine Za (Zas o (gS names i) (by omega)) ?_
    simp only[hgp,gk,hka,hsp,Nat.zero_add,EVA,seval]
    exact⟨by rw[Zd];omega,by rw[Zd];omega,Ze () hka rfl trivial⟩
   ·have hFe:F (g0 b.nodes[j].links k)=g0 b.nodes[j].links k:=by rw[hF,Zq3,if_neg hl1]
    exact⟨by rw[Zd];omega,Ze () hka (by rw[ZnS hka hFe];rfl) trivial⟩
  ·have:k=b.nodes[j].links.length:=by
    have hpl:=Zbx (F:=F) (l:=b.nodes[j].links) (k:=k)
    omega
   subst this
   have hst:(Vj F b.nodes j).set j ⟨b.nodes[j].control,b.nodes[j].parent,YP F b.nodes[j].links b.nodes[j].links.length⟩=Vj F b.nodes (j+1):=by
    rw[<-ZkA hja]
    congr 1
    simp [ZlJ,YP]
   rw[hst]
   exact⟨by rw[Zd];omega,Ze () hja rfl trivial⟩
 ·have:j=b.nodes.length:=by omega
  subst this
  have hpn:Vj F b.nodes b.nodes.length=(Dw b F b.edges o).nodes:=by simp [Vj,Dw,ZlJ]
  rw[hpn]
  refine Zv (α:=Unit) b.inner.length (fun j _=>[(11,iI j)]) (fun j _=>[(451,.ar 2 ((UL F b.inner j).map Z3) true b.inner.length 0)]) (fun _ _=>True) () (by simp only[EVA,seval]) (by (simp only[EVA,seval]) <;> rfl) trivial ?_
  intro j _ hj _
  simp only[List.length_map,EVA,seval]
  refine Zk (fun hlt=>?_) (fun hge=>?_)
  ·have hja:j<b.inner.length:=by omega
   have gp:=ZgC (F:=F) hja
   have ga:((UL F b.inner j).map Z3)[j]? = some [ts b.inner[j].name,tv b.inner[j].link]:=by rw[List.getElem?_map,gp];rfl
   have hsp:Vs ((UL F b.inner j).map Z3) [] j 1 (.v (.int .i64 (F b.inner[j].link)))=(UL F b.inner (j+1)).map Z3:=by
    simp only[Vs]
    rw[ga,<-ZgD hja,List.map_set]
    rfl
   have hlk:=hw _ (List.getElem_mem hja)
   simp only[ga,hja,Nat.zero_add,EVA,seval]
   refine Zk (fun hl1=>?_) (fun hl1=>?_)
   ·obtain⟨i,hi⟩:∃ i:Nat,b.inner[j].link-b.edges=i:=⟨(b.inner[j].link-b.edges).toNat,by omega⟩
    have hin:i<names.length:=by omega
    have gn:=ZfI (e0:=e0S) (c:=fun n:ByteArray=>[ts n]) hin
    have hFe:F b.inner[j].link=b.edges+ixS o (gS names i):=by rw[hF,Zq3,if_pos hl1,hi,Int.toNat_natCast]
    have x1:=Zgy (l:=o) (s:=gS names i)
    have x2:=Ze7 (l:=o) (s:=gS names i)
    rw[hFe] at hsp
    simp only[hi,gn,Nat.zero_add,EVA,seval,Zf,men]
    refine⟨by rw[Zd];omega,?_⟩
    refine Za (Zas o (gS names i) (by omega)) ?_
    simp only[ga,hja,hsp,Nat.zero_add,EVA,seval]
    exact⟨by rw[Zd];omega,by rw[Zd];omega,Ze () hja rfl trivial⟩
   ·have hFe:F b.inner[j].link=b.inner[j].link:=by rw[hF,Zq3,if_neg hl1]
    exact⟨by rw[Zd];omega,Ze () hja (by rw[ZnT hja hFe];rfl) trivial⟩
  ·have:j=b.inner.length:=by omega
   subst this
   have hpw:UL F b.inner b.inner.length=(Dw b F b.edges o).inner:=by simp [UL,Dw,ZbP]
   rw[hpw]
   exact⟨by simp [Dw],by simp [Dw],rfl⟩
theorem Dr{sig:List TControl}{b:TBigraph}(h:bigOK sig b){x:TNode}(hx:x∈b.nodes):x.parent<b.nodes.length/\∀ l∈x.links,0<=l/\l<b.edges+b.outer.length:=by
 obtain⟨k,hk,rfl⟩:=List.getElem_of_mem hx
 have q:=h.nodes k hk
 refine⟨?_,fun l hl=>?_⟩
 ·rcases q.par with p | p <;> omega
 ·have:=q.links l hl
  unfold ZQ at this
  omega
theorem Wr{sig:List TControl}{b:TBigraph}(h:bigOK sig b){p:Int}(hp:p∈b.sites):p<b.nodes.length:=by
 rcases h.sites p hp with q | q <;> omega
theorem ZnU(sig:List TControl)(b:TBigraph)(h:bigOK sig b)(lvl:Nat)(S:Sto):Sem Proofs.Tryz.prog Vu lvl [.ag ((Zb b).map .tr)] S (Zh b) S:=by
 have he:=h.edges
 exact ZgG b b.edges.toNat (by omega) (Q7 (by omega) (XX h)) (by omega) (fun x hx=>⟨(Dr h hx).1,fun l hl=>((Dr h hx).2 l hl).1⟩) (fun p hp=>Wr h hp) (fun w hw=>(h.inner w hw).1) lvl S
theorem ZkC(sig:List TControl)(b:TBigraph)(h:bigOK sig b)(names o:List ByteArray)(hn:names.length=b.outer.length)(ho:o.length<=4294967290)(lvl:Nat)(S:Sto):Sem Proofs.Tryz.prog QM lvl [.ag ((Zb b).map .tr),.tr (.sl (rS names)),.tr (.sl (rS o))] S (Zh (Dw b (Zq3 b names o) b.edges o)) S:=by
 have he:=h.edges
 have h4:=h.small.outer
 refine ZlL b names o b.edges.toNat (by omega) (Q7 (by omega) (XX h)) (by omega) (fun x hx=>⟨(Dr h hx).1,fun l hl=>?_⟩) (fun p hp=>Wr h hp) (fun w hw=>?_) (by omega) ho lvl S
 ·have:=(Dr h hx).2 l hl
  omega
 ·have:=h.inner w hw
  unfold ZQ at this
  omega
end Go.Fd

/-
  NAMES IN ORDER, AND THEIR LINKS, AS THE REFERENCE HAS THEM. Own work.
-/
namespace Go.Fd
set_option maxRecDepth 20000
theorem ZyE{O:List ByteArray}{x:ByteArray}{k:Nat}(hp:O.Pairwise ltS)(h1:∀ y∈O.take k,ltS y x)(h2:∀ y∈O.drop k,ltS x y):(O.take k++([x]++O.drop k)).Pairwise ltS:=by
 refine List.pairwise_append.2 ⟨hp.sublist (List.take_sublist ..),List.pairwise_append.2 ⟨List.pairwise_singleton ..,hp.sublist (List.drop_sublist ..),fun a ha b hb=>?_⟩,fun a ha b hb=>?_⟩
 ·rw[List.mem_singleton.1 ha];exact h2 b hb
 ·rcases List.mem_append.1 hb with hb | hb
  ·rw[List.mem_singleton.1 hb];exact h1 a ha
  ·have q:=hp
   rw[<-List.take_append_drop k O] at q
   exact(List.pairwise_append.1 q).2.2 a ha b hb
theorem Zjl{l:List ByteArray}:(VG l).Pairwise ltS:=Zpt ordsS
theorem setS_mem{l:List ByteArray}{c:ByteArray}:c∈VG l↔c∈l:=setG_mem
theorem ZbQ{l:List ByteArray}:(VG l).length<=l.length:=Zpu
theorem ZmT{l:List ByteArray}{i k:Nat}(hi:i<l.length)(h1:∀ y∈(VG (l.take i)).take k,ltS y l[i])(h2:∀ y∈(VG (l.take i)).drop k,ltS l[i] y):VG (l.take (i+1))=(VG (l.take i)).take k++([l[i]]++(VG (l.take i)).drop k):=by
 refine Zi9 ordsS (ZyE Zjl h1 h2) fun c=>?_
 rw[List.take_succ_eq_append_getElem hi]
 have e:c∈VG (l.take i)↔c∈l.take i:=setS_mem
 rw[<-List.take_append_drop k (VG (l.take i)),List.mem_append] at e
 simp only[List.mem_append,<-e]
 constructor
 ·rintro((h | h) | h)
  ·exact .inl h
  ·exact .inr (.inr h)
  ·exact .inr (.inl h)
 ·rintro(h | h | h)
  ·exact .inl (.inl h)
  ·exact .inr h
  ·exact .inl (.inr h)
theorem ZpL{l:List ByteArray}{i:Nat}(hi:i<l.length)(h:l[i]∈VG (l.take i)):VG (l.take (i+1))=VG (l.take i):=by
 refine Zi9 ordsS Zjl fun c=>?_
 rw[List.take_succ_eq_append_getElem hi,List.mem_append,setS_mem]
 constructor
 ·rintro(h2 | h2)
  ·exact h2
  ·rw[List.mem_singleton.1 h2];exact setS_mem.1 h
 ·exact .inl
theorem ZyF{l:List ByteArray}{j:Nat}:cut (rS l) 0 (j-0)=rS (l.take j):=by simp [cut,rS,List.map_take]
theorem ZyG{l:List ByteArray}{j:Nat}:cut (rS l) j (l.length-j)=rS (l.drop j):=by
 simp only[cut,rS,<-List.map_drop]
 rw[<-List.map_take,List.take_of_length_le (by rw[List.length_drop];omega)]
theorem Ztg{a b:List ByteArray}{x:ByteArray}:rS a++[[Tr.v (Value.string x)]]++rS b=rS (a++([x]++b)):=by simp [rS]
theorem Zth{a:List ByteArray}:(rS a).length=a.length:=by simp [rS]
theorem ZpM:VG []=[]:=Zi9 ordsS List.Pairwise.nil fun c=>Iff.rfl
theorem U9(l:List ByteArray)(hl:l.length<=4294967290)(lvl:Nat)(S:Sto):Sem Proofs.Tryz.prog Yb lvl [.tr (.sl (rS l))] S (.ow 1 (rS (VG l)) true) S:=by
 refine Zc Zgf (by simp [low,men,Zf]) ?_
 simp only[Zbg,List.length_map,EVA,seval,Zf,men]
 refine Zv (α:=Unit) l.length (fun j _=>[(3,.hd (lvl,96) [] 0 (VG (l.take j)).length none (VG (l.take j)).length),(4,iI j)]) (fun j _=>[(96,.ar 1 (rS (VG (l.take j))) true (VG (l.take j)).length 0)]) (fun _ _=>True) () (by simp only[EVA,seval,Zf,men]) (by rw[List.take_zero,ZpM]; (simp only[EVA,seval,Zf,men]) <;> rfl) trivial ?_
 intro j _ hj _
 simp only[List.length_map,EVA,seval,Zf,men]
 refine Zk (fun hlt=>?_) (fun hge=>?_)
 ·have hja:j<l.length:=by omega
  have ga:=ZfI (e0:=e0S) (c:=fun n:ByteArray=>[ts n]) hja
  rw[US hja] at ga
  obtain⟨O,hO⟩:∃ O,O=VG (l.take j):=⟨_,rfl⟩
  have hOl:O.length<=j:=by rw[hO];exact Nat.le_trans ZbQ (by rw[List.length_take];omega)
  have hOp:O.Pairwise ltS:=by rw[hO];exact Zjl
  rw[<-hO]
  refine Zv (α:=Unit) O.length (fun k _=>[(5,iI k)]) (fun _ _=>[]) (fun k _=>∀ y∈O.take k,ltS y l[j]) () (by simp only[EVA,seval,Zf,men]) (by (simp only[EVA,seval,Zf,men]) <;> rfl) (by simp) ?_
  intro k _ hk hK
  simp only[List.length_map,EVA,seval,Zf,men]
  refine Zk (fun hlt2=>?_) (fun hge2=>?_)
  ·have hka:k<O.length:=by omega
   have gk:=ZfI (e0:=e0S) (c:=fun n:ByteArray=>[ts n]) hka
   rw[US hka] at gk
   have hm:min k O.length=k:=by omega
   have hq1:k+1+(O.length-k)=O.length+1:=by omega
   have hq2:max (max (max 0 k) (k+1)) (O.length+1)=O.length+1:=by omega
   have hq3:k+(O.length-k)=O.length:=by omega
   simp only[ga,gk,hja,hka,hm,hq1,hq2,hq3,ZyF,ZyG,ZpB,ZpC,Ztg,Zth,List.length_append,List.length_take,List.length_drop,List.length_map,EVA,seval,Zf,men]
   refine Zk (fun h1=>?_) (fun h1=>?_)
   ·exact⟨by rw[Zd];omega,Ze () hka rfl fun y hy=>by
     rw[List.take_succ_eq_append_getElem hka] at hy
     rcases List.mem_append.1 hy with hy | hy
     ·exact hK y hy
     ·rw[List.mem_singleton.1 hy];exact h1⟩
   ·have hkn:decide ((k:Int)=(O.length:Int))=false:=by simp;omega
    rw[if_pos hkn]
    refine Zk (fun h2=>?_) (fun h2=>?_)
    ·have h3:ltS l[j] O[k]:=by
      rcases ordsS.tri l[j] O[k] with q | q | q
      ·exact q
      ·exact absurd q.symm h2
      ·exact absurd q h1
     have hput:=ZmT (k:=k) hja (by rw[<-hO];exact hK) (by
      rw[<-hO]
      intro y hy
      rw[List.drop_eq_getElem_cons hka] at hy
      rcases List.mem_cons.1 hy with rfl | hy
      ·exact h3
      ·have q:=hOp
       rw[<-List.take_append_drop k O,List.drop_eq_getElem_cons hka] at q
       exact ordsS.tr _ _ _ h3 ((List.pairwise_cons.1 (List.pairwise_append.1 q).2.1).1 y hy))
     rw[<-hO] at hput
     have hpl:(O.take k++([l[j]]++O.drop k)).length=O.length+1:=by
      simp only[List.length_append,List.length_take,List.length_drop,List.length_cons,List.length_nil]
      omega
     have hfit:X3 .i64 ((j:Int)+1):=by rw[Zd];omega
     and_intros
     all_goals try first | omega | exact fun _=>trivial
     ·exact hfit.1
     ·exact hfit.2
     ·exact Ze () hja (by rw[hput,hpl];rfl) trivial
    ·have hkeep:=ZpL hja (by rw[<-hO,<-(Classical.not_not.1 h2)];exact List.getElem_mem hka)
     rw[<-hO] at hkeep
     exact⟨by rw[Zd];omega,Ze () hja (by rw[hkeep];rfl) trivial⟩
  ·have:k=O.length:=by omega
   subst this
   have hq1:O.length+1+(O.length-O.length)=O.length+1:=by omega
   have hq2:max (max (max 0 O.length) (O.length+1)) (O.length+1)=O.length+1:=by omega
   simp only[ga,hja,hq1,hq2,ZyF,ZyG,ZpB,ZpC,Ztg,Zth,List.length_append,List.length_take,List.length_drop,List.length_map,EVA,seval,Zf,men]
   have hput:=ZmT (k:=O.length) hja (by rw[<-hO];exact hK) (by
    rw[<-hO,List.drop_length]
    intro y hy
    cases hy)
   rw[<-hO] at hput
   rw[List.take_length] at hput
   have hpl:(O++([l[j]]++O.drop O.length)).length=O.length+1:=by
    simp only[List.length_append,List.length_drop,List.length_cons,List.length_nil]
    omega
   have hfit:X3 .i64 ((j:Int)+1):=by rw[Zd];omega
   and_intros
   all_goals try first | omega | exact fun _=>trivial
   ·exact hfit.1
   ·exact hfit.2
   ·exact Ze () hja (by rw[hput,hpl];rfl) trivial
 ·have:j=l.length:=by omega
  subst this
  rw[List.take_length]
theorem UM(names:List ByteArray)(e:Int)(o:List ByteArray)(hn:names.length<=4294967290)(he:-4294967296<=e/\e<=4294967296)(ho:o.length<=4294967290)(lvl:Nat)(S:Sto):Sem Proofs.Tryz.prog JQ lvl [.tr (.sl (rS names)),iI e,.tr (.sl (rS o))] S (.ow 1 (rI (names.map fun x=>e+ixS o x)) true) S:=by
 refine Zc Zg8 trivial ?_
 simp only[Zch,List.length_map,EVA,seval,Zf,men]
 refine Zv (α:=Unit) names.length (fun j _=>[(7,.hd (lvl,288) [] 0 j none j),(8,iI j)]) (fun j _=>[(288,.ar 1 (rI ((names.take j).map fun x=>e+ixS o x)) true j 0)]) (fun _ _=>True) () (by simp only[EVA,seval,Zf,men]) (by (simp only[EVA,seval,Zf,men]) <;> rfl) trivial ?_
 intro j _ hj _
 simp only[List.length_map,EVA,seval,Zf,men]
 refine Zk (fun hlt=>?_) (fun hge=>?_)
 ·have hja:j<names.length:=by omega
  have ga:=ZfI (e0:=e0S) (c:=fun n:ByteArray=>[ts n]) hja
  rw[US hja] at ga
  have hl2:(names.take j).length=j:=by rw[List.length_take];omega
  have x1:=Zgy (l:=o) (s:=names[j])
  have x2:=Ze7 (l:=o) (s:=names[j])
  have hs:rI ((names.take j).map fun x=>e+ixS o x)++[[tv (e+ixS o names[j])]]=rI ((names.take (j+1)).map fun x=>e+ixS o x):=by
   rw[List.take_succ_eq_append_getElem hja,List.map_append,Y7]
   rfl
  simp only[ga,hja,List.length_map,EVA,seval,Zf,men]
  refine Za (Zas o names[j] (by omega)) ?_
  simp only[ga,hja,hl2,hs,List.length_map,EVA,seval,Zf,men]
  exact⟨by rw[Zd];omega,by omega,by rw[Zd];omega,Ze () hja rfl trivial⟩
 ·have:j=names.length:=by omega
  subst this
  rw[List.take_length]
  exact⟨by simp,rfl⟩
theorem Zr6{b:TBigraph}{l:Int}(he:0<=b.edges/\b.edges<=8)(hl:ZQ b l):-4294967296<=(ZfJ b l).1/\(ZfJ b l).1<=4294967296:=by
 rcases Yd hl with ⟨h0,h1⟩ | ⟨i,hi,rfl⟩
 ·rw[ZhN h1];dsimp only;omega
 ·rw[ZhO hi];dsimp only;omega
theorem Zr7{sig:List TControl}{b:TBigraph}(h:bigOK sig b){F:Int->Int}{e:Int}{o:List ByteArray}(ho:o.length<=100)(hos:∀ y∈o,y.size<=4294967296):Zr 4294967296 (Dw b F e o):=by
 obtain⟨b1,b2,b3,b4,b5,b6,b7⟩:=ZlK (F:=F) (e:=e) (o:=[]) h (Q7 (by omega) (XX h)) (by simp) (by simp)
 refine⟨Nat.le_trans (show (Dw b F e o).nodes.length<=4294967290 from b1) (by omega),fun y hy=>?_,Nat.le_trans (show (Dw b F e o).sites.length<=4294967290 from b3) (by omega),by show o.length<=_;omega,hos,Nat.le_trans (show (Dw b F e o).inner.length<=4294967290 from b6) (by omega),fun y hy=>?_⟩
 ·have:=b2 y hy
  simp only[Zj9] at this ⊢
  omega
 ·have:=b7 y hy
  simp only[ZeR] at this ⊢
  omega
end Go.Fd

/-
  OpenName: BOTH ANSWERS OF THE REFERENCE. Own work.
-/
namespace Go.Fd
end Go.Fd

/-
  ONE BIGRAPH UNDER ANOTHER: WHAT COMPOSITION COMPUTES, IN PLAIN TERMS. Own work.
-/
namespace Go.Fd
set_option maxRecDepth 20000
def Zby(a b:TBigraph)(roots:Int)(ss:List Int)(o:List ByteArray)(FL FR mv:Int->Int):TBigraph :=
 ⟨roots,a.nodes.map (ZlJ FL)++b.nodes.map (fun x=>⟨x.control,mv x.parent,x.links.map FR⟩),ss++b.sites.map mv,a.edges+b.edges,o,b.inner.map (ZbP FR)⟩
theorem ZgH{sig:List TControl}{a b:TBigraph}(ha:bigOK sig a)(hb:bigOK sig b){roots:Int}{ss:List Int}{o:List ByteArray}{FL FR mv FL' FR' mv':Int->Int}(hL:∀ l,ZQ a l->FL l=FL' l)(hR:∀ l,ZQ b l->FR l=FR' l)(hm:∀ p,-b.roots<=p->mv p=mv' p) :
  Zby a b roots ss o FL FR mv=Zby a b roots ss o FL' FR' mv':=by
 have hr:=hb.roots.1
 unfold Zby
 have e1:a.nodes.map (ZlJ FL)=a.nodes.map (ZlJ FL'):=List.map_congr_left fun x hx=>by
  obtain⟨i,hi,rfl⟩:=List.getElem_of_mem hx
  unfold ZlJ
  congr 1
  exact List.map_congr_left fun l hl=>hL l ((ha.nodes i hi).links l hl)
 have e2:b.nodes.map (fun x=>(⟨x.control,mv x.parent,x.links.map FR⟩:TNode))=b.nodes.map (fun x=>⟨x.control,mv' x.parent,x.links.map FR'⟩):=List.map_congr_left fun x hx=>by
  obtain⟨i,hi,rfl⟩:=List.getElem_of_mem hx
  have hn:=hb.nodes i hi
  rw[hm _ (Jq hr hn.par)]
  congr 1
  exact List.map_congr_left fun l hl=>hR l (hn.links l hl)
 have e3:b.sites.map mv=b.sites.map mv':=List.map_congr_left fun p hp=>hm p (Jq hr (hb.sites p hp))
 have e4:b.inner.map (ZbP FR)=b.inner.map (ZbP FR'):=List.map_congr_left fun w hw=>by
  unfold ZbP
  rw[hR _ (hb.inner w hw)]
 rw[e1,e2,e3,e4]
def ZmU(a:TBigraph)(e:Int)(o:List ByteArray):List Int:=ZmS a (fun l=>l) fun x=>e+ixS o x
def ZpN(a b:TBigraph)(g:ByteArray->Int):List Int:=ZmS b (fun l=>a.edges+l) g
theorem ZpO{c:Int}{n:Nat}:UT c n=(Xj n).map fun l=>c+l:=by simp [UT,Xj]
theorem ZpP{a:TBigraph}{e:Int}{o:List ByteArray}{n:Nat}(hn:a.edges=n):UT 0 n++a.outer.map (fun x=>e+ixS o x)=ZmU a e o:=by
 rw[ZmU,ZmS,ZhS,hn,Int.toNat_natCast]
theorem ZpQ{a b:TBigraph}{g:ByteArray->Int}{n:Nat}(hn:b.edges=n):UT a.edges n++b.outer.map g=ZpN a b g:=by
 rw[ZpN,ZmS,ZpO,hn,Int.toNat_natCast]
theorem ZmV{b:TBigraph}{f:Int->Int}{g:ByteArray->Int}(h:0<=b.edges):((ZmS b f g).length:Int)=b.edges+b.outer.length:=by
 rw[ZmS,List.length_append,List.length_map,List.length_map,J4]
 omega
theorem ZyH{sig:List TControl}{a:TBigraph}(ha:bigOK sig a){e:Int}{o:List ByteArray}{l:Int}(hl:ZQ a l):ZdB a e o (fun x=>x) l=g0 (ZmU a e o) l.toNat:=by
 have he:=ha.edges
 unfold ZdB ZmU
 rcases Yd hl with ⟨h0,h1⟩ | ⟨i,hi,rfl⟩
 ·rw[Zcr h0 h1,ZhN h1,if_pos rfl]
 ·rw[Zcs he.1 hi,ZhO hi,if_neg (ZbN ha.outer (List.getElem_mem hi))]
def Zfn(a:TBigraph)(nm:ByteArray->Int×ByteArray)(x:Int×ByteArray):Int×ByteArray:=if x.2=e0S then (x.1+a.edges,e0S) else nm x.2
theorem ZDK{sig:List TControl}{a b:TBigraph}(hb:bigOK sig b){e:Int}{o:List ByteArray}{nm:ByteArray->Int×ByteArray}{g:ByteArray->Int}(hg:∀ i (h:i<b.outer.length),(if (nm b.outer[i]).2=e0S then (nm b.outer[i]).1 else e+ixS o (nm b.outer[i]).2)=g b.outer[i]){l:Int}(hl:ZQ b l):ZdB b e o (Zfn a nm) l=g0 (ZpN a b g) l.toNat:=by
 have he:=hb.edges
 unfold ZdB ZpN
 rcases Yd hl with ⟨h0,h1⟩ | ⟨i,hi,rfl⟩
 ·rw[Zcr h0 h1,ZhN h1]
  unfold Zfn
  rw[if_pos rfl,if_pos rfl]
  omega
 ·rw[Zcs he.1 hi,ZhO hi]
  unfold Zfn
  rw[if_neg (ZbN hb.outer (List.getElem_mem hi)),hg i hi]
def ZmW(a b:TBigraph)(o:List ByteArray)(L R:List Int):TBigraph:=Zby a b a.roots [] o (fun l=>g0 L l.toNat) (fun l=>g0 R l.toNat) (Zes a.nodes.length a.sites)
def Zzh(a:TBigraph)(p:Int):Int:=if 0<=p then p+a.nodes.length else g0 a.sites (-1-p).toNat
theorem Zu1{a:TBigraph}{p:Int}:Zzh a p=Zes a.nodes.length a.sites p:=by
 unfold Zzh Zes
 by_cases h:0<=p
 ·rw[if_pos h,if_neg (by omega)]
 ·rw[if_neg h,if_pos (by omega)]
noncomputable def YM(a b:TBigraph):List ByteArray:=VG (a.outer++b.outer)
noncomputable def DP(a b:TBigraph):TBigraph:=ZmW a b (YM a b) (ZmU a (a.edges+b.edges) (YM a b)) (ZpN a b fun x=>a.edges+b.edges+ixS (YM a b) x)
theorem Zu2{sig:List TControl}{a b:TBigraph}(ha:bigOK sig a)(hb:bigOK sig b) :
  Zby a b a.roots [] (YM a b) (ZdB a (a.edges+b.edges) (YM a b) fun x=>x) (ZdB b (a.edges+b.edges) (YM a b) (Zfn a fun s=>(0,s))) (Zzh a)=DP a b :=
 ZgH ha hb (fun l hl=>ZyH ha hl) (fun l hl=>ZDK hb (fun i hi=>if_neg (ZbN hb.outer (List.getElem_mem hi))) hl) fun p _=>Zu1
end Go.Fd

/-
  EACH NUMBER ONCE. Own work.
-/
namespace Go.Fd
set_option maxRecDepth 20000
def Q8(n:Nat)(l:List Int):Prop:=l.length=n/\∀ i:Nat,i<n->(i:Int)∈l
theorem ZnV:Ords (fun a b:Int=>a<b):=⟨fun a=>Int.lt_irrefl a,fun a b c=>Int.lt_trans,fun a b=>Int.lt_trichotomy a b⟩
theorem upto_mem{n:Nat}{x:Int}:x∈Xj n↔0<=x/\x<n:=by
 unfold Xj
 rw[List.mem_map]
 constructor
 ·rintro⟨i,hi,rfl⟩
  have:=List.mem_range.1 hi
  omega
 ·rintro⟨h1,h2⟩
  exact⟨x.toNat,List.mem_range.2 (by omega),by omega⟩
theorem upto_pw{n:Nat}:(Xj n).Pairwise (fun a b=>a<b):=by
 unfold Xj
 rw[List.pairwise_map]
 exact List.pairwise_lt_range.imp fun h=>by omega
theorem upto_nodup{n:Nat}:(Xj n).Nodup:=upto_pw.imp fun h e=>by omega
theorem ZdI:∀{x y:List Int},x.Nodup->(∀ c∈x,c∈y)->x.length<=y.length/\(y.length<=x.length->x.Perm y)
 | [],y,_,_=>⟨Nat.zero_le _,fun h=>by rw[List.length_eq_zero_iff.1 (Nat.le_zero.1 h)]⟩
 | a::r,y,hd,hs=>by
  have hc:=List.nodup_cons.1 hd
  have ha:a∈y:=hs a (by simp)
  have hp:=List.perm_cons_erase ha
  obtain⟨h1,h2⟩:=ZdI (x:=r) (y:=y.erase a) hc.2 fun c hcr=>(List.mem_erase_of_ne (fun e=>hc.1 (by rw[<-e];exact hcr))).2 (hs c (by simp [hcr]))
  have hl:=hp.length_eq
  simp only[List.length_cons] at hl ⊢
  exact⟨by omega,fun h=>((h2 (by omega)).cons a).trans hp.symm⟩
theorem ordOK_perm{n:Nat}{l:List Int}:Q8 n l↔l.Perm (Xj n):=by
 constructor
 ·rintro⟨h1,h2⟩
  refine((ZdI (x:=Xj n) (y:=l) upto_nodup fun x hx=>?_).2 (by rw[h1,J4];exact Nat.le_refl _)).symm
  have:=upto_mem.1 hx
  have h3:=h2 x.toNat (by omega)
  rwa [show ((x.toNat:Nat):Int)=x by omega] at h3
 ·intro h
  refine⟨by rw[h.length_eq,J4],fun i hi=>h.mem_iff.2 (upto_mem.2 (by omega))⟩
theorem ZkD{n:Nat}{l:List Int}:Q8 n l↔Zi8 (fun a b:Int=>a<b) l=Xj n:=by
 rw[ordOK_perm]
 constructor
 ·intro h
  exact Zeo ZnV (Zep ZnV) (upto_pw.imp fun h=>by omega) (srtG_perm.trans h)
 ·intro h
  rw[<-h]
  exact srtG_perm.symm
theorem ZdJ{n:Nat}{l:List Int}(h:Q8 n l){x:Int}(hx:x∈l):0<=x/\x<n:=upto_mem.1 ((ordOK_perm.1 h).mem_iff.1 hx)
theorem ZlM{n:Nat}{l:List Int}(h:Q8 n l):l.Nodup:=(ordOK_perm.1 h).nodup_iff.2 upto_nodup
theorem Zr8{n:Nat}{l:List Int}(hd:l.Nodup)(hm:∀ x∈l,0<=x/\x<n)(hl:l.length=n):Q8 n l:=by
 rw[ordOK_perm]
 exact(ZdI hd fun x hx=>upto_mem.2 (hm x hx)).2 (by rw[hl,J4];exact Nat.le_refl _)
theorem ZpR{n:Nat}{l:List Int}(hd:l.Nodup)(hm:∀ x∈l,0<=x/\x<n):l.length<=n:=by
 have:=(ZdI hd fun x hx=>upto_mem.2 (hm x hx)).1
 rwa [J4] at this
end Go.Fd

/-
  TRANSLATIONS, IN PLAIN TERMS. Own work.
-/
namespace Go.Fd
set_option maxRecDepth 20000
def ZgR(E:Int)(es:List Int)(x y:Int):Option (List Int) :=
 if E<=x\/E<=y then (if x=y then some es else none)
 else if 0<=g0 es x.toNat\/y∈es then (if g0 es x.toNat=y then some es else none)
 else some (es.set x.toNat y)
def WB(E:Int)(es x y:List Int):Nat->Option (List Int)
 | 0=>some es
 | j+1=>(WB E es x y j).bind fun z=>ZgR E z (g0 x j) (g0 y j)
def UN(E:Int)(es x y:List Int):Option (List Int):=WB E es x y x.length
def JV(b:TBigraph)(k:Nat):TNode:=(b.nodes[k]?).getD ⟨0,0,[]⟩
def mvP(ns:List Int)(p:Int):Int:=if p<0 then p else g0 ns p.toNat
def Zev(a b:TBigraph)(ns:List Int)(m:Int):Prop:=m ∉ ns/\(JV a ns.length).control=(JV b m.toNat).control/\mvP ns (JV a ns.length).parent=(JV b m.toNat).parent
open Classical in
noncomputable def edJ(a b:TBigraph)(ns:List Int):Nat->Option (List Int)
 | 0=>some (List.replicate a.edges.toNat (-1))
 | k+1=>(edJ a b ns k).bind fun es=>if Zev a b (ns.take k) (g0 ns k) then UN a.edges es (JV a k).links (JV b (g0 ns k).toNat).links else none
def lnk(b:TBigraph):List Int:=b.inner.map TWire.link
open Classical in
noncomputable def ZmX(a b:TBigraph)(ns es:List Int):Option (List Int) :=
 if a.sites.map (mvP ns)=b.sites then UN a.edges es (lnk a) (lnk b) else none
def nxt(l:List Int):Nat->Nat->Nat
 | 0,k=>k
 | f+1,k=>if (k:Int)∈l then nxt l f (k+1) else k
def Vr(es:List Int):Nat->List Int
 | 0=>es
 | j+1=>if g0 (Vr es j) j<0 then (Vr es j).set j (nxt (Vr es j) es.length 0:Nat) else Vr es j
def ZpS(es:List Int):List Int:=Vr es es.length
def XY(a b:TBigraph):Prop:=a.roots=b.roots/\a.edges=b.edges/\a.nodes.length=b.nodes.length/\a.sites.length=b.sites.length/\a.outer=b.outer/\inn a=inn b
noncomputable def ZnW(a b:TBigraph)(ns:List Int):Option (List Int):=(edJ a b ns a.nodes.length).bind fun es=>ZmX a b ns es
open Classical in
noncomputable def trT(a b:TBigraph)(ns:List Int):Option (List Int):=if XY a b/\Q8 a.nodes.length ns then (ZnW a b ns).map ZpS else none
theorem ZmY{E:Int}{es z:List Int}{x y:Int}(h:ZgR E es x y=some z):z.length=es.length:=by
 unfold ZgR at h
 split at h
 ·split at h
  ·cases h;rfl
  ·cases h
 split at h
 ·split at h
  ·cases h;rfl
  ·cases h
 ·cases h;exact List.length_set
theorem XZ{E:Int}{es x y:List Int}:∀{j:Nat} {z:List Int},WB E es x y j=some z->z.length=es.length
 | 0,z,h=>by cases h;rfl
 | j+1,z,h=>by
  rw[WB] at h
  cases hp:WB E es x y j with
  | none=>rw[hp] at h;cases h
  | some w =>
   rw[hp] at h
   rw[ZmY h,XZ hp]
theorem ZbR{E:Int}{es x y:List Int}{j k:Nat}(h:WB E es x y j=none)(hk:j<=k):WB E es x y k=none:=by
 induction k with
 | zero=>rw[show j=0 by omega] at h;exact h
 | succ k ih =>
  by_cases e:j=k+1
  ·subst e;exact h
  ·rw[WB,ih (by omega)];rfl
theorem ZmZ{a b:TBigraph}{ns:List Int}{j k:Nat}(h:edJ a b ns j=none)(hk:j<=k):edJ a b ns k=none:=by
 induction k with
 | zero=>rw[show j=0 by omega] at h;exact h
 | succ k ih =>
  by_cases e:j=k+1
  ·subst e;exact h
  ·rw[edJ,ih (by omega)];rfl
theorem Zew{a b:TBigraph}{ns:List Int}:∀{k:Nat} {z:List Int},edJ a b ns k=some z->z.length=a.edges.toNat
 | 0,z,h=>by cases h;exact List.length_replicate
 | k+1,z,h=>by
  rw[edJ] at h
  cases hp:edJ a b ns k with
  | none=>rw[hp] at h;cases h
  | some w =>
   rw[hp] at h
   have h:(@ite _ (Zev a b (ns.take k) (g0 ns k)) (Classical.propDecidable _) (UN a.edges w (JV a k).links (JV b (g0 ns k).toNat).links) none)=some z:=h
   split at h
   ·rw[XZ h,Zew hp]
   ·cases h
theorem ZpT{l:List Int}{i k:Nat}(h:i<k):g0 (l.take k) i=g0 l i:=by
 show (l.take k).getD i 0=l.getD i 0
 rw[List.getD_eq_getElem?_getD,List.getD_eq_getElem?_getD,List.getElem?_take_of_lt h]
theorem Zm0{a b:TBigraph}{ns:List Int}{n:Nat}:∀{k:Nat},k<=n->edJ a b (ns.take n) k=edJ a b ns k
 | 0,_=>rfl
 | k+1,h=>by
  rw[edJ,edJ,Zm0 (by omega),ZpT (by omega),List.take_take,Nat.min_eq_left (by omega)]
theorem Zu3{a b:TBigraph}{ns:List Int}{m:Int}{k:Nat}(h:k<=ns.length):edJ a b (ns++[m]) k=edJ a b ns k:=by
 have e:(ns++[m]).take ns.length=ns:=List.take_left ..
 rw[<-Zm0 (ns:=ns++[m]) h,e]
theorem ZyI{ns:List Int}{m:Int}:g0 (ns++[m]) ns.length=m:=by
 show (ns++[m]).getD _ 0=m
 rw[List.getD_eq_getElem?_getD,List.getElem?_append_right (Nat.le_refl _)]
 simp
theorem Zm1{a b:TBigraph}{ns:List Int}{m:Int}:edJ a b (ns++[m]) (ns.length+1)=(edJ a b ns ns.length).bind fun es=>@ite _ (Zev a b ns m) (Classical.propDecidable _) (UN a.edges es (JV a ns.length).links (JV b m.toNat).links) none:=by
 rw[edJ,Zu3 (Nat.le_refl _),ZyI,List.take_left]
open Classical in
noncomputable def Zfo(a b:TBigraph):Nat->List Int->List (List Int)
 | 0,ns=>if (trT a b ns).isSome then [ns] else []
 | r+1,ns=>(Xj b.nodes.length).flatMap fun m=>if Zev a b ns m then Zfo a b r (ns++[m]) else []
open Classical in
noncomputable def ZnX(a b:TBigraph):Nat->List Int->List Int->List (List Int)
 | 0,ns,es=>if (ZmX a b ns es).isSome then [ns] else []
 | r+1,ns,es=>(Xj b.nodes.length).flatMap fun m=>if Zev a b ns m then
   (match UN a.edges es (JV a ns.length).links (JV b m.toNat).links with
   | some z=>ZnX a b r (ns++[m]) z
   | none=>[]) else []
theorem ZkE{a b:TBigraph}:∀{r:Nat} {ns:List Int},ns.length+r=a.nodes.length->edJ a b ns ns.length=none->Zfo a b r ns=[]
 | 0,ns,hl,h=>by
  rw[Zfo]
  have e:ns.length=a.nodes.length:=by omega
  rw[if_neg]
  unfold trT ZnW
  split
  ·rw[<-e,h];simp
  ·simp
 | r+1,ns,hl,h=>by
  rw[Zfo,List.flatMap_eq_nil_iff]
  intro m _
  split
  ·refine ZkE (by rw[List.length_append,List.length_singleton];omega) ?_
   rw[List.length_append,List.length_singleton,Zm1,h]
   rfl
  ·rfl
theorem ZgI{α β:Type}{f g:α->List β}:∀{l:List α},(∀ x∈l,f x=g x)->l.flatMap f=l.flatMap g
 | [],_=>rfl
 | x::r,h=>by rw[List.flatMap_cons,List.flatMap_cons,h x (by simp),ZgI fun y hy=>h y (by simp [hy])]
theorem ZpU{a b:TBigraph}(ha:XY a b):∀{r:Nat} {ns es:List Int},ns.length+r=a.nodes.length->ns.Nodup->(∀ x∈ns,0<=x/\x<b.nodes.length)->edJ a b ns ns.length=some es->ZnX a b r ns es=Zfo a b r ns
 | 0,ns,es,hl,hd,hm,h=>by
  rw[ZnX,Zfo]
  have e:ns.length=a.nodes.length:=by omega
  have ho:Q8 a.nodes.length ns:=Zr8 hd (fun x hx=>by have:=hm x hx;have:=ha.2.2.1;omega) e
  have h2:(trT a b ns).isSome=(ZmX a b ns es).isSome:=by
   unfold trT ZnW
   rw[if_pos ⟨ha,ho⟩,<-e,h]
   simp
  rw[h2]
 | r+1,ns,es,hl,hd,hm,h=>by
  rw[ZnX,Zfo]
  refine ZgI fun m hmm=>?_
  have hm2:=upto_mem.1 hmm
  by_cases hf:Zev a b ns m
  ·rw[if_pos hf,if_pos hf]
   have hn:=Zm1 (a:=a) (b:=b) (ns:=ns) (m:=m)
   rw[h] at hn
   simp only[Option.bind_some,if_pos hf] at hn
   have hl2:(ns++[m]).length=ns.length+1:=by rw[List.length_append,List.length_singleton]
   cases ht:UN a.edges es (JV a ns.length).links (JV b m.toNat).links with
   | none =>
    rw[ht] at hn
    simp only
    exact(ZkE (by omega) (by rw[hl2];exact hn)).symm
   | some z =>
    rw[ht] at hn
    simp only
    refine ZpU ha (by omega) ?_ ?_ (by rw[hl2];exact hn)
    ·rw[List.nodup_append]
     refine⟨hd,List.pairwise_singleton ..,fun x hx y hy e=>?_⟩
     rw[List.mem_singleton.1 hy] at e
     subst e
     exact hf.1 hx
    ·intro x hx
     rcases List.mem_append.1 hx with hx | hx
     ·exact hm x hx
     ·rw[List.mem_singleton.1 hx];exact hm2
  ·rw[if_neg hf,if_neg hf]
end Go.Fd

/-
  TRANSLATIONS, IN PLAIN TERMS: HOW MANY; WHAT IS LEFT IDLE. Own work.
-/
namespace Go.Fd
set_option maxRecDepth 20000
def ZyJ:Nat->Nat
 | 0=>1
 | n+1=>(n+1)*ZyJ n
theorem Zm2{α β:Type}{f:α->List β}{p:α->Bool}{B:Nat}:∀{l:List α},(∀ x∈l,p x=false->f x=[])->(∀ x∈l,(f x).length<=B)->(l.flatMap f).length<=(l.filter p).length*B
 | [],_,_=>by simp
 | x::r,h1,h2=>by
  have ih:=Zm2 (l:=r) (p:=p) (fun y hy=>h1 y (by simp [hy])) (fun y hy=>h2 y (by simp [hy]))
  rw[List.flatMap_cons,List.length_append,List.filter_cons]
  cases hp:p x
  ·rw[h1 x (by simp) hp]
   simpa using ih
  ·have:=h2 x (by simp)
   simp only[if_true,List.length_cons,Nat.succ_mul]
   omega
theorem ZnY{n:Nat}:∀{ns:List Int},ns.Nodup->(∀ x∈ns,0<=x/\x<n)->((Xj n).filter fun m=>!decide (m∈ns)).length+ns.length<=n:=fun {ns} hd hm=>by
 have h1:(((Xj n).filter fun m=>!decide (m∈ns))++ns).Nodup:=by
  rw[List.nodup_append]
  refine⟨upto_nodup.filter _,hd,fun x hx y hy e=>?_⟩
  subst e
  have:=(List.mem_filter.1 hx).2
  simp [hy] at this
 have h2:=ZpR (n:=n) h1 fun x hx=>by
  rcases List.mem_append.1 hx with hx | hx
  ·exact upto_mem.1 (List.mem_filter.1 hx).1
  ·exact hm x hx
 rwa [List.length_append] at h2
theorem ZpV{a b:TBigraph}:∀{r:Nat} {ns:List Int},b.nodes.length<=ns.length+r->ns.Nodup->(∀ x∈ns,0<=x/\x<b.nodes.length)->(Zfo a b r ns).length<=ZyJ r
 | 0,ns,_,_,_=>by
  rw[Zfo]
  split <;> simp [ZyJ]
 | r+1,ns,hl,hd,hm=>by
  rw[Zfo]
  have h1:=ZnY hd hm
  refine Nat.le_trans (Zm2 (p:=fun m=>!decide (m∈ns)) (B:=ZyJ r) (fun m _ hp=>?_) (fun m hmm=>?_)) (Nat.mul_le_mul_right _ (by omega:_<=r+1))
  ·rw[if_neg]
   intro hf
   have:m∈ns:=by simpa using hp
   exact hf.1 this
  ·split
   ·rename_i hf
    refine ZpV (by rw[List.length_append,List.length_singleton];omega) ?_ ?_
    ·rw[List.nodup_append]
     refine⟨hd,List.pairwise_singleton ..,fun x hx y hy e=>?_⟩
     rw[List.mem_singleton.1 hy] at e
     subst e
     exact hf.1 hx
    ·intro x hx
     rcases List.mem_append.1 hx with hx | hx
     ·exact hm x hx
     ·rw[List.mem_singleton.1 hx];exact upto_mem.1 hmm
   ·simp
theorem ZpW{β:Type}{x:List β}{m:Nat}(h:m<=(x.take m).length)(y:List β):(x++y).take m=x.take m:=by
 rw[List.length_take] at h
 rw[List.take_append_of_le_length (by omega)]
theorem ZpX{E:Int}{es z:List Int}{x y:Int}(h:ZgR E es x y=some z){l:Nat}(hl:0<=g0 es l):g0 z l=g0 es l:=by
 unfold ZgR at h
 split at h
 ·split at h
  ·cases h;rfl
  ·cases h
 split at h
 ·split at h
  ·cases h;rfl
  ·cases h
 ·rename_i h1 h2
  cases h
  show (es.set x.toNat y).getD l 0=es.getD l 0
  rw[List.getD_eq_getElem?_getD,List.getElem?_set]
  by_cases e:x.toNat=l
  ·subst e
   exact absurd (.inl hl) h2
  ·rw[if_neg e,List.getD_eq_getElem?_getD]
theorem VX{l:List Int}{i:Nat}(h:i<l.length):g0 l i∈l:=by
 have:g0 l i=l[i]:=by simp [h]
 rw[this]
 exact List.getElem_mem h
theorem ZnZ{l:List Int}{i j:Nat}{v:Int}(h:i<l.length):g0 (l.set i v) j=if i=j then v else g0 l j:=by
 show (l.set i v).getD j 0=if i=j then v else l.getD j 0
 rw[List.getD_eq_getElem?_getD,List.getElem?_set,List.getD_eq_getElem?_getD]
 by_cases e:i=j
 ·rw[if_pos e,if_pos e,if_pos (by omega)];rfl
 ·rw[if_neg e,if_neg e]
theorem Zu4{E:Int}{es z:List Int}{x y:Int}(h:ZgR E es x y=some z)(hE:(es.length:Int)=E)(hx:0<=x)(hy:y<E):y∈z:=by
 unfold ZgR at h
 split at h
 ·rename_i h1
  split at h
  ·rename_i h2;omega
  ·cases h
 split at h
 ·rename_i h1 h2
  split at h
  ·rename_i h3
   cases h
   rw[<-h3]
   exact VX (by omega)
  ·cases h
 ·cases h
  rename_i h1 h2
  have hlt:x.toNat<es.length:=by omega
  have:g0 (es.set x.toNat y) x.toNat=y:=by rw[ZnZ hlt,if_pos rfl]
  have hq:=VX (l:=es.set x.toNat y) (i:=x.toNat) (by rw[List.length_set];exact hlt)
  rw[this] at hq
  exact hq
theorem Zm3{E:Int}{es z:List Int}{x y:Int}(h:ZgR E es x y=some z){v:Int}(hv:0<=v)(hm:v∈es):v∈z:=by
 obtain⟨l,hl,rfl⟩:=List.getElem_of_mem hm
 have e:g0 es l=es[l]:=by simp [hl]
 have k:=ZpX h (l:=l) (by rw[e];exact hv)
 rw[e] at k
 rw[<-k]
 exact VX (by rw[ZmY h];exact hl)
theorem ZgJ{E:Int}{es x y:List Int}{v:Int}(hv:0<=v):∀{j:Nat} {z:List Int},WB E es x y j=some z->v∈es->v∈z
 | 0,z,h,hm=>by cases h;exact hm
 | j+1,z,h,hm=>by
  rw[WB] at h
  cases hp:WB E es x y j with
  | none=>rw[hp] at h;cases h
  | some w =>
   rw[hp] at h
   exact Zm3 h hv (ZgJ hv hp hm)
theorem Zjm{E:Int}{es x y:List Int}(hE:(es.length:Int)=E):∀{j:Nat} {z:List Int},WB E es x y j=some z->∀ i,i<j->0<=g0 x i->0<=g0 y i->g0 y i<E->g0 y i∈z
 | 0,z,_,i,hi,_,_,_=>by omega
 | j+1,z,h,i,hi,h1,h2,h3=>by
  rw[WB] at h
  cases hp:WB E es x y j with
  | none=>rw[hp] at h;cases h
  | some w =>
   rw[hp] at h
   have hw:(w.length:Int)=E:=by rw[XZ hp];exact hE
   by_cases e:i=j
   ·subst e
    exact Zu4 h hw h1 h3
   ·exact Zm3 h h2 (Zjm hE hp i (by omega) h1 h2 h3)
def ZvF(es:List Int):Prop:=∀ i j,i<es.length->j<es.length->0<=g0 es i->g0 es i=g0 es j->i=j
def ZvG(E:Int)(es:List Int):Prop:=∀ v∈es,-1<=v/\v<E
theorem Zr9{E:Int}{es z:List Int}{x y:Int}(h:ZgR E es x y=some z)(hE:(es.length:Int)=E)(hx:0<=x)(hi:ZvF es):ZvF z:=by
 unfold ZgR at h
 split at h
 ·split at h
  ·cases h;exact hi
  ·cases h
 split at h
 ·split at h
  ·cases h;exact hi
  ·cases h
 ·rename_i h1 h2
  cases h
  intro i j hi1 hj1 h3 h4
  rw[List.length_set] at hi1 hj1
  have hlt:x.toNat<es.length:=by omega
  rw[ZnZ hlt] at h3
  rw[ZnZ hlt,ZnZ hlt] at h4
  have hy:y ∉ es:=fun g=>h2 (.inr g)
  by_cases e1:x.toNat=i
  ·by_cases e2:x.toNat=j
   ·omega
   ·rw[if_pos e1,if_neg e2] at h4
    exact absurd (by rw[h4];exact VX hj1) hy
  ·rw[if_neg e1] at h3 h4
   by_cases e2:x.toNat=j
   ·rw[if_pos e2] at h4
    exact absurd (by rw[<-h4];exact VX hi1) hy
   ·rw[if_neg e2] at h4
    exact hi i j hi1 hj1 h3 h4
theorem Zsa{E:Int}{es z:List Int}{x y:Int}(h:ZgR E es x y=some z)(hy:0<=y)(hi:ZvG E es):ZvG E z:=by
 unfold ZgR at h
 split at h
 ·split at h
  ·cases h;exact hi
  ·cases h
 split at h
 ·split at h
  ·cases h;exact hi
  ·cases h
 ·rename_i h1 h2
  cases h
  intro v hv
  rcases List.mem_or_eq_of_mem_set hv with q | q
  ·exact hi v q
  ·omega
theorem Zjn{E:Int}{es x y:List Int}(hE:(es.length:Int)=E)(hx:∀ v∈x,0<=v)(hy:∀ v∈y,0<=v)(h1:ZvF es)(h2:ZvG E es):∀{j:Nat} {z:List Int},j<=x.length->j<=y.length->WB E es x y j=some z->ZvF z/\ZvG E z
 | 0,z,_,_,h=>by cases h;exact⟨h1,h2⟩
 | j+1,z,hj,hk,h=>by
  rw[WB] at h
  cases hp:WB E es x y j with
  | none=>rw[hp] at h;cases h
  | some w =>
   rw[hp] at h
   obtain⟨q1,q2⟩:=Zjn hE hx hy h1 h2 (by omega) (by omega) hp
   have hw:(w.length:Int)=E:=by rw[XZ hp];exact hE
   exact⟨Zr9 h hw (hx _ (VX (by omega))) q1,Zsa h (hy _ (VX (by omega))) q2⟩
end Go.Fd

/-
  TRANSLATIONS, IN PLAIN TERMS: WHAT IS LEFT IS IDLE; HOW IT IS FILLED. Own work.
-/
namespace Go.Fd
set_option maxRecDepth 20000
theorem Zm4{l:Int}{i:Nat}{ls:List Int}(h:l ∉ ls):∀{k:Nat},k<=ls.length->Zkv l i ls k=[]
 | 0,_=>rfl
 | k+1,hk=>by
  rw[Zpy (fun e=>h (by rw[<-e];exact VX (by omega))),Zm4 h (by omega)]
theorem ZhT{b:TBigraph}{l:Int}(h:∀ x∈b.nodes,l ∉ x.links):∀{j:Nat},j<=b.nodes.length->W1 b l j=[]
 | 0,_=>rfl
 | j+1,hj=>by
  have hj2:j<b.nodes.length:=by omega
  rw[W1,ZhT h (by omega),Zer hj2,Zm4 (h _ (List.getElem_mem hj2)) (Nat.le_refl _)]
  rfl
theorem ZkF{b:TBigraph}{l:Int}(h:l ∉ lnk b):∀{j:Nat},j<=b.inner.length->Zbs b l j=[]
 | 0,_=>rfl
 | j+1,hj=>by
  have hj2:j<b.inner.length:=by omega
  rw[Zbs,if_neg,ZkF h (by omega)]
  rw[ZlH hj2]
  intro e
  exact h (List.mem_map.2 ⟨_,List.getElem_mem hj2,e⟩)
theorem Zu5{b:TBigraph}{l:Int}(h1:∀ x∈b.nodes,l ∉ x.links)(h2:l ∉ lnk b):idle b l:=by
 unfold idle ports Zyx
 rw[ZhT h1 (Nat.le_refl _),ZkF h2 (Nat.le_refl _)]
 exact⟨rfl,rfl⟩
theorem Jr{b:TBigraph}{k:Nat}(h:k<b.nodes.length):JV b k=b.nodes[k]:=by simp [JV,h]
structure pairOK (sig:List TControl) (a b:TBigraph):Prop where
 big:bigOK sig a
 big2:bigOK sig b
 al:XY a b
theorem ZdK{sig:List TControl}{a b:TBigraph}(ha:bigOK sig a)(hb:bigOK sig b){k m:Nat}(hk:k<a.nodes.length)(hm:m<b.nodes.length)(h:(JV a k).control=(JV b m).control):(JV a k).links.length=(JV b m).links.length:=by
 rw[Jr hk,Jr hm] at *
 have h1:=(ha.nodes k hk).ports
 have h2:=(hb.nodes m hm).ports
 rw[h] at h1
 omega
theorem Zjo{sig:List TControl}{b:TBigraph}(hb:bigOK sig b){m:Nat}(hm:m<b.nodes.length):∀ l∈(JV b m).links,0<=l:=fun l hl=>by
 rw[Jr hm] at hl
 exact((hb.nodes m hm).links l hl).1
theorem ZpY{sig:List TControl}{b:TBigraph}(hb:bigOK sig b):∀ l∈lnk b,0<=l:=fun l hl=>by
 obtain⟨w,hw,rfl⟩:=List.mem_map.1 hl
 exact(hb.inner w hw).1
theorem Zjp{a b:TBigraph}{ns:List Int}{k:Nat}{z:List Int}(h:edJ a b ns (k+1)=some z):∃ es,edJ a b ns k=some es/\Zev a b (ns.take k) (g0 ns k)/\UN a.edges es (JV a k).links (JV b (g0 ns k).toNat).links=some z:=by
 rw[edJ] at h
 cases hp:edJ a b ns k with
 | none=>rw[hp] at h;cases h
 | some w =>
  rw[hp] at h
  have h:(@ite _ (Zev a b (ns.take k) (g0 ns k)) (Classical.propDecidable _) (UN a.edges w (JV a k).links (JV b (g0 ns k).toNat).links) none)=some z:=h
  split at h
  ·exact⟨w,rfl,by assumption,h⟩
  ·cases h
theorem ZpZ{a b:TBigraph}{ns:List Int}{v:Int}(hv:0<=v){j:Nat}{w:List Int}(hw:edJ a b ns j=some w)(hm:v∈w):∀{k:Nat} {z:List Int},j<=k->edJ a b ns k=some z->v∈z
 | 0,z,hk,h=>by
  rw[show j=0 by omega,h] at hw
  cases hw;exact hm
 | k+1,z,hk,h=>by
  by_cases e:j=k+1
  ·subst e
   rw[h] at hw
   cases hw;exact hm
  ·obtain⟨es,h1,_,h2⟩:=Zjp h
   exact ZgJ hv h2 (ZpZ hv hw hm (by omega) h1)
theorem Zti{sig:List TControl}{a b:TBigraph}(h:pairOK sig a b){ns:List Int}(hn:ns.length<=a.nodes.length)(hm:∀ x∈ns,0<=x/\x<b.nodes.length):∀{k:Nat} {z:List Int},k<=ns.length->edJ a b ns k=some z->ZvF z/\ZvG a.edges z
 | 0,z,_,hz=>by
  cases hz
  have hg:∀ i,i<(List.replicate a.edges.toNat (-1:Int)).length->g0 (List.replicate a.edges.toNat (-1:Int)) i = -1:=fun i hi=>by
   have:g0 (List.replicate a.edges.toNat (-1:Int)) i∈List.replicate a.edges.toNat (-1:Int):=VX hi
   exact(List.mem_replicate.1 this).2
  refine⟨fun i j hi hj h0 _=>?_,fun v hv=>?_⟩
  ·have:=hg i hi;omega
  ·have:=(List.mem_replicate.1 hv).2
   have:=h.big.edges
   omega
 | k+1,z,hk,hz=>by
  obtain⟨es,h1,hf,h2⟩:=Zjp hz
  obtain⟨q1,q2⟩:=Zti h hn hm (by omega) h1
  have he:=h.big.edges
  have hx:=hm _ (VX (l:=ns) (i:=k) (by omega))
  have hmb:(g0 ns k).toNat<b.nodes.length:=by omega
  have hl:(JV a k).links.length=(JV b (g0 ns k).toNat).links.length:=by
   refine ZdK h.big h.big2 (by omega) hmb ?_
   have:=hf.2.1
   rwa [List.length_take,Nat.min_eq_left (by omega)] at this
  exact Zjn (by rw[Zew h1];omega) (Zjo h.big (by omega)) (Zjo h.big2 hmb) q1 q2 (Nat.le_refl _) (by omega) h2
theorem Zn0{a b:TBigraph}{ns z:List Int}(h:ZnW a b ns=some z):∃ es,edJ a b ns a.nodes.length=some es/\a.sites.map (mvP ns)=b.sites/\UN a.edges es (lnk a) (lnk b)=some z:=by
 unfold ZnW at h
 cases hp:edJ a b ns a.nodes.length with
 | none=>rw[hp] at h;cases h
 | some w =>
  rw[hp] at h
  have h:ZmX a b ns w=some z:=h
  unfold ZmX at h
  split at h
  ·exact⟨w,rfl,by assumption,h⟩
  ·cases h
theorem ZlN{a b:TBigraph}(h:XY a b):(lnk a).length=(lnk b).length:=by
 have:=congrArg List.length h.2.2.2.2.2
 simp only[inn,List.length_map] at this
 simp only[lnk,List.length_map]
 exact this
theorem Zu6{sig:List TControl}{a b:TBigraph}(h:pairOK sig a b){ns z:List Int}(ho:Q8 a.nodes.length ns)(hz:ZnW a b ns=some z):z.length=a.edges.toNat/\ZvF z/\ZvG a.edges z/\∀ v,0<=v->v<a.edges->v ∉ z->idle b v:=by
 obtain⟨es,h1,_,h2⟩:=Zn0 hz
 have he:=h.big.edges
 have hab:=h.al.2.2.1
 have hm:∀ x∈ns,0<=x/\x<b.nodes.length:=fun x hx=>by have:=ZdJ ho hx;omega
 obtain⟨q1,q2⟩:=Zti h (by rw[ho.1];exact Nat.le_refl _) hm (by rw[ho.1];exact Nat.le_refl _) h1
 have hE:(es.length:Int)=a.edges:=by rw[Zew h1];omega
 obtain⟨q3,q4⟩:=Zjn hE (ZpY h.big) (ZpY h.big2) q1 q2 (Nat.le_refl _) (by rw[ZlN h.al];exact Nat.le_refl _) h2
 refine⟨by rw[XZ h2,Zew h1],q3,q4,fun v h3 h4 h5=>Zu5 (fun x hx hxl=>h5 ?_) fun hl=>h5 ?_⟩
 ·obtain⟨m,hmb,rfl⟩:=List.getElem_of_mem hx
  obtain⟨k,hk,hke⟩:=List.getElem_of_mem (ho.2 m (by omega))
  have hk2:k<a.nodes.length:=by rw[<-ho.1];exact hk
  have hgk:g0 ns k=(m:Int):=by rw[<-hke];simp [hk]
  cases hz1:edJ a b ns (k+1) with
  | none=>rw[ZmZ hz1 hk2] at h1;cases h1
  | some w =>
   obtain⟨e0,g1,hf,g2⟩:=Zjp hz1
   rw[hgk,Int.toNat_natCast] at g2
   have hlen:(JV a k).links.length=(JV b m).links.length:=by
    refine ZdK h.big h.big2 hk2 hmb ?_
    have:=hf.2.1
    rwa [List.length_take,Nat.min_eq_left (by rw[ho.1];omega),hgk,Int.toNat_natCast] at this
   obtain⟨i,hi,hie⟩:=List.getElem_of_mem hxl
   rw[<-Jr hmb] at hi
   have hgi:g0 (JV b m).links i=v:=by
    have:g0 (JV b m).links i=(JV b m).links[i]:=by simp [hi]
    rw[this,<-hie]
    simp only[Jr hmb]
   have hw:v∈w:=by
    have:=Zjm (by rw[Zew g1];omega) g2 i (by omega) (Zjo h.big hk2 _ (VX (by omega))) (by omega) (by omega)
    rwa [hgi] at this
   exact ZgJ h3 h2 (ZpZ h3 hz1 hw (by omega) h1)
 ·obtain⟨i,hi,hie⟩:=List.getElem_of_mem hl
  have hgi:g0 (lnk b) i=v:=by rw[<-hie];simp [hi]
  have hia:i<(lnk a).length:=by rw[ZlN h.al];exact hi
  have:=Zjm hE h2 i hia (ZpY h.big _ (VX hia)) (by omega) (by omega)
  rwa [hgi] at this
theorem Zm5{l:List Int}:∀{f k:Nat},(∃ m:Nat,k<=m/\m<k+f/\(m:Int) ∉ l)->((nxt l f k:Nat):Int) ∉ l/\k<=nxt l f k/\nxt l f k<k+f/\∀ i:Nat,k<=i->i<nxt l f k->(i:Int)∈l
 | 0,k,⟨m,h1,h2,_⟩=>by omega
 | f+1,k,⟨m,h1,h2,h3⟩=>by
  rw[nxt]
  by_cases hk:(k:Int)∈l
  ·rw[if_pos hk]
   have hne:m≠k:=fun e=>h3 (by rw[e];exact hk)
   obtain⟨q1,q2,q3,q4⟩:=Zm5 (l:=l) (f:=f) (k:=k+1) ⟨m,by omega,by omega,h3⟩
   refine⟨q1,by omega,by omega,fun i h4 h5=>?_⟩
   by_cases e:i=k
   ·rw[e];exact hk
   ·exact q4 i (by omega) h5
  ·rw[if_neg hk]
   exact⟨hk,Nat.le_refl _,by omega,fun i h4 h5=>by omega⟩
theorem gap{l:List Int}{j:Nat}(hj:j<l.length)(hn:g0 l j<0):∃ m:Nat,0<=m/\m<0+l.length/\(m:Int) ∉ l:=by
 refine Classical.byContradiction fun h=>?_
 have hall:∀ c∈Xj l.length,c∈l:=fun c hc=>by
  have:=upto_mem.1 hc
  refine Classical.byContradiction fun g=>h ⟨c.toNat,Nat.zero_le _,by omega,?_⟩
  rwa [show ((c.toNat:Nat):Int)=c by omega]
 have hp:=(ZdI upto_nodup hall).2 (by rw[J4];exact Nat.le_refl _)
 have:=upto_mem.1 (hp.mem_iff.2 (VX hj))
 omega
theorem X0{es:List Int}:∀{j:Nat},(Vr es j).length=es.length
 | 0=>rfl
 | j+1=>by
  rw[Vr]
  split
  ·rw[List.length_set,X0]
  ·exact X0
def Zex(es:List Int)(j:Nat):Nat:=nxt (Vr es j) es.length 0
theorem ZhU{es:List Int}{j:Nat}(hj:j<es.length)(hn:g0 (Vr es j) j<0):((Zex es j:Nat):Int) ∉ Vr es j/\Zex es j<es.length/\∀ i:Nat,i<Zex es j->(i:Int)∈Vr es j:=by
 have hl:=X0 (es:=es) (j:=j)
 obtain⟨m,h1,h2,h3⟩:=gap (l:=Vr es j) (by omega) hn
 obtain⟨q1,_,q3,q4⟩:=Zm5 (l:=Vr es j) (f:=es.length) (k:=0) ⟨m,h1,by omega,h3⟩
 exact⟨q1,by unfold Zex;omega,fun i hi=>q4 i (Nat.zero_le _) hi⟩
theorem ZkG{es:List Int}{j:Nat}(h:g0 (Vr es j) j<0):Vr es (j+1)=(Vr es j).set j (Zex es j:Nat):=by rw[Vr,if_pos h];rfl
theorem Zm6{es:List Int}{j:Nat}(h:¬ g0 (Vr es j) j<0):Vr es (j+1)=Vr es j:=by rw[Vr,if_neg h]
theorem ZkH{es:List Int}{v:Int}(hv:0<=v)(hm:v∈es):∀{j:Nat},v∈Vr es j
 | 0=>hm
 | j+1=>by
  have ih:=ZkH hv hm (j:=j)
  by_cases h:g0 (Vr es j) j<0
  ·rw[ZkG h]
   obtain⟨i,hi,hie⟩:=List.getElem_of_mem ih
   have hgi:g0 (Vr es j) i=v:=by rw[<-hie];simp [hi]
   by_cases hj:j<(Vr es j).length
   ·have hne:j≠i:=fun e=>by subst e;omega
    have:=ZnZ (j:=i) (v:=((Zex es j:Nat):Int)) hj
    rw[if_neg hne,hgi] at this
    rw[<-this]
    exact VX (by rw[List.length_set];exact hi)
   ·rw[List.set_eq_of_length_le (by omega)];exact ih
  ·rw[Zm6 h];exact ih
theorem Zp0{sig:List TControl}{a b:TBigraph}(h:pairOK sig a b){ns z:List Int}(ho:Q8 a.nodes.length ns)(hz:ZnW a b ns=some z){j:Nat}(hj:j<z.length)(hn:g0 (Vr z j) j<0):idle b (Zex z j:Nat):=by
 obtain⟨h1,_,_,h2⟩:=Zu6 h ho hz
 obtain⟨q1,q2,_⟩:=ZhU hj hn
 have he:=h.big.edges
 exact h2 _ (by omega) (by omega) fun hm=>q1 (ZkH (by omega) hm)
end Go.Fd

/-
  TRANSLATIONS: LOOPS THAT STOP EARLY, IN PLAIN TERMS; LOOPS IN WHICH OTHERS' OBJECTS TURN. Own work.
-/
namespace Go.Fd
set_option maxRecDepth 20000
def Zb1(E:Int)(es x y:List Int):Nat->List Int
 | 0=>es
 | j+1=>(WB E es x y (j+1)).getD (Zb1 E es x y j)
theorem Qb{E:Int}{es x y z:List Int}:∀{j:Nat},WB E es x y j=some z->Zb1 E es x y j=z
 | 0,h=>by cases h;rfl
 | j+1,h=>by rw[Zb1,h];rfl
theorem ZhV{E:Int}{es x y:List Int}{j:Nat}(h:WB E es x y (j+1)=none):∀{k:Nat},j<=k->Zb1 E es x y k=Zb1 E es x y j
 | 0,hk=>by rw[show j=0 by omega]
 | k+1,hk=>by
  by_cases e:j=k+1
  ·rw[e]
  ·rw[Zb1,ZbR h (by omega),Option.getD_none,ZhV h (by omega)]
theorem Zey{E:Int}{es x y z:List Int}{j:Nat}(h:WB E es x y j=some z):WB E es x y (j+1)=ZgR E z (g0 x j) (g0 y j):=by
 rw[WB,h];rfl
def jnL{β:Type}(f:Int->List β)(j:Nat):List β:=(Xj j).flatMap f
theorem Zm7{β:Type}{f:Int->List β}:jnL f 0=[]:=rfl
theorem Da{β:Type}{f:Int->List β}{j:Nat}:jnL f (j+1)=jnL f j++f j:=by
 unfold jnL
 rw[ZpA,List.flatMap_append]
 simp
theorem Zjq{β:Type}{f:Int->List β}{j:Nat}:∀{n:Nat},j<=n->∃ r,jnL f n=jnL f j++r
 | 0,h=>⟨[],by rw[show j=0 by omega];rfl⟩
 | n+1,h=>by
  by_cases e:j=n+1
  ·exact⟨[],by rw[e,List.append_nil]⟩
  ·obtain⟨r,hr⟩:=Zjq (f:=f) (show j<=n by omega)
   exact⟨r++f n,by rw[Da,hr,List.append_assoc]⟩
theorem Zsb{β:Type}{f:Int->List β}{j m:Nat}(h:((jnL f j).take m).length<m):(jnL f (j+1)).take m=(jnL f j).take m++(f j).take (m-((jnL f j).take m).length):=by
 rw[List.length_take] at h
 have hl:(jnL f j).length<m:=by omega
 rw[Da,List.take_append,List.take_of_length_le (l:=jnL f j) (by omega)]
theorem Zsc{β:Type}{f:Int->List β}{j n m:Nat}(hj:j<=n)(h:m<=((jnL f j).take m).length):(jnL f n).take m=(jnL f j).take m:=by
 obtain⟨r,hr⟩:=Zjq (f:=f) hj
 rw[hr]
 exact ZpW h r
def tkB{β:Type}(m:Bool)(L:List β):List β:=if m then L else L.take 1
theorem Zjr{β:Type}{m:Bool}:tkB m ([]:List β)=[]:=by cases m <;> rfl
theorem Zu7{β:Type}{m:Bool}{x y:List β}(h:m=false->x=[]):tkB m (x++y)=tkB m x++tkB m y:=by
 cases m
 ·rw[h rfl];rfl
 ·rfl
theorem Zsd{β:Type}{f:Int->List β}{j n:Nat}(hj:j<n)(h:jnL f j=[])(hf:f j≠[]):tkB false (jnL f n)=tkB false (f j)/\(jnL f n).isEmpty=false:=by
 obtain⟨r,hr⟩:=Zjq (f:=f) (show j+1<=n by omega)
 rw[Da,h,List.nil_append] at hr
 rw[hr]
 cases hfj:f j with
 | nil=>exact absurd hfj hf
 | cons a b=>exact⟨rfl,rfl⟩
theorem ZhW{l m:Nat}{x y:List (Nat×Ob)}{S:Sto}(h:l≠m):Zu l x (Zu m y S)=Zu m y (Zu l x S):=by
 funext i
 unfold Zu
 by_cases h1:i.1=l
 ·rw[if_pos h1,if_neg (fun e=>h (by omega)),if_pos h1]
 ·rw[if_neg h1]
  by_cases h2:i.1=m
  ·rw[if_pos h2,if_pos h2]
  ·rw[if_neg h2,if_neg h2,if_neg h1]
theorem Zm8{l k:Nat}{x:List (Nat×Ob)}{S:Sto}:Zu l x S (l,k)=lkO k x:=by unfold Zu;rw[if_pos rfl]
theorem ZkI{l:Nat}{x:List (Nat×Ob)}{S:Sto}{i:Oid}(h:i.1≠l):Zu l x S i=S i:=by unfold Zu;rw[if_neg h]
end Go.Fd

/-
  TRANSLATIONS, THE REFERENCE: TIES. Own work.
-/
namespace Go.Fd
set_option maxRecDepth 20000
abbrev cB(b:TBigraph):IV:=.ag ((Zb b).map .tr)
theorem Zez(l:List Int)(hl:l.length<=4294967296)(lvl:Nat)(S:Sto):Sem Proofs.Tryz.prog YH lvl [tI l] S (.ow 1 (rI l) true) S:=by
 refine Zc ZeX trivial ?_
 simp only[Za7,List.length_map,Zbt,Zbu,EVA,seval]
 exact hl
theorem Zu8{y:List Int}{j:Nat}{v:Int}(h:j<y.length):Vs (rI y) [] j 0 (.v (.int .i64 v))=rI (y.set j v):=by
 simp only[Vs]
 rw[Jo h]
 exact(List.map_set (f:=fun n:Int=>[tv n]) (l:=y) (i:=j) (a:=v)).symm
theorem Zse{n:Nat}:rI (List.replicate (n+1) (-1:Int))=rI (List.replicate n (-1))++[[tv (-1)]]:=by
 rw[List.replicate_succ']
 simp
theorem Zn1(n:Nat)(hn:n<=100)(lvl:Nat)(S:Sto):Sem Proofs.Tryz.prog Up lvl [iI n] S (.ow 1 (rI (List.replicate n (-1))) true) S:=by
 refine Zc ZiN trivial ?_
 simp only[Zc9,EVA,seval]
 refine Zv (α:=Unit) n (fun j _=>[(3,.hd (lvl,160) [] 0 j none j),(4,iI j)]) (fun j _=>[(160,.ar 1 (rI (List.replicate j (-1))) true j 0)]) (fun _ _=>True) () (by simp only[EVA,seval]) (by (simp only[EVA,seval]) <;> rfl) trivial ?_
 intro j _ hj _
 simp only[List.length_map,List.length_replicate,EVA,seval]
 refine Zk (fun hlt=>?_) (fun hge=>?_)
 ·have hja:j<n:=by omega
  exact⟨by omega,by rw[Zd];omega,Ze () hja (by rw[Zse];rfl) trivial⟩
 ·have:j=n:=by omega
  subst this
  rfl
theorem Zp1(a b:TBigraph)(es:List Int)(x y:Int)(ha:0<=a.edges/\a.edges<=8)(hab:a.edges=b.edges)(hes:es.length=a.edges.toNat)(hx:0<=x/\x<=1000)(hy:0<=y/\y<=1000)(lvl:Nat)(S:Sto) :
  Sem Proofs.Tryz.prog Dj lvl [cB a,cB b,tI es,iI x,iI y] S (.tu [tI ((ZgR a.edges es x y).getD es),iB (ZgR a.edges es x y).isSome]) S:=by
 refine Zc Zkk (by simp [low,men,Zf]) ?_
 unfold ZgR
 rw[hab] at ha hes ⊢
 by_cases h1:b.edges<=x
 ·rw[if_pos (.inl h1)]
  by_cases h2:x=y
  ·have e:(x-b.edges=y-b.edges)=True:=eq_true (by omega)
   rw[if_pos h2]
   simp only[YB,Zb,hab,h1,e,EVA,seval]
   exact⟨by rw[Zd];omega,by rw[Zd];omega⟩
  ·have e:(x-b.edges=y-b.edges)=False:=eq_false (by omega)
   rw[if_neg h2]
   simp only[YB,Zb,hab,h1,e,EVA,seval]
   exact⟨by rw[Zd];omega,by rw[Zd];omega⟩
 by_cases h3:b.edges<=y
 ·rw[if_pos (.inr h3)]
  by_cases h2:x=y
  ·omega
  ·have e:(x-b.edges=y-b.edges)=False:=eq_false (by omega)
   rw[if_neg h2]
   simp only[YB,Zb,hab,h1,h3,e,EVA,seval]
   exact⟨by rw[Zd];omega,by rw[Zd];omega⟩
 rw[if_neg (show ¬ (b.edges<=x\/b.edges<=y) by omega)]
 obtain⟨k,rfl⟩:=Int.eq_ofNat_of_zero_le hx.1
 have hk:k<es.length:=by omega
 have ga:=Jo hk
 simp only[Int.toNat_natCast]
 by_cases h4:0<=g0 es k
 ·rw[if_pos (.inl h4)]
  by_cases h5:g0 es k=y
  ·have e:(g0 es k=y)=True:=eq_true h5
   rw[if_pos h5]
   simp only[YB,Zb,hab,h1,h3,ga,h4,e,EVA,seval]
   try rfl
  ·have e:(g0 es k=y)=False:=eq_false h5
   rw[if_neg h5]
   simp only[YB,Zb,hab,h1,h3,ga,h4,e,EVA,seval]
   try rfl
 by_cases h6:y∈es
 ·rw[if_pos (.inr h6)]
  by_cases h5:g0 es k=y
  ·have e:(g0 es k=y)=True:=eq_true h5
   rw[if_pos h5]
   simp only[YB,Zb,hab,h1,h3,ga,h4,EVA,seval,Zf,men]
   refine Za (Zbp es y (by omega)) ?_
   simp only[h6,ga,e,decide_true,EVA,seval]
   try rfl
  ·have e:(g0 es k=y)=False:=eq_false h5
   rw[if_neg h5]
   simp only[YB,Zb,hab,h1,h3,ga,h4,EVA,seval,Zf,men]
   refine Za (Zbp es y (by omega)) ?_
   simp only[h6,ga,e,decide_true,EVA,seval]
   try rfl
 rw[if_neg (show ¬ (0<=g0 es k\/y∈es) from fun h=>h.elim h4 h6)]
 have sp:=Zu8 (y:=es) (j:=k) (v:=y) hk
 simp only[YB,Zb,hab,h1,h3,ga,h4,EVA,seval,Zf,men]
 refine Za (Zbp es y (by omega)) ?_
 simp only[h6,decide_false,EVA,seval,Zf,men]
 refine Za (Zez es (by omega)) ?_
 simp only[hk,ga,sp,List.length_map,EVA,seval]
 refine⟨by rw[List.length_set];exact Nat.le_refl _,?_⟩
 rw[JA (by simp)]
end Go.Fd
