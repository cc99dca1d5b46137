/-
  LEAST SORTINGS: WHAT IS COMPUTED, IN PLAIN WORDS. Own work.
-/
import Derived.Test.YtgkglbecjlffiaaGreatDoorT05
import Derived.KernelRfl
set_option linter.all false
namespace Go.Fd
set_option maxRecDepth 20000
theorem Zv9{lo:Int}:∀{l:List Int} {k:Nat},l.Pairwise (fun a b=>a<b)->(∀ n∈l,lo<=n/\n<lo+k)->l.length<=k:=fun {l k} hp hb=>by
 induction l generalizing lo k with
 | nil=>simp
 | cons a r ih =>
  rw[Ua3] at hp
  have ha:=hb a (by simp)
  have:=ih (lo:=a+1) (k:=(lo+k-(a+1)).toNat) hp.2 fun n hn=>by
   have h1:=hp.1 n hn
   have h2:=hb n (by simp [hn])
   omega
  rw[List.length_cons]
  omega
theorem putI_memZ{n c:Int}{l:List Int}:c∈Jp n l↔c=n\/c∈l:=by
 unfold Jp
 have hl:=List.takeWhile_append_dropWhile (p:=fun x=>decide (x<n)) (l:=l)
 split
 ·rename_i h
  constructor
  ·exact .inr
  ·rintro(rfl | h2)
   ·have:c∈l.dropWhile fun x=>decide (x<c):=by
     cases hd:l.dropWhile fun x=>decide (x<c) with
     | nil=>rw[hd] at h;cases h
     | cons a r=>rw[hd] at h;simp at h;simp [h]
    rw[<-hl];exact List.mem_append_right _ this
   ·exact h2
 ·rw[Uax,UaV]
  constructor
  ·rintro(h | h | h)
   ·exact .inr (hl ▸ List.mem_append_left _ h)
   ·exact .inl h
   ·exact .inr (hl ▸ List.mem_append_right _ h)
  ·rintro(h | h)
   ·exact .inr (.inl h)
   ·rw[<-hl,Uax] at h
    rcases h with h | h
    ·exact .inl h
    ·exact .inr (.inr h)
theorem Zwa{n a:Int}{r:List Int}(h:a<n):Jp n (a::r)=a::Jp n r:=by
 unfold Jp
 have e1:(a::r).dropWhile (fun x=>decide (x<n))=r.dropWhile fun x=>decide (x<n):=by simp [h]
 have e2:(a::r).takeWhile (fun x=>decide (x<n))=a::r.takeWhile fun x=>decide (x<n):=by simp [h]
 rw[e1,e2]
 split <;> simp
theorem Zi0{n:Int}:∀{l:List Int},l.Pairwise (fun a b=>a<b)->(Jp n l).Pairwise (fun a b=>a<b)
 | [],_=>by simp [Jp]
 | a::r,h=>by
  rw[Ua3] at h
  by_cases e:a<n
  ·rw[Zwa e,Ua3]
   refine⟨fun c hc=>?_,Zi0 h.2⟩
   rcases putI_memZ.1 hc with rfl | hc
   ·exact e
   ·exact h.1 c hc
  ·have e1:(a::r).dropWhile (fun x=>decide (x<n))=a::r:=by simp [e]
   have e2:(a::r).takeWhile (fun x=>decide (x<n))=[]:=by simp [e]
   unfold Jp
   rw[e1,e2]
   split
   ·exact Ua3.2 h
   ·rename_i hne
    simp only[List.head?_cons,Uak] at hne
    rw[List.nil_append,Ua3]
    refine⟨fun c hc=>?_,Ua3.2 h⟩
    rcases UaV.1 hc with rfl | hc
    ·omega
    ·have:=h.1 c hc;omega
structure Gdl (n:Nat) (l:List Int):Prop where
 pw:l.Pairwise (fun a b=>a<b)
 bd:∀ c∈l,0<=c/\c<(n:Int)
theorem Gdl.len{n:Nat}{l:List Int}(h:Gdl n l):l.length<=n:=Zv9 (lo:=0) h.pw fun c hc=>by have:=h.bd c hc;omega
theorem Gdl.asc{n:Nat}{l:List Int}(h:Gdl n l):DA l:=fun a b hab hb=>by
 have:=List.pairwise_iff_getElem.1 h.pw a b (by omega) hb hab
 have ha:a<l.length:=by omega
 simpa [hb,ha] using this
theorem Gdl.put{n:Nat}{l:List Int}(h:Gdl n l){c:Int}(h0:0<=c)(h1:c<(n:Int)):Gdl n (Jp c l) :=
 ⟨Zi0 h.pw,fun d hd=>by
  rcases putI_memZ.1 hd with rfl | hd
  ·exact⟨h0,h1⟩
  ·exact h.bd d hd⟩
theorem DB(n:Nat):Gdl n []:=⟨List.Pairwise.nil,fun c hc=>by cases hc⟩
def JK(ns:List (List Int))(k:Nat):List Int:=(ns[k]?).getD []
theorem Uo{ns:List (List Int)}{k:Nat}(h:k<ns.length):JK ns k=ns[k]:=by simp [JK,h]
def tN(b:TBigraph)(t:List Int):Nat->List Int
 | 0=>t
 | j+1=>if J6 b j<0 then Jp (ZT b j) (tN b t j) else tN b t j
def nN(b:TBigraph)(ns:List (List Int)):Nat->List (List Int)
 | 0=>ns
 | j+1=>if J6 b j<0 then nN b ns j else (nN b ns j).set (ZT b (J6 b j)).toNat (Jp (ZT b j) (JK (nN b ns j) (ZT b (J6 b j)).toNat))
def mN(cs m:List Int):Nat->List Int
 | 0=>m
 | k+1=>(mN cs m k).set k (max (g0 (mN cs m k) k) (g0 cs k))
def ZA(s0:TSorting)(b:TBigraph)(m:List Int):Nat->List Int
 | 0=>m
 | l+1=>mN (VF s0 b l) (ZA s0 b m l) s0.most.length
theorem VH{b:TBigraph}{ns:List (List Int)}:∀{j:Nat},(nN b ns j).length=ns.length
 | 0=>rfl
 | j+1=>by
  unfold nN
  split
  ·exact VH
  ·rw[UaN];exact VH
theorem Wt{cs m:List Int}:∀{j:Nat},(mN cs m j).length=m.length
 | 0=>rfl
 | j+1=>by unfold mN;rw[UaN];exact Wt
theorem Wu{s0:TSorting}{b:TBigraph}{m:List Int}:∀{j:Nat},(ZA s0 b m j).length=m.length
 | 0=>rfl
 | j+1=>by unfold ZA;rw[Wt];exact Wu
theorem VX{sig:List TControl}{b:TBigraph}(h:bigOK sig b){j:Nat}(hj:j<b.nodes.length):b.nodes[j].control=ZT b j/\0<=ZT b j/\ZT b j<(sig.length:Int):=by
 have hc:=(h.nodes j hj).ctl
 have e:ZT b j=b.nodes[j].control:=by simp [ZT,hj]
 rw[e]
 exact⟨rfl,by omega,by omega⟩
theorem XR{sig:List TControl}{b:TBigraph}(h:bigOK sig b){t:List Int}(ht:Gdl sig.length t):∀{j:Nat},j<=b.nodes.length->Gdl sig.length (tN b t j)
 | 0,_=>ht
 | j+1,hj=>by
  unfold tN
  have ih:=XR h ht (j:=j) (by omega)
  have hc:=VX h (j:=j) (by omega)
  split
  ·exact ih.put hc.2.1 hc.2.2
  ·exact ih
def GdlS(n:Nat)(ns:List (List Int)):Prop:=∀ r∈ns,Gdl n r
theorem GdlS.row{n:Nat}{ns:List (List Int)}(h:GdlS n ns)(k:Nat):Gdl n (JK ns k):=by
 unfold JK
 cases e:ns[k]? with
 | none=>exact DB n
 | some x =>
  obtain⟨hl,rfl⟩:=Uac.1 e
  exact h _ (Ual hl)
theorem Wv{sig:List TControl}{b:TBigraph}(h:bigOK sig b){ns:List (List Int)}(ht:GdlS sig.length ns):∀{j:Nat},j<=b.nodes.length->GdlS sig.length (nN b ns j)
 | 0,_=>ht
 | j+1,hj=>by
  unfold nN
  have ih:=Wv h ht (j:=j) (by omega)
  have hc:=VX h (j:=j) (by omega)
  split
  ·exact ih
  ·intro r hr
   rcases UaG hr with hr | rfl
   ·exact ih r hr
   ·exact(ih.row _).put hc.2.1 hc.2.2
def tG(gs:List TBigraph):List Int:=gs.foldl (fun t b=>tN b t b.nodes.length) []
def nG(n:Nat)(gs:List TBigraph):List (List Int):=gs.foldl (fun t b=>nN b t b.nodes.length) (List.replicate n [])
def mG(s0:TSorting)(gs:List TBigraph):List Int:=gs.foldl (fun t b=>ZA s0 b t (Jd b)) (List.replicate s0.most.length 0)
theorem ZbA{gs:List TBigraph}{i:Nat}(h:i<gs.length):tG (gs.take (i+1))=tN gs[i] (tG (gs.take i)) gs[i].nodes.length:=by
 unfold tG
 rw[Uaj h,UbM]
 rfl
theorem DC{n:Nat}{gs:List TBigraph}{i:Nat}(h:i<gs.length):nG n (gs.take (i+1))=nN gs[i] (nG n (gs.take i)) gs[i].nodes.length:=by
 unfold nG
 rw[Uaj h,UbM]
 rfl
theorem ZbB{s0:TSorting}{gs:List TBigraph}{i:Nat}(h:i<gs.length):mG s0 (gs.take (i+1))=ZA s0 gs[i] (mG s0 (gs.take i)) (Jd gs[i]):=by
 unfold mG
 rw[Uaj h,UbM]
 rfl
def allOK(sig:List TControl)(gs:List TBigraph):Prop:=∀ b∈gs,bigOK sig b
theorem allOK.at{sig:List TControl}{gs:List TBigraph}(h:allOK sig gs){i:Nat}(hi:i<gs.length):bigOK sig gs[i]:=h _ (Ual hi)
theorem ZbC{sig:List TControl}{gs:List TBigraph}:∀{i:Nat},allOK sig (gs.take i)->i<=gs.length->Gdl sig.length (tG (gs.take i))
 | 0,_,_=>DB _
 | i+1,h,hi=>by
  rw[ZbA (by omega)]
  have hin:gs[i]∈gs.take (i+1):=by rw[Uaj (by omega)];exact List.mem_append_right _ (UaT.2 rfl)
  exact XR (h _ hin) (ZbC (fun b hb=>h b ((List.take_subset_take_left gs (Nat.le_succ i)) hb)) (by omega)) (Uag _)
theorem DD{sig:List TControl}{gs:List TBigraph}:∀{i:Nat},allOK sig (gs.take i)->i<=gs.length->GdlS sig.length (nG sig.length (gs.take i))
 | 0,_,_=>fun r hr=>by
  rw[List.eq_of_mem_replicate hr]
  exact DB _
 | i+1,h,hi=>by
  rw[DC (by omega)]
  have hin:gs[i]∈gs.take (i+1):=by rw[Uaj (by omega)];exact List.mem_append_right _ (UaT.2 rfl)
  exact Wv (h _ hin) (DD (fun b hb=>h b ((List.take_subset_take_left gs (Nat.le_succ i)) hb)) (by omega)) (Uag _)
theorem XT{n:Nat}{gs:List TBigraph}:∀{i:Nat},i<=gs.length->(nG n (gs.take i)).length=n
 | 0,_=>Ua2
 | i+1,hi=>by rw[DC (by omega),VH,XT (by omega)]
theorem Ww{s0:TSorting}{gs:List TBigraph}:∀{i:Nat},i<=gs.length->(mG s0 (gs.take i)).length=s0.most.length
 | 0,_=>Ua2
 | i+1,hi=>by rw[ZbB (by omega),Wu,Ww (by omega)]
def YN(cs:List Int)(p:A2):Bool:=decide (0<g0 cs p.1.toNat)&&decide (0<g0 cs p.2.toNat)
def Vo(s0:TSorting)(b:TBigraph)(p:A2):Nat->Bool
 | 0=>false
 | l+1=>Vo s0 b p l || YN (VF s0 b l) p
def DE(s0:TSorting)(p:A2)(b:TBigraph):Bool:=Vo s0 b p (Jd b)
def Yv(s0:TSorting)(gs:List TBigraph)(p:A2):Bool:=gs.any (DE s0 p)
theorem Zeq{s0:TSorting}{gs:List TBigraph}{p:A2}{i:Nat}(h:i<gs.length):Yv s0 (gs.take (i+1)) p=(Yv s0 (gs.take i) p || DE s0 p gs[i]):=by
 unfold Yv
 rw[Uaj h,List.any_append]
 simp
def JP(x m:Nat):List A2:=(List.range m).map fun i:Nat=>(((x:Int),((x+1+i:Nat):Int)):A2)
theorem Zer{x m:Nat}:JP x (m+1)=JP x m++[((x:Int),((x+1+m:Nat):Int))]:=by simp [JP,List.range_succ]
theorem DF{x m:Nat}:(JP x m).length=m:=by simp [JP]
def ZU(n x:Nat):List A2:=Zbw (fun x=>JP x (n-x-1)) x
theorem DG{n x:Nat}:ZU n (x+1)=ZU n x++JP x (n-x-1):=rfl
theorem Up{n x:Nat}:(ZU n x).length<=x*(n-1):=ZiI fun k _=>by rw[DF];omega
theorem Zi1{n:Nat}{p:A2}:∀{x:Nat},p∈ZU n x->∃ a b:Nat,p=((a:Int),(b:Int))/\a<n/\b<n
 | 0,h=>by cases h
 | x+1,h=>by
  rw[DG,Uax] at h
  rcases h with h | h
  ·exact Zi1 h
  ·obtain⟨i,hi,rfl⟩:=UaP.1 h
   rw[List.mem_range] at hi
   exact⟨x,x+1+i,rfl,by omega,by omega⟩
def YO(s0:TSorting)(gs:List TBigraph)(b:TBigraph)(l:Nat):List A2:=(ZU s0.most.length s0.most.length).filter fun p=>!(Yv s0 gs p || Vo s0 b p l)
theorem Zwb{s0:TSorting}{gs:List TBigraph}{b:TBigraph}{l:Nat}:YO s0 gs b (l+1)=(YO s0 gs b l).filter fun p=>!YN (VF s0 b l) p:=by
 unfold YO
 rw[List.filter_filter]
 congr 1
 funext p
 rw[Vo]
 cases Yv s0 gs p <;> cases Vo s0 b p l <;> cases YN (VF s0 b l) p <;> rfl
def Ym(s0:TSorting)(gs:List TBigraph):List A2:=(ZU s0.most.length s0.most.length).filter fun p=>!Yv s0 gs p
theorem Zwc{s0:TSorting}{gs:List TBigraph}{b:TBigraph}:YO s0 gs b 0=Ym s0 gs:=by
 unfold YO Ym
 congr 1
 funext p
 rw[Vo,Bool.or_false]
theorem Zwd{s0:TSorting}{gs:List TBigraph}{i:Nat}(h:i<gs.length):YO s0 (gs.take i) gs[i] (Jd gs[i])=Ym s0 (gs.take (i+1)):=by
 unfold YO Ym
 congr 1
 funext p
 rw[Zeq h]
 rfl
theorem Zwe{s0:TSorting}:Ym s0 []=ZU s0.most.length s0.most.length:=by
 unfold Ym Yv
 simp
theorem Zwf{s0:TSorting}(h:s0.most.length<=4){gs:List TBigraph}{b:TBigraph}{l:Nat}:(YO s0 gs b l).length<=12:=by
 refine UaA (UbA ..) (UaA Up (Nat.mul_le_mul h (Nat.sub_le_sub_right h 1)))
theorem Zi2{s0:TSorting}(h:s0.most.length<=4){gs:List TBigraph}:(Ym s0 gs).length<=12:=by
 refine UaA (UbA ..) (UaA Up (Nat.mul_le_mul h (Nat.sub_le_sub_right h 1)))
def J0(sig:List TControl)(sorts:List (List Int))(many:Nat):TSorting:=⟨[],List.replicate sig.length [],sorts,List.replicate many 0,[]⟩
theorem XU{sig:List TControl}{sorts:List (List Int)}{many:Nat}:(J0 sig sorts many).most.length=many:=Ua2
theorem base_iff{sig:List TControl}{sorts:List (List Int)}{many:Nat}:sortOK sig (J0 sig sorts many)↔YM sig/\XO sig sorts many/\1<=many/\many<=4:=by
 rw[Zvy,XU]
 constructor
 ·rintro⟨h1,h2,h3,h4,h5,h6,h7⟩
  exact⟨h1,h4,h5⟩
 ·rintro⟨h1,h2,h3,h4⟩
  refine⟨h1,fun i hi=>(by cases hi),⟨Ua2,fun k hk hk2=>?_⟩,h2,⟨h3,h4⟩,fun n hn=>?_,fun i hi=>(by cases hi)⟩
  ·simp only[J0,List.getElem_replicate]
   exact⟨fun i hi=>(by cases hi),fun _=>trivial⟩
  ·rw[List.eq_of_mem_replicate hn]
   omega
def VI(sig:List TControl)(sorts:List (List Int))(many:Int)(gs:List TBigraph):Prop:=(1<=many/\many<=4)/\(1<=gs.length/\gs.length<=8)/\sortOK sig (J0 sig sorts many.toNat)/\allOK sig gs
def VY:TSorting:=⟨[],[],[],[],[]⟩
def ZbD(sig:List TControl)(sorts:List (List Int))(many:Int)(gs:List TBigraph):TSorting :=
 ⟨tG gs,nG sig.length gs,sorts,mG (J0 sig sorts many.toNat) gs,Ym (J0 sig sorts many.toNat) gs⟩
open Classical in
noncomputable def J1(sig:List TControl)(sorts:List (List Int))(many:Int)(gs:List TBigraph):TSorting:=if VI sig sorts many gs then ZbD sig sorts many gs else VY
noncomputable def Xf(sig:List TControl)(sorts:List (List Int))(many:Int)(gs:List TBigraph):Bool:=dc (VI sig sorts many gs)
open Go.Proofs.Tryz renaming prog->UbR
theorem Zwg{C:ZD}{env:List (Nat×IV)}{loc:List (Nat×Ob)}{out:Zc}{d:Option Nat}{K:St->Prop}{fid:FuncId}{imp:Bool}{lvl:Nat}{args:List IV}{r:IV}(key:Nat)(o:Nat->Ob)(h:∃ v,C fid (lvl+1) args (Zy lvl loc out) r (Ze (Zy lvl loc out) (lvl,key) (o v)))
  (hk:∀ v,freshK (keyOf d) (ptO key (o v) loc) (impv imp lvl (keyOf d) 0 r).2.length/\K ⟨lvl,ptd d (impv imp lvl (keyOf d) 0 r).1 env,addO (keyOf d) (impv imp lvl (keyOf d) 0 r).2 (ptO key (o v) loc),out⟩):QB C fid imp lvl env loc out d K args :=
 have ⟨v,h1⟩:=h
 ZiV key (o v) h1 (hk v)
theorem Zi3{α:Type}{f:α->Bool}:∀{l:List α} {j:Int},(Vn f l j = -1/\∀ x∈l,f x=false)\/∃ i,∃ h:i<l.length,Vn f l j=j+i/\(∀ x∈l.take i,f x=false)/\f l[i]=true
 | [],j=>.inl ⟨rfl,fun _ h=>by cases h⟩
 | x::r,j=>by
  rw[Zbi]
  cases hx:f x with
  | true=>exact .inr ⟨0,by simp,by simp,by simp,hx⟩
  | false =>
   rcases Zi3 (f:=f) (l:=r) (j:=j+1) with ⟨h1,h2⟩ | ⟨i,h,h1,h2,h3⟩
   ·exact .inl ⟨by simp [h1],fun y hy=>by
     rcases UaV.1 hy with rfl | hy
     ·exact hx
     ·exact h2 y hy⟩
   ·refine .inr ⟨i+1,by simpa using h,by simp only[UaZ,if_false,h1];omega,fun y hy=>?_,by simpa using h3⟩
    rw[List.take_succ_cons] at hy
    rcases UaV.1 hy with rfl | hy
    ·exact hx
    ·exact h2 y hy
theorem Zi4{α:Type}{f:α->Bool}{l:List α}(h:∀ x∈l,f x=false):(l.filter fun n=>!f n)=l:=List.filter_eq_self.2 fun x hx=>by simp [h x hx]
theorem Zi5{α:Type}{f:α->Bool}{l:List α}{j:Nat}(h:j<l.length):((l.take (j+1)).filter fun n=>!f n)=((l.take j).filter fun n=>!f n)++if f l[j]=true then [] else [l[j]]:=by
 rw[Uaj h,List.filter_append]
 cases hx:f l[j] <;> simp [hx]
theorem Zwh{α:Type}{y:List α}{i:Nat}{v:α}(h:i<y.length):(y.set i v).take (i+1)=y.take i++[v]:=by
 rw[Uaj (by simpa using h),List.take_set_of_le (Uag i),List.getElem_set_self]
theorem Zi6{lvl:Nat}{S:Zc}{id:Zd}{k hw ver:Nat}{es:Row}{u:Bool}(hne:id.1≠lvl)(hS:S id=some (.ar k es u hw ver)):Jy (Zy lvl [] S) id [] k:=by
 unfold Jy
 rw[ZE hne,hS]
def gP(l:List A2)(i:Nat):A2:=l.getD i (0,0)
theorem Zi7{l:List A2}{i:Nat}(h:i<l.length):gP l i=l[i]:=by
 unfold gP
 rw[UbF,Uaf h]
 rfl
theorem Zes{l:List A2}{i:Nat}(h:i<l.length):(l.map Zx)[i]? = some (Zx (gP l i)):=by
 rw[Zi7 h,Uan,Uaf h]
 rfl
theorem Zwi{y:List A2}{a b:Nat}{v:A2}(h:a<y.length):gP (y.set a v) b=if a=b then v else gP y b:=by
 unfold gP
 simp only[UbF,Ua8]
 by_cases e:a=b
 ·subst e
  simp [h]
 ·simp [e]
theorem Zwj{y:List A2}{j:Nat}{a:Int}(h:j<y.length):ZG (y.map Zx) [] j 0 (tv a)=(y.set j (a,(gP y j).2)).map Zx:=by
 rw[YK (Zes h),Ube]
 rfl
theorem Zi8{y:List A2}{j:Nat}{w:A2}(h:j<y.length):((y.set j w).map Zx)[j]? = some (Zx w):=by
 rw[Uan,UaY h]
 rfl
theorem Zwk{y:List A2}{j:Nat}{v:A2}(h:j<y.length):ZG ((y.set j (v.1,(gP y j).2)).map Zx) [] j 1 (tv v.2)=(y.set j v).map Zx:=by
 rw[YK (Zi8 h),Ube,Ubb,Ube]
 rfl
theorem Zwl(l:List A2)(hl:l.length<=4294967290)(f:A2->Bool){fe:FuncId}{cs:List (List Tr)}(hf:∀ x∈l,∀ lvl S,Sem UbR fe lvl (.ag ((Zx x).map .tr)::cs.map IV.ta) S (iB (f x)) S)(lvl:Nat)(S:Zc)(id:Zd)(u:Bool)(hw ver:Nat)(hid:id.1<lvl)(hS:S id=some (.ar 2 (l.map Zx) u hw ver)) :
  ∃ v2,Sem UbR Zdr lvl [.hd id [] 0 l.length none hw,.fn fe (cs.map IV.ta)] S (.hd id [] 0 (l.filter fun n=>!f n).length none hw) (Ze S id (.ar 2 ((l.filter fun n=>!f n).map Zx) u hw v2)):=by
 have hne:id.1≠lvl:=by omega
 have hix:=Zig (P:=UbR) ZvX (c:=Zx) (fun _=>rfl) (f:=f) (fe:=fe) (cs:=cs) l (by omega) (fun x hx lvl S=>hf x hx lvl S)
 rcases Zi3 (f:=f) (l:=l) (j:=0) with ⟨h1,h2⟩ | ⟨i0,h,h1,h2,h3⟩
 ·refine⟨ver,?_⟩
  rw[Zi4 h2,QI hS]
  refine Zv ZhF hid ?_
  simp only[Zea,XL,Ql,ZE hne,hS,Zb,seval,Za,men]
  rw[show cut (l.map Zx) 0 l.length=l.map Zx from Z7 (by rw[Uab])]
  refine Zi hix ?_
  simp only[h1,Yh hne,Zb,seval,Za,men]
 ·refine⟨ver+1,?_⟩
  rw[Int.zero_add] at h1
  refine Zv ZhF hid ?_
  simp only[Zea,XL,Ql,ZE hne,hS,Zb,seval,Za,men]
  rw[show cut (l.map Zx) 0 l.length=l.map Zx from Z7 (by rw[Uab])]
  refine Zi hix ?_
  have hm1:¬ (i0:Int) = -1:=by omega
  simp only[h1,hm1,Zb,seval,Za,men]
  refine⟨by rw[Zh];omega,?_⟩
  have f0:(l.take i0).filter (fun n=>!f n)=l.take i0:=Zi4 h2
  have f1:(l.take (i0+1)).filter (fun n=>!f n)=l.take i0:=by rw[Zi5 h,f0,if_pos h3,Ua9]
  refine Jf (α:=Nat×List A2) l.length (fun m x=>⟨lvl,[(0,.hd id [] 0 l.length none hw),(1,.fn fe (cs.map IV.ta)),(5,iI (x.1:Int)),(6,iI ((i0+1+m:Nat):Int))],[],Ze S id (.ar 2 (x.2.map Zx) u hw ver)⟩) (fun m x=>i0+1+m<=l.length/\x.2.length=l.length/\x.1=((l.take (i0+1+m)).filter fun n=>!f n).length/\x.2.take x.1=(l.take (i0+1+m)).filter (fun n=>!f n)/\x.1<=i0+m/\∀ q,i0+1+m<=q->gP x.2 q=gP l q) (i0,l) ⟨by simp only[ZQ hne,Vm,Zb,seval,Za,men],by (simp only[QI hS,Zb,seval,Za,men]) <;> rfl⟩ ⟨by omega,rfl,by rw[Nat.add_zero,f1,Uas];omega,by rw[Nat.add_zero,f1],by omega,fun _ _=>rfl⟩ ?_
  intro m ⟨i,y⟩ hm ⟨hm1,hy,hi,ht,hle,hq⟩
  dsimp only at hy hi ht hle hq
  simp only[Zb,seval,Za,men]
  refine Zl (fun hlt2=>?_) (fun hge2=>?_)
  ·have b1:i0+1+m<l.length:=by omega
   have gy:=Zes (l:=y) (i:=i0+1+m) (by omega)
   have q1:=hq (i0+1+m) (by omega)
   have b4:i<l.length:=by omega
   have e0:gP l (i0+1+m)=l[i0+1+m]:=Zi7 b1
   have fs:=Zi5 (f:=f) b1
   simp only[ZE hne,Ji,gy,q1,b1,ZQ hne,XL,Ql,Uap,Zx,Zb,seval,Za,men]
   refine Zi (hf (gP l (i0+1+m)) (by rw[e0];exact Ual b1)) ?_
   rw[<-e0] at fs
   cases hx:f (gP l (i0+1+m)) with
   | true =>
    rw[if_pos hx,Ua9] at fs
    simp only[hx,ZQ hne,Vm,Zb,seval,Za,men]
    exact⟨by rw[Zh];omega,Zr (i,y) (by omega) rfl ⟨by omega,hy,by rw[show i0+1+(m+1)=i0+1+m+1 from rfl,fs];exact hi,by rw[show i0+1+(m+1)=i0+1+m+1 from rfl,fs];exact ht,by show i<=i0+(m+1);omega,fun q hqq=>hq q (by omega)⟩⟩
   | false =>
    rw[if_neg (by rw[hx];decide)] at fs
    have s1:=Zwj (y:=y) (j:=i) (a:=(gP l (i0+1+m)).1) (by omega)
    have s2:=Zwk (y:=y) (j:=i) (v:=gP l (i0+1+m)) (by omega)
    have g2:=Zi8 (y:=y) (j:=i) (w:=((gP l (i0+1+m)).1,(gP y i).2)) (by omega)
    have gy0:=Zes (l:=y) (i:=i) (by omega)
    simp only[ZE hne,JH hne,JJ,Ji,gy,gy0,q1,b1,b4,s1,s2,g2,hx,Uap,ZQ hne,Vm,Zx,Zb,seval,Za,men]
    refine⟨by rw[Zh];omega,by rw[Zh];omega,Zr (i+1,y.set i (gP l (i0+1+m))) (by omega) rfl ⟨by omega,by rw[UaN];exact hy,by rw[show i0+1+(m+1)=i0+1+m+1 from rfl,fs,Uam,<-hi];rfl,by rw[Zwh (by omega),ht,show i0+1+(m+1)=i0+1+m+1 from rfl,fs],by show i+1<=i0+(m+1);omega,fun q hqq=>by
     rw[Zwi (by omega),if_neg (by omega)]
     exact hq q (by omega)⟩⟩
  ·have en:i0+1+m=l.length:=by omega
   rw[en,Uaz] at hi ht
   refine⟨by omega,Zi6 hne (Ji ..),?_⟩
   have tk:(y.map Zx).take i=(l.filter fun n=>!f n).map Zx:=by rw[<-ht];exact(List.map_take ..).symm
   simp only[ZE hne,JH hne,JJ,Ji,tk,Uab,hy,Zb,seval,Za,men]
   refine⟨by omega,by omega,by omega,by omega,Zi6 hne (Ji ..),?_⟩
   simp only[Yh hne,Nat.sub_zero,hi,Zb,seval,Za,men]
theorem Zwm:Zo UbR Zhg (Qk 6 (some 6))=true:=by kernel_rfl
theorem Zwn:Zo UbR Zhf (XK Zhg)=true:=by kernel_rfl
theorem Zwo(sig:List TControl)(b:TBigraph)(hn:sig.length<=4294967296)(hbs:∀ y∈sig,Yd 4294967296 y)(hb:YD 4294967296 b)(lvl:Nat)(S:Zc):Sem UbR Za2 lvl [.ag ((Zk b).map .tr),.ta [Tr.sl (sig.map ZB)]] S (iB (!dc (bigOK sig b))) S:=by
 refine Zv ZuJ trivial ?_
 simp only[ZhB,Zk,Zb,seval,Za,men]
 refine Zi (ZvN sig b hn hbs hb) ?_
 simp only[Zb,seval,Za,men]
theorem Zi9{cs:List Int}{p:A2}:YN cs p=(decide (0<g0 cs p.1.toNat)&&decide (0<g0 cs p.2.toNat)):=(rfl)
theorem Zwp(cs:List Int)(p:A2)(a b:Nat)(hp:p=((a:Int),(b:Int)))(ha:a<cs.length)(hb:b<cs.length)(lvl:Nat)(S:Zc):Sem UbR Za3 lvl [.ag ((Zx p).map .tr),.ta [Tr.sl (rI cs)]] S (iB (YN cs p)) S:=by
 subst hp
 have g1:=JE ha
 have g2:=JE hb
 refine Zv ZuM trivial ?_
 simp only[ZhG,Zx,g1,g2,Int.toNat_natCast,Uah,Uab,ha,hb,Zb,seval,Za,men]
 rw[Zi9]
 by_cases h1:0<g0 cs a
 ·simp only[h1,g1,g2,ha,hb,Int.toNat_natCast,Uah,Zb,seval,Za,men]
 ·simp only[h1,g1,g2,ha,hb,Int.toNat_natCast,Uah,Zb,seval,Za,men]
  rw[Bool.false_and]
theorem XV{n a b:Int}:Jw n a b=dc (a<=n/\n<=b):=by
 unfold Jw dc
 by_cases h:a<=n <;> by_cases h2:n<=b <;> simp [h,h2]
theorem Zwq(n:Nat):List.replicate n [Tr.sl []]=(List.replicate n ([]:List Int)).map Zs:=by simp
theorem Zja(sig:List TControl)(sorts:List (List Int))(many:Int)(gs:List TBigraph)(hn:sig.length<=4294967296)(hbs:∀ y∈sig,Yd 4294967296 y)(hs:sorts.length<=4294967296)(hss:∀ y∈sorts,y.length<=4294967296)(hg:gs.length<=4294967296)(hgb:∀ y∈gs,YD 4294967296 y)(hf:∀ y∈gs,Ud y)(lvl:Nat)(S:Zc):Sem UbR ZaW lvl [.tr (.sl (sig.map ZB)),.tr (.sl (sorts.map Zs)),iI many,.tr (.sl (gs.map Zk))] S (.tu [Jt (J1 sig sorts many gs),iB (Xf sig sorts many gs)]) S:=by
 refine Zv Zuy (by simp [Jt,low,men,Za]) ?_
 simp only[Zhp,Uab,Zb,seval,Za,men]
 refine Zi (YW many 1 4) ?_
 simp only[Zb,seval,Za,men]
 have r0:¬ VI sig sorts many gs->J1 sig sorts many gs=VY:=fun h=>by unfold J1;rw[if_neg h]
 have r1:¬ VI sig sorts many gs->Xf sig sorts many gs=false:=fun h=>ZN h
 have hnone:¬ VI sig sorts many gs->(IV.tu [Jt VY,iB false])=IV.tu [Jt (J1 sig sorts many gs),iB (Xf sig sorts many gs)]:=fun h=>by rw[r0 h,r1 h]
 refine Zl (fun hm=>?_) (fun hm=>?_)
 rotate_left
 ·rw[<-hnone fun h=>hm (by rw[XV];exact Ye h.1)]
  rfl
 have hm1:1<=many/\many<=4:=by rw[XV] at hm;exact dc_iff.1 hm
 refine Zi (YW gs.length 1 8) ?_
 simp only[hm,Zb,seval,Za,men]
 refine Zl (fun hl=>?_) (fun hl=>?_)
 ·rw[<-hnone fun h=>by rw[XV,Ye (by have:=h.2.1;omega)] at hl;cases hl]
  rfl
 have hl1:1<=gs.length/\gs.length<=8:=by
  rw[XV,Bool.not_eq_false] at hl
  have:=dc_iff.1 hl
  omega
 obtain⟨M,hM⟩:∃ M:Nat,many=M:=⟨many.toNat,by omega⟩
 subst hM
 simp only[Zbn,Zwq,Int.toNat_natCast,Uah,Zb,seval,Za,men]
 refine⟨by omega,by omega,?_⟩
 obtain⟨s0,hs0⟩:∃ s0,s0=J0 sig sorts M:=⟨_,rfl⟩
 have hsl:s0.most.length=M:=by rw[hs0];exact XU
 refine Ja (α:=Unit) sorts.length (fun j _=>[(42,iI j)]) (fun j _=>[(320,.bx [.hd (lvl,1248) [] 0 0 none 0,.hd (lvl,1152) [] 0 sig.length none sig.length,.hd (lvl,1249) [] 0 j none j,.hd (lvl,1216) [] 0 M none M,.hd (lvl,1250) [] 0 0 none 0]),(1249,.ar 1 ((sorts.take j).map Zs) true j 0)]) (fun _ _=>True) () (by simp only[Zb,seval,Za,men]) (by (simp only[Zb,seval,Za,men]) <;> rfl) trivial ?_
 intro j _ hj _
 simp only[Uab,Zb,seval,Za,men]
 refine Zl (fun hlt=>?_) (fun hge=>?_)
 ·have hja:j<sorts.length:=by omega
  have ga:=ZY (c:=Zs) hja
  have hl1:((sorts.take j).map Zs).length=j:=by rw[Uab,Uas];omega
  have st1:(sorts.take j).map Zs++[[Tr.sl (rI sorts[j])]]=(sorts.take (j+1)).map Zs:=by
   rw[Uaj hja,UaS]
   rfl
  simp only[ga,hja,Zb,seval,Za,men]
  refine Zi (ZiN sorts[j] (hss _ (Ual hja))) ?_
  simp only[ga,hja,hl1,st1,Zb,seval,Za,men]
  exact⟨by omega,by rw[Zh];omega,Zr () hja rfl trivial⟩
 have:j=sorts.length:=by omega
 subst this
 rw[Uaz]
 have hbase:VC 4294967296 (J0 sig sorts M):=⟨by simp [J0],by simp [J0,hn],fun y hy=>by rw[List.eq_of_mem_replicate hy];simp,hs,hss,by rw[XU];omega,by simp [J0]⟩
 have cu0:∀ k:Row,cut k 0 0=[]:=fun k=>by simp [cut]
 have cuN:cut ((List.replicate sig.length ([]:List Int)).map Zs) 0 sig.length=(List.replicate sig.length []).map Zs:=Z7 (by simp)
 have cuS:cut (sorts.map Zs) 0 sorts.length=sorts.map Zs:=Z7 (by simp)
 have cuM:cut (rI (List.replicate M 0)) 0 M=rI (List.replicate M 0):=Z7 (by simp)
 simp only[cu0,cuN,cuS,cuM,Zb,seval,Za,men]
 refine Zi (ZvC sig (J0 sig sorts M) hn hbs hbase) ?_
 simp only[Zb,seval,Za,men]
 have hlsM:VI sig sorts M gs->sortOK sig (J0 sig sorts M)/\allOK sig gs:=fun h=>⟨by have:=h.2.2.1;rwa [Int.toNat_natCast] at this,h.2.2.2⟩
 cases hB:dc (sortOK sig (J0 sig sorts M))
 ·rw[<-hnone fun h=>dc_not.1 hB (hlsM h).1]
  simp only[Zb,seval,Za,men]
  rfl
 have hso:sortOK sig (J0 sig sorts M):=dc_iff.1 hB
 simp only[Zb,seval,Za,men]
 refine Zi (Zed Zwn Zwm (c:=Zk) (fun _=>rfl) (f:=fun b=>!dc (bigOK sig b)) (fe:=Za2) (cs:=[[Tr.sl (sig.map ZB)]]) gs (by omega) (fun b hb lvl S=>Zwo sig b hn hbs (hgb b hb) lvl S)) ?_
 simp only[Zb,seval,Za,men]
 cases hA:gs.any fun b=>!dc (bigOK sig b)
 rotate_left
 ·rw[<-hnone fun h=>by
   obtain⟨b,hb,hh⟩:=List.any_eq_true.1 hA
   rw[Ye ((hlsM h).2 b hb)] at hh
   cases hh]
  simp only[Zb,seval,Za,men]
  rfl
 have hall:allOK sig gs:=fun b hb=>by
  have:=UbL.1 hA b hb
  cases h:dc (bigOK sig b) with
  | true=>exact dc_iff.1 h
  | false=>rw[h] at this;exact absurd rfl this
 have hls:VI sig sorts M gs:=⟨hm1,hl1,by rw[Int.toNat_natCast];exact hso,hall⟩
 rw[show Xf sig sorts M gs=true from Ye hls,show J1 sig sorts M gs=ZbD sig sorts M gs from if_pos hls]
 have h2:∀{i:Nat} (hi:i<gs.length),two sig s0 gs[i]:=fun hi=>⟨by rw[hs0];exact hso,hall.at hi⟩
 have hM4:M<=4:=by omega
 obtain⟨H,hH⟩:∃ H,H=(ZU M M).length:=⟨_,rfl⟩
 have hH2:H<=12:=by rw[hH];exact UaA Up (Nat.mul_le_mul hM4 (Nat.sub_le_sub_right hM4 1))
 simp only[Zb,seval,Za,men]
 refine Ja (α:=Unit) M (fun x _=>[(65,iI x)]) (fun x _=>[(320,.bx [.hd (lvl,1248) [] 0 0 none 0,.hd (lvl,1152) [] 0 sig.length none sig.length,.hd (lvl,1249) [] 0 sorts.length none sorts.length,.hd (lvl,1216) [] 0 M none M,.hd (lvl,1250) [] 0 (ZU M x).length none (ZU M x).length]),(1250,.ar 2 ((ZU M x).map Zx) true (ZU M x).length 0)]) (fun _ _=>True) () (by simp only[Zb,seval,Za,men]) (by (simp only[Zb,seval,Za,men]) <;> rfl) trivial ?_
 intro x _ hx _
 simp only[Zb,seval,Za,men]
 refine Zl (fun hlt=>?_) (fun hge=>?_)
 ·have hxa:x<M:=by omega
  have hL1:(ZU M x).length<=12:=UaA Up (Nat.mul_le_mul (show x<=4 by omega) (Nat.sub_le_sub_right hM4 1))
  refine⟨by rw[Zh];omega,?_⟩
  refine Ja (α:=Unit) (M-x-1) (fun m _=>[(14,iI ((x+1+m:Nat):Int))]) (fun m _=>[(320,.bx [.hd (lvl,1248) [] 0 0 none 0,.hd (lvl,1152) [] 0 sig.length none sig.length,.hd (lvl,1249) [] 0 sorts.length none sorts.length,.hd (lvl,1216) [] 0 M none M,.hd (lvl,1250) [] 0 ((ZU M x).length+m) none ((ZU M x).length+m)]),(1250,.ar 2 ((ZU M x++JP x m).map Zx) true ((ZU M x).length+m) 0)]) (fun _ _=>True) () (by simp only[Zb,seval,Za,men]) (by simp only[Zb,seval,Za,men];simp [JP]) trivial ?_
  intro m _ hm _
  simp only[Zb,seval,Za,men]
  have hPl:(ZU M x++JP x m).length=(ZU M x).length+m:=by rw[Uam,DF]
  refine Zl (fun hlt2=>?_) (fun hge2=>?_)
  ·have hma:m<M-x-1:=by omega
   have e:(ZU M x++JP x (m+1)).map Zx=(ZU M x++JP x m).map Zx++[[Tr.v (Value.int IntKind.i64 x),Tr.v (Value.int IntKind.i64 (x+1+m:Nat))]]:=by
    rw[Zer,<-UaR,UaS]
    rfl
   exact⟨hPl.symm,by omega,by rw[Zh];omega,Zr () hma (by rw[e];rfl) trivial⟩
  ·have hme:m=M-x-1:=by omega
   subst hme
   have e:(ZU M (x+1)).length=(ZU M x).length+(M-x-1):=by rw[DG,Uam,DF]
   exact⟨by rw[Zh];omega,Zr () hxa (by rw[e,DG];rfl) trivial⟩
 have hxe:x=M:=by omega
 subst hxe
 have hap0:ZU x x=Ym s0 []:=by rw[Zwe,hsl]
 have hmost:∀{i:Nat},i<=gs.length->(mG s0 (gs.take i)).length=x:=fun hi=>by rw[Ww hi,hsl]
 have hapl:∀{g:List TBigraph},(Ym s0 g).length<=12:=Zi2 (by omega)
 have happ:∀{g:List TBigraph} {b:TBigraph} {l:Nat},(YO s0 g b l).length<=12:=Zwf (by omega)
 refine Ja (α:=Nat×Nat) gs.length (fun i _=>[(86,iI i)]) (fun i v=>[(320,.bx [.hd (lvl,1248) [] 0 (tG (gs.take i)).length none (tG (gs.take i)).length,.hd (lvl,1152) [] 0 sig.length none sig.length,.hd (lvl,1249) [] 0 sorts.length none sorts.length,.hd (lvl,1216) [] 0 x none x,.hd (lvl,1250) [] 0 (Ym s0 (gs.take i)).length none H]),(1152,.ar 1 ((nG sig.length (gs.take i)).map Zs) true sig.length v.1),(1216,.ar 1 (rI (mG s0 (gs.take i))) true x 0),(1248,.ar 1 (rI (tG (gs.take i))) true (tG (gs.take i)).length 0),(1250,.ar 2 ((Ym s0 (gs.take i)).map Zx) true H v.2)]) (fun _ _=>True) (0,0) (by simp only[Zb,seval,Za,men]) (by simp only[Zb,seval,Za,men];rw[hH,hap0];simp [mG,hsl,nG,tG]) trivial ?_
 intro i ⟨v1,v2⟩ hi _
 simp only[Zb,seval,Za,men]
 refine Zl (fun hlt=>?_) (fun hge=>?_)
 ·have hia:i<gs.length:=by omega
  have gg:=ZY (c:=Zk) hia
  obtain⟨b,hb⟩:∃ b,b=gs[i]:=⟨_,rfl⟩
  have hbk:=hall.at hia
  have ht2:=h2 hia
  rw[<-hb] at gg hbk ht2
  obtain⟨T0,hT0⟩:∃ T0,T0=tG (gs.take i):=⟨_,rfl⟩
  obtain⟨N0,hN0⟩:∃ N0,N0=nG sig.length (gs.take i):=⟨_,rfl⟩
  have hTg:Gdl sig.length T0:=by rw[hT0];exact ZbC (fun b hb=>hall b (UaQ hb)) (by omega)
  have hNg:GdlS sig.length N0:=by rw[hN0];exact DD (fun b hb=>hall b (UaQ hb)) (by omega)
  have hNl:N0.length=sig.length:=by rw[hN0];exact XT (by omega)
  have hsig:sig.length<=6:=hso.sg.2.2
  have hn8:=hbk.nodesL
  simp only[gg,hia,Zk,<-hT0,<-hN0,Zb,seval,Za,men]
  refine Ja (α:=Nat) b.nodes.length (fun k _=>[(93,iI k)]) (fun k v=>[(320,.bx [.hd (lvl,1248) [] 0 (tN b T0 k).length none (tN b T0 k).length,.hd (lvl,1152) [] 0 sig.length none sig.length,.hd (lvl,1249) [] 0 sorts.length none sorts.length,.hd (lvl,1216) [] 0 x none x,.hd (lvl,1250) [] 0 (Ym s0 (gs.take i)).length none H]),(1152,.ar 1 ((nN b N0 k).map Zs) true sig.length v),(1248,.ar 1 (rI (tN b T0 k)) true (tN b T0 k).length 0)]) (fun _ _=>True) v1 (by simp only[Zb,seval,Za,men]) (by (simp only[Zb,seval,Za,men]) <;> rfl) trivial ?_
  intro k v hk _
  simp only[Zb,seval,Za,men]
  refine Zl (fun hlt2=>?_) (fun hge2=>?_)
  ·have hka:k<b.nodes.length:=by omega
   have gn:=ZY (c:=ZH) hka
   have hc:=VX hbk hka
   have hp:=ht2.par hka
   have hTk:=XR hbk hTg (j:=k) (by omega)
   have hNk:=Wv hbk hNg (j:=k) (by omega)
   have hNkl:(nN b N0 k).length=sig.length:=by rw[VH,hNl]
   have hTl:=hTk.len
   have hcT:cut (rI (tN b T0 k)) 0 (tN b T0 k).length=rI (tN b T0 k):=Z7 (by simp)
   simp only[gn,hka,ZH,Zb,seval,Za,men]
   refine Zl (fun hneg=>?_) (fun hpos=>?_)
   ·have ep:J6 b k<0:=by rw[Y5 hka];exact hneg
    by_cases hmem:ZT b k∈tN b T0 k
    ·refine XC (fun l' S' hs=>by
      simp only[Za,men] at hs
      rw[hc.1]
      exact ZiY _ _ (by omega) hTk.asc hmem l' S' (lvl,1248) [] 1 _ _ 0 _ true hs.1.1.1 (hs.1.1.2 _ (by rw[Z8];rfl)) rfl rfl) ?_
     have eT:tN b T0 (k+1)=tN b T0 k:=by rw[tN,if_pos ep,ZiX hTk.asc hmem]
     have eN:nN b N0 (k+1)=nN b N0 k:=by rw[nN,if_pos ep]
     simp only[Zb,seval,Za,men]
     exact⟨by rw[Zh];omega,Zr v hka (by rw[eT,eN];rfl) trivial⟩
    ·refine XC (fun l' S' hs=>by
      simp only[Za,men] at hs
      rw[hc.1]
      exact ZiZ _ _ (by omega) hTk.asc hmem l' S' (lvl,1248) [] 1 _ _ 0 _ true hs.1.1.1 (hs.1.1.2 _ (by rw[Z8];rfl)) rfl rfl) ?_
     have eT:tN b T0 (k+1)=Jp (ZT b k) (tN b T0 k):=by rw[tN,if_pos ep]
     have eN:nN b N0 (k+1)=nN b N0 k:=by rw[nN,if_pos ep]
     simp only[Uab,Zb,seval,Za,men]
     exact⟨by rw[Zh];omega,Zr v hka (by rw[eT,eN];rfl) trivial⟩
   ·have ep:¬ J6 b k<0:=by rw[Y5 hka];exact hpos
    obtain⟨q,hq⟩:∃ q:Nat,b.nodes[k].parent=q:=⟨b.nodes[k].parent.toNat,by omega⟩
    have hqa:q<b.nodes.length:=by omega
    have hcq:=VX hbk hqa
    obtain⟨c,hcc⟩:∃ c:Nat,ZT b q=c:=⟨(ZT b q).toNat,by omega⟩
    have hqc:b.nodes[q].control=c:=by rw[hcq.1,hcc]
    have hcl:c<sig.length:=by omega
    have gq:=ZY (c:=ZH) hqa
    have gR:((nN b N0 k).map Zs)[c]? = some [Tr.sl (rI (JK (nN b N0 k) c))]:=by
     rw[Uan,Uaf (by omega),Uo (by omega)]
     rfl
    have hRg:=hNk.row c
    have hRl:=hRg.len
    have hcR:cut (rI (JK (nN b N0 k) c)) 0 (JK (nN b N0 k) c).length=rI (JK (nN b N0 k) c):=Z7 (by simp)
    have eq:(ZT b (J6 b k)).toNat=c:=by rw[Y5 hka,hq,hcc];rfl
    have eT:tN b T0 (k+1)=tN b T0 k:=by rw[tN,if_neg ep]
    have eN:nN b N0 (k+1)=(nN b N0 k).set c (Jp (ZT b k) (JK (nN b N0 k) c)):=by rw[nN,if_neg ep,eq]
    simp only[hq,gq,hqa,hqc,gR,hcl,hNkl,ZH,Int.toNat_natCast,Uah,Uab,Zb,seval,Za,men]
    have hgp:getp ((nN b N0 k).map Zs) [(c,0)]=some (rI (JK (nN b N0 k) c)):=by simp [getp,gR]
    by_cases hmem:ZT b k∈JK (nN b N0 k) c
    ·refine XC (fun l' S' hs=>by
      simp only[Za,men] at hs
      rw[hc.1]
      exact ZiY _ _ (by omega) hRg.asc hmem l' S' (lvl,1152) [(c,0)] 1 _ _ v _ true hs.1.1.1 (hs.1.1.2 _ (by rw[Z8];rfl)) hgp ⟨rfl,rfl⟩) ?_
     have eN2:(nN b N0 k).set c (JK (nN b N0 k) c)=nN b N0 k:=by
      rw[Uo (by omega)]
      exact List.set_getElem_self (by omega)
     rw[ZiX hRg.asc hmem,eN2] at eN
     simp only[hcl,hNkl,gR,Int.toNat_natCast,Uah,Uab,Zb,seval,Za,men]
     exact⟨by rw[Zh];omega,Zr v hka (by rw[eT,eN];rfl) trivial⟩
    ·refine XC (fun l' S' hs=>by
      simp only[Za,men] at hs
      rw[hc.1]
      exact ZiZ _ _ (by omega) hRg.asc hmem l' S' (lvl,1152) [(c,0)] 1 _ _ v _ true hs.1.1.1 (hs.1.1.2 _ (by rw[Z8];rfl)) hgp ⟨rfl,rfl⟩) ?_
     have hst:ZG ((nN b N0 k).map Zs) [] c 0 (.sl (rI (Jp (ZT b k) (JK (nN b N0 k) c))))=(nN b N0 (k+1)).map Zs:=by
      rw[YK gR,eN,Ube]
      rfl
     simp only[hcl,hNkl,gR,hst,Int.toNat_natCast,Uah,Uab,Zb,seval,Za,men]
     exact⟨by rw[Zh];omega,Zr (v+1) hka (by rw[eT];rfl) trivial⟩
  ·have hke:k=b.nodes.length:=by omega
   subst hke
   have hsm:=hbk.small
   have hln:b.edges+(b.outer.length:Int)=(Jd b:Nat):=by unfold Jd;have:=hsm.edges;omega
   have hln2:=Ul hsm
   obtain⟨T1,hT1⟩:∃ T1,T1=tN b T0 b.nodes.length:=⟨_,rfl⟩
   obtain⟨N1,hN1⟩:∃ N1,N1=nN b N0 b.nodes.length:=⟨_,rfl⟩
   obtain⟨m0,hm0⟩:∃ m0,m0=mG s0 (gs.take i):=⟨_,rfl⟩
   obtain⟨G0,hG0⟩:∃ G0,G0=gs.take i:=⟨_,rfl⟩
   have hml:m0.length=x:=by rw[hm0];exact hmost hi
   have hN1l:N1.length=sig.length:=by rw[hN1,VH,hNl]
   have hT1g:T1.length<=6:=by
    have:=(XR hbk hTg (Uag _)).len
    rw[<-hT1] at this
    omega
   rw[<-hT1,<-hN1,<-hm0,<-hG0]
   refine⟨by rw[Zh];omega,?_⟩
   rw[hln]
   refine Ja (α:=Nat) (Jd b) (fun l _=>[(132,iI l)]) (fun l w=>[(320,.bx [.hd (lvl,1248) [] 0 T1.length none T1.length,.hd (lvl,1152) [] 0 sig.length none sig.length,.hd (lvl,1249) [] 0 sorts.length none sorts.length,.hd (lvl,1216) [] 0 x none x,.hd (lvl,1250) [] 0 (YO s0 G0 b l).length none H]),(1216,.ar 1 (rI (ZA s0 b m0 l)) true x 0),(1250,.ar 2 ((YO s0 G0 b l).map Zx) true H w)]) (fun _ _=>True) v2 (by simp only[Zb,seval,Za,men]) (by (simp only[Zwc,Zb,seval,Za,men]) <;> rfl) trivial ?_
   intro l w hl2 _
   simp only[Zb,seval,Za,men]
   refine Zl (fun hlt3=>?_) (fun hge3=>?_)
   ·have hla:l<Jd b:=by omega
    have hq1:sorts=s0.sorts:=by rw[hs0];rfl
    have hmk:(ZA s0 b m0 l).length=x:=by rw[Wu,hml]
    have c1:cut (rI T1) 0 T1.length=rI T1:=Z7 (by simp)
    have c2:cut (N1.map Zs) 0 sig.length=N1.map Zs:=Z7 (by simp [hN1l])
    have c4:cut (rI (ZA s0 b m0 l)) 0 x=rI (ZA s0 b m0 l):=Z7 (by simp [hmk])
    have c5:cut ((YO s0 G0 b l).map Zx) 0 (YO s0 G0 b l).length=(YO s0 G0 b l).map Zx:=Z7 (by simp)
    simp only[c1,c2,c4,c5,cuS,Zb,seval,Za,men]
    refine⟨by omega,by omega,?_⟩
    refine Zi (Zv4 sig ⟨T1,N1,sorts,ZA s0 b m0 l,YO s0 G0 b l⟩ s0 b l ht2 hq1 (by rw[hsl];exact hmk)) ?_
    obtain⟨cs,hcs⟩:∃ cs,cs=VF s0 b l:=⟨_,rfl⟩
    have hcl:cs.length=x:=by rw[hcs,(Uk hsm l).len,hsl]
    rw[<-hcs]
    simp only[Zb,seval,Za,men]
    refine Ja (α:=Unit) x (fun k _=>[(141,iI k)]) (fun k _=>[(1216,.ar 1 (rI (mN cs (ZA s0 b m0 l) k)) true x 0)]) (fun _ _=>True) () (by simp only[Zb,seval,Za,men]) (by (simp only[Zb,seval,Za,men]) <;> rfl) trivial ?_
    intro k _ hk2 _
    simp only[Zb,seval,Za,men]
    refine Zl (fun hlt4=>?_) (fun hge4=>?_)
    ·have hka:k<x:=by omega
     have hkc:k<cs.length:=by omega
     have hmN:(mN cs (ZA s0 b m0 l) k).length=x:=by rw[Wt,hmk]
     have gk:=JE hkc
     have gm:=JE (l:=mN cs (ZA s0 b m0 l) k) (i:=k) (by omega)
     have hst:ZG (rI (mN cs (ZA s0 b m0 l) k)) [] k 0 (.v (.int .i64 (max (g0 (mN cs (ZA s0 b m0 l) k) k) (g0 cs k))))=rI (mN cs (ZA s0 b m0 l) (k+1)):=by
      rw[Wq (by omega),mN]
     simp only[gk,gm,hkc,hka,hmN,hst,Zb,seval,Za,men]
     exact⟨by rw[Zh];omega,Zr () hka rfl trivial⟩
    ·have hke:k=x:=by omega
     subst hke
     have hml2:mN cs (ZA s0 b m0 l) k=ZA s0 b m0 (l+1):=by rw[ZA,hsl,hcs]
     rw[hml2]
     have hdl:=fun S' hS=>Zwl (YO s0 G0 b l) (by have:=happ (g:=G0) (b:=b) (l:=l);omega) (fun p=>YN cs p) (fe:=Za3) (cs:=[[Tr.sl (rI cs)]]) (fun p hp lvl S=>by
      obtain⟨a,b',e,ha,hb'⟩:=Zi1 (List.mem_filter.1 hp).1
      exact Zwp cs p a b' e (by omega) (by omega) lvl S) (lvl+1) S' (lvl,1250) true H w (Uav _) hS
     have ccs:cut (rI cs) 0 cs.length=rI cs:=Z7 (by simp)
     refine Zwg 1250 _ (hdl _ ?_) fun v3=>?_
     ·rw[Z8];rfl
     rw[hcs,<-Zwb]
     simp only[Zb,seval,Za,men]
     exact⟨by rw[Zh];omega,Zr v3 hla rfl trivial⟩
   ·have hle:l=Jd b:=by omega
    subst hle
    have e1:tG (gs.take (i+1))=T1:=by rw[ZbA hia,hT1,hT0,hb]
    have e2:nG sig.length (gs.take (i+1))=N1:=by rw[DC hia,hN1,hN0,hb]
    have e3:mG s0 (gs.take (i+1))=ZA s0 b m0 (Jd b):=by rw[ZbB hia,hm0,hb]
    have e4:Ym s0 (gs.take (i+1))=YO s0 G0 b (Jd b):=by rw[<-Zwd hia,hG0,hb]
    exact⟨by rw[Zh];omega,Zr (v,w) hia (by rw[e1,e2,e3,e4];rfl) trivial⟩
 have hie:i=gs.length:=by omega
 subst hie
 refine⟨(XT (Uag _)).symm,(hmost (Uag _)).symm,?_⟩
 rw[Uaz,hs0]
 rfl
theorem Zwr{C:ZD}{d:Option Nat}{k key:Nat}{x:X}{off2 len2 s2 k2 hw2 ver2:Nat}{u2:Bool}{es:Row}{c2:Option Nat}{lvl:Nat}{env:List (Nat×IV)}{loc:List (Nat×Ob)}{out:Zc}{K:St->Prop}(h:lkO key loc=some (.ar k2 es u2 hw2 ver2)):Vj C d k 1 x (.hd (lvl,key) [] off2 len2 c2 s2) ⟨lvl,env,loc,out⟩ K=(s2=hw2/\off2+len2<=es.length/\Jg d k x loc (cut es off2 len2) false (Zg ⟨lvl,env,loc,out⟩ (lvl,key) (.ar k2 es false hw2 ver2)) K):=by
 have e:(⟨lvl,env,loc,out⟩:St).sto (lvl,key)=some (.ar k2 es u2 hw2 ver2):=by rw[<-h];exact Z8
 simp [Vj,e]
theorem Zws(n:Nat)(hn:n<=4294967290)(lvl:Nat)(S:Zc):Sem UbR Zdi lvl [iI n] S (.ow 1 ((List.replicate n ([]:List Int)).map Zs) (decide (n=0))) S:=by
 refine Zv ZuC trivial ?_
 simp only[Zht,Zb,seval,Za,men]
 refine Ja (α:=Unit) n (fun j _=>[(4,iI j),(3,.hd (lvl,160) [] 0 j none j)]) (fun j _=>[(160,.ar 1 ((List.replicate j ([]:List Int)).map Zs) (decide (j=0)) j 0)]) (fun _ _=>True) () (by simp only[Zb,seval,Za,men]) (by (simp only[Zb,seval,Za,men]) <;> rfl) trivial ?_
 intro j _ hj _
 simp only[Zb,seval,Za,men]
 refine Zl (fun hlt=>?_) (fun hge=>?_)
 ·have hja:j<n:=by omega
  have hl:((List.replicate j ([]:List Int)).map Zs).length=j:=by simp
  have e:(List.replicate (j+1) ([]:List Int)).map Zs=(List.replicate j ([]:List Int)).map Zs++[[Tr.sl []]]:=by
   rw[List.replicate_succ',UaS]
   rfl
  rw[Zwr (h:=rfl)]
  have c1:cut [[Tr.sl []]] 0 1=[[Tr.sl []]]:=rfl
  have u1:Zw 1 [[Tr.sl []]]=True:=eq_true (fun e he=>by rw[UaT.1 he];rfl)
  simp only[c1,u1,hl,Zb,seval,Za,men]
  refine⟨by omega,by rw[Zh];omega,Zr () hja ?_ trivial⟩
  rw[e,UbK]
  rfl
 ·have:j=n:=by omega
  subst this
  rfl
theorem ZbE(a b:Int)(lvl:Nat)(S:Zc):Sem UbR ZdG lvl [iI a,iI b] S (iI (max a b)) S:=by
 refine Zv ZuV trivial ?_
 by_cases h:b<a
 ·rw[show max a b=a by omega]
  simp only[Zec,h,Zb,seval,Za,men]
 ·rw[show max a b=b by omega]
  simp only[Zec,h,Zb,seval,Za,men]
theorem Zwt(n:Int)(lvl:Nat)(S:Zc)(idT:Zd)(hid:idT.1<lvl)(hS:S idT=some (.ar 1 [] true 0 0)):Sem UbR Dj lvl [.hd idT [] 0 0 none 0,iI n] S (tI (Jp n [])) S:=by
 have hne:idT.1≠lvl:=by omega
 refine Zv ZhO trivial ?_
 simp only[Zeb,ZE hne,hS,Zb,seval,Za,men]
 refine Ja (α:=Unit) 0 (fun j _=>[(5,iI j)]) (fun _ _=>[]) (fun _ _=>True) () (by simp only[ZQ hne,ZE hne,Zb,seval,Za,men]) (by (simp only[Zb,seval,Za,men]) <;> rfl) trivial ?_
 intro j _ hj _
 have:j=0:=by omega
 subst this
 have c0:∀ k:Row,cut k 0 0=[]:=fun k=>by simp [cut]
 have s0:ScR []=True:=eq_true (fun e he=>by cases he)
 have u0:Zw 1 []=True:=eq_true (fun e he=>by cases he)
 have hw:∀ L,Jy (Zy lvl L S) idT [] 1=True:=fun L=>eq_true (by unfold Jy;rw[ZE hne,hS])
 simp only[ZE hne,hS,c0,s0,u0,hw,Zb,seval,Za,men]
 simp [Jp]
def JN(t0:IV)(b:TBigraph)(T0:List Int):Nat->IV
 | 0=>t0
 | k+1=>if J6 b k<0 then tI (tN b T0 (k+1)) else JN t0 b T0 k
def ZZ(b:TBigraph)(v:Nat):Nat->Nat
 | 0=>v
 | k+1=>if J6 b k<0 then ZZ b v k else ZZ b v k+1
theorem Wx{t0:IV}{b:TBigraph}{T0:List Int}:∀{k:Nat},(JN t0 b T0 k=t0/\tN b T0 k=T0)\/JN t0 b T0 k=tI (tN b T0 k)
 | 0=>.inl ⟨rfl,rfl⟩
 | k+1=>by
  by_cases h:J6 b k<0
  ·rw[JN,if_pos h]
   exact .inr rfl
  ·rw[JN,if_neg h,tN,if_neg h]
   exact Wx
theorem JO{S:Zc}{i j:Zd}{o:Ob}(h:i≠j):Ze S j o i=S i:=by
 unfold Ze
 rw[if_neg h]
theorem Zwu(sig:List TControl)(s0:TSorting)(b:TBigraph)(ht2:two sig s0 b)(T0:List Int)(N0 sorts:List (List Int))(m0:List Int)(hNg:GdlS sig.length N0)(hNl:N0.length=sig.length)(hq1:sorts=s0.sorts)(hml:m0.length=s0.most.length)(lvl:Nat)(S:Zc)(hTg:Gdl sig.length T0)(idN idS idM idA:Zd)(hidN:idN.1<lvl)(hidS:idS.1<lvl)(hidM:idM.1<lvl)(hidA:idA.1<lvl)(hNM:idN≠idM)(hSN1:idS≠idN)(hSM1:idS≠idM)(hAN:idA≠idN)(hAM:idA≠idM)(v:Nat)
  (hSN:S idN=some (.ar 1 (N0.map Zs) false sig.length v)) (hSS:S idS=some (.ar 1 (sorts.map Zs) true sorts.length 0)) (hSM:S idM=some (.ar 1 (rI m0) true m0.length 0)) (hSA:S idA=some (.ar 2 [] true 0 0)) :
  Sem UbR Za0 lvl [.ag [(tI T0),.hd idN [] 0 sig.length none sig.length,.hd idS [] 0 sorts.length none sorts.length,.hd idM [] 0 m0.length none m0.length,.hd idA [] 0 0 none 0],.ag ((Zk b).map .tr)] S
   (.ag [JN (tI T0) b T0 b.nodes.length,.hd idN [] 0 sig.length none sig.length,.hd idS [] 0 sorts.length none sorts.length,.hd idM [] 0 m0.length none m0.length,.hd idA [] 0 0 none 0])
   (Ze (Ze S idN (.ar 1 ((nN b N0 b.nodes.length).map Zs) false sig.length (ZZ b v b.nodes.length))) idM (.ar 1 (rI (ZA s0 b m0 (Jd b))) true m0.length 0)):=by
 have neN:idN.1≠lvl:=by omega
 have neS:idS.1≠lvl:=by omega
 have neM:idM.1≠lvl:=by omega
 have neA:idA.1≠lvl:=by omega
 have hbk:=ht2.big
 have hsm:=hbk.small
 have hn8:=hbk.nodesL
 refine Zv Zhw ⟨?_,hidN,hidS,hidM,hidA,trivial⟩ ?_
 ·rcases Wx (t0:=(tI T0)) (b:=b) (T0:=T0) (k:=b.nodes.length) with h | h
  ·rw[h.1]
   trivial
  ·rw[h]
   trivial
 simp only[Zd8,Zk,Zb,seval,Za,men]
 refine⟨⟨by omega,by omega,by omega,by omega⟩,?_⟩
 refine Jf (α:=Unit) b.nodes.length (fun k _=>⟨lvl,[(2,.ab (lvl,64) 0),(3,.ta (Zk b)),(4,.ab (lvl,128) 0),(5,.ab (lvl,160) 0),(6,iI k)],[(64,.bx [(tI T0),.hd idN [] 0 sig.length none sig.length,.hd idS [] 0 sorts.length none sorts.length,.hd idM [] 0 m0.length none m0.length,.hd idA [] 0 0 none 0]),(128,.bx [.cs [],.cs [],.cs [],.cs [],.cs []]),(160,.bx [JN (tI T0) b T0 k,.hd idN [] 0 sig.length none sig.length,.hd idS [] 0 sorts.length none sorts.length,.hd idM [] 0 m0.length none m0.length,.hd idA [] 0 0 none 0])],Ze S idN (.ar 1 ((nN b N0 k).map Zs) false sig.length (ZZ b v k))⟩) (fun _ _=>True) () ⟨by simp only[ZE neN,Zb,seval,Za,men]; (repeat' apply Uaa) <;> intro h <;> first | exact absurd h neN | exact absurd h neS | exact absurd h neM | exact absurd h neA,by simp only[Zb,seval,Za,men];rw[show Ze S idN (.ar 1 ((nN b N0 0).map Zs) false sig.length (ZZ b v 0))=S from QI hSN];rfl⟩ trivial ?_
 intro k _ hk _
 rcases Wx (t0:=(tI T0)) (b:=b) (T0:=T0) (k:=k) with hv | hv
 ·rw[hv.1]
  simp only[Zk,Zb,seval,Za,men]
  refine Zl (fun hlt=>?_) (fun hge=>?_)
  ·have hka:k<b.nodes.length:=by omega
   have gn:=ZY (c:=ZH) hka
   have hc:=VX hbk hka
   have hp:=ht2.par hka
   have hTk:=XR hbk hTg (j:=k) (by omega)
   have hNk:=Wv hbk hNg (j:=k) (by omega)
   have hNkl:(nN b N0 k).length=sig.length:=by rw[VH,hNl]
   have hsig:=ht2.srt.sg.2.2
   have hTl:=hTk.len
   simp only[gn,hka,ZH,Zb,seval,Za,men]
   refine Zl (fun hneg=>?_) (fun hpos=>?_)
   ·have ep:J6 b k<0:=by rw[Y5 hka];exact hneg
    have eT:JN (tI T0) b T0 (k+1)=tI (Jp (ZT b k) (tN b T0 k)):=by rw[JN,if_pos ep,tN,if_pos ep]
    have eN:nN b N0 (k+1)=nN b N0 k:=by rw[nN,if_pos ep]
    have eV:ZZ b v (k+1)=ZZ b v k:=by rw[ZZ,if_pos ep]
    skip
    rw[hc.1]
    refine XC (fun l2 S2 _=>Wr T0 (ZT b k) (by have:=hTg.len;omega) l2 S2) ?_
    simp only[Zb,seval,Za,men]
    rw[hv.2] at eT
    exact⟨by rw[Zh];omega,by (repeat' apply Uaa) <;> intro h <;> first | exact absurd h neN | exact absurd h neS | exact absurd h neM | exact absurd h neA,Zr () hka (by rw[eT,eN,eV];rfl) trivial⟩
   ·have ep:¬ J6 b k<0:=by rw[Y5 hka];exact hpos
    obtain⟨q,hq⟩:∃ q:Nat,b.nodes[k].parent=q:=⟨b.nodes[k].parent.toNat,by omega⟩
    have hqa:q<b.nodes.length:=by omega
    have hcq:=VX hbk hqa
    obtain⟨c,hcc⟩:∃ c:Nat,ZT b q=c:=⟨(ZT b q).toNat,by omega⟩
    have hqc:b.nodes[q].control=c:=by rw[hcq.1,hcc]
    have hcl:c<sig.length:=by omega
    have gq:=ZY (c:=ZH) hqa
    have gR:((nN b N0 k).map Zs)[c]? = some [Tr.sl (rI (JK (nN b N0 k) c))]:=by
     rw[Uan,Uaf (by omega),Uo (by omega)]
     rfl
    have hRl:=(hNk.row c).len
    have eq:(ZT b (J6 b k)).toNat=c:=by rw[Y5 hka,hq,hcc];rfl
    have eT:JN (tI T0) b T0 (k+1)=JN (tI T0) b T0 k:=by rw[JN,if_neg ep]
    have eN:nN b N0 (k+1)=(nN b N0 k).set c (Jp (ZT b k) (JK (nN b N0 k) c)):=by rw[nN,if_neg ep,eq]
    have eV:ZZ b v (k+1)=ZZ b v k+1:=by rw[ZZ,if_neg ep]
    have hst:ZG ((nN b N0 k).map Zs) [] c 0 (.sl (rI (Jp (ZT b k) (JK (nN b N0 k) c))))=(nN b N0 (k+1)).map Zs:=by
     rw[YK gR,eN,Ube]
     rfl
    simp only[hq,gq,hqa,hqc,gR,hcl,hNkl,ZH,ZE neN,Ji,Int.toNat_natCast,Uah,Uab,Zb,seval,Za,men]
    rw[hc.1]
    refine Zi (Wr (JK (nN b N0 k) c) (ZT b k) (by omega)) ?_
    rw[hv.1] at eT
    simp only[ZE neN,JH neN,JJ,Ji,gR,hcl,hNkl,hst,Int.toNat_natCast,Uah,Uab,Zb,seval,Za,men]
    exact⟨by rw[Zh];omega,by (repeat' apply Uaa) <;> intro h <;> first | exact absurd h neN | exact absurd h neS | exact absurd h neM | exact absurd h neA,Zr () hka (by rw[eT,eV];rfl) trivial⟩
  ·have hke:k=b.nodes.length:=by omega
   subst hke
   refine Jf (α:=Unit) (Jd b) (fun l _=>⟨lvl,[(2,.ab (lvl,64) 0),(3,.ta (Zk b)),(4,.ab (lvl,128) 0),(5,.ab (lvl,160) 0),(9,iI l)],[(64,.bx [(tI T0),.hd idN [] 0 sig.length none sig.length,.hd idS [] 0 sorts.length none sorts.length,.hd idM [] 0 m0.length none m0.length,.hd idA [] 0 0 none 0]),(128,.bx [.cs [],.cs [],.cs [],.cs [],.cs []]),(160,.bx [(tI T0),.hd idN [] 0 sig.length none sig.length,.hd idS [] 0 sorts.length none sorts.length,.hd idM [] 0 m0.length none m0.length,.hd idA [] 0 0 none 0])],Ze (Ze S idN (.ar 1 ((nN b N0 b.nodes.length).map Zs) false sig.length (ZZ b v b.nodes.length))) idM (.ar 1 (rI (ZA s0 b m0 l)) true m0.length 0)⟩) (fun _ _=>True) () ⟨by simp only[ZE neN,Zb,seval,Za,men]; (repeat' apply Uaa) <;> intro h <;> first | exact absurd h neN | exact absurd h neS | exact absurd h neM | exact absurd h neA,by simp only[Zb,seval,Za,men];rw[show Ze (Ze S idN (.ar 1 ((nN b N0 b.nodes.length).map Zs) false sig.length (ZZ b v b.nodes.length))) idM (.ar 1 (rI (ZA s0 b m0 0)) true m0.length 0)=Ze S idN (.ar 1 ((nN b N0 b.nodes.length).map Zs) false sig.length (ZZ b v b.nodes.length)) from QI (by rw[JO (Ne.symm hNM)];exact hSM)];rfl⟩ trivial ?_
   intro l _ hl _
   have hsN:∀ X Y,Ze (Ze S idN X) idM Y idN=some X:=fun X Y=>by rw[JO hNM];exact Ji ..
   have hsM:∀ X Y,Ze (Ze S idN X) idM Y idM=some Y:=fun X Y=>Ji ..
   have hsS:∀ X Y,Ze (Ze S idN X) idM Y idS=some (.ar 1 (sorts.map Zs) true sorts.length 0):=fun X Y=>by rw[JO hSM1,JO hSN1];exact hSS
   have hsA:∀ X Y,Ze (Ze S idN X) idM Y idA=some (.ar 2 [] true 0 0):=fun X Y=>by rw[JO hAM,JO hAN];exact hSA
   have hNl1:(nN b N0 b.nodes.length).length=sig.length:=by rw[VH,hNl]
   have hmk:(ZA s0 b m0 l).length=m0.length:=Wu
   have c2:cut ((nN b N0 b.nodes.length).map Zs) 0 sig.length=(nN b N0 b.nodes.length).map Zs:=Z7 (by simp [hNl1])
   have c3:cut (sorts.map Zs) 0 sorts.length=sorts.map Zs:=Z7 (by simp)
   have c4:cut (rI (ZA s0 b m0 l)) 0 m0.length=rI (ZA s0 b m0 l):=Z7 (by simp [hmk])
   have c0:∀ k:Row,cut k 0 0=[]:=fun k=>by simp [cut]
   have hln:b.edges+(b.outer.length:Int)=(Jd b:Nat):=by unfold Jd;have:=hsm.edges;omega
   have hln2:=Ul hsm
   simp only[Zk,ZE neN,ZE neS,ZE neM,ZE neA,hsN,hsM,hsS,hsA,c0,c2,c3,c4,hln,Uab,Zb,seval,Za,men]
   refine⟨by rw[Zh];omega,Zl (fun hlt2=>?_) (fun hge2=>?_)⟩
   ·have hla:l<Jd b:=by omega
    refine⟨by omega,by omega,?_⟩
    refine Zi (Dz sig ⟨T0,nN b N0 b.nodes.length,sorts,ZA s0 b m0 l,[]⟩ s0 b l ht2 hq1 (by rw[hmk,hml])) ?_
    obtain⟨cs,hcs⟩:∃ cs,cs=VF s0 b l:=⟨_,rfl⟩
    have hm4:=ht2.srt.many.2
    have hcl:cs.length=m0.length:=by rw[hcs,(Uk hsm l).len,hml]
    rw[<-hcs]
    simp only[Zb,seval,Za,men]
    refine Jf (α:=Unit) cs.length (fun k _=>⟨lvl,[(2,.ab (lvl,64) 0),(3,.ta (Zk b)),(4,.ab (lvl,128) 0),(5,.ab (lvl,160) 0),(9,iI l),(10,tI cs),(11,iI k)],[(64,.bx [(tI T0),.hd idN [] 0 sig.length none sig.length,.hd idS [] 0 sorts.length none sorts.length,.hd idM [] 0 m0.length none m0.length,.hd idA [] 0 0 none 0]),(128,.bx [.cs [],.cs [],.cs [],.cs [],.cs []]),(160,.bx [(tI T0),.hd idN [] 0 sig.length none sig.length,.hd idS [] 0 sorts.length none sorts.length,.hd idM [] 0 m0.length none m0.length,.hd idA [] 0 0 none 0])],Ze (Ze S idN (.ar 1 ((nN b N0 b.nodes.length).map Zs) false sig.length (ZZ b v b.nodes.length))) idM (.ar 1 (rI (mN cs (ZA s0 b m0 l) k)) true m0.length 0)⟩) (fun _ _=>True) () ⟨by simp only[ZE neN,Zb,seval,Za,men]; (repeat' apply Uaa) <;> intro h <;> first | exact absurd h neN | exact absurd h neS | exact absurd h neM | exact absurd h neA,by (simp only[Zb,seval,Za,men]) <;> rfl⟩ trivial ?_
    intro k _ hk2 _
    simp only[Zk,Zb,seval,Za,men]
    refine Zl (fun hlt3=>?_) (fun hge3=>?_)
    ·have hkc:k<cs.length:=by omega
     have hmN:(mN cs (ZA s0 b m0 l) k).length=m0.length:=by rw[Wt,hmk]
     have hkm:k<m0.length:=by omega
     have gk:=JE hkc
     have gm:=JE (l:=mN cs (ZA s0 b m0 l) k) (i:=k) (by omega)
     have hst:ZG (rI (mN cs (ZA s0 b m0 l) k)) [] k 0 (.v (.int .i64 (max (g0 (mN cs (ZA s0 b m0 l) k) k) (g0 cs k))))=rI (mN cs (ZA s0 b m0 l) (k+1)):=by
      rw[Wq (by omega),mN]
     simp only[gk,gm,hkc,hkm,hmN,ZE neM,hsM,Uab,Zb,seval,Za,men]
     refine Zi (ZbE (g0 (mN cs (ZA s0 b m0 l) k) k) (g0 cs k)) ?_
     simp only[gk,gm,hkc,hkm,hmN,ZE neM,hsM,JH neM,JJ,hst,Uab,Zb,seval,Za,men]
     exact⟨by rw[Zh];omega,by (repeat' apply Uaa) <;> intro h <;> first | exact absurd h neN | exact absurd h neS | exact absurd h neM | exact absurd h neA,Zr () hkc rfl trivial⟩
    ·have hke:k=cs.length:=by omega
     subst hke
     have hml2:mN cs (ZA s0 b m0 l) cs.length=ZA s0 b m0 (l+1):=by rw[ZA,<-hml,<-hcl,hcs]
     rw[hml2]
     exact⟨by rw[Zh];omega,by (repeat' apply Uaa) <;> intro h <;> first | exact absurd h neN | exact absurd h neS | exact absurd h neM | exact absurd h neA,Zr () hla rfl trivial⟩
   ·have hle:l=Jd b:=by omega
    subst hle
    refine⟨by (repeat' apply Uaa) <;> omega,?_⟩
    simp only[Yh neN,Yh neS,Yh neM,Yh neA,hv,Zb,seval,Za,men]
 ·rw[hv]
  simp only[Zk,Zb,seval,Za,men]
  refine Zl (fun hlt=>?_) (fun hge=>?_)
  ·have hka:k<b.nodes.length:=by omega
   have gn:=ZY (c:=ZH) hka
   have hc:=VX hbk hka
   have hp:=ht2.par hka
   have hTk:=XR hbk hTg (j:=k) (by omega)
   have hNk:=Wv hbk hNg (j:=k) (by omega)
   have hNkl:(nN b N0 k).length=sig.length:=by rw[VH,hNl]
   have hsig:=ht2.srt.sg.2.2
   have hTl:=hTk.len
   simp only[gn,hka,ZH,Zb,seval,Za,men]
   refine Zl (fun hneg=>?_) (fun hpos=>?_)
   ·have ep:J6 b k<0:=by rw[Y5 hka];exact hneg
    have eT:JN (tI T0) b T0 (k+1)=tI (Jp (ZT b k) (tN b T0 k)):=by rw[JN,if_pos ep,tN,if_pos ep]
    have eN:nN b N0 (k+1)=nN b N0 k:=by rw[nN,if_pos ep]
    have eV:ZZ b v (k+1)=ZZ b v k:=by rw[ZZ,if_pos ep]
    skip
    rw[hc.1]
    refine XC (fun l2 S2 _=>Wr (tN b T0 k) (ZT b k) (by omega) l2 S2) ?_
    simp only[Zb,seval,Za,men]
    skip
    exact⟨by rw[Zh];omega,by (repeat' apply Uaa) <;> intro h <;> first | exact absurd h neN | exact absurd h neS | exact absurd h neM | exact absurd h neA,Zr () hka (by rw[eT,eN,eV];rfl) trivial⟩
   ·have ep:¬ J6 b k<0:=by rw[Y5 hka];exact hpos
    obtain⟨q,hq⟩:∃ q:Nat,b.nodes[k].parent=q:=⟨b.nodes[k].parent.toNat,by omega⟩
    have hqa:q<b.nodes.length:=by omega
    have hcq:=VX hbk hqa
    obtain⟨c,hcc⟩:∃ c:Nat,ZT b q=c:=⟨(ZT b q).toNat,by omega⟩
    have hqc:b.nodes[q].control=c:=by rw[hcq.1,hcc]
    have hcl:c<sig.length:=by omega
    have gq:=ZY (c:=ZH) hqa
    have gR:((nN b N0 k).map Zs)[c]? = some [Tr.sl (rI (JK (nN b N0 k) c))]:=by
     rw[Uan,Uaf (by omega),Uo (by omega)]
     rfl
    have hRl:=(hNk.row c).len
    have eq:(ZT b (J6 b k)).toNat=c:=by rw[Y5 hka,hq,hcc];rfl
    have eT:JN (tI T0) b T0 (k+1)=JN (tI T0) b T0 k:=by rw[JN,if_neg ep]
    have eN:nN b N0 (k+1)=(nN b N0 k).set c (Jp (ZT b k) (JK (nN b N0 k) c)):=by rw[nN,if_neg ep,eq]
    have eV:ZZ b v (k+1)=ZZ b v k+1:=by rw[ZZ,if_neg ep]
    have hst:ZG ((nN b N0 k).map Zs) [] c 0 (.sl (rI (Jp (ZT b k) (JK (nN b N0 k) c))))=(nN b N0 (k+1)).map Zs:=by
     rw[YK gR,eN,Ube]
     rfl
    simp only[hq,gq,hqa,hqc,gR,hcl,hNkl,ZH,ZE neN,Ji,Int.toNat_natCast,Uah,Uab,Zb,seval,Za,men]
    rw[hc.1]
    refine Zi (Wr (JK (nN b N0 k) c) (ZT b k) (by omega)) ?_
    rw[hv] at eT
    simp only[ZE neN,JH neN,JJ,Ji,gR,hcl,hNkl,hst,Int.toNat_natCast,Uah,Uab,Zb,seval,Za,men]
    exact⟨by rw[Zh];omega,by (repeat' apply Uaa) <;> intro h <;> first | exact absurd h neN | exact absurd h neS | exact absurd h neM | exact absurd h neA,Zr () hka (by rw[eT,eV];rfl) trivial⟩
  ·have hke:k=b.nodes.length:=by omega
   subst hke
   refine Jf (α:=Unit) (Jd b) (fun l _=>⟨lvl,[(2,.ab (lvl,64) 0),(3,.ta (Zk b)),(4,.ab (lvl,128) 0),(5,.ab (lvl,160) 0),(9,iI l)],[(64,.bx [(tI T0),.hd idN [] 0 sig.length none sig.length,.hd idS [] 0 sorts.length none sorts.length,.hd idM [] 0 m0.length none m0.length,.hd idA [] 0 0 none 0]),(128,.bx [.cs [],.cs [],.cs [],.cs [],.cs []]),(160,.bx [(tI (tN b T0 b.nodes.length)),.hd idN [] 0 sig.length none sig.length,.hd idS [] 0 sorts.length none sorts.length,.hd idM [] 0 m0.length none m0.length,.hd idA [] 0 0 none 0])],Ze (Ze S idN (.ar 1 ((nN b N0 b.nodes.length).map Zs) false sig.length (ZZ b v b.nodes.length))) idM (.ar 1 (rI (ZA s0 b m0 l)) true m0.length 0)⟩) (fun _ _=>True) () ⟨by simp only[ZE neN,Zb,seval,Za,men]; (repeat' apply Uaa) <;> intro h <;> first | exact absurd h neN | exact absurd h neS | exact absurd h neM | exact absurd h neA,by simp only[Zb,seval,Za,men];rw[show Ze (Ze S idN (.ar 1 ((nN b N0 b.nodes.length).map Zs) false sig.length (ZZ b v b.nodes.length))) idM (.ar 1 (rI (ZA s0 b m0 0)) true m0.length 0)=Ze S idN (.ar 1 ((nN b N0 b.nodes.length).map Zs) false sig.length (ZZ b v b.nodes.length)) from QI (by rw[JO (Ne.symm hNM)];exact hSM)];rfl⟩ trivial ?_
   intro l _ hl _
   have hsN:∀ X Y,Ze (Ze S idN X) idM Y idN=some X:=fun X Y=>by rw[JO hNM];exact Ji ..
   have hsM:∀ X Y,Ze (Ze S idN X) idM Y idM=some Y:=fun X Y=>Ji ..
   have hsS:∀ X Y,Ze (Ze S idN X) idM Y idS=some (.ar 1 (sorts.map Zs) true sorts.length 0):=fun X Y=>by rw[JO hSM1,JO hSN1];exact hSS
   have hsA:∀ X Y,Ze (Ze S idN X) idM Y idA=some (.ar 2 [] true 0 0):=fun X Y=>by rw[JO hAM,JO hAN];exact hSA
   have hNl1:(nN b N0 b.nodes.length).length=sig.length:=by rw[VH,hNl]
   have hmk:(ZA s0 b m0 l).length=m0.length:=Wu
   have c2:cut ((nN b N0 b.nodes.length).map Zs) 0 sig.length=(nN b N0 b.nodes.length).map Zs:=Z7 (by simp [hNl1])
   have c3:cut (sorts.map Zs) 0 sorts.length=sorts.map Zs:=Z7 (by simp)
   have c4:cut (rI (ZA s0 b m0 l)) 0 m0.length=rI (ZA s0 b m0 l):=Z7 (by simp [hmk])
   have c0:∀ k:Row,cut k 0 0=[]:=fun k=>by simp [cut]
   have hln:b.edges+(b.outer.length:Int)=(Jd b:Nat):=by unfold Jd;have:=hsm.edges;omega
   have hln2:=Ul hsm
   simp only[Zk,ZE neN,ZE neS,ZE neM,ZE neA,hsN,hsM,hsS,hsA,c0,c2,c3,c4,hln,Uab,Zb,seval,Za,men]
   refine⟨by rw[Zh];omega,Zl (fun hlt2=>?_) (fun hge2=>?_)⟩
   ·have hla:l<Jd b:=by omega
    refine⟨by omega,by omega,?_⟩
    refine Zi (Dz sig ⟨T0,nN b N0 b.nodes.length,sorts,ZA s0 b m0 l,[]⟩ s0 b l ht2 hq1 (by rw[hmk,hml])) ?_
    obtain⟨cs,hcs⟩:∃ cs,cs=VF s0 b l:=⟨_,rfl⟩
    have hm4:=ht2.srt.many.2
    have hcl:cs.length=m0.length:=by rw[hcs,(Uk hsm l).len,hml]
    rw[<-hcs]
    simp only[Zb,seval,Za,men]
    refine Jf (α:=Unit) cs.length (fun k _=>⟨lvl,[(2,.ab (lvl,64) 0),(3,.ta (Zk b)),(4,.ab (lvl,128) 0),(5,.ab (lvl,160) 0),(9,iI l),(10,tI cs),(11,iI k)],[(64,.bx [(tI T0),.hd idN [] 0 sig.length none sig.length,.hd idS [] 0 sorts.length none sorts.length,.hd idM [] 0 m0.length none m0.length,.hd idA [] 0 0 none 0]),(128,.bx [.cs [],.cs [],.cs [],.cs [],.cs []]),(160,.bx [(tI (tN b T0 b.nodes.length)),.hd idN [] 0 sig.length none sig.length,.hd idS [] 0 sorts.length none sorts.length,.hd idM [] 0 m0.length none m0.length,.hd idA [] 0 0 none 0])],Ze (Ze S idN (.ar 1 ((nN b N0 b.nodes.length).map Zs) false sig.length (ZZ b v b.nodes.length))) idM (.ar 1 (rI (mN cs (ZA s0 b m0 l) k)) true m0.length 0)⟩) (fun _ _=>True) () ⟨by simp only[ZE neN,Zb,seval,Za,men]; (repeat' apply Uaa) <;> intro h <;> first | exact absurd h neN | exact absurd h neS | exact absurd h neM | exact absurd h neA,by (simp only[Zb,seval,Za,men]) <;> rfl⟩ trivial ?_
    intro k _ hk2 _
    simp only[Zk,Zb,seval,Za,men]
    refine Zl (fun hlt3=>?_) (fun hge3=>?_)
    ·have hkc:k<cs.length:=by omega
     have hmN:(mN cs (ZA s0 b m0 l) k).length=m0.length:=by rw[Wt,hmk]
     have hkm:k<m0.length:=by omega
     have gk:=JE hkc
     have gm:=JE (l:=mN cs (ZA s0 b m0 l) k) (i:=k) (by omega)
     have hst:ZG (rI (mN cs (ZA s0 b m0 l) k)) [] k 0 (.v (.int .i64 (max (g0 (mN cs (ZA s0 b m0 l) k) k) (g0 cs k))))=rI (mN cs (ZA s0 b m0 l) (k+1)):=by
      rw[Wq (by omega),mN]
     simp only[gk,gm,hkc,hkm,hmN,ZE neM,hsM,Uab,Zb,seval,Za,men]
     refine Zi (ZbE (g0 (mN cs (ZA s0 b m0 l) k) k) (g0 cs k)) ?_
     simp only[gk,gm,hkc,hkm,hmN,ZE neM,hsM,JH neM,JJ,hst,Uab,Zb,seval,Za,men]
     exact⟨by rw[Zh];omega,by (repeat' apply Uaa) <;> intro h <;> first | exact absurd h neN | exact absurd h neS | exact absurd h neM | exact absurd h neA,Zr () hkc rfl trivial⟩
    ·have hke:k=cs.length:=by omega
     subst hke
     have hml2:mN cs (ZA s0 b m0 l) cs.length=ZA s0 b m0 (l+1):=by rw[ZA,<-hml,<-hcl,hcs]
     rw[hml2]
     exact⟨by rw[Zh];omega,by (repeat' apply Uaa) <;> intro h <;> first | exact absurd h neN | exact absurd h neS | exact absurd h neM | exact absurd h neA,Zr () hla rfl trivial⟩
   ·have hle:l=Jd b:=by omega
    subst hle
    refine⟨by (repeat' apply Uaa) <;> omega,?_⟩
    simp only[Yh neN,Yh neS,Yh neM,Yh neA,hv,Zb,seval,Za,men]
theorem Zwv(sig:List TControl)(s0:TSorting)(b:TBigraph)(ht2:two sig s0 b)(N0 sorts:List (List Int))(m0:List Int)(hNg:GdlS sig.length N0)(hNl:N0.length=sig.length)(hq1:sorts=s0.sorts)(hml:m0.length=s0.most.length)(lvl:Nat)(S:Zc)(idT:Zd)(hidT:idT.1<lvl)(hST:S idT=some (.ar 1 [] true 0 0))(idN idS idM idA:Zd)(hidN:idN.1<lvl)(hidS:idS.1<lvl)(hidM:idM.1<lvl)(hidA:idA.1<lvl)(hNM:idN≠idM)(hSN1:idS≠idN)(hSM1:idS≠idM)(hAN:idA≠idN)(hAM:idA≠idM)(hTN:idT≠idN)(hTM:idT≠idM)(v:Nat)
  (hSN:S idN=some (.ar 1 (N0.map Zs) false sig.length v)) (hSS:S idS=some (.ar 1 (sorts.map Zs) true sorts.length 0)) (hSM:S idM=some (.ar 1 (rI m0) true m0.length 0)) (hSA:S idA=some (.ar 2 [] true 0 0)) :
  Sem UbR Za0 lvl [.ag [(.hd idT [] 0 0 none 0),.hd idN [] 0 sig.length none sig.length,.hd idS [] 0 sorts.length none sorts.length,.hd idM [] 0 m0.length none m0.length,.hd idA [] 0 0 none 0],.ag ((Zk b).map .tr)] S
   (.ag [JN (.hd idT [] 0 0 none 0) b ([]:List Int) b.nodes.length,.hd idN [] 0 sig.length none sig.length,.hd idS [] 0 sorts.length none sorts.length,.hd idM [] 0 m0.length none m0.length,.hd idA [] 0 0 none 0])
   (Ze (Ze S idN (.ar 1 ((nN b N0 b.nodes.length).map Zs) false sig.length (ZZ b v b.nodes.length))) idM (.ar 1 (rI (ZA s0 b m0 (Jd b))) true m0.length 0)):=by
 have neN:idN.1≠lvl:=by omega
 have neS:idS.1≠lvl:=by omega
 have neM:idM.1≠lvl:=by omega
 have neA:idA.1≠lvl:=by omega
 have neT:idT.1≠lvl:=by omega
 have hpT:∀ X,Ze S idN X idT=some (.ar 1 [] true 0 0):=fun X=>by rw[JO hTN,hST]
 have hbk:=ht2.big
 have hsm:=hbk.small
 have hn8:=hbk.nodesL
 refine Zv Zhw ⟨?_,hidN,hidS,hidM,hidA,trivial⟩ ?_
 ·rcases Wx (t0:=(.hd idT [] 0 0 none 0)) (b:=b) (T0:=([]:List Int)) (k:=b.nodes.length) with h | h
  ·rw[h.1]
   exact hidT
  ·rw[h]
   trivial
 simp only[Zd8,Zk,Zb,seval,Za,men]
 refine⟨⟨by omega,by omega,by omega,by omega,by omega⟩,?_⟩
 refine Jf (α:=Unit) b.nodes.length (fun k _=>⟨lvl,[(2,.ab (lvl,64) 0),(3,.ta (Zk b)),(4,.ab (lvl,128) 0),(5,.ab (lvl,160) 0),(6,iI k)],[(64,.bx [(.hd idT [] 0 0 none 0),.hd idN [] 0 sig.length none sig.length,.hd idS [] 0 sorts.length none sorts.length,.hd idM [] 0 m0.length none m0.length,.hd idA [] 0 0 none 0]),(128,.bx [.cs [],.cs [],.cs [],.cs [],.cs []]),(160,.bx [JN (.hd idT [] 0 0 none 0) b ([]:List Int) k,.hd idN [] 0 sig.length none sig.length,.hd idS [] 0 sorts.length none sorts.length,.hd idM [] 0 m0.length none m0.length,.hd idA [] 0 0 none 0])],Ze S idN (.ar 1 ((nN b N0 k).map Zs) false sig.length (ZZ b v k))⟩) (fun _ _=>True) () ⟨by simp only[ZE neN,Zb,seval,Za,men]; (repeat' apply Uaa) <;> intro h <;> first | exact absurd h neN | exact absurd h neS | exact absurd h neM | exact absurd h neA | exact absurd h neT,by simp only[Zb,seval,Za,men];rw[show Ze S idN (.ar 1 ((nN b N0 0).map Zs) false sig.length (ZZ b v 0))=S from QI hSN];rfl⟩ trivial ?_
 intro k _ hk _
 rcases Wx (t0:=(.hd idT [] 0 0 none 0)) (b:=b) (T0:=([]:List Int)) (k:=k) with hv | hv
 ·rw[hv.1]
  simp only[Zk,Zb,seval,Za,men]
  refine Zl (fun hlt=>?_) (fun hge=>?_)
  ·have hka:k<b.nodes.length:=by omega
   have gn:=ZY (c:=ZH) hka
   have hc:=VX hbk hka
   have hp:=ht2.par hka
   have hTk:=XR hbk (DB sig.length) (j:=k) (by omega)
   have hNk:=Wv hbk hNg (j:=k) (by omega)
   have hNkl:(nN b N0 k).length=sig.length:=by rw[VH,hNl]
   have hsig:=ht2.srt.sg.2.2
   have hTl:=hTk.len
   simp only[gn,hka,ZH,Zb,seval,Za,men]
   refine Zl (fun hneg=>?_) (fun hpos=>?_)
   ·have ep:J6 b k<0:=by rw[Y5 hka];exact hneg
    have eT:JN (.hd idT [] 0 0 none 0) b ([]:List Int) (k+1)=tI (Jp (ZT b k) (tN b ([]:List Int) k)):=by rw[JN,if_pos ep,tN,if_pos ep]
    have eN:nN b N0 (k+1)=nN b N0 k:=by rw[nN,if_pos ep]
    have eV:ZZ b v (k+1)=ZZ b v k:=by rw[ZZ,if_pos ep]
    skip
    rw[hc.1]
    refine XC (fun l2 S2 hs=>by
     simp only[Za,men] at hs
     exact Zwt (ZT b k) l2 S2 idT hs.1.1.1 (hs.1.1.2 _ (by rw[ZE neT];exact hpT _))) ?_
    simp only[Zb,seval,Za,men]
    rw[hv.2] at eT
    exact⟨by rw[Zh];omega,by (repeat' apply Uaa) <;> intro h <;> first | exact absurd h neN | exact absurd h neS | exact absurd h neM | exact absurd h neA | exact absurd h neT,Zr () hka (by rw[eT,eN,eV];rfl) trivial⟩
   ·have ep:¬ J6 b k<0:=by rw[Y5 hka];exact hpos
    obtain⟨q,hq⟩:∃ q:Nat,b.nodes[k].parent=q:=⟨b.nodes[k].parent.toNat,by omega⟩
    have hqa:q<b.nodes.length:=by omega
    have hcq:=VX hbk hqa
    obtain⟨c,hcc⟩:∃ c:Nat,ZT b q=c:=⟨(ZT b q).toNat,by omega⟩
    have hqc:b.nodes[q].control=c:=by rw[hcq.1,hcc]
    have hcl:c<sig.length:=by omega
    have gq:=ZY (c:=ZH) hqa
    have gR:((nN b N0 k).map Zs)[c]? = some [Tr.sl (rI (JK (nN b N0 k) c))]:=by
     rw[Uan,Uaf (by omega),Uo (by omega)]
     rfl
    have hRl:=(hNk.row c).len
    have eq:(ZT b (J6 b k)).toNat=c:=by rw[Y5 hka,hq,hcc];rfl
    have eT:JN (.hd idT [] 0 0 none 0) b ([]:List Int) (k+1)=JN (.hd idT [] 0 0 none 0) b ([]:List Int) k:=by rw[JN,if_neg ep]
    have eN:nN b N0 (k+1)=(nN b N0 k).set c (Jp (ZT b k) (JK (nN b N0 k) c)):=by rw[nN,if_neg ep,eq]
    have eV:ZZ b v (k+1)=ZZ b v k+1:=by rw[ZZ,if_neg ep]
    have hst:ZG ((nN b N0 k).map Zs) [] c 0 (.sl (rI (Jp (ZT b k) (JK (nN b N0 k) c))))=(nN b N0 (k+1)).map Zs:=by
     rw[YK gR,eN,Ube]
     rfl
    simp only[hq,gq,hqa,hqc,gR,hcl,hNkl,ZH,ZE neN,Ji,Int.toNat_natCast,Uah,Uab,Zb,seval,Za,men]
    rw[hc.1]
    refine Zi (Wr (JK (nN b N0 k) c) (ZT b k) (by omega)) ?_
    rw[hv.1] at eT
    simp only[ZE neN,JH neN,JJ,Ji,gR,hcl,hNkl,hst,Int.toNat_natCast,Uah,Uab,Zb,seval,Za,men]
    exact⟨by rw[Zh];omega,by (repeat' apply Uaa) <;> intro h <;> first | exact absurd h neN | exact absurd h neS | exact absurd h neM | exact absurd h neA | exact absurd h neT,Zr () hka (by rw[eT,eV];rfl) trivial⟩
  ·have hke:k=b.nodes.length:=by omega
   subst hke
   refine Jf (α:=Unit) (Jd b) (fun l _=>⟨lvl,[(2,.ab (lvl,64) 0),(3,.ta (Zk b)),(4,.ab (lvl,128) 0),(5,.ab (lvl,160) 0),(9,iI l)],[(64,.bx [(.hd idT [] 0 0 none 0),.hd idN [] 0 sig.length none sig.length,.hd idS [] 0 sorts.length none sorts.length,.hd idM [] 0 m0.length none m0.length,.hd idA [] 0 0 none 0]),(128,.bx [.cs [],.cs [],.cs [],.cs [],.cs []]),(160,.bx [(.hd idT [] 0 0 none 0),.hd idN [] 0 sig.length none sig.length,.hd idS [] 0 sorts.length none sorts.length,.hd idM [] 0 m0.length none m0.length,.hd idA [] 0 0 none 0])],Ze (Ze S idN (.ar 1 ((nN b N0 b.nodes.length).map Zs) false sig.length (ZZ b v b.nodes.length))) idM (.ar 1 (rI (ZA s0 b m0 l)) true m0.length 0)⟩) (fun _ _=>True) () ⟨by simp only[ZE neN,Zb,seval,Za,men]; (repeat' apply Uaa) <;> intro h <;> first | exact absurd h neN | exact absurd h neS | exact absurd h neM | exact absurd h neA | exact absurd h neT,by simp only[Zb,seval,Za,men];rw[show Ze (Ze S idN (.ar 1 ((nN b N0 b.nodes.length).map Zs) false sig.length (ZZ b v b.nodes.length))) idM (.ar 1 (rI (ZA s0 b m0 0)) true m0.length 0)=Ze S idN (.ar 1 ((nN b N0 b.nodes.length).map Zs) false sig.length (ZZ b v b.nodes.length)) from QI (by rw[JO (Ne.symm hNM)];exact hSM)];rfl⟩ trivial ?_
   intro l _ hl _
   have hsN:∀ X Y,Ze (Ze S idN X) idM Y idN=some X:=fun X Y=>by rw[JO hNM];exact Ji ..
   have hsM:∀ X Y,Ze (Ze S idN X) idM Y idM=some Y:=fun X Y=>Ji ..
   have hsS:∀ X Y,Ze (Ze S idN X) idM Y idS=some (.ar 1 (sorts.map Zs) true sorts.length 0):=fun X Y=>by rw[JO hSM1,JO hSN1];exact hSS
   have hsA:∀ X Y,Ze (Ze S idN X) idM Y idA=some (.ar 2 [] true 0 0):=fun X Y=>by rw[JO hAM,JO hAN];exact hSA
   have hsT:∀ X Y,Ze (Ze S idN X) idM Y idT=some (.ar 1 [] true 0 0):=fun X Y=>by rw[JO hTM,JO hTN];exact hST
   have hNl1:(nN b N0 b.nodes.length).length=sig.length:=by rw[VH,hNl]
   have hmk:(ZA s0 b m0 l).length=m0.length:=Wu
   have c2:cut ((nN b N0 b.nodes.length).map Zs) 0 sig.length=(nN b N0 b.nodes.length).map Zs:=Z7 (by simp [hNl1])
   have c3:cut (sorts.map Zs) 0 sorts.length=sorts.map Zs:=Z7 (by simp)
   have c4:cut (rI (ZA s0 b m0 l)) 0 m0.length=rI (ZA s0 b m0 l):=Z7 (by simp [hmk])
   have c0:∀ k:Row,cut k 0 0=[]:=fun k=>by simp [cut]
   have hln:b.edges+(b.outer.length:Int)=(Jd b:Nat):=by unfold Jd;have:=hsm.edges;omega
   have hln2:=Ul hsm
   simp only[Zk,ZE neN,ZE neS,ZE neM,ZE neA,ZE neT,hsT,hsN,hsM,hsS,hsA,c0,c2,c3,c4,hln,Uab,Zb,seval,Za,men]
   refine⟨by rw[Zh];omega,Zl (fun hlt2=>?_) (fun hge2=>?_)⟩
   ·have hla:l<Jd b:=by omega
    refine⟨by omega,by omega,?_⟩
    refine Zi (Dz sig ⟨([]:List Int),nN b N0 b.nodes.length,sorts,ZA s0 b m0 l,[]⟩ s0 b l ht2 hq1 (by rw[hmk,hml])) ?_
    obtain⟨cs,hcs⟩:∃ cs,cs=VF s0 b l:=⟨_,rfl⟩
    have hm4:=ht2.srt.many.2
    have hcl:cs.length=m0.length:=by rw[hcs,(Uk hsm l).len,hml]
    rw[<-hcs]
    simp only[Zb,seval,Za,men]
    refine Jf (α:=Unit) cs.length (fun k _=>⟨lvl,[(2,.ab (lvl,64) 0),(3,.ta (Zk b)),(4,.ab (lvl,128) 0),(5,.ab (lvl,160) 0),(9,iI l),(10,tI cs),(11,iI k)],[(64,.bx [(.hd idT [] 0 0 none 0),.hd idN [] 0 sig.length none sig.length,.hd idS [] 0 sorts.length none sorts.length,.hd idM [] 0 m0.length none m0.length,.hd idA [] 0 0 none 0]),(128,.bx [.cs [],.cs [],.cs [],.cs [],.cs []]),(160,.bx [(.hd idT [] 0 0 none 0),.hd idN [] 0 sig.length none sig.length,.hd idS [] 0 sorts.length none sorts.length,.hd idM [] 0 m0.length none m0.length,.hd idA [] 0 0 none 0])],Ze (Ze S idN (.ar 1 ((nN b N0 b.nodes.length).map Zs) false sig.length (ZZ b v b.nodes.length))) idM (.ar 1 (rI (mN cs (ZA s0 b m0 l) k)) true m0.length 0)⟩) (fun _ _=>True) () ⟨by simp only[ZE neN,Zb,seval,Za,men]; (repeat' apply Uaa) <;> intro h <;> first | exact absurd h neN | exact absurd h neS | exact absurd h neM | exact absurd h neA | exact absurd h neT,by (simp only[Zb,seval,Za,men]) <;> rfl⟩ trivial ?_
    intro k _ hk2 _
    simp only[Zk,Zb,seval,Za,men]
    refine Zl (fun hlt3=>?_) (fun hge3=>?_)
    ·have hkc:k<cs.length:=by omega
     have hmN:(mN cs (ZA s0 b m0 l) k).length=m0.length:=by rw[Wt,hmk]
     have hkm:k<m0.length:=by omega
     have gk:=JE hkc
     have gm:=JE (l:=mN cs (ZA s0 b m0 l) k) (i:=k) (by omega)
     have hst:ZG (rI (mN cs (ZA s0 b m0 l) k)) [] k 0 (.v (.int .i64 (max (g0 (mN cs (ZA s0 b m0 l) k) k) (g0 cs k))))=rI (mN cs (ZA s0 b m0 l) (k+1)):=by
      rw[Wq (by omega),mN]
     simp only[gk,gm,hkc,hkm,hmN,ZE neM,hsM,Uab,Zb,seval,Za,men]
     refine Zi (ZbE (g0 (mN cs (ZA s0 b m0 l) k) k) (g0 cs k)) ?_
     simp only[gk,gm,hkc,hkm,hmN,ZE neM,hsM,JH neM,JJ,hst,Uab,Zb,seval,Za,men]
     exact⟨by rw[Zh];omega,by (repeat' apply Uaa) <;> intro h <;> first | exact absurd h neN | exact absurd h neS | exact absurd h neM | exact absurd h neA | exact absurd h neT,Zr () hkc rfl trivial⟩
    ·have hke:k=cs.length:=by omega
     subst hke
     have hml2:mN cs (ZA s0 b m0 l) cs.length=ZA s0 b m0 (l+1):=by rw[ZA,<-hml,<-hcl,hcs]
     rw[hml2]
     exact⟨by rw[Zh];omega,by (repeat' apply Uaa) <;> intro h <;> first | exact absurd h neN | exact absurd h neS | exact absurd h neM | exact absurd h neA | exact absurd h neT,Zr () hla rfl trivial⟩
   ·have hle:l=Jd b:=by omega
    subst hle
    refine⟨by (repeat' apply Uaa) <;> omega,?_⟩
    simp only[Yh neN,Yh neS,Yh neM,Yh neA,Yh neT,hv,Zb,seval,Za,men]
 ·rw[hv]
  simp only[Zk,Zb,seval,Za,men]
  refine Zl (fun hlt=>?_) (fun hge=>?_)
  ·have hka:k<b.nodes.length:=by omega
   have gn:=ZY (c:=ZH) hka
   have hc:=VX hbk hka
   have hp:=ht2.par hka
   have hTk:=XR hbk (DB sig.length) (j:=k) (by omega)
   have hNk:=Wv hbk hNg (j:=k) (by omega)
   have hNkl:(nN b N0 k).length=sig.length:=by rw[VH,hNl]
   have hsig:=ht2.srt.sg.2.2
   have hTl:=hTk.len
   simp only[gn,hka,ZH,Zb,seval,Za,men]
   refine Zl (fun hneg=>?_) (fun hpos=>?_)
   ·have ep:J6 b k<0:=by rw[Y5 hka];exact hneg
    have eT:JN (.hd idT [] 0 0 none 0) b ([]:List Int) (k+1)=tI (Jp (ZT b k) (tN b ([]:List Int) k)):=by rw[JN,if_pos ep,tN,if_pos ep]
    have eN:nN b N0 (k+1)=nN b N0 k:=by rw[nN,if_pos ep]
    have eV:ZZ b v (k+1)=ZZ b v k:=by rw[ZZ,if_pos ep]
    skip
    rw[hc.1]
    refine XC (fun l2 S2 _=>Wr (tN b ([]:List Int) k) (ZT b k) (by omega) l2 S2) ?_
    simp only[Zb,seval,Za,men]
    skip
    exact⟨by rw[Zh];omega,by (repeat' apply Uaa) <;> intro h <;> first | exact absurd h neN | exact absurd h neS | exact absurd h neM | exact absurd h neA | exact absurd h neT,Zr () hka (by rw[eT,eN,eV];rfl) trivial⟩
   ·have ep:¬ J6 b k<0:=by rw[Y5 hka];exact hpos
    obtain⟨q,hq⟩:∃ q:Nat,b.nodes[k].parent=q:=⟨b.nodes[k].parent.toNat,by omega⟩
    have hqa:q<b.nodes.length:=by omega
    have hcq:=VX hbk hqa
    obtain⟨c,hcc⟩:∃ c:Nat,ZT b q=c:=⟨(ZT b q).toNat,by omega⟩
    have hqc:b.nodes[q].control=c:=by rw[hcq.1,hcc]
    have hcl:c<sig.length:=by omega
    have gq:=ZY (c:=ZH) hqa
    have gR:((nN b N0 k).map Zs)[c]? = some [Tr.sl (rI (JK (nN b N0 k) c))]:=by
     rw[Uan,Uaf (by omega),Uo (by omega)]
     rfl
    have hRl:=(hNk.row c).len
    have eq:(ZT b (J6 b k)).toNat=c:=by rw[Y5 hka,hq,hcc];rfl
    have eT:JN (.hd idT [] 0 0 none 0) b ([]:List Int) (k+1)=JN (.hd idT [] 0 0 none 0) b ([]:List Int) k:=by rw[JN,if_neg ep]
    have eN:nN b N0 (k+1)=(nN b N0 k).set c (Jp (ZT b k) (JK (nN b N0 k) c)):=by rw[nN,if_neg ep,eq]
    have eV:ZZ b v (k+1)=ZZ b v k+1:=by rw[ZZ,if_neg ep]
    have hst:ZG ((nN b N0 k).map Zs) [] c 0 (.sl (rI (Jp (ZT b k) (JK (nN b N0 k) c))))=(nN b N0 (k+1)).map Zs:=by
     rw[YK gR,eN,Ube]
     rfl
    simp only[hq,gq,hqa,hqc,gR,hcl,hNkl,ZH,ZE neN,Ji,Int.toNat_natCast,Uah,Uab,Zb,seval,Za,men]
    rw[hc.1]
    refine Zi (Wr (JK (nN b N0 k) c) (ZT b k) (by omega)) ?_
    rw[hv] at eT
    simp only[ZE neN,JH neN,JJ,Ji,gR,hcl,hNkl,hst,Int.toNat_natCast,Uah,Uab,Zb,seval,Za,men]
    exact⟨by rw[Zh];omega,by (repeat' apply Uaa) <;> intro h <;> first | exact absurd h neN | exact absurd h neS | exact absurd h neM | exact absurd h neA | exact absurd h neT,Zr () hka (by rw[eT,eV];rfl) trivial⟩
  ·have hke:k=b.nodes.length:=by omega
   subst hke
   refine Jf (α:=Unit) (Jd b) (fun l _=>⟨lvl,[(2,.ab (lvl,64) 0),(3,.ta (Zk b)),(4,.ab (lvl,128) 0),(5,.ab (lvl,160) 0),(9,iI l)],[(64,.bx [(.hd idT [] 0 0 none 0),.hd idN [] 0 sig.length none sig.length,.hd idS [] 0 sorts.length none sorts.length,.hd idM [] 0 m0.length none m0.length,.hd idA [] 0 0 none 0]),(128,.bx [.cs [],.cs [],.cs [],.cs [],.cs []]),(160,.bx [(tI (tN b ([]:List Int) b.nodes.length)),.hd idN [] 0 sig.length none sig.length,.hd idS [] 0 sorts.length none sorts.length,.hd idM [] 0 m0.length none m0.length,.hd idA [] 0 0 none 0])],Ze (Ze S idN (.ar 1 ((nN b N0 b.nodes.length).map Zs) false sig.length (ZZ b v b.nodes.length))) idM (.ar 1 (rI (ZA s0 b m0 l)) true m0.length 0)⟩) (fun _ _=>True) () ⟨by simp only[ZE neN,Zb,seval,Za,men]; (repeat' apply Uaa) <;> intro h <;> first | exact absurd h neN | exact absurd h neS | exact absurd h neM | exact absurd h neA | exact absurd h neT,by simp only[Zb,seval,Za,men];rw[show Ze (Ze S idN (.ar 1 ((nN b N0 b.nodes.length).map Zs) false sig.length (ZZ b v b.nodes.length))) idM (.ar 1 (rI (ZA s0 b m0 0)) true m0.length 0)=Ze S idN (.ar 1 ((nN b N0 b.nodes.length).map Zs) false sig.length (ZZ b v b.nodes.length)) from QI (by rw[JO (Ne.symm hNM)];exact hSM)];rfl⟩ trivial ?_
   intro l _ hl _
   have hsN:∀ X Y,Ze (Ze S idN X) idM Y idN=some X:=fun X Y=>by rw[JO hNM];exact Ji ..
   have hsM:∀ X Y,Ze (Ze S idN X) idM Y idM=some Y:=fun X Y=>Ji ..
   have hsS:∀ X Y,Ze (Ze S idN X) idM Y idS=some (.ar 1 (sorts.map Zs) true sorts.length 0):=fun X Y=>by rw[JO hSM1,JO hSN1];exact hSS
   have hsA:∀ X Y,Ze (Ze S idN X) idM Y idA=some (.ar 2 [] true 0 0):=fun X Y=>by rw[JO hAM,JO hAN];exact hSA
   have hsT:∀ X Y,Ze (Ze S idN X) idM Y idT=some (.ar 1 [] true 0 0):=fun X Y=>by rw[JO hTM,JO hTN];exact hST
   have hNl1:(nN b N0 b.nodes.length).length=sig.length:=by rw[VH,hNl]
   have hmk:(ZA s0 b m0 l).length=m0.length:=Wu
   have c2:cut ((nN b N0 b.nodes.length).map Zs) 0 sig.length=(nN b N0 b.nodes.length).map Zs:=Z7 (by simp [hNl1])
   have c3:cut (sorts.map Zs) 0 sorts.length=sorts.map Zs:=Z7 (by simp)
   have c4:cut (rI (ZA s0 b m0 l)) 0 m0.length=rI (ZA s0 b m0 l):=Z7 (by simp [hmk])
   have c0:∀ k:Row,cut k 0 0=[]:=fun k=>by simp [cut]
   have hln:b.edges+(b.outer.length:Int)=(Jd b:Nat):=by unfold Jd;have:=hsm.edges;omega
   have hln2:=Ul hsm
   simp only[Zk,ZE neN,ZE neS,ZE neM,ZE neA,ZE neT,hsT,hsN,hsM,hsS,hsA,c0,c2,c3,c4,hln,Uab,Zb,seval,Za,men]
   refine⟨by rw[Zh];omega,Zl (fun hlt2=>?_) (fun hge2=>?_)⟩
   ·have hla:l<Jd b:=by omega
    refine⟨by omega,by omega,?_⟩
    refine Zi (Dz sig ⟨([]:List Int),nN b N0 b.nodes.length,sorts,ZA s0 b m0 l,[]⟩ s0 b l ht2 hq1 (by rw[hmk,hml])) ?_
    obtain⟨cs,hcs⟩:∃ cs,cs=VF s0 b l:=⟨_,rfl⟩
    have hm4:=ht2.srt.many.2
    have hcl:cs.length=m0.length:=by rw[hcs,(Uk hsm l).len,hml]
    rw[<-hcs]
    simp only[Zb,seval,Za,men]
    refine Jf (α:=Unit) cs.length (fun k _=>⟨lvl,[(2,.ab (lvl,64) 0),(3,.ta (Zk b)),(4,.ab (lvl,128) 0),(5,.ab (lvl,160) 0),(9,iI l),(10,tI cs),(11,iI k)],[(64,.bx [(.hd idT [] 0 0 none 0),.hd idN [] 0 sig.length none sig.length,.hd idS [] 0 sorts.length none sorts.length,.hd idM [] 0 m0.length none m0.length,.hd idA [] 0 0 none 0]),(128,.bx [.cs [],.cs [],.cs [],.cs [],.cs []]),(160,.bx [(tI (tN b ([]:List Int) b.nodes.length)),.hd idN [] 0 sig.length none sig.length,.hd idS [] 0 sorts.length none sorts.length,.hd idM [] 0 m0.length none m0.length,.hd idA [] 0 0 none 0])],Ze (Ze S idN (.ar 1 ((nN b N0 b.nodes.length).map Zs) false sig.length (ZZ b v b.nodes.length))) idM (.ar 1 (rI (mN cs (ZA s0 b m0 l) k)) true m0.length 0)⟩) (fun _ _=>True) () ⟨by simp only[ZE neN,Zb,seval,Za,men]; (repeat' apply Uaa) <;> intro h <;> first | exact absurd h neN | exact absurd h neS | exact absurd h neM | exact absurd h neA | exact absurd h neT,by (simp only[Zb,seval,Za,men]) <;> rfl⟩ trivial ?_
    intro k _ hk2 _
    simp only[Zk,Zb,seval,Za,men]
    refine Zl (fun hlt3=>?_) (fun hge3=>?_)
    ·have hkc:k<cs.length:=by omega
     have hmN:(mN cs (ZA s0 b m0 l) k).length=m0.length:=by rw[Wt,hmk]
     have hkm:k<m0.length:=by omega
     have gk:=JE hkc
     have gm:=JE (l:=mN cs (ZA s0 b m0 l) k) (i:=k) (by omega)
     have hst:ZG (rI (mN cs (ZA s0 b m0 l) k)) [] k 0 (.v (.int .i64 (max (g0 (mN cs (ZA s0 b m0 l) k) k) (g0 cs k))))=rI (mN cs (ZA s0 b m0 l) (k+1)):=by
      rw[Wq (by omega),mN]
     simp only[gk,gm,hkc,hkm,hmN,ZE neM,hsM,Uab,Zb,seval,Za,men]
     refine Zi (ZbE (g0 (mN cs (ZA s0 b m0 l) k) k) (g0 cs k)) ?_
     simp only[gk,gm,hkc,hkm,hmN,ZE neM,hsM,JH neM,JJ,hst,Uab,Zb,seval,Za,men]
     exact⟨by rw[Zh];omega,by (repeat' apply Uaa) <;> intro h <;> first | exact absurd h neN | exact absurd h neS | exact absurd h neM | exact absurd h neA | exact absurd h neT,Zr () hkc rfl trivial⟩
    ·have hke:k=cs.length:=by omega
     subst hke
     have hml2:mN cs (ZA s0 b m0 l) cs.length=ZA s0 b m0 (l+1):=by rw[ZA,<-hml,<-hcl,hcs]
     rw[hml2]
     exact⟨by rw[Zh];omega,by (repeat' apply Uaa) <;> intro h <;> first | exact absurd h neN | exact absurd h neS | exact absurd h neM | exact absurd h neA | exact absurd h neT,Zr () hla rfl trivial⟩
   ·have hle:l=Jd b:=by omega
    subst hle
    refine⟨by (repeat' apply Uaa) <;> omega,?_⟩
    simp only[Yh neN,Yh neS,Yh neM,Yh neA,Yh neT,hv,Zb,seval,Za,men]
theorem ZbF{C:ZD}{env:List (Nat×IV)}{loc:List (Nat×Ob)}{out:Zc}{d:Option Nat}{K:St->Prop}{fid:FuncId}{imp:Bool}{lvl:Nat}{args:List IV}{r:IV}(key1:Nat)(o1:Ob)(key2:Nat)(o2:Ob)(h:C fid (lvl+1) args (Zy lvl loc out) r (Ze (Ze (Zy lvl loc out) (lvl,key1) o1) (lvl,key2) o2))
  (hk:freshK (keyOf d) (ptO key2 o2 (ptO key1 o1 loc)) (impv imp lvl (keyOf d) 0 r).2.length/\K ⟨lvl,ptd d (impv imp lvl (keyOf d) 0 r).1 env,addO (keyOf d) (impv imp lvl (keyOf d) 0 r).2 (ptO key2 o2 (ptO key1 o1 loc)),out⟩):QB C fid imp lvl env loc out d K args :=
 W3 (ptO key2 o2 (ptO key1 o1 loc)) out (fun _ _=>rfl) (by rw[Q9,Q9];exact h) hk
theorem Zjb{s0:TSorting}{b:TBigraph}{p:A2}{l:Nat}(h:Vo s0 b p l=true):∀{m:Nat},l<=m->Vo s0 b p m=true
 | 0,hm=>by rw[show 0=l by omega];exact h
 | m+1,hm=>by
  by_cases e:l=m+1
  ·rw[<-e];exact h
  ·rw[Vo,Zjb h (by omega),Bool.true_or]
theorem Zjc(sig:List TControl)(s s0:TSorting)(b:TBigraph)(ht2:two sig s0 b)(q1:s.sorts=s0.sorts)(q2:s.most.length=s0.most.length)(x y:Nat)(hx:x<s0.most.length)(hy:y<s0.most.length)(lvl:Nat)(S:Zc):Sem UbR Zdl lvl [.ag ((ZJ s).map .tr),.ag ((Zk b).map .tr),iI x,iI y] S (iB (DE s0 ((x:Int),(y:Int)) b)) S:=by
 have hsm:=ht2.big.small
 have hln:b.edges+(b.outer.length:Int)=(Jd b:Nat):=by unfold Jd;have:=hsm.edges;omega
 have hln2:=Ul hsm
 refine Zv ZuF trivial ?_
 simp only[Zhx,ZJ,Zk,Zb,seval,Za,men]
 refine Ja (α:=Unit) (Jd b) (fun l _=>[(9,iI l)]) (fun _ _=>[]) (fun l _=>Vo s0 b ((x:Int),(y:Int)) l=false) () (by simp only[Zb,seval,Za,men]) (by (simp only[Zb,seval,Za,men]) <;> rfl) rfl ?_
 intro l _ hl hA
 simp only[hln,Uab,Zb,seval,Za,men]
 refine⟨by rw[Zh];omega,Zl (fun hlt=>?_) (fun hge=>?_)⟩
 ·have hla:l<Jd b:=by omega
  refine Zi (Dz sig s s0 b l ht2 q1 q2) ?_
  obtain⟨cs,hcs⟩:∃ cs,cs=VF s0 b l:=⟨_,rfl⟩
  have hcl:cs.length=s0.most.length:=by rw[hcs,(Uk hsm l).len]
  have g1:=JE (l:=cs) (i:=x) (by omega)
  have g2:=JE (l:=cs) (i:=y) (by omega)
  have hh:Vo s0 b ((x:Int),(y:Int)) (l+1)=(decide (0<g0 cs x)&&decide (0<g0 cs y)):=by
   rw[Vo,hA,Bool.false_or,Zi9,<-hcs]
   rfl
  rw[<-hcs]
  by_cases h1:0<g0 cs x
  ·by_cases h2:0<g0 cs y
   ·have ht:DE s0 ((x:Int),(y:Int)) b=true:=Zjb (l:=l+1) (by rw[hh,decide_eq_true h1,decide_eq_true h2];rfl) hla
    simp only[g1,g2,h1,h2,hcl,hx,hy,ht,Int.toNat_natCast,Uah,Uab,Zb,seval,Za,men]
   ·have ht:Vo s0 b ((x:Int),(y:Int)) (l+1)=false:=by rw[hh,decide_eq_false h2,UbK]
    simp only[g1,g2,h1,h2,hcl,hx,hy,Int.toNat_natCast,Uah,Uab,Zb,seval,Za,men]
    exact⟨by rw[Zh];omega,Zr () hla rfl ht⟩
  ·have ht:Vo s0 b ((x:Int),(y:Int)) (l+1)=false:=by rw[hh,decide_eq_false h1,Bool.false_and]
   simp only[g1,g2,h1,hcl,hx,hy,Int.toNat_natCast,Uah,Uab,Zb,seval,Za,men]
   exact⟨by rw[Zh];omega,Zr () hla rfl ht⟩
 ·have hle:l=Jd b:=by omega
  subst hle
  rw[show DE s0 ((x:Int),(y:Int)) b=false from hA]
theorem Zww(sig:List TControl)(sorts:List (List Int))(many:Int)(gs:List TBigraph)(hn:sig.length<=4294967296)(hbs:∀ y∈sig,Yd 4294967296 y)(hs:sorts.length<=4294967296)(hss:∀ y∈sorts,y.length<=4294967296)(hg:gs.length<=4294967296)(hgb:∀ y∈gs,YD 4294967296 y)(hf:∀ y∈gs,Ud y)(lvl:Nat)(S:Zc):Sem UbR Zda lvl [.tr (.sl (sig.map ZB)),.tr (.sl (sorts.map Zs)),iI many,.tr (.sl (gs.map Zk))] S (.tu [.ag ((ZJ (J1 sig sorts many gs)).map .tr),iB (Xf sig sorts many gs)]) S:=by
 refine Zv Zux (by simp [low,men,Za,ZJ]) ?_
 simp only[Zho,Uab,Zb,seval,Za,men]
 refine Zi (Zip sig (by omega) (fun y hy=>Zbl (hbs y hy))) ?_
 simp only[Zb,seval,Za,men]
 have r0:¬ VI sig sorts many gs->J1 sig sorts many gs=VY:=fun h=>by unfold J1;rw[if_neg h]
 have r1:¬ VI sig sorts many gs->Xf sig sorts many gs=false:=fun h=>ZN h
 have hnone:¬ VI sig sorts many gs->(IV.tu [.ag ((ZJ VY).map .tr),iB false])=IV.tu [.ag ((ZJ (J1 sig sorts many gs)).map .tr),iB (Xf sig sorts many gs)]:=fun h=>by rw[r0 h,r1 h]
 cases hsg:dc (YM sig)
 ·rw[<-hnone fun h=>dc_not.1 hsg h.2.2.1.sg]
  simp only[Zb,seval,Za,men]
  rfl
 have hsg1:=dc_iff.1 hsg
 simp only[Zb,seval,Za,men]
 refine Zi (VV many 1 4) ?_
 simp only[Zb,seval,Za,men]
 refine Zl (fun hm=>?_) (fun hm=>?_)
 rotate_left
 ·rw[<-hnone fun h=>hm (by rw[XV];exact Ye h.1)]
  rfl
 have hm1:1<=many/\many<=4:=by rw[XV] at hm;exact dc_iff.1 hm
 obtain⟨M,hM⟩:∃ M:Nat,many=M:=⟨many.toNat,by omega⟩
 subst hM
 refine Zi (Zvx sig sorts M (by omega) hn hs hss) ?_
 simp only[Zb,seval,Za,men]
 have hlsM:VI sig sorts M gs->sortOK sig (J0 sig sorts M)/\allOK sig gs:=fun h=>⟨by have:=h.2.2.1;rwa [Int.toNat_natCast] at this,h.2.2.2⟩
 cases hso:dc (XO sig sorts M)
 ·rw[<-hnone fun h=>dc_not.1 hso (base_iff.1 (hlsM h).1).2.1]
  simp only[Zb,seval,Za,men]
  rfl
 have hso1:=dc_iff.1 hso
 simp only[Zb,seval,Za,men]
 refine Zi (VV gs.length 1 8) ?_
 simp only[Zb,seval,Za,men]
 refine Zl (fun hl=>?_) (fun hl=>?_)
 ·rw[<-hnone fun h=>by rw[XV,Ye (by have:=h.2.1;omega)] at hl;cases hl]
  rfl
 have hl1:1<=gs.length/\gs.length<=8:=by
  rw[XV,Bool.not_eq_false] at hl
  have:=dc_iff.1 hl
  omega
 have hM4:M<=4:=by omega
 have hso:sortOK sig (J0 sig sorts M):=base_iff.2 ⟨hsg1,hso1,by omega,hM4⟩
 obtain⟨s0,hs0⟩:∃ s0,s0=J0 sig sorts M:=⟨_,rfl⟩
 have hsl:s0.most.length=M:=by rw[hs0];exact XU
 have hsg6:=hsg1.2
 have hsl6:sorts.length=sig.length:=hso1.1
 have hrow:∀ l∈sorts,l.length<=4294967290:=fun l hl=>by
  obtain⟨k,hk,rfl⟩:=UaU hl
  have h1:=(hso1.2 k hk (by omega)).1
  have h2:=((hsg1.1 k (by omega)).1).2.1
  omega
 refine Zi (Zws sig.length (by omega)) ?_
 have hz:decide (sig.length=0)=false:=decide_eq_false (by omega)
 simp only[hz,Uab,Ua2,Zb,seval,Za,men]
 refine Zi (Zv1 sorts (by omega) hrow) ?_
 simp only[Zbn,Int.toNat_natCast,Uah,Uab,Zb,seval,Za,men]
 refine⟨by omega,?_⟩
 refine Ja (α:=IV×Nat) gs.length (fun i _=>[(11,iI i)]) (fun i v=>[(320,.bx [v.1,.hd (lvl,1312) [] 0 sig.length none sig.length,.hd (lvl,1376) [] 0 sorts.length none sorts.length,.hd (lvl,1440) [] 0 M none M,.hd (lvl,1472) [] 0 0 none 0]),(1312,.ar 1 ((nG sig.length (gs.take i)).map Zs) false sig.length v.2),(1440,.ar 1 (rI (mG s0 (gs.take i))) true M 0)]) (fun i v=>(v.1 = .hd (lvl,1216) [] 0 0 none 0/\tG (gs.take i)=[]\/v.1=tI (tG (gs.take i)))/\allOK sig (gs.take i)) (.hd (lvl,1216) [] 0 0 none 0,0) (by simp only[Zb,seval,Za,men]) (by simp only[Zb,seval,Za,men];simp [mG,hsl,nG]) ⟨.inl ⟨rfl,rfl⟩,fun b hb=>by cases hb⟩ ?_
 intro i ⟨τ,v1⟩ hi ⟨hτ,hall⟩
 dsimp only at hτ
 rcases hτ with ⟨rfl,hT⟩ | rfl
 ·simp only[Uab,Zb,seval,Za,men]
  refine Zl (fun hlt=>?_) (fun hge=>?_)
  ·have hia:i<gs.length:=by omega
   have gg:=ZY (c:=Zk) hia
   obtain⟨b,hb⟩:∃ b,b=gs[i]:=⟨_,rfl⟩
   have hbm:b∈gs:=by rw[hb];exact Ual hia
   rw[<-hb] at gg
   simp only[gg,hia,Zk,Uab,Zb,seval,Za,men]
   refine Zi (ZiB sig b hn hbs (hgb b hbm) (hf b hbm)) ?_
   cases hgo:dc (bigOK sig b)
   ·rw[<-hnone fun h=>dc_not.1 hgo (h.2.2.2 b hbm)]
    simp only[Zb,seval,Za,men]
    rfl
   have hbk:=dc_iff.1 hgo
   have ht2:two sig s0 b:=⟨by rw[hs0];exact hso,hbk⟩
   have hq1:sorts=s0.sorts:=by rw[hs0];rfl
   have hNg:GdlS sig.length (nG sig.length (gs.take i)):=DD hall hi
   have hNl:(nG sig.length (gs.take i)).length=sig.length:=XT hi
   have hml:(mG s0 (gs.take i)).length=M:=by rw[Ww hi,hsl]
   have e2:nG sig.length (gs.take (i+1))=nN b (nG sig.length (gs.take i)) b.nodes.length:=by rw[DC hia,hb]
   have e3:mG s0 (gs.take (i+1))=ZA s0 b (mG s0 (gs.take i)) (Jd b):=by rw[ZbB hia,hb]
   have hall2:allOK sig (gs.take (i+1)):=fun b' hb' => by
    rw[Uaj hia,Uax,UaT] at hb'
    rcases hb' with h | h
    ·exact hall b' h
    ·rw[h,<-hb];exact hbk
   have e1:tG (gs.take (i+1))=tN b [] b.nodes.length:=by rw[ZbA hia,hb,hT]
   simp only[gg,hia,Zk,Uab,Zb,seval,Za,men]
   have hcall:=fun S2 h1 h2 h3 h4 h5=>Zwv sig s0 b ht2 (nG sig.length (gs.take i)) sorts (mG s0 (gs.take i)) hNg hNl hq1 (by rw[hml,hsl]) (lvl+1) S2 (lvl,1216) (Uav _) h1 (lvl,1312) (lvl,1376) (lvl,1440) (lvl,1472) (Uav _) (Uav _) (Uav _) (Uav _) (by simp) (by simp) (by simp) (by simp) (by simp) (by simp) (by simp) v1 h2 h3 h4 h5
   rw[hml] at hcall
   rcases Wx (t0:=(.hd (lvl,1216) [] 0 0 none 0)) (b:=b) (T0:=[]) (k:=b.nodes.length) with hv | hv
   ·rw[hv.1] at hcall
    refine ZbF 1312 _ 1440 _ (hcall _ ?_ ?_ ?_ ?_ ?_) ?_
    ·rw[Z8];rfl
    ·rw[Z8];rfl
    ·rw[Z8];rfl
    ·rw[Z8];rfl
    ·rw[Z8];rfl
    simp only[Zb,seval,Za,men]
    exact⟨by rw[Zh];omega,Zr ((.hd (lvl,1216) [] 0 0 none 0),ZZ b v1 b.nodes.length) hia (by rw[e2,e3];rfl) ⟨.inl ⟨rfl,by rw[e1];exact hv.2⟩,hall2⟩⟩
   ·rw[hv] at hcall
    refine ZbF 1312 _ 1440 _ (hcall _ ?_ ?_ ?_ ?_ ?_) ?_
    ·rw[Z8];rfl
    ·rw[Z8];rfl
    ·rw[Z8];rfl
    ·rw[Z8];rfl
    ·rw[Z8];rfl
    simp only[Zb,seval,Za,men]
    exact⟨by rw[Zh];omega,Zr (tI (tN b [] b.nodes.length),ZZ b v1 b.nodes.length) hia (by rw[e2,e3];rfl) ⟨.inr (by rw[e1]),hall2⟩⟩
  ·have hie:i=gs.length:=by omega
   subst hie
   rw[Uaz] at hall hT
   rw[Uaz]
   have hls:VI sig sorts M gs:=⟨hm1,hl1,by rw[Int.toNat_natCast];exact hso,hall⟩
   rw[show Xf sig sorts M gs=true from Ye hls,show J1 sig sorts M gs=ZbD sig sorts M gs from if_pos hls]
   have h2:∀{i:Nat} (hi:i<gs.length),two sig s0 gs[i]:=fun hi=>⟨by rw[hs0];exact hso,hall.at hi⟩
   have hNl:(nG sig.length gs).length=sig.length:=by have:=XT (n:=sig.length) (gs:=gs) (Uag _);rwa [Uaz] at this
   have hml:(mG s0 gs).length=M:=by have:=Ww (s0:=s0) (gs:=gs) (Uag _);rwa [Uaz,hsl] at this
   obtain⟨f,hf2⟩:∃ f:A2->Bool,f=fun p=>!Yv s0 gs p:=⟨_,rfl⟩
   have hAle:∀ x m,x<M->m<=M-x-1->((ZU M x++JP x m).filter f).length<=15:=fun x m hx hm=>by
    refine UaA (UbA ..) ?_
    rw[Uam,DF]
    have h1:(ZU M x).length<=12:=UaA Up (Nat.mul_le_mul (show x<=4 by omega) (Nat.sub_le_sub_right hM4 1))
    omega
   refine Ja (α:=Unit) M (fun x _=>[(12,iI x)]) (fun x _=>[(320,.bx [(.hd (lvl,1216) [] 0 0 none 0),.hd (lvl,1312) [] 0 sig.length none sig.length,.hd (lvl,1376) [] 0 sorts.length none sorts.length,.hd (lvl,1440) [] 0 M none M,.hd (lvl,1472) [] 0 ((ZU M x).filter f).length none ((ZU M x).filter f).length]),(1472,.ar 2 (((ZU M x).filter f).map Zx) true ((ZU M x).filter f).length 0)]) (fun _ _=>True) () (by simp only[Zb,seval,Za,men]) (by (simp only[Zb,seval,Za,men]) <;> rfl) trivial ?_
   intro x _ hx _
   simp only[Zb,seval,Za,men]
   refine Zl (fun hlt2=>?_) (fun hge2=>?_)
   ·have hxa:x<M:=by omega
    refine⟨by rw[Zh];omega,?_⟩
    refine Ja (α:=Unit) (M-x-1) (fun m _=>[(13,iI ((x+1+m:Nat):Int))]) (fun m _=>[(320,.bx [(.hd (lvl,1216) [] 0 0 none 0),.hd (lvl,1312) [] 0 sig.length none sig.length,.hd (lvl,1376) [] 0 sorts.length none sorts.length,.hd (lvl,1440) [] 0 M none M,.hd (lvl,1472) [] 0 ((ZU M x++JP x m).filter f).length none ((ZU M x++JP x m).filter f).length]),(1472,.ar 2 (((ZU M x++JP x m).filter f).map Zx) true ((ZU M x++JP x m).filter f).length 0)]) (fun _ _=>True) () (by simp only[Zb,seval,Za,men]) (by simp only[Zb,seval,Za,men];simp [JP]) trivial ?_
    intro m _ hm2 _
    simp only[Zb,seval,Za,men]
    refine Zl (fun hlt3=>?_) (fun hge3=>?_)
    ·have hma:m<M-x-1:=by omega
     have hA:=hAle x m hxa (by omega)
     obtain⟨A,hAe⟩:∃ A,A=(ZU M x++JP x m).filter f:=⟨_,rfl⟩
     rw[<-hAe] at hA ⊢
     obtain⟨p,hp⟩:∃ p:A2,p=((x:Int),((x+1+m:Nat):Int)):=⟨_,rfl⟩
     have hst:(ZU M x++JP x (m+1)).filter f=A++if f p=true then [p] else []:=by
      rw[Zer,<-UaR,List.filter_append,<-hAe,<-hp]
      cases hfp:f p <;> simp [hfp]
     refine Ja (α:=Unit) gs.length (fun i _=>[(14,iB (Yv s0 (gs.take i) p)),(15,iI i)]) (fun _ _=>[]) (fun _ _=>True) () (by simp only[Zb,seval,Za,men]) (by simp only[Zb,seval,Za,men];simp [Yv]) trivial ?_
     intro i _ hi2 _
     simp only[Uab,Zb,seval,Za,men]
     refine Zl (fun hlt4=>?_) (fun hge4=>?_)
     ·have hia2:i<gs.length:=by omega
      have gg:=ZY (c:=Zk) hia2
      have hbt:=Zeq (s0:=s0) (p:=p) hia2
      cases hmet:Yv s0 (gs.take i) p
      ·have c0:∀ k:Row,cut k 0 0=[]:=fun k=>by simp [cut]
       have c1:cut (rI (tG gs)) 0 (tG gs).length=rI (tG gs):=Z7 (by simp)
       have c2:cut ((nG sig.length gs).map Zs) 0 sig.length=(nG sig.length gs).map Zs:=Z7 (by simp [hNl])
       have c3:cut (sorts.map Zs) 0 sorts.length=sorts.map Zs:=Z7 (by simp)
       have c4:cut (rI (mG s0 gs)) 0 M=rI (mG s0 gs):=Z7 (by simp [hml])
       have c5:cut (A.map Zx) 0 A.length=A.map Zx:=Z7 (by simp)
       simp only[gg,hia2,Zk,c0,c2,c3,c4,c5,Uab,Zb,seval,Za,men]
       refine⟨by omega,by omega,?_⟩
       refine Zi (Zjc sig ⟨([]:List Int),nG sig.length gs,sorts,mG s0 gs,A⟩ s0 gs[i] (h2 hia2) (by rw[hs0];rfl) (by rw[hml,hsl]) x (x+1+m) (by omega) (by omega)) ?_
       rw[hmet,Bool.false_or,hp] at hbt
       rw[<-hp] at hbt
       simp only[Zb,seval,Za,men]
       exact⟨by rw[Zh];omega,Zr () hia2 (by rw[hbt,hp];rfl) trivial⟩
      ·rw[hmet,Bool.true_or] at hbt
       simp only[Zb,seval,Za,men]
       exact⟨by rw[Zh];omega,Zr () hia2 (by rw[hbt];rfl) trivial⟩
     ·have hie2:i=gs.length:=by omega
      subst hie2
      rw[Uaz]
      have hfp:f p = !Yv s0 gs p:=by rw[hf2]
      cases hmet:Yv s0 gs p
      ·rw[hfp,hmet,Bool.not_false,if_pos rfl] at hst
       simp only[hmet,Zb,seval,Za,men]
       have e5:A.map Zx++[[Tr.v (Value.int IntKind.i64 x),Tr.v (Value.int IntKind.i64 (x+1+m:Nat))]]=(A++[p]).map Zx:=by
        rw[UaS,hp]
        rfl
       have e6:A.length+1=(A++[p]).length:=by rw[Uam];rfl
       refine⟨by omega,by rw[Zh];omega,Zr () hma ?_ trivial⟩
       rw[hst,e5,e6]
       rfl
      ·rw[hfp,hmet,UbN,if_neg (by decide),Ua9] at hst
       simp only[hmet,Zb,seval,Za,men]
       exact⟨by rw[Zh];omega,Zr () hma (by rw[hst];rfl) trivial⟩
    ·have hme:m=M-x-1:=by omega
     subst hme
     exact⟨by rw[Zh];omega,Zr () hxa (by rw[DG];rfl) trivial⟩
   ·have hxe:x=M:=by omega
    subst hxe
    have c0:∀ k:Row,cut k 0 0=[]:=fun k=>by simp [cut]
    have c1:cut (rI (tG gs)) 0 (tG gs).length=rI (tG gs):=Z7 (by simp)
    have c2:cut ((nG sig.length gs).map Zs) 0 sig.length=(nG sig.length gs).map Zs:=Z7 (by simp [hNl])
    have c3:cut (sorts.map Zs) 0 sorts.length=sorts.map Zs:=Z7 (by simp)
    have c4:cut (rI (mG s0 gs)) 0 x=rI (mG s0 gs):=Z7 (by simp [hml])
    have c5:cut (((ZU x x).filter f).map Zx) 0 ((ZU x x).filter f).length=((ZU x x).filter f).map Zx:=Z7 (by simp)
    refine⟨by omega,by omega,?_⟩
    rw[c2,c3,c4,c5,c0]
    have e7:(ZU x x).filter f=Ym (J0 sig sorts x) gs:=by
     unfold Ym
     rw[XU,hf2,hs0]
    rw[e7,hs0]
    show _=IV.tu [.ag ((ZJ ⟨tG gs,nG sig.length gs,sorts,mG (J0 sig sorts x) gs,Ym (J0 sig sorts x) gs⟩).map .tr),iB true]
    rw[hT]
    rfl
 ·simp only[Uab,Zb,seval,Za,men]
  refine Zl (fun hlt=>?_) (fun hge=>?_)
  ·have hia:i<gs.length:=by omega
   have gg:=ZY (c:=Zk) hia
   obtain⟨b,hb⟩:∃ b,b=gs[i]:=⟨_,rfl⟩
   have hbm:b∈gs:=by rw[hb];exact Ual hia
   rw[<-hb] at gg
   simp only[gg,hia,Zk,Uab,Zb,seval,Za,men]
   refine Zi (ZiB sig b hn hbs (hgb b hbm) (hf b hbm)) ?_
   cases hgo:dc (bigOK sig b)
   ·rw[<-hnone fun h=>dc_not.1 hgo (h.2.2.2 b hbm)]
    simp only[Zb,seval,Za,men]
    rfl
   have hbk:=dc_iff.1 hgo
   have ht2:two sig s0 b:=⟨by rw[hs0];exact hso,hbk⟩
   have hq1:sorts=s0.sorts:=by rw[hs0];rfl
   have hNg:GdlS sig.length (nG sig.length (gs.take i)):=DD hall hi
   have hNl:(nG sig.length (gs.take i)).length=sig.length:=XT hi
   have hml:(mG s0 (gs.take i)).length=M:=by rw[Ww hi,hsl]
   have e2:nG sig.length (gs.take (i+1))=nN b (nG sig.length (gs.take i)) b.nodes.length:=by rw[DC hia,hb]
   have e3:mG s0 (gs.take (i+1))=ZA s0 b (mG s0 (gs.take i)) (Jd b):=by rw[ZbB hia,hb]
   have hall2:allOK sig (gs.take (i+1)):=fun b' hb' => by
    rw[Uaj hia,Uax,UaT] at hb'
    rcases hb' with h | h
    ·exact hall b' h
    ·rw[h,<-hb];exact hbk
   have e1:tG (gs.take (i+1))=tN b (tG (gs.take i)) b.nodes.length:=by rw[ZbA hia,hb]
   simp only[gg,hia,Zk,Uab,Zb,seval,Za,men]
   have hcall:=fun S2 h2 h3 h4 h5=>Zwu sig s0 b ht2 (tG (gs.take i)) (nG sig.length (gs.take i)) sorts (mG s0 (gs.take i)) hNg hNl hq1 (by rw[hml,hsl]) (lvl+1) S2 (ZbC hall hi) (lvl,1312) (lvl,1376) (lvl,1440) (lvl,1472) (Uav _) (Uav _) (Uav _) (Uav _) (by simp) (by simp) (by simp) (by simp) (by simp) v1 h2 h3 h4 h5
   rw[hml] at hcall
   rcases Wx (t0:=(tI (tG (gs.take i)))) (b:=b) (T0:=(tG (gs.take i))) (k:=b.nodes.length) with hv | hv
   ·rw[hv.1] at hcall
    refine ZbF 1312 _ 1440 _ (hcall _ ?_ ?_ ?_ ?_) ?_
    ·rw[Z8];rfl
    ·rw[Z8];rfl
    ·rw[Z8];rfl
    ·rw[Z8];rfl
    simp only[Zb,seval,Za,men]
    exact⟨by rw[Zh];omega,Zr ((tI (tG (gs.take i))),ZZ b v1 b.nodes.length) hia (by rw[e2,e3];rfl) ⟨.inr (by rw[e1,hv.2]),hall2⟩⟩
   ·rw[hv] at hcall
    refine ZbF 1312 _ 1440 _ (hcall _ ?_ ?_ ?_ ?_) ?_
    ·rw[Z8];rfl
    ·rw[Z8];rfl
    ·rw[Z8];rfl
    ·rw[Z8];rfl
    simp only[Zb,seval,Za,men]
    exact⟨by rw[Zh];omega,Zr (tI (tN b (tG (gs.take i)) b.nodes.length),ZZ b v1 b.nodes.length) hia (by rw[e2,e3];rfl) ⟨.inr (by rw[e1]),hall2⟩⟩
  ·have hie:i=gs.length:=by omega
   subst hie
   rw[Uaz] at hall
   rw[Uaz]
   have hls:VI sig sorts M gs:=⟨hm1,hl1,by rw[Int.toNat_natCast];exact hso,hall⟩
   rw[show Xf sig sorts M gs=true from Ye hls,show J1 sig sorts M gs=ZbD sig sorts M gs from if_pos hls]
   have h2:∀{i:Nat} (hi:i<gs.length),two sig s0 gs[i]:=fun hi=>⟨by rw[hs0];exact hso,hall.at hi⟩
   have hNl:(nG sig.length gs).length=sig.length:=by have:=XT (n:=sig.length) (gs:=gs) (Uag _);rwa [Uaz] at this
   have hml:(mG s0 gs).length=M:=by have:=Ww (s0:=s0) (gs:=gs) (Uag _);rwa [Uaz,hsl] at this
   obtain⟨f,hf2⟩:∃ f:A2->Bool,f=fun p=>!Yv s0 gs p:=⟨_,rfl⟩
   have hAle:∀ x m,x<M->m<=M-x-1->((ZU M x++JP x m).filter f).length<=15:=fun x m hx hm=>by
    refine UaA (UbA ..) ?_
    rw[Uam,DF]
    have h1:(ZU M x).length<=12:=UaA Up (Nat.mul_le_mul (show x<=4 by omega) (Nat.sub_le_sub_right hM4 1))
    omega
   refine Ja (α:=Unit) M (fun x _=>[(12,iI x)]) (fun x _=>[(320,.bx [(tI (tG gs)),.hd (lvl,1312) [] 0 sig.length none sig.length,.hd (lvl,1376) [] 0 sorts.length none sorts.length,.hd (lvl,1440) [] 0 M none M,.hd (lvl,1472) [] 0 ((ZU M x).filter f).length none ((ZU M x).filter f).length]),(1472,.ar 2 (((ZU M x).filter f).map Zx) true ((ZU M x).filter f).length 0)]) (fun _ _=>True) () (by simp only[Zb,seval,Za,men]) (by (simp only[Zb,seval,Za,men]) <;> rfl) trivial ?_
   intro x _ hx _
   simp only[Zb,seval,Za,men]
   refine Zl (fun hlt2=>?_) (fun hge2=>?_)
   ·have hxa:x<M:=by omega
    refine⟨by rw[Zh];omega,?_⟩
    refine Ja (α:=Unit) (M-x-1) (fun m _=>[(13,iI ((x+1+m:Nat):Int))]) (fun m _=>[(320,.bx [(tI (tG gs)),.hd (lvl,1312) [] 0 sig.length none sig.length,.hd (lvl,1376) [] 0 sorts.length none sorts.length,.hd (lvl,1440) [] 0 M none M,.hd (lvl,1472) [] 0 ((ZU M x++JP x m).filter f).length none ((ZU M x++JP x m).filter f).length]),(1472,.ar 2 (((ZU M x++JP x m).filter f).map Zx) true ((ZU M x++JP x m).filter f).length 0)]) (fun _ _=>True) () (by simp only[Zb,seval,Za,men]) (by simp only[Zb,seval,Za,men];simp [JP]) trivial ?_
    intro m _ hm2 _
    simp only[Zb,seval,Za,men]
    refine Zl (fun hlt3=>?_) (fun hge3=>?_)
    ·have hma:m<M-x-1:=by omega
     have hA:=hAle x m hxa (by omega)
     obtain⟨A,hAe⟩:∃ A,A=(ZU M x++JP x m).filter f:=⟨_,rfl⟩
     rw[<-hAe] at hA ⊢
     obtain⟨p,hp⟩:∃ p:A2,p=((x:Int),((x+1+m:Nat):Int)):=⟨_,rfl⟩
     have hst:(ZU M x++JP x (m+1)).filter f=A++if f p=true then [p] else []:=by
      rw[Zer,<-UaR,List.filter_append,<-hAe,<-hp]
      cases hfp:f p <;> simp [hfp]
     refine Ja (α:=Unit) gs.length (fun i _=>[(14,iB (Yv s0 (gs.take i) p)),(15,iI i)]) (fun _ _=>[]) (fun _ _=>True) () (by simp only[Zb,seval,Za,men]) (by simp only[Zb,seval,Za,men];simp [Yv]) trivial ?_
     intro i _ hi2 _
     simp only[Uab,Zb,seval,Za,men]
     refine Zl (fun hlt4=>?_) (fun hge4=>?_)
     ·have hia2:i<gs.length:=by omega
      have gg:=ZY (c:=Zk) hia2
      have hbt:=Zeq (s0:=s0) (p:=p) hia2
      cases hmet:Yv s0 (gs.take i) p
      ·have c0:∀ k:Row,cut k 0 0=[]:=fun k=>by simp [cut]
       have c1:cut (rI (tG gs)) 0 (tG gs).length=rI (tG gs):=Z7 (by simp)
       have c2:cut ((nG sig.length gs).map Zs) 0 sig.length=(nG sig.length gs).map Zs:=Z7 (by simp [hNl])
       have c3:cut (sorts.map Zs) 0 sorts.length=sorts.map Zs:=Z7 (by simp)
       have c4:cut (rI (mG s0 gs)) 0 M=rI (mG s0 gs):=Z7 (by simp [hml])
       have c5:cut (A.map Zx) 0 A.length=A.map Zx:=Z7 (by simp)
       simp only[gg,hia2,Zk,c0,c2,c3,c4,c5,Uab,Zb,seval,Za,men]
       refine⟨by omega,by omega,?_⟩
       refine Zi (Zjc sig ⟨(tG gs),nG sig.length gs,sorts,mG s0 gs,A⟩ s0 gs[i] (h2 hia2) (by rw[hs0];rfl) (by rw[hml,hsl]) x (x+1+m) (by omega) (by omega)) ?_
       rw[hmet,Bool.false_or,hp] at hbt
       rw[<-hp] at hbt
       simp only[Zb,seval,Za,men]
       exact⟨by rw[Zh];omega,Zr () hia2 (by rw[hbt,hp];rfl) trivial⟩
      ·rw[hmet,Bool.true_or] at hbt
       simp only[Zb,seval,Za,men]
       exact⟨by rw[Zh];omega,Zr () hia2 (by rw[hbt];rfl) trivial⟩
     ·have hie2:i=gs.length:=by omega
      subst hie2
      rw[Uaz]
      have hfp:f p = !Yv s0 gs p:=by rw[hf2]
      cases hmet:Yv s0 gs p
      ·rw[hfp,hmet,Bool.not_false,if_pos rfl] at hst
       simp only[hmet,Zb,seval,Za,men]
       have e5:A.map Zx++[[Tr.v (Value.int IntKind.i64 x),Tr.v (Value.int IntKind.i64 (x+1+m:Nat))]]=(A++[p]).map Zx:=by
        rw[UaS,hp]
        rfl
       have e6:A.length+1=(A++[p]).length:=by rw[Uam];rfl
       refine⟨by omega,by rw[Zh];omega,Zr () hma ?_ trivial⟩
       rw[hst,e5,e6]
       rfl
      ·rw[hfp,hmet,UbN,if_neg (by decide),Ua9] at hst
       simp only[hmet,Zb,seval,Za,men]
       exact⟨by rw[Zh];omega,Zr () hma (by rw[hst];rfl) trivial⟩
    ·have hme:m=M-x-1:=by omega
     subst hme
     exact⟨by rw[Zh];omega,Zr () hxa (by rw[DG];rfl) trivial⟩
   ·have hxe:x=M:=by omega
    subst hxe
    have c0:∀ k:Row,cut k 0 0=[]:=fun k=>by simp [cut]
    have c1:cut (rI (tG gs)) 0 (tG gs).length=rI (tG gs):=Z7 (by simp)
    have c2:cut ((nG sig.length gs).map Zs) 0 sig.length=(nG sig.length gs).map Zs:=Z7 (by simp [hNl])
    have c3:cut (sorts.map Zs) 0 sorts.length=sorts.map Zs:=Z7 (by simp)
    have c4:cut (rI (mG s0 gs)) 0 x=rI (mG s0 gs):=Z7 (by simp [hml])
    have c5:cut (((ZU x x).filter f).map Zx) 0 ((ZU x x).filter f).length=((ZU x x).filter f).map Zx:=Z7 (by simp)
    refine⟨by omega,by omega,?_⟩
    rw[c2,c3,c4,c5]
    have e7:(ZU x x).filter f=Ym (J0 sig sorts x) gs:=by
     unfold Ym
     rw[XU,hf2,hs0]
    rw[e7,hs0]
    show _=IV.tu [.ag ((ZJ ⟨tG gs,nG sig.length gs,sorts,mG (J0 sig sorts x) gs,Ym (J0 sig sorts x) gs⟩).map .tr),iB true]
    rfl
def Zjd:F2 :=
 { nt:=147,res:=[.t 8 [0]],body:=(.sq (rg [om 8 (.k (.bool false))]) (.sq (rg [om 9 (i6 1048576)]) (.sq (rg [qM 22 0,qM 23 9,oo 24 (.ca .pure false (.f Zc7) [.t 22,.t 23]),qM 9 24]) (.sq (.sq (rg [qM 25 9,oo 26 (.bi .lss 0 (.t 25) (i6 0))]) (.cd (.t 26) (.sq (rg [om 8 (.k (.bool true))]) (.rt)) (.sk))) (.sq (rg [qM 27 1,qM 28 9,oo 29 (.ca .pure false (.f Zc8) [.t 27,.t 28]),qM 9 29]) (.sq (.sq (rg [qM 30 9,oo 31 (.bi .lss 0 (.t 30) (i6 0))]) (.cd (.t 31) (.sq (rg [om 8 (.k (.bool true))]) (.rt)) (.sk))) (.sq (rg [qM 32 3,qM 33 9,oo 34 (.ca .pure false (.f Zc9) [.t 32,.t 33]),qM 9 34]) (.sq (.sq (rg [qM 35 9,oo 36 (.bi .lss 0 (.t 35) (i6 0))]) (.cd (.t 36) (.sq (rg [om 8 (.k (.bool true))]) (.rt)) (.sk))) (.sq (rg [qM 38 0,oo 39 (.ca .pure false (.f Ue) [.t 38]),qM 40 1,oo 41 (.ca .pure false (.f Uf) [.t 40]),qM 42 2,qM 43 3,oo 44 (.ca .pure false (.f Ug) [.t 43]),oo 45 (.ca .pure false (.f Zda) [.t 39,.t 41,.t 42,.t 44]),qM 37 45,qE 46 0 37,qE 47 1 37,oo 10 (.al [.slice none 0 0,.slice none 0 0,.slice none 0 0,.slice none 0 0,.slice none 0 0] []),
 ZI (.st 5 (.t 10) (.t 46)),qM 11 47]) (.sq (rg [qM 48 0,oo 49 (.ca .pure true (.f Ue) [.t 48]),qM 12 49]) (.sq (rg [qM 50 1,oo 51 (.ca .pure true (.f Uf) [.t 50]),qM 13 51]) (.sq (rg [qM 52 3,oo 53 (.ca .pure true (.f Ug) [.t 52]),qM 14 53]) (.sq (rg [qM 55 12,qM 56 13,qM 57 2,qM 58 14,oo 59 (.ca .pure true (.f ZaW) [.t 55,.t 56,.t 57,.t 58]),qM 54 59,qE 60 0 54,qE 61 1 54,oo 15 (.al [.slice none 0 0,.slice none 0 0,.slice none 0 0,.slice none 0 0,.slice none 0 0] []),
 ZI (.st 5 (.t 15) (.t 60)),qM 16 61]) (.sq (.sq (rg [qS 62 5 15,qS 63 5 10,oo 64 (.ca .pure false (.f Db) [.t 62,.t 63]),oo 65 (.nt (.t 64)),qM 66 65,og 67 66 false (.mv (.t 16) none),og 68 66 false (.mv (.t 11) none),og 69 66 false (.bi .neq 2 (.t 67) (.t 68)),oo 70 (.pk (.t 66) (.k (.bool true)) (.t 69))]) (.cd (.t 70) (.sq (rg [om 8 (.k (.bool false))]) (.rt)) (.sk))) (.sq (.sq (rg [qM 71 12,qM 72 0,oo 73 (.ca .pure false (.f Ue) [.t 72]),oo 74 (.ca .pure false (.f Zdb) [.t 71,.t 73]),oo 75 (.nt (.t 74))]) (.cd (.t 75) (.sq (rg [om 8 (.k (.bool false))]) (.rt)) (.sk))) (.sq (.sq (rg [qM 76 13,qM 77 1,oo 78 (.ca .pure false (.f Uf) [.t 77]),oo 79 (.ca .pure false (.f Dc) [.t 76,.t 78]),oo 80 (.nt (.t 79))]) (.cd (.t 80) (.sq (rg [om 8 (.k (.bool false))]) (.rt)) (.sk))) (.sq (.sq (rg [qM 81 14,qM 82 3,oo 83 (.ca .pure false (.f Ug) [.t 82]),oo 84 (.ca .pure false (.f Zdc) [.t 81,.t 83]),oo 85 (.nt (.t 84))]) (.cd (.t 85) (.sq (rg [om 8 (.k (.bool false))]) (.rt)) (.sk))) (.sq (rg [om 17 (i6 1)]) (.sq (rg [qM 86 12,qM 87 17,oo 88 (.ca .any true (.f Zdd) [.t 86,.t 87]),qM 17 88]) (.sq (rg [qM 89 13,qM 90 17,oo 91 (.ca .any true (.f Dd) [.t 89,.t 90]),qM 17 91]) (.sq (rg [qM 92 14,qM 93 17,oo 94 (.ca .any true (.f Zde) [.t 92,.t 93]),qM 17 94]) (.sq (.sq (rg [qM 95 17,oo 96 (.bi .lss 0 (.t 95) (i6 0)),qM 97 96,og 98 97 false (.ld (some 5) (.t 15)),og 99 97 false (.ld (some 5) (.t 10)),og 100 97 false (.ca .pure false (.f Db) [.t 98,.t 99]),og 101 97 false (.nt (.t 100)),oo 102 (.pk (.t 97) (.k (.bool true)) (.t 101)),qM 103 102,og 104 103 false (.mv (.t 16) none),og 105 103 false (.mv (.t 11) none),og 106 103 false (.bi .neq 2 (.t 104) (.t 105)),oo 107 (.pk (.t 103) (.k (.bool true)) (.t 106))]) (.cd (.t 107) (.sq (rg [om 8 (.k (.bool false))]) (.rt)) (.sk))) (.sq (rg [om 18 (i6 1)]) (.sq (rg [qS 108 5 15,qM 109 18,oo 110 (.ca .any true (.f ZaX) [.t 108,.t 109]),qM 18 110]) (.sq (rg [om 19 (i6 1)]) (.sq (rg [qS 111 5 15,qM 112 19,oo 113 (.ca .pure false (.f ZaY) [.t 111,.t 112]),qM 19 113]) (.sq (.sq (rg [qM 114 19,oo 115 (.bi .lss 0 (.t 114) (i6 0))]) (.cd (.t 115) (.sq (rg [om 8 (.k (.bool false))]) (.rt)) (.sk))) (.sq (.sq (rg [qM 116 19,qM 117 18,qB 118 .neq 116 117]) (.cd (.t 118) (.sq (rg [om 8 (.k (.bool false))]) (.rt)) (.sk))) (.sq (rg [qM 120 0,oo 121 (.ca .pure false (.f Ue) [.t 120]),qM 122 1,oo 123 (.ca .pure false (.f Uf) [.t 122]),qM 124 2,qM 125 3,oo 126 (.ca .pure false (.f Ug) [.t 125]),oo 127 (.ca .pure false (.f ZaW) [.t 121,.t 123,.t 124,.t 126]),qM 119 127,qE 128 0 119,qE 129 1 119,oo 20 (.al [.slice none 0 0,.slice none 0 0,.slice none 0 0,.slice none 0 0,.slice none 0 0] []),
 ZI (.st 5 (.t 20) (.t 128)),qM 21 129]) (.sq (.sq (rg [qS 130 5 20,qS 131 5 10,oo 132 (.ca .pure false (.f Db) [.t 130,.t 131]),oo 133 (.nt (.t 132)),qM 134 133,og 135 134 false (.mv (.t 21) none),og 136 134 false (.mv (.t 11) none),og 137 134 false (.bi .neq 2 (.t 135) (.t 136)),oo 138 (.pk (.t 134) (.k (.bool true)) (.t 137))]) (.cd (.t 138) (.sq (rg [om 8 (.k (.bool false))]) (.rt)) (.sk))) (.sq (rg [om 19 (i6 1)]) (.sq (rg [qS 139 5 15,qM 140 19,oo 141 (.ca .pure false (.f ZaY) [.t 139,.t 140]),qM 19 141]) (.sq (.sq (rg [qM 142 19,oo 143 (.bi .lss 0 (.t 142) (i6 0))]) (.cd (.t 143) (.sq (rg [om 8 (.k (.bool false))]) (.rt)) (.sk))) (.sq (.sq (rg [qM 144 19,qM 145 18,qB 146 .neq 144 145]) (.cd (.t 146) (.sq (rg [om 8 (.k (.bool false))]) (.rt)) (.sk))) (.sq (rg [om 8 (.k (.bool true))]) (.rt)))))))))))))))))))))))))))))))))))) }
theorem Zwx:Zo UbR Zhe Zjd=true:=by kernel_rfl
def Zje:F2 :=
 { nt:=35,res:=[.t 4 [0]],body:=(.sq (rg [om 4 (i6 0)]) (.sq (.sq (rg [om 5 (i6 0)]) (.bl 0 (.lp [0,1,5] [] (.sq (.sq (rg [qM 6 5,qM 7 0,qN 8 7,qB 9 .lss 6 8]) (.cd (.t 9) (.sk) (.ex 0))) (.sq (.bl 1 (.sq (rg [qM 12 0,qM 13 5,qM 14 1,oo 15 (.ca .pure false (.f Dh) [.t 14]),qI 16 3 12 13,qF 17 0 16,
 ZI (.st 1 (.t 17) (.t 15))]) (.sq (rg [qM 18 1,oo 19 (.bi .add 0 (.t 18) (i6 1)),qM 1 19]) (.sq (rg [qM 20 0,qM 21 5,qM 22 1,qI 23 3 20 21,qF 24 1 23,
 ZI (.st 1 (.t 24) (.t 22))]) (.sq (rg [qM 25 1,oo 26 (.bi .add 0 (.t 25) (i6 1)),qM 1 26]) (.sq (rg [qM 27 0,qM 28 5,qM 29 1,qI 30 3 27 28,qF 31 2 30,
 ZI (.st 1 (.t 31) (.t 29))])
 (rg [qM 32 1,oo 33 (.bi .add 0 (.t 32) (i6 1)),qM 1 33])))))))
 (rg [qM 10 5,oo 11 (.bi .add 0 (.t 10) (i6 1)),qM 5 11])))))) (.sq (rg [qM 34 1,qM 4 34]) (.rt)))) }
theorem Zwy:Zo UbR Zdd Zje=true:=by kernel_rfl
def Zjf:F2 :=
 { nt:=19,res:=[.t 4 [0]],body:=(.sq (rg [om 4 (i6 0)]) (.sq (.sq (rg [om 5 (i6 0)]) (.bl 0 (.lp [0,1,5] [] (.sq (.sq (rg [qM 6 5,qM 7 0,qN 8 7,qB 9 .lss 6 8]) (.cd (.t 9) (.sk) (.ex 0))) (.sq (.bl 1 (rg [qM 12 0,qM 13 5,qI 14 1 12 13,qL 15 14,qM 16 1,oo 17 (.ca .any true (.f Wl) [.t 15,.t 16]),qM 1 17]))
 (rg [qM 10 5,oo 11 (.bi .add 0 (.t 10) (i6 1)),qM 5 11])))))) (.sq (rg [qM 18 1,qM 4 18]) (.rt)))) }
theorem Zwz:Zo UbR Dd Zjf=true:=by kernel_rfl
def Zjg:F2 :=
 { nt:=55,res:=[.t 4 [0]],body:=(.sq (rg [om 4 (i6 0)]) (.sq (.sq (rg [om 5 (i6 0)]) (.bl 0 (.lp [0,1,5] [] (.sq (.sq (rg [qM 6 5,qM 7 0,qN 8 7,qB 9 .lss 6 8]) (.cd (.t 9) (.sk) (.ex 0))) (.sq (.bl 1 (.sq (rg [qM 12 0,qM 13 5,qM 14 1,qI 15 6 12 13,qF 16 0 15,
 ZI (.st 1 (.t 16) (.t 14))]) (.sq (rg [qM 17 1,oo 18 (.bi .add 0 (.t 17) (i6 1)),qM 1 18]) (.sq (rg [qM 19 0,qM 20 5,qI 21 6 19 20,qF 22 1 21,qL 23 22,qM 24 1,oo 25 (.ca .any true (.f Zdv) [.t 23,.t 24]),qM 1 25]) (.sq (rg [qM 26 0,qM 27 5,qI 28 6 26 27,qF 29 2 28,qL 30 29,qM 31 1,oo 32 (.ca .any true (.f Wl) [.t 30,.t 31]),qM 1 32]) (.sq (rg [qM 33 0,qM 34 5,qM 35 1,qI 36 6 33 34,qF 37 3 36,
 ZI (.st 1 (.t 37) (.t 35))]) (.sq (rg [qM 38 1,oo 39 (.bi .add 0 (.t 38) (i6 1)),qM 1 39]) (.sq (rg [qM 40 0,qM 41 5,qI 42 6 40 41,qF 43 4 42,qL 44 43,qM 45 1,oo 46 (.ca .any true (.f Zdw) [.t 44,.t 45]),qM 1 46])
 (rg [qM 47 0,qM 48 5,qI 49 6 47 48,qF 50 5 49,qL 51 50,qM 52 1,oo 53 (.ca .any true (.f Zdx) [.t 51,.t 52]),qM 1 53])))))))))
 (rg [qM 10 5,oo 11 (.bi .add 0 (.t 10) (i6 1)),qM 5 11])))))) (.sq (rg [qM 54 1,qM 4 54]) (.rt)))) }
theorem ZwA:Zo UbR Zde Zjg=true:=by kernel_rfl
def Zjh:F2 :=
 { nt:=26,res:=[.t 4 [0]],body:=(.sq (rg [oo 2 (.bx (.t 0)),om 4 (i6 0)]) (.sq (rg [qF 5 0 2,qL 6 5,qM 7 1,oo 8 (.ca .any true (.f Wl) [.t 6,.t 7]),qM 1 8]) (.sq (rg [qF 9 1 2,qL 10 9,qM 11 1,oo 12 (.ca .any true (.f Dd) [.t 10,.t 11]),qM 1 12]) (.sq (rg [qF 13 2 2,qL 14 13,qM 15 1,oo 16 (.ca .any true (.f Dd) [.t 14,.t 15]),qM 1 16]) (.sq (rg [qF 17 3 2,qL 18 17,qM 19 1,oo 20 (.ca .any true (.f Wl) [.t 18,.t 19]),qM 1 20]) (.sq (rg [qF 21 4 2,qL 22 21,qM 23 1,oo 24 (.ca .any true (.f Zdy) [.t 22,.t 23]),qM 1 24]) (.sq (rg [qM 25 1,qM 4 25]) (.rt)))))))) }
theorem ZwB:Zo UbR ZaX Zjh=true:=by kernel_rfl
def Zji:F2 :=
 { nt:=36,res:=[.t 4 [0]],body:=(.sq (rg [oo 2 (.bt (.t 0)),om 4 (i6 0)]) (.sq (rg [qF 5 0 2,qL 6 5,qM 7 1,oo 8 (.ca .pure false (.f Di) [.t 6,.t 7]),qM 1 8]) (.sq (.sq (rg [qM 9 1,oo 10 (.bi .lss 0 (.t 9) (i6 0))]) (.cd (.t 10) (.sq (rg [om 4 (i6 (-1))]) (.rt)) (.sk))) (.sq (rg [qF 11 1 2,qL 12 11,qM 13 1,oo 14 (.ca .pure false (.f Za4) [.t 12,.t 13]),qM 1 14]) (.sq (.sq (rg [qM 15 1,oo 16 (.bi .lss 0 (.t 15) (i6 0))]) (.cd (.t 16) (.sq (rg [om 4 (i6 (-1))]) (.rt)) (.sk))) (.sq (rg [qF 17 2 2,qL 18 17,qM 19 1,oo 20 (.ca .pure false (.f Za4) [.t 18,.t 19]),qM 1 20]) (.sq (.sq (rg [qM 21 1,oo 22 (.bi .lss 0 (.t 21) (i6 0))]) (.cd (.t 22) (.sq (rg [om 4 (i6 (-1))]) (.rt)) (.sk))) (.sq (rg [qF 23 3 2,qL 24 23,qM 25 1,oo 26 (.ca .pure false (.f Di) [.t 24,.t 25]),qM 1 26]) (.sq (.sq (rg [qM 27 1,oo 28 (.bi .lss 0 (.t 27) (i6 0))]) (.cd (.t 28) (.sq (rg [om 4 (i6 (-1))]) (.rt)) (.sk))) (.sq (rg [qF 29 4 2,qL 30 29,qM 31 1,oo 32 (.ca .pure false (.f Zdz) [.t 30,.t 31]),qM 1 32]) (.sq (.sq (rg [qM 33 1,oo 34 (.bi .lss 0 (.t 33) (i6 0))]) (.cd (.t 34) (.sq (rg [om 4 (i6 (-1))]) (.rt)) (.sk))) (.sq (rg [qM 35 1,qM 4 35]) (.rt))))))))))))) }
theorem ZwC:Zo UbR ZaY Zji=true:=by kernel_rfl
def Zjj:F2 :=
 { nt:=20,res:=[.t 2 [0]],body:=(.sq (rg [om 2 (.k (.string ⟨#[]⟩))]) (.sq (.sq (rg [qM 4 0,oo 5 (.bi .leq 0 (.t 4) (i6 0))]) (.cd (.t 5) (.sq (rg [om 2 (.k (.string ⟨#[109,48]⟩))]) (.rt)) (.sk))) (.sq (rg [om 3 (.k (.string ⟨#[]⟩))]) (.sq (.bl 0 (.lp [0,3] [] (.sq (.sq (rg [qM 6 0,oo 7 (.bi .gtr 0 (.t 6) (i6 0))]) (.cd (.t 7) (.sk) (.ex 0))) (.bl 1 (.sq (rg [qM 8 0,oo 9 (.bi .rem 0 (.t 8) (i6 10)),oo 10 (.bi .add 0 (i6 48) (.t 9)),oo 11 (.cv (.int .u8) (.t 10)),oo 12 (.bs 1 1 [.int .u8 0] [(0,.t 11)]),oo 13 (.sb (.t 12)),qM 14 3,qB 15 .add 13 14,qM 3 15])
 (rg [qM 16 0,oo 17 (.bi .quo 0 (.t 16) (i6 10)),qM 0 17])))))) (.sq (rg [qM 18 3,oo 19 (.bi .add 0 (.k (.string ⟨#[109]⟩)) (.t 18)),qM 2 19]) (.rt)))))) }
theorem ZwD:Zo UbR Dh Zjj=true:=by kernel_rfl
def Zjk:F2 :=
 { nt:=19,res:=[.t 4 [0]],body:=(.sq (rg [om 4 (i6 0)]) (.sq (.sq (rg [om 5 (i6 0)]) (.bl 0 (.lp [0,1,5] [] (.sq (.sq (rg [qM 6 5,qM 7 0,qN 8 7,qB 9 .lss 6 8]) (.cd (.t 9) (.sk) (.ex 0))) (.sq (.bl 1 (.sq (rg [qM 12 0,qM 13 5,qM 14 1,qI 15 1 12 13,
 ZI (.st 1 (.t 15) (.t 14))])
 (rg [qM 16 1,oo 17 (.bi .add 0 (.t 16) (i6 1)),qM 1 17])))
 (rg [qM 10 5,oo 11 (.bi .add 0 (.t 10) (i6 1)),qM 5 11])))))) (.sq (rg [qM 18 1,qM 4 18]) (.rt)))) }
theorem ZwE:Zo UbR Wl Zjk=true:=by kernel_rfl
def Zjl:F2 :=
 { nt:=34,res:=[.t 4 [0]],body:=(.sq (rg [om 4 (i6 0)]) (.sq (.sq (rg [om 5 (i6 0)]) (.bl 0 (.lp [0,1,5] [] (.sq (.sq (rg [qM 6 5,qM 7 0,qN 8 7,qB 9 .lss 6 8]) (.cd (.t 9) (.sk) (.ex 0))) (.sq (.bl 1 (.sq (rg [qM 12 0,qM 13 5,qM 14 1,qI 15 3 12 13,qF 16 0 15,
 ZI (.st 1 (.t 16) (.t 14))]) (.sq (rg [qM 17 1,oo 18 (.bi .add 0 (.t 17) (i6 1)),qM 1 18]) (.sq (rg [qM 19 0,qM 20 5,qM 21 1,qI 22 3 19 20,qF 23 1 22,
 ZI (.st 1 (.t 23) (.t 21))]) (.sq (rg [qM 24 1,oo 25 (.bi .add 0 (.t 24) (i6 1)),qM 1 25])
 (rg [qM 26 0,qM 27 5,qI 28 3 26 27,qF 29 2 28,qL 30 29,qM 31 1,oo 32 (.ca .any true (.f Wl) [.t 30,.t 31]),qM 1 32]))))))
 (rg [qM 10 5,oo 11 (.bi .add 0 (.t 10) (i6 1)),qM 5 11])))))) (.sq (rg [qM 33 1,qM 4 33]) (.rt)))) }
theorem ZwF:Zo UbR Zdv Zjl=true:=by kernel_rfl
def Zjm:F2 :=
 { nt:=20,res:=[.t 4 [0]],body:=(.sq (rg [om 4 (i6 0)]) (.sq (.sq (rg [om 5 (i6 0)]) (.bl 0 (.lp [0,1,5] [] (.sq (.sq (rg [qM 6 5,qM 7 0,qN 8 7,qB 9 .lss 6 8]) (.cd (.t 9) (.sk) (.ex 0))) (.sq (.bl 1 (.sq (rg [qM 12 0,qM 13 5,qM 14 1,oo 15 (.ca .pure false (.f Dh) [.t 14]),qI 16 1 12 13,
 ZI (.st 1 (.t 16) (.t 15))])
 (rg [qM 17 1,oo 18 (.bi .add 0 (.t 17) (i6 1)),qM 1 18])))
 (rg [qM 10 5,oo 11 (.bi .add 0 (.t 10) (i6 1)),qM 5 11])))))) (.sq (rg [qM 19 1,qM 4 19]) (.rt)))) }
theorem ZwG:Zo UbR Zdw Zjm=true:=by kernel_rfl
def Zjn:F2 :=
 { nt:=28,res:=[.t 4 [0]],body:=(.sq (rg [om 4 (i6 0)]) (.sq (.sq (rg [om 5 (i6 0)]) (.bl 0 (.lp [0,1,5] [] (.sq (.sq (rg [qM 6 5,qM 7 0,qN 8 7,qB 9 .lss 6 8]) (.cd (.t 9) (.sk) (.ex 0))) (.sq (.bl 1 (.sq (rg [qM 12 0,qM 13 5,qM 14 1,oo 15 (.ca .pure false (.f Dh) [.t 14]),qI 16 2 12 13,qF 17 0 16,
 ZI (.st 1 (.t 17) (.t 15))]) (.sq (rg [qM 18 1,oo 19 (.bi .add 0 (.t 18) (i6 1)),qM 1 19]) (.sq (rg [qM 20 0,qM 21 5,qM 22 1,qI 23 2 20 21,qF 24 1 23,
 ZI (.st 1 (.t 24) (.t 22))])
 (rg [qM 25 1,oo 26 (.bi .add 0 (.t 25) (i6 1)),qM 1 26])))))
 (rg [qM 10 5,oo 11 (.bi .add 0 (.t 10) (i6 1)),qM 5 11])))))) (.sq (rg [qM 27 1,qM 4 27]) (.rt)))) }
theorem ZwH:Zo UbR Zdx Zjn=true:=by kernel_rfl
def Zjo:F2 :=
 { nt:=26,res:=[.t 4 [0]],body:=(.sq (rg [om 4 (i6 0)]) (.sq (.sq (rg [om 5 (i6 0)]) (.bl 0 (.lp [0,1,5] [] (.sq (.sq (rg [qM 7 5,qM 8 0,qN 9 8,qB 10 .lss 7 9]) (.cd (.t 10) (.sk) (.ex 0))) (.sq (.bl 1 (.sq (rg [om 6 (i6 0)]) (.bl 2 (.lp [0,1,5,6] [] (.sq (.sq (rg [qM 13 6,oo 14 (.bi .lss 0 (.t 13) (i6 2))]) (.cd (.t 14) (.sk) (.ex 2))) (.sq (.bl 3 (.sq (rg [qM 17 0,qM 18 5,qM 19 6,qM 20 1,qI 21 2 17 18,oo 22 (.ja 1 2 (.t 21) (.t 19)),
 ZI (.st 1 (.t 22) (.t 20))])
 (rg [qM 23 1,oo 24 (.bi .add 0 (.t 23) (i6 1)),qM 1 24])))
 (rg [qM 15 6,oo 16 (.bi .add 0 (.t 15) (i6 1)),qM 6 16])))))))
 (rg [qM 11 5,oo 12 (.bi .add 0 (.t 11) (i6 1)),qM 5 12])))))) (.sq (rg [qM 25 1,qM 4 25]) (.rt)))) }
theorem ZwI:Zo UbR Zdy Zjo=true:=by kernel_rfl
def Zjp:F2 :=
 { nt:=21,res:=[.t 4 [0]],body:=(.sq (rg [om 4 (i6 0)]) (.sq (.sq (rg [om 5 (i6 0)]) (.bl 0 (.lp [0,1,5] [] (.sq (.sq (rg [qM 6 5,qM 7 0,qN 8 7,qB 9 .lss 6 8]) (.cd (.t 9) (.sk) (.ex 0))) (.sq (.bl 1 (.sq (.sq (rg [qM 12 0,qM 13 5,qI 14 1 12 13,qL 15 14,qM 16 1,qB 17 .neq 15 16]) (.cd (.t 17) (.sq (rg [om 4 (i6 (-1))]) (.rt)) (.sk)))
 (rg [qM 18 1,oo 19 (.bi .add 0 (.t 18) (i6 1)),qM 1 19])))
 (rg [qM 10 5,oo 11 (.bi .add 0 (.t 10) (i6 1)),qM 5 11])))))) (.sq (rg [qM 20 1,qM 4 20]) (.rt)))) }
theorem ZwJ:Zo UbR Di Zjp=true:=by kernel_rfl
def Zjq:F2 :=
 { nt:=21,res:=[.t 4 [0]],body:=(.sq (rg [om 4 (i6 0)]) (.sq (.sq (rg [om 5 (i6 0)]) (.bl 0 (.lp [0,1,5] [] (.sq (.sq (rg [qM 6 5,qM 7 0,qN 8 7,qB 9 .lss 6 8]) (.cd (.t 9) (.sk) (.ex 0))) (.sq (.bl 1 (.sq (rg [qM 12 0,qM 13 5,qI 14 1 12 13,qL 15 14,qM 16 1,oo 17 (.ca .pure false (.f Di) [.t 15,.t 16]),qM 1 17]) (.sq (rg [qM 18 1,oo 19 (.bi .lss 0 (.t 18) (i6 0))]) (.cd (.t 19) (.sq (rg [om 4 (i6 (-1))]) (.rt)) (.sk)))))
 (rg [qM 10 5,oo 11 (.bi .add 0 (.t 10) (i6 1)),qM 5 11])))))) (.sq (rg [qM 20 1,qM 4 20]) (.rt)))) }
theorem ZwK:Zo UbR Za4 Zjq=true:=by kernel_rfl
def Zjr:F2 :=
 { nt:=28,res:=[.t 4 [0]],body:=(.sq (rg [om 4 (i6 0)]) (.sq (.sq (rg [om 5 (i6 0)]) (.bl 0 (.lp [0,1,5] [] (.sq (.sq (rg [qM 7 5,qM 8 0,qN 9 8,qB 10 .lss 7 9]) (.cd (.t 10) (.sk) (.ex 0))) (.sq (.bl 1 (.sq (rg [om 6 (i6 0)]) (.bl 2 (.lp [0,1,5,6] [] (.sq (.sq (rg [qM 13 6,oo 14 (.bi .lss 0 (.t 13) (i6 2))]) (.cd (.t 14) (.sk) (.ex 2))) (.sq (.bl 3 (.sq (.sq (rg [qM 17 0,qM 18 5,qM 19 6,qI 20 2 17 18,oo 21 (.ja 1 2 (.t 20) (.t 19)),qL 22 21,qM 23 1,qB 24 .neq 22 23]) (.cd (.t 24) (.sq (rg [om 4 (i6 (-1))]) (.rt)) (.sk)))
 (rg [qM 25 1,oo 26 (.bi .add 0 (.t 25) (i6 1)),qM 1 26])))
 (rg [qM 15 6,oo 16 (.bi .add 0 (.t 15) (i6 1)),qM 6 16])))))))
 (rg [qM 11 5,oo 12 (.bi .add 0 (.t 11) (i6 1)),qM 5 12])))))) (.sq (rg [qM 27 1,qM 4 27]) (.rt)))) }
theorem ZwL:Zo UbR Zdz Zjr=true:=by kernel_rfl
abbrev Yj(_:Int)(k:Int):Int:=k
abbrev ZF(_:Int):Nat:=1
def mt(q:Nat)(o:ByteArray):ByteArray:=if q=0 then o else mt (q / 10) (⟨#[UInt8.ofNat (48+q % 10)]⟩++o)
 termination_by q
 decreasing_by omega
theorem ZwM{q:Nat}{o:ByteArray}(h:0<q):mt q o=mt (q / 10) (⟨#[UInt8.ofNat (48+q % 10)]⟩++o):=by
 rw[mt,if_neg (by omega)]
theorem ZwN{o:ByteArray}:mt 0 o=o:=by rw[mt,if_pos rfl]
def DH(k:Int):ByteArray:=if k<=0 then ⟨#[109,48]⟩ else ⟨#[109]⟩++mt k.toNat ⟨#[]⟩
theorem Zet(k:Int)(h:k<=4611686018427387904)(lvl:Nat)(S:Zc):Sem UbR Dh lvl [iI k] S (iS (DH k)) S:=by
 refine Zv ZwD trivial ?_
 simp only[Zjj,Zb,seval,Za,men]
 unfold DH
 refine Zl (fun h0=>?_) (fun h0=>?_)
 ·rw[if_pos h0]
 ·rw[if_neg h0]
  obtain⟨K,hK⟩:∃ K:Nat,k=K:=⟨k.toNat,by omega⟩
  subst hK
  rw[Int.toNat_natCast]
  refine Jf (α:=Nat×ByteArray) K (fun j y=>⟨lvl,[(0,iI y.1),(3,iS y.2)],[],S⟩) (fun j y=>y.1+j<=K/\mt y.1 y.2=mt K ⟨#[]⟩/\y.1*10 ^ y.2.size<=K/\y.2.size<=19) (K,⟨#[]⟩) ⟨by simp only[Zb,seval,Za,men],by simp only[Zb,seval,Za,men]⟩ ⟨Uag _,rfl,Nat.le_of_eq (Nat.mul_one K),(by decide:(0:Nat)<=19)⟩ ?_
  intro j y hj hA
  obtain⟨q,o⟩:=y
  obtain⟨h1,h2,h3,h4⟩:=hA
  simp only at h1 h2 h3 h4
  simp only[Zb,seval,Za,men]
  refine Zl (fun hq=>?_) (fun hq=>?_)
  ·have hq0:0<q:=by omega
   have hby:YF [[Tr.v (Value.int IntKind.u8 (48+(q:Int) % 10))]]=some [UInt8.ofNat (48+q % 10)]:=by
    have e:(48+(q:Int) % 10).toNat=48+q % 10:=by omega
    simp only[cut,List.replicate_one,List.set_cons_zero,Uby,List.take_succ_cons,List.take_zero,YF,Option.map_some,e]
   have h5:o.size<19:=by
    apply Classical.byContradiction
    intro hc
    have e:o.size=19:=by omega
    rw[e] at h3
    have:1*10 ^ 19<=q*10 ^ 19:=UaC _ hq0
    omega
   have h6:q / 10*10 ^ (o.size+1)<=K:=by
    refine UaA ?_ h3
    rw[Nat.pow_succ,UbB (10 ^ o.size) 10,<-Nat.mul_assoc]
    exact UaC _ (by omega)
   rw[hby]
   simp only[Zb,seval,Za,men]
   have hs:(ByteArray.mk #[UInt8.ofNat (48+q % 10)]++o).size=o.size+1:=by
    rw[ByteArray.size_append,Ubn];rfl
   have e8:Jq .u8 (48+(q:Int) % 10):=by
    constructor
    ·show (0:Int)<=_;omega
    ·show _<=(255:Int);omega
   refine⟨by rw[Zh];omega,e8,?_,by rw[Zh];omega,Zr (q / 10,ByteArray.mk #[UInt8.ofNat (48+q % 10)]++o) (by omega) ?_ ⟨by simp only;omega,?_,?_,?_⟩⟩
   ·show 1+o.size<=4294967296
    omega
   ·rfl
   ·rw[<-h2,ZwM hq0]
   ·simp only[hs];exact h6
   ·simp only[hs];omega
  ·have:q=0:=by omega
   subst this
   rw[<-h2,ZwN]
   refine⟨?_,rfl⟩
   show 1+o.size<=4294967296
   omega
abbrev XW(_:ByteArray)(k:Int):ByteArray:=DH k
abbrev Y7(_:ByteArray):Nat:=1
theorem DI:MarkS UbR Wl (fun n:Int=>[tv n]) Yj ZF (fun _=>True):=by
 intro a k lvl S id p es r0 kk hw ver st cap hid hv hst h0 hk hl hB
 have hne:id.1≠lvl:=by omega
 have hgp:∀ r,getp (Z9 es p r) p=some r:=fun r=>QH hv
 refine Zv ZwE trivial ?_
 simp only[Zjk,Zb,seval,Za,men]
 refine Jf (α:=Unit) a.length (fun j _=>⟨lvl,[(0,.hd id p 0 a.length cap st),(1,iI (kJ ZF a k j)),(5,iI j)],[],Ze S id (.ar kk (Z9 es p ((lJ Yj ZF a k j).map (fun n:Int=>[tv n]))) true hw ver)⟩) (fun _ _=>True) () ⟨by simp only[ZQ hne,Zb,seval,Za,men],by (simp only[Qg,XH,Zb,seval,Za,men]) <;> rfl⟩ trivial ?_
 intro j _ hj _
 simp only[Uab,Zb,seval,Za,men]
 refine Zl (fun hlt=>?_) (fun hge=>?_)
 ·have hja:j<a.length:=by omega
  obtain⟨R,hjR,hR,hR'⟩:=XJ Yj ZF (fun n:Int=>[tv n]) (k:=k) hja
  have hge2:=Qi ZF (a:=a) (k:=k) (j:=j+1)
  rw[Yg ZF hja] at hge2
  have hge3:=Qj ZF (a:=a) (k:=k) (j:=j)
  rw[hR]
  try simp only[ZF] at hge2
  try simp only[ZE hne,JH hne,JJ,Ji,hst,hgp,Yi hjR,Yl hv hjR,Uap,hja,ZQ hne,Uab,tv,Zb,seval,Za,men]
  refine⟨by rw[Zh];omega,⟨by rw[Zh];omega,Zr () hja ?_ trivial⟩⟩
  rw[Yg ZF hja,hR']
  simp only[ZF,Yj,tv,Int.natCast_add,Int.natCast_one,Uba]
  try rfl
 ·have:j=a.length:=by omega
  subst this
  rw[Qh,XI]
  exact⟨rfl,rfl⟩
def DJ(x:TNode)(k:Int):TNode:={ control:=k,parent:=k+1,links:=mL Yj ZF x.links (k+1+1) }
def Yw(x:TNode):Nat:=1+1+nL ZF x.links
theorem ZwO:MarkS UbR Zdv ZH DJ Yw (VQ 4294967296):=by
 intro a k lvl S id p es r0 kk hw ver st cap hid hv hst h0 hk hl hB
 have hne:id.1≠lvl:=by omega
 have hgp:∀ r,getp (Z9 es p r) p=some r:=fun r=>QH hv
 refine Zv ZwF trivial ?_
 simp only[Zjl,Zb,seval,Za,men]
 refine Jf (α:=Unit) a.length (fun j _=>⟨lvl,[(0,.hd id p 0 a.length cap st),(1,iI (kJ Yw a k j)),(5,iI j)],[],Ze S id (.ar kk (Z9 es p ((lJ DJ Yw a k j).map ZH)) true hw ver)⟩) (fun _ _=>True) () ⟨by simp only[ZQ hne,Zb,seval,Za,men],by (simp only[Qg,XH,Zb,seval,Za,men]) <;> rfl⟩ trivial ?_
 intro j _ hj _
 simp only[Uab,Zb,seval,Za,men]
 refine Zl (fun hlt=>?_) (fun hge=>?_)
 ·have hja:j<a.length:=by omega
  obtain⟨R,hjR,hR,hR'⟩:=XJ DJ Yw ZH (k:=k) hja
  have hge2:=Qi Yw (a:=a) (k:=k) (j:=j+1)
  rw[Yg Yw hja] at hge2
  have hge3:=Qj Yw (a:=a) (k:=k) (j:=j)
  rw[hR]
  try simp only[Yw] at hge2
  have hb:=hB _ (Ual hja)
  have b0:(a[j]).links.length<=4294967296:=hb
  try simp only[ZE hne,JH hne,JJ,Ji,hst,hgp,Yi hjR,Yl hv hjR,Uap,hja,ZQ hne,Uab,ZH,Zb,seval,Za,men]
  refine⟨by rw[Zh];omega,⟨by rw[Zh];omega,?_⟩⟩
  simp only[J2]
  refine Ub DI hid hv (by omega) (by omega) b0 (fun _ _=>trivial) hjR rfl (by simp only[Uab]) ?_
  simp only[List.set_cons_succ,List.set_cons_zero,ZE hne,JH hne,JJ,Ji,hst,hgp,Yi hjR,Yl hv hjR,Uap,hja,ZQ hne,Uab,ZH,Zb,seval,Za,men]
  refine⟨by rw[Zh];omega,Zr () hja ?_ trivial⟩
  rw[Yg Yw hja,hR']
  simp only[Yw,DJ,ZH,Int.natCast_add,Int.natCast_one,Uba]
  try rfl
 ·have:j=a.length:=by omega
  subst this
  rw[Qh,XI]
  exact⟨rfl,rfl⟩
theorem ZwP:MarkS UbR Zdw (fun n:ByteArray=>[ts n]) XW Y7 (fun x=>x.size<=4294967296):=by
 intro a k lvl S id p es r0 kk hw ver st cap hid hv hst h0 hk hl hB
 have hne:id.1≠lvl:=by omega
 have hgp:∀ r,getp (Z9 es p r) p=some r:=fun r=>QH hv
 refine Zv ZwG trivial ?_
 simp only[Zjm,Zb,seval,Za,men]
 refine Jf (α:=Unit) a.length (fun j _=>⟨lvl,[(0,.hd id p 0 a.length cap st),(1,iI (kJ Y7 a k j)),(5,iI j)],[],Ze S id (.ar kk (Z9 es p ((lJ XW Y7 a k j).map (fun n:ByteArray=>[ts n]))) true hw ver)⟩) (fun _ _=>True) () ⟨by simp only[ZQ hne,Zb,seval,Za,men],by (simp only[Qg,XH,Zb,seval,Za,men]) <;> rfl⟩ trivial ?_
 intro j _ hj _
 simp only[Uab,Zb,seval,Za,men]
 refine Zl (fun hlt=>?_) (fun hge=>?_)
 ·have hja:j<a.length:=by omega
  obtain⟨R,hjR,hR,hR'⟩:=XJ XW Y7 (fun n:ByteArray=>[ts n]) (k:=k) hja
  have hge2:=Qi Y7 (a:=a) (k:=k) (j:=j+1)
  rw[Yg Y7 hja] at hge2
  have hge3:=Qj Y7 (a:=a) (k:=k) (j:=j)
  rw[hR]
  try simp only[Y7] at hge2
  try simp only[ZE hne,JH hne,JJ,Ji,hst,hgp,Yi hjR,Yl hv hjR,Uap,hja,ZQ hne,Uab,tv,Zb,seval,Za,men]
  refine Zi (Zet (kJ Y7 a k j) (by omega)) ?_
  simp only[ZE hne,JH hne,JJ,Ji,hst,hgp,Yi hjR,Yl hv hjR,Uap,hja,ZQ hne,Uab,tv,Zb,seval,Za,men]
  refine⟨by rw[Zh];omega,⟨by rw[Zh];omega,Zr () hja ?_ trivial⟩⟩
  rw[Yg Y7 hja,hR']
  simp only[Y7,XW,tv,Int.natCast_add,Int.natCast_one,Uba]
  try rfl
 ·have:j=a.length:=by omega
  subst this
  rw[Qh,XI]
  exact⟨rfl,rfl⟩
def DK(x:TWire)(k:Int):TWire:={ name:=DH (k),link:=k+1 }
def YY(x:TWire):Nat:=1+1
theorem ZwQ:MarkS UbR Zdx Jc DK YY (VB 4294967296):=by
 intro a k lvl S id p es r0 kk hw ver st cap hid hv hst h0 hk hl hB
 have hne:id.1≠lvl:=by omega
 have hgp:∀ r,getp (Z9 es p r) p=some r:=fun r=>QH hv
 refine Zv ZwH trivial ?_
 simp only[Zjn,Zb,seval,Za,men]
 refine Jf (α:=Unit) a.length (fun j _=>⟨lvl,[(0,.hd id p 0 a.length cap st),(1,iI (kJ YY a k j)),(5,iI j)],[],Ze S id (.ar kk (Z9 es p ((lJ DK YY a k j).map Jc)) true hw ver)⟩) (fun _ _=>True) () ⟨by simp only[ZQ hne,Zb,seval,Za,men],by (simp only[Qg,XH,Zb,seval,Za,men]) <;> rfl⟩ trivial ?_
 intro j _ hj _
 simp only[Uab,Zb,seval,Za,men]
 refine Zl (fun hlt=>?_) (fun hge=>?_)
 ·have hja:j<a.length:=by omega
  obtain⟨R,hjR,hR,hR'⟩:=XJ DK YY Jc (k:=k) hja
  have hge2:=Qi YY (a:=a) (k:=k) (j:=j+1)
  rw[Yg YY hja] at hge2
  have hge3:=Qj YY (a:=a) (k:=k) (j:=j)
  rw[hR]
  try simp only[YY] at hge2
  have hb:=hB _ (Ual hja)
  have b0:(a[j]).name.size<=4294967296:=hb
  try simp only[ZE hne,JH hne,JJ,Ji,hst,hgp,Yi hjR,Yl hv hjR,Uap,hja,ZQ hne,Uab,Jc,Zb,seval,Za,men]
  refine Zi (Zet (kJ YY a k j) (by omega)) ?_
  simp only[ZE hne,JH hne,JJ,Ji,hst,hgp,Yi hjR,Yl hv hjR,Uap,hja,ZQ hne,Uab,Jc,Zb,seval,Za,men]
  refine⟨by rw[Zh];omega,⟨by rw[Zh];omega,⟨by rw[Zh];omega,Zr () hja ?_ trivial⟩⟩⟩
  rw[Yg YY hja,hR']
  simp only[YY,DK,Jc,Int.natCast_add,Int.natCast_one,Uba]
  try rfl
 ·have:j=a.length:=by omega
  subst this
  rw[Qh,XI]
  exact⟨rfl,rfl⟩
def YP(x:(List Int))(k:Int):(List Int):=mL Yj ZF x (k)
def ZM(x:(List Int)):Nat:=nL ZF x
theorem Zeu:MarkS UbR Dd (fun l=>[Tr.sl (rI l)]) YP ZM (fun x=>x.length<=4294967296):=by
 intro a k lvl S id p es r0 kk hw ver st cap hid hv hst h0 hk hl hB
 have hne:id.1≠lvl:=by omega
 have hgp:∀ r,getp (Z9 es p r) p=some r:=fun r=>QH hv
 refine Zv Zwz trivial ?_
 simp only[Zjf,Zb,seval,Za,men]
 refine Jf (α:=Unit) a.length (fun j _=>⟨lvl,[(0,.hd id p 0 a.length cap st),(1,iI (kJ ZM a k j)),(5,iI j)],[],Ze S id (.ar kk (Z9 es p ((lJ YP ZM a k j).map (fun l=>[Tr.sl (rI l)]))) true hw ver)⟩) (fun _ _=>True) () ⟨by simp only[ZQ hne,Zb,seval,Za,men],by (simp only[Qg,XH,Zb,seval,Za,men]) <;> rfl⟩ trivial ?_
 intro j _ hj _
 simp only[Uab,Zb,seval,Za,men]
 refine Zl (fun hlt=>?_) (fun hge=>?_)
 ·have hja:j<a.length:=by omega
  obtain⟨R,hjR,hR,hR'⟩:=XJ YP ZM (fun l=>[Tr.sl (rI l)]) (k:=k) hja
  have hge2:=Qi ZM (a:=a) (k:=k) (j:=j+1)
  rw[Yg ZM hja] at hge2
  have hge3:=Qj ZM (a:=a) (k:=k) (j:=j)
  rw[hR]
  try simp only[ZM] at hge2
  have hb:=hB _ (Ual hja)
  have b0:(a[j]).length<=4294967296:=hb
  try simp only[ZE hne,JH hne,JJ,Ji,hst,hgp,Yi hjR,Yl hv hjR,Uap,hja,ZQ hne,Uab,tv,Zb,seval,Za,men]
  simp only[J2]
  refine Ub DI hid hv (by omega) (by omega) b0 (fun _ _=>trivial) hjR rfl (by simp only[Uab]) ?_
  simp only[List.set_cons_succ,List.set_cons_zero,ZE hne,JH hne,JJ,Ji,hst,hgp,Yi hjR,Yl hv hjR,Uap,hja,ZQ hne,Uab,tv,Zb,seval,Za,men]
  refine⟨by rw[Zh];omega,Zr () hja ?_ trivial⟩
  rw[Yg ZM hja,hR']
  simp only[ZM,YP,tv,Int.natCast_add,Int.natCast_one,Uba]
  try rfl
 ·have:j=a.length:=by omega
  subst this
  rw[Qh,XI]
  exact⟨rfl,rfl⟩
def Vp(x:(Int×Int))(k:Int):(Int×Int):=(k,k+1)
def Jl(x:(Int×Int)):Nat:=1+1
theorem ZwR:MarkS UbR Zdy Zx Vp Jl (fun _=>True):=by
 intro a k lvl S id p es r0 kk hw ver st cap hid hv hst h0 hk hl hB
 have hne:id.1≠lvl:=by omega
 have hgp:∀ r,getp (Z9 es p r) p=some r:=fun r=>QH hv
 refine Zv ZwI trivial ?_
 simp only[Zjo,Zb,seval,Za,men]
 refine Jf (α:=Unit) a.length (fun j _=>⟨lvl,[(0,.hd id p 0 a.length cap st),(1,iI (kJ Jl a k j)),(5,iI j)],[],Ze S id (.ar kk (Z9 es p ((lJ Vp Jl a k j).map Zx)) true hw ver)⟩) (fun _ _=>True) () ⟨by simp only[ZQ hne,Zb,seval,Za,men],by (simp only[Qg,XH,Zb,seval,Za,men]) <;> rfl⟩ trivial ?_
 intro j _ hj _
 simp only[Uab,Zb,seval,Za,men]
 refine Zl (fun hlt=>?_) (fun hge=>?_)
 ·have hja:j<a.length:=by omega
  obtain⟨R,hjR,hR,hR'⟩:=XJ Vp Jl Zx (k:=k) hja
  have hge2:=Qi Jl (a:=a) (k:=k) (j:=j+1)
  rw[Yg Jl hja] at hge2
  have hge3:=Qj Jl (a:=a) (k:=k) (j:=j)
  rw[hR]
  try simp only[Jl] at hge2
  simp only[ZE hne,JH hne,JJ,Ji,hst,hgp,Yi hjR,Yl hv hjR,Uap,hja,ZQ hne,Uab,Zx,Zb,seval,Za,men]
  refine Jf (α:=Unit) 2 (fun i _=>⟨lvl,[(0,.hd id p 0 a.length cap st),(1,iI (kJ Jl a k j+i)),(5,iI j),(6,iI i)],[],Ze S id (.ar kk (Z9 es p (R.set j [if 0<i then tv (kJ Jl a k j) else tv a[j].1,if 1<i then tv (kJ Jl a k j+1) else tv a[j].2])) true hw ver)⟩) (fun _ _=>True) () ⟨by simp only[ZQ hne,Zb,seval,Za,men],by simp only[Int.natCast_zero,Int.add_zero,Ua4,UaE,Zb,seval,Za,men];try rfl⟩ trivial ?_
  intro i _ hi _
  have hc:i=0\/i=1\/i=2:=by omega
  rcases hc with rfl | rfl | rfl
  ·simp only[ZE hne,JH hne,JJ,Ji,hst,hgp,Yi hjR,Yl hv hjR,Uap,hja,ZQ hne,Uab,Zx,Int.cast_ofNat_Int,Int.natCast_zero,Nat.zero_mul,Ubh,Nat.mul_one,Int.add_zero,Int.natCast_one,Int.reduceAdd,Ua4,UaE,Nat.zero_lt_one,Nat.reduceAdd,Zb,↓reduceIte,Nat.reduceEqDiff,Nat.reduceMul,reduceCtorEq,Nat.reduceSub,Nat.reduceLeDiff,Nat.reduceLT,Int.reduceToNat,Int.reduceLE,Int.reduceLT,Za,men]
   refine⟨by rw[Zh];omega,by rw[Zh];omega,Zr (N:=2) (k:=0) () (by omega) ?_ trivial⟩
   rw[show kJ Jl a k j+1=kJ Jl a k j+((1:Nat):Int) from by omega]
   rfl
  ·simp only[ZE hne,JH hne,JJ,Ji,hst,hgp,Yi hjR,Yl hv hjR,Uap,hja,ZQ hne,Uab,Zx,Int.cast_ofNat_Int,Int.natCast_zero,Nat.zero_mul,Ubh,Nat.mul_one,Int.add_zero,Int.natCast_one,Int.reduceAdd,Ua4,UaE,Nat.zero_lt_one,Nat.reduceAdd,Zb,↓reduceIte,Nat.reduceEqDiff,Nat.reduceMul,reduceCtorEq,Nat.reduceSub,Nat.reduceLeDiff,Nat.reduceLT,Int.reduceToNat,Int.reduceLE,Int.reduceLT,Za,men]
   refine⟨by rw[Zh];omega,by rw[Zh];omega,Zr (N:=2) (k:=1) () (by omega) ?_ trivial⟩
   rw[show kJ Jl a k j+1+1=kJ Jl a k j+((2:Nat):Int) from by omega]
   rfl
  ·simp only[ZE hne,JH hne,JJ,Ji,hst,hgp,Yi hjR,Yl hv hjR,Uap,hja,ZQ hne,Uab,Zx,Int.cast_ofNat_Int,Int.natCast_zero,Nat.zero_mul,Ubh,Nat.mul_one,Int.add_zero,Int.natCast_one,Int.reduceAdd,Ua4,UaE,Nat.zero_lt_one,Nat.reduceAdd,Zb,↓reduceIte,Nat.reduceEqDiff,Nat.reduceMul,reduceCtorEq,Nat.reduceSub,Nat.reduceLeDiff,Nat.reduceLT,Int.reduceToNat,Int.reduceLE,Int.reduceLT,Za,men]
   refine⟨by rw[Zh];omega,Zr () hja ?_ trivial⟩
   rw[Yg Jl hja,hR']
   rfl
 ·have:j=a.length:=by omega
  subst this
  rw[Qh,XI]
  exact⟨rfl,rfl⟩
def ZbG(x:TControl)(k:Int):TControl:={ name:=DH (k),ports:=k+1,kind_:=k+1+1 }
def Y8(x:TControl):Nat:=1+1+1
theorem ZwS:MarkS UbR Zdd ZB ZbG Y8 (Yd 4294967296):=by
 intro a k lvl S id p es r0 kk hw ver st cap hid hv hst h0 hk hl hB
 have hne:id.1≠lvl:=by omega
 have hgp:∀ r,getp (Z9 es p r) p=some r:=fun r=>QH hv
 refine Zv Zwy trivial ?_
 simp only[Zje,Zb,seval,Za,men]
 refine Jf (α:=Unit) a.length (fun j _=>⟨lvl,[(0,.hd id p 0 a.length cap st),(1,iI (kJ Y8 a k j)),(5,iI j)],[],Ze S id (.ar kk (Z9 es p ((lJ ZbG Y8 a k j).map ZB)) true hw ver)⟩) (fun _ _=>True) () ⟨by simp only[ZQ hne,Zb,seval,Za,men],by (simp only[Qg,XH,Zb,seval,Za,men]) <;> rfl⟩ trivial ?_
 intro j _ hj _
 simp only[Uab,Zb,seval,Za,men]
 refine Zl (fun hlt=>?_) (fun hge=>?_)
 ·have hja:j<a.length:=by omega
  obtain⟨R,hjR,hR,hR'⟩:=XJ ZbG Y8 ZB (k:=k) hja
  have hge2:=Qi Y8 (a:=a) (k:=k) (j:=j+1)
  rw[Yg Y8 hja] at hge2
  have hge3:=Qj Y8 (a:=a) (k:=k) (j:=j)
  rw[hR]
  try simp only[Y8] at hge2
  have hb:=hB _ (Ual hja)
  have b0:(a[j]).name.size<=4294967296:=hb
  try simp only[ZE hne,JH hne,JJ,Ji,hst,hgp,Yi hjR,Yl hv hjR,Uap,hja,ZQ hne,Uab,ZB,Zb,seval,Za,men]
  refine Zi (Zet (kJ Y8 a k j) (by omega)) ?_
  simp only[ZE hne,JH hne,JJ,Ji,hst,hgp,Yi hjR,Yl hv hjR,Uap,hja,ZQ hne,Uab,ZB,Zb,seval,Za,men]
  refine⟨by rw[Zh];omega,⟨by rw[Zh];omega,⟨by rw[Zh];omega,⟨by rw[Zh];omega,Zr () hja ?_ trivial⟩⟩⟩⟩
  rw[Yg Y8 hja,hR']
  simp only[Y8,ZbG,ZB,Int.natCast_add,Int.natCast_one,Uba]
  try rfl
 ·have:j=a.length:=by omega
  subst this
  rw[Qh,XI]
  exact⟨rfl,rfl⟩
def ZbH(x:TBigraph)(k:Int):TBigraph:={ roots:=k,nodes:=mL DJ Yw x.nodes (k+1),sites:=mL Yj ZF x.sites (k+1+(nL Yw x.nodes:Nat)),edges:=k+1+(nL Yw x.nodes:Nat)+(nL ZF x.sites:Nat),outer:=mL XW Y7 x.outer (k+1+(nL Yw x.nodes:Nat)+(nL ZF x.sites:Nat)+1),inner:=mL DK YY x.inner (k+1+(nL Yw x.nodes:Nat)+(nL ZF x.sites:Nat)+1+(nL Y7 x.outer:Nat)) }
def Vq(x:TBigraph):Nat:=1+nL Yw x.nodes+nL ZF x.sites+1+nL Y7 x.outer+nL YY x.inner
theorem ZwT:MarkS UbR Zde Zk ZbH Vq (YD 4294967296):=by
 intro a k lvl S id p es r0 kk hw ver st cap hid hv hst h0 hk hl hB
 have hne:id.1≠lvl:=by omega
 have hgp:∀ r,getp (Z9 es p r) p=some r:=fun r=>QH hv
 refine Zv ZwA trivial ?_
 simp only[Zjg,Zb,seval,Za,men]
 refine Jf (α:=Unit) a.length (fun j _=>⟨lvl,[(0,.hd id p 0 a.length cap st),(1,iI (kJ Vq a k j)),(5,iI j)],[],Ze S id (.ar kk (Z9 es p ((lJ ZbH Vq a k j).map Zk)) true hw ver)⟩) (fun _ _=>True) () ⟨by simp only[ZQ hne,Zb,seval,Za,men],by (simp only[Qg,XH,Zb,seval,Za,men]) <;> rfl⟩ trivial ?_
 intro j _ hj _
 simp only[Uab,Zb,seval,Za,men]
 refine Zl (fun hlt=>?_) (fun hge=>?_)
 ·have hja:j<a.length:=by omega
  obtain⟨R,hjR,hR,hR'⟩:=XJ ZbH Vq Zk (k:=k) hja
  have hge2:=Qi Vq (a:=a) (k:=k) (j:=j+1)
  rw[Yg Vq hja] at hge2
  have hge3:=Qj Vq (a:=a) (k:=k) (j:=j)
  rw[hR]
  try simp only[Vq] at hge2
  have hb:=hB _ (Ual hja)
  obtain⟨b0,b1,b2,b3,b4,b5,b6⟩:=hb
  try simp only[ZE hne,JH hne,JJ,Ji,hst,hgp,Yi hjR,Yl hv hjR,Uap,hja,ZQ hne,Uab,Zk,Zb,seval,Za,men]
  refine⟨by rw[Zh];omega,?_⟩
  simp only[J2]
  refine Ub ZwO hid hv (by omega) (by omega) b0 b1 hjR rfl (by simp only[Uab]) ?_
  simp only[List.set_cons_succ,List.set_cons_zero,ZE hne,JH hne,JJ,Ji,hst,hgp,Yi hjR,Yl hv hjR,Uap,hja,ZQ hne,Uab,Zk,Zb,seval,Za,men]
  simp only[J2]
  refine Ub DI hid hv (by omega) (by omega) b2 (fun _ _=>trivial) hjR rfl (by simp only[Uab]) ?_
  simp only[List.set_cons_succ,List.set_cons_zero,ZE hne,JH hne,JJ,Ji,hst,hgp,Yi hjR,Yl hv hjR,Uap,hja,ZQ hne,Uab,Zk,Zb,seval,Za,men]
  refine⟨by rw[Zh];omega,?_⟩
  simp only[J2]
  refine Ub ZwP hid hv (by omega) (by omega) b3 b4 hjR rfl (by simp only[Uab]) ?_
  simp only[List.set_cons_succ,List.set_cons_zero,ZE hne,JH hne,JJ,Ji,hst,hgp,Yi hjR,Yl hv hjR,Uap,hja,ZQ hne,Uab,Zk,Zb,seval,Za,men]
  simp only[J2]
  refine Ub ZwQ hid hv (by omega) (by omega) b5 b6 hjR rfl (by simp only[Uab]) ?_
  simp only[List.set_cons_succ,List.set_cons_zero,ZE hne,JH hne,JJ,Ji,hst,hgp,Yi hjR,Yl hv hjR,Uap,hja,ZQ hne,Uab,Zk,Zb,seval,Za,men]
  refine⟨by rw[Zh];omega,Zr () hja ?_ trivial⟩
  rw[Yg Vq hja,hR']
  simp only[Vq,ZbH,Zk,Int.natCast_add,Int.natCast_one,Uba]
  try rfl
 ·have:j=a.length:=by omega
  subst this
  rw[Qh,XI]
  exact⟨rfl,rfl⟩
def Zjs:F2 :=
 { nt:=23,res:=[.t 2 [4]],body:=(.sq (rg [om 2 (.k (.slice none 0 0))]) (.sq (rg [qM 5 0,qN 6 5,oo 7 (.ms 3 [.string ⟨#[]⟩,.int .i64 0,.int .i64 0] (.t 6)),qM 3 7]) (.sq (.sq (rg [om 4 (i6 0)]) (.bl 0 (.lp [0,3,4] [224] (.sq (.sq (rg [qM 8 4,qM 9 0,qN 10 9,qB 11 .lss 8 10]) (.cd (.t 11) (.sk) (.ex 0))) (.sq (.bl 1 (rg [qM 14 3,qM 15 4,qM 16 0,qM 17 4,qI 18 3 16 17,qS 19 3 18,oo 20 (.ca .pure true (.f Zdm) [.t 19]),qI 21 3 14 15,
 ZI (.st 3 (.t 21) (.t 20))]))
 (rg [qM 12 4,oo 13 (.bi .add 0 (.t 12) (i6 1)),qM 4 13])))))) (.sq (rg [qM 22 3,qM 2 22]) (.rt))))) }
theorem ZwU:Zo UbR Ue Zjs=true:=by kernel_rfl
def Zjt:F2 :=
 { nt:=23,res:=[.t 2 [2]],body:=(.sq (rg [om 2 (.k (.slice none 0 0))]) (.sq (rg [qM 5 0,qN 6 5,oo 7 (.ms 1 [.slice none 0 0] (.t 6)),qM 3 7]) (.sq (.sq (rg [om 4 (i6 0)]) (.bl 0 (.lp [0,3,4] [224,640] (.sq (.sq (rg [qM 8 4,qM 9 0,qN 10 9,qB 11 .lss 8 10]) (.cd (.t 11) (.sk) (.ex 0))) (.sq (.bl 1 (rg [qM 14 3,qM 15 4,qM 16 0,qM 17 4,qI 18 1 16 17,qL 19 18,oo 20 (.ca .pure true (.f Df) [.t 19]),qI 21 1 14 15,
 ZI (.st 1 (.t 21) (.t 20))]))
 (rg [qM 12 4,oo 13 (.bi .add 0 (.t 12) (i6 1)),qM 4 13])))))) (.sq (rg [qM 22 3,qM 2 22]) (.rt))))) }
theorem ZwV:Zo UbR Uf Zjt=true:=by kernel_rfl
def Zju:F2 :=
 { nt:=23,res:=[.t 2 [7]],body:=(.sq (rg [om 2 (.k (.slice none 0 0))]) (.sq (rg [qM 5 0,qN 6 5,oo 7 (.ms 6 [.int .i64 0,.slice none 0 0,.slice none 0 0,.int .i64 0,.slice none 0 0,.slice none 0 0] (.t 6)),qM 3 7]) (.sq (.sq (rg [om 4 (i6 0)]) (.bl 0 (.lp [0,3,4] [224,640,641,642,643] (.sq (.sq (rg [qM 8 4,qM 9 0,qN 10 9,qB 11 .lss 8 10]) (.cd (.t 11) (.sk) (.ex 0))) (.sq (.bl 1 (rg [qM 14 3,qM 15 4,qM 16 0,qM 17 4,qI 18 6 16 17,qS 19 6 18,oo 20 (.ca .pure true (.f Zdn) [.t 19]),qI 21 6 14 15,
 ZI (.st 6 (.t 21) (.t 20))]))
 (rg [qM 12 4,oo 13 (.bi .add 0 (.t 12) (i6 1)),qM 4 13])))))) (.sq (rg [qM 22 3,qM 2 22]) (.rt))))) }
theorem ZwW:Zo UbR Ug Zju=true:=by kernel_rfl
def Zjv:F2 :=
 { nt:=35,res:=[.t 4 [0]],body:=(.sq (rg [oo 2 (.bt (.t 0)),oo 3 (.bt (.t 1)),om 4 (.k (.bool false))]) (.sq (.sq (rg [qF 5 0 2,qL 6 5,qF 7 0 3,qL 8 7,oo 9 (.ca .pure false (.f Wj) [.t 6,.t 8]),oo 10 (.nt (.t 9))]) (.cd (.t 10) (.sq (rg [om 4 (.k (.bool false))]) (.rt)) (.sk))) (.sq (.sq (rg [qF 11 1 2,qL 12 11,qF 13 1 3,qL 14 13,oo 15 (.ca .pure false (.f Dc) [.t 12,.t 14]),oo 16 (.nt (.t 15))]) (.cd (.t 16) (.sq (rg [om 4 (.k (.bool false))]) (.rt)) (.sk))) (.sq (.sq (rg [qF 17 2 2,qL 18 17,qF 19 2 3,qL 20 19,oo 21 (.ca .pure false (.f Dc) [.t 18,.t 20]),oo 22 (.nt (.t 21))]) (.cd (.t 22) (.sq (rg [om 4 (.k (.bool false))]) (.rt)) (.sk))) (.sq (.sq (rg [qF 23 3 2,qL 24 23,qF 25 3 3,qL 26 25,oo 27 (.ca .pure false (.f Wj) [.t 24,.t 26]),oo 28 (.nt (.t 27))]) (.cd (.t 28) (.sq (rg [om 4 (.k (.bool false))]) (.rt)) (.sk))) (.sq (.sq (rg [qF 29 4 2,qL 30 29,qF 31 4 3,qL 32 31,oo 33 (.ca .pure false (.f Zds) [.t 30,.t 32]),oo 34 (.nt (.t 33))]) (.cd (.t 34) (.sq (rg [om 4 (.k (.bool false))]) (.rt)) (.sk))) (.sq (rg [om 4 (.k (.bool true))]) (.rt)))))))) }
theorem ZwX:Zo UbR Db Zjv=true:=by kernel_rfl
def Zjw:F2 :=
 { nt:=13,res:=[.t 4 [0]],body:=(.sq (rg [oo 2 (.bt (.t 0)),om 4 (i6 0)]) (.sq (rg [qM 5 1,qF 6 0 2,qL 7 6,oo 8 (.lg (.t 7)),qB 9 .sub 5 8,qM 1 9]) (.sq (.sq (rg [qM 10 1,oo 11 (.bi .lss 0 (.t 10) (i6 0))]) (.cd (.t 11) (.sq (rg [om 4 (i6 (-1))]) (.rt)) (.sk))) (.sq (rg [qM 12 1,qM 4 12]) (.rt))))) }
theorem ZwY:Zo UbR Zdf Zjw=true:=by kernel_rfl
def Zjx:F2 :=
 { nt:=30,res:=[.t 4 [0]],body:=(.sq (rg [oo 2 (.bt (.t 0)),om 4 (i6 0)]) (.sq (rg [qF 5 1 2,qL 6 5,qM 7 1,oo 8 (.ca .pure false (.f ZdA) [.t 6,.t 7]),qM 1 8]) (.sq (.sq (rg [qM 9 1,oo 10 (.bi .lss 0 (.t 9) (i6 0))]) (.cd (.t 10) (.sq (rg [om 4 (i6 (-1))]) (.rt)) (.sk))) (.sq (rg [qF 11 2 2,qL 12 11,qM 13 1,oo 14 (.ca .pure false (.f De) [.t 12,.t 13]),qM 1 14]) (.sq (.sq (rg [qM 15 1,oo 16 (.bi .lss 0 (.t 15) (i6 0))]) (.cd (.t 16) (.sq (rg [om 4 (i6 (-1))]) (.rt)) (.sk))) (.sq (rg [qF 17 4 2,qL 18 17,qM 19 1,oo 20 (.ca .pure false (.f ZdB) [.t 18,.t 19]),qM 1 20]) (.sq (.sq (rg [qM 21 1,oo 22 (.bi .lss 0 (.t 21) (i6 0))]) (.cd (.t 22) (.sq (rg [om 4 (i6 (-1))]) (.rt)) (.sk))) (.sq (rg [qF 23 5 2,qL 24 23,qM 25 1,oo 26 (.ca .pure false (.f ZdC) [.t 24,.t 25]),qM 1 26]) (.sq (.sq (rg [qM 27 1,oo 28 (.bi .lss 0 (.t 27) (i6 0))]) (.cd (.t 28) (.sq (rg [om 4 (i6 (-1))]) (.rt)) (.sk))) (.sq (rg [qM 29 1,qM 4 29]) (.rt))))))))))) }
theorem ZwZ:Zo UbR Zdg Zjx=true:=by kernel_rfl
def Zjy:F2 :=
 { nt:=14,res:=[.c 2 (some 3) [0,0,0]],body:=(.sq (rg [oo 1 (.bt (.t 0)),oo 2 (.al [.string ⟨#[]⟩,.int .i64 0,.int .i64 0] [])]) (.sq (rg [oo 3 (.al [.string ⟨#[]⟩,.int .i64 0,.int .i64 0] [])]) (.sq (rg [qF 4 0 1,qL 5 4,qF 6 0 3,
 ZI (.st 1 (.t 6) (.t 5))]) (.sq (rg [qF 7 1 1,qL 8 7,qF 9 1 3,
 ZI (.st 1 (.t 9) (.t 8))]) (.sq (rg [qF 10 2 1,qL 11 10,qF 12 2 3,
 ZI (.st 1 (.t 12) (.t 11))]) (.sq (rg [qS 13 3 3,
 ZI (.st 3 (.t 2) (.t 13))]) (.rt))))))) }
theorem Zw0:Zo UbR Zdm Zjy=true:=by kernel_rfl
def Zjz:F2 :=
 { nt:=27,res:=[.c 2 (some 6) [0,4,2,0,2,3]],body:=(.sq (rg [oo 1 (.bt (.t 0)),oo 2 (.al [.int .i64 0,.slice none 0 0,.slice none 0 0,.int .i64 0,.slice none 0 0,.slice none 0 0] [])]) (.sq (rg [oo 3 (.al [.int .i64 0,.slice none 0 0,.slice none 0 0,.int .i64 0,.slice none 0 0,.slice none 0 0] [])]) (.sq (rg [qF 4 0 1,qL 5 4,qF 6 0 3,
 ZI (.st 1 (.t 6) (.t 5))]) (.sq (rg [qF 7 1 1,qL 8 7,oo 9 (.ca .pure true (.f ZdH) [.t 8]),qF 10 1 3,
 ZI (.st 1 (.t 10) (.t 9))]) (.sq (rg [qF 11 2 1,qL 12 11,oo 13 (.ca .pure true (.f Df) [.t 12]),qF 14 2 3,
 ZI (.st 1 (.t 14) (.t 13))]) (.sq (rg [qF 15 3 1,qL 16 15,qF 17 3 3,
 ZI (.st 1 (.t 17) (.t 16))]) (.sq (rg [qF 18 4 1,qL 19 18,oo 20 (.ca .pure true (.f ZdI) [.t 19]),qF 21 4 3,
 ZI (.st 1 (.t 21) (.t 20))]) (.sq (rg [qF 22 5 1,qL 23 22,oo 24 (.ca .pure true (.f ZdJ) [.t 23]),qF 25 5 3,
 ZI (.st 1 (.t 25) (.t 24))]) (.sq (rg [qS 26 6 3,
 ZI (.st 6 (.t 2) (.t 26))]) (.rt)))))))))) }
theorem Zw1:Zo UbR Zdn Zjz=true:=by kernel_rfl
def ZjA:F2 :=
 { nt:=20,res:=[.t 4 [0]],body:=(.sq (rg [oo 2 (.bt (.t 0)),oo 3 (.bt (.t 1)),om 4 (.k (.bool false))]) (.sq (.sq (rg [qF 5 0 2,qL 6 5,qF 7 0 3,qL 8 7,qB 9 .neq 6 8]) (.cd (.t 9) (.sq (rg [om 4 (.k (.bool false))]) (.rt)) (.sk))) (.sq (.sq (rg [qF 10 1 2,qL 11 10,qF 12 1 3,qL 13 12,qB 14 .neq 11 13]) (.cd (.t 14) (.sq (rg [om 4 (.k (.bool false))]) (.rt)) (.sk))) (.sq (.sq (rg [qF 15 2 2,qL 16 15,qF 17 2 3,qL 18 17,qB 19 .neq 16 18]) (.cd (.t 19) (.sq (rg [om 4 (.k (.bool false))]) (.rt)) (.sk))) (.sq (rg [om 4 (.k (.bool true))]) (.rt)))))) }
theorem Zw2:Zo UbR Zdt ZjA=true:=by kernel_rfl
def ZjB:F2 :=
 { nt:=39,res:=[.t 4 [0]],body:=(.sq (rg [oo 2 (.bt (.t 0)),oo 3 (.bt (.t 1)),om 4 (.k (.bool false))]) (.sq (.sq (rg [qF 5 0 2,qL 6 5,qF 7 0 3,qL 8 7,qB 9 .neq 6 8]) (.cd (.t 9) (.sq (rg [om 4 (.k (.bool false))]) (.rt)) (.sk))) (.sq (.sq (rg [qF 10 1 2,qL 11 10,qF 12 1 3,qL 13 12,oo 14 (.ca .pure false (.f ZdU) [.t 11,.t 13]),oo 15 (.nt (.t 14))]) (.cd (.t 15) (.sq (rg [om 4 (.k (.bool false))]) (.rt)) (.sk))) (.sq (.sq (rg [qF 16 2 2,qL 17 16,qF 18 2 3,qL 19 18,oo 20 (.ca .pure false (.f Wj) [.t 17,.t 19]),oo 21 (.nt (.t 20))]) (.cd (.t 21) (.sq (rg [om 4 (.k (.bool false))]) (.rt)) (.sk))) (.sq (.sq (rg [qF 22 3 2,qL 23 22,qF 24 3 3,qL 25 24,qB 26 .neq 23 25]) (.cd (.t 26) (.sq (rg [om 4 (.k (.bool false))]) (.rt)) (.sk))) (.sq (.sq (rg [qF 27 4 2,qL 28 27,qF 29 4 3,qL 30 29,oo 31 (.ca .pure false (.f ZdV) [.t 28,.t 30]),oo 32 (.nt (.t 31))]) (.cd (.t 32) (.sq (rg [om 4 (.k (.bool false))]) (.rt)) (.sk))) (.sq (.sq (rg [qF 33 5 2,qL 34 33,qF 35 5 3,qL 36 35,oo 37 (.ca .pure false (.f ZdW) [.t 34,.t 36]),oo 38 (.nt (.t 37))]) (.cd (.t 38) (.sq (rg [om 4 (.k (.bool false))]) (.rt)) (.sk))) (.sq (rg [om 4 (.k (.bool true))]) (.rt))))))))) }
theorem Zw3:Zo UbR Zdu ZjB=true:=by kernel_rfl
def ZjC:F2 :=
 { nt:=23,res:=[.t 2 [4]],body:=(.sq (rg [om 2 (.k (.slice none 0 0))]) (.sq (rg [qM 5 0,qN 6 5,oo 7 (.ms 3 [.int .i64 0,.int .i64 0,.slice none 0 0] (.t 6)),qM 3 7]) (.sq (.sq (rg [om 4 (i6 0)]) (.bl 0 (.lp [0,3,4] [224,640] (.sq (.sq (rg [qM 8 4,qM 9 0,qN 10 9,qB 11 .lss 8 10]) (.cd (.t 11) (.sk) (.ex 0))) (.sq (.bl 1 (rg [qM 14 3,qM 15 4,qM 16 0,qM 17 4,qI 18 3 16 17,qS 19 3 18,oo 20 (.ca .pure true (.f Zd0) [.t 19]),qI 21 3 14 15,
 ZI (.st 3 (.t 21) (.t 20))]))
 (rg [qM 12 4,oo 13 (.bi .add 0 (.t 12) (i6 1)),qM 4 13])))))) (.sq (rg [qM 22 3,qM 2 22]) (.rt))))) }
theorem Zw4:Zo UbR ZdH ZjC=true:=by kernel_rfl
def ZjD:F2 :=
 { nt:=23,res:=[.t 2 [3]],body:=(.sq (rg [om 2 (.k (.slice none 0 0))]) (.sq (rg [qM 5 0,qN 6 5,oo 7 (.ms 2 [.string ⟨#[]⟩,.int .i64 0] (.t 6)),qM 3 7]) (.sq (.sq (rg [om 4 (i6 0)]) (.bl 0 (.lp [0,3,4] [224] (.sq (.sq (rg [qM 8 4,qM 9 0,qN 10 9,qB 11 .lss 8 10]) (.cd (.t 11) (.sk) (.ex 0))) (.sq (.bl 1 (rg [qM 14 3,qM 15 4,qM 16 0,qM 17 4,qI 18 2 16 17,qS 19 2 18,oo 20 (.ca .pure true (.f Zd1) [.t 19]),qI 21 2 14 15,
 ZI (.st 2 (.t 21) (.t 20))]))
 (rg [qM 12 4,oo 13 (.bi .add 0 (.t 12) (i6 1)),qM 4 13])))))) (.sq (rg [qM 22 3,qM 2 22]) (.rt))))) }
theorem Zw5:Zo UbR ZdJ ZjD=true:=by kernel_rfl
def ZjE:F2 :=
 { nt:=17,res:=[.t 4 [0]],body:=(.sq (rg [oo 2 (.bt (.t 0)),oo 3 (.bt (.t 1)),om 4 (.k (.bool false))]) (.sq (.sq (rg [om 5 (i6 0)]) (.bl 0 (.lp [2,3,5] [] (.sq (.sq (rg [qM 6 5,oo 7 (.bi .lss 0 (.t 6) (i6 2))]) (.cd (.t 7) (.sk) (.ex 0))) (.sq (.bl 1 (.sq (.rg (some 0) [qM 10 5,oo 11 (.ja 1 2 (.t 2) (.t 10)),qL 12 11,qM 13 5,oo 14 (.ja 1 2 (.t 3) (.t 13)),qL 15 14,qB 16 .neq 12 15]) (.cd (.t 16) (.sq (rg [om 4 (.k (.bool false))]) (.rt)) (.sk))))
 (rg [qM 8 5,oo 9 (.bi .add 0 (.t 8) (i6 1)),qM 5 9])))))) (.sq (rg [om 4 (.k (.bool true))]) (.rt)))) }
theorem Zw6:Zo UbR ZdT ZjE=true:=by kernel_rfl
def ZjF:F2 :=
 { nt:=12,res:=[.t 4 [0]],body:=(.sq (rg [oo 2 (.bt (.t 0)),om 4 (i6 0)]) (.sq (rg [qF 5 2 2,qL 6 5,qM 7 1,oo 8 (.ca .pure false (.f De) [.t 6,.t 7]),qM 1 8]) (.sq (.sq (rg [qM 9 1,oo 10 (.bi .lss 0 (.t 9) (i6 0))]) (.cd (.t 10) (.sq (rg [om 4 (i6 (-1))]) (.rt)) (.sk))) (.sq (rg [qM 11 1,qM 4 11]) (.rt))))) }
theorem Zw7:Zo UbR ZdX ZjF=true:=by kernel_rfl
def ZjG:F2 :=
 { nt:=13,res:=[.t 4 [0]],body:=(.sq (rg [oo 2 (.bt (.t 0)),om 4 (i6 0)]) (.sq (rg [qM 5 1,qF 6 0 2,qL 7 6,oo 8 (.lg (.t 7)),qB 9 .sub 5 8,qM 1 9]) (.sq (.sq (rg [qM 10 1,oo 11 (.bi .lss 0 (.t 10) (i6 0))]) (.cd (.t 11) (.sq (rg [om 4 (i6 (-1))]) (.rt)) (.sk))) (.sq (rg [qM 12 1,qM 4 12]) (.rt))))) }
theorem Zw8:Zo UbR ZdY ZjG=true:=by kernel_rfl
def ZjH:F2 :=
 { nt:=15,res:=[.c 2 (some 3) [0,0,2]],body:=(.sq (rg [oo 1 (.bt (.t 0)),oo 2 (.al [.int .i64 0,.int .i64 0,.slice none 0 0] [])]) (.sq (rg [oo 3 (.al [.int .i64 0,.int .i64 0,.slice none 0 0] [])]) (.sq (rg [qF 4 0 1,qL 5 4,qF 6 0 3,
 ZI (.st 1 (.t 6) (.t 5))]) (.sq (rg [qF 7 1 1,qL 8 7,qF 9 1 3,
 ZI (.st 1 (.t 9) (.t 8))]) (.sq (rg [qF 10 2 1,qL 11 10,oo 12 (.ca .pure true (.f Df) [.t 11]),qF 13 2 3,
 ZI (.st 1 (.t 13) (.t 12))]) (.sq (rg [qS 14 3 3,
 ZI (.st 3 (.t 2) (.t 14))]) (.rt))))))) }
theorem Zw9:Zo UbR Zd0 ZjH=true:=by kernel_rfl
def ZjI:F2 :=
 { nt:=11,res:=[.c 2 (some 2) [0,0]],body:=(.sq (rg [oo 1 (.bt (.t 0)),oo 2 (.al [.string ⟨#[]⟩,.int .i64 0] [])]) (.sq (rg [oo 3 (.al [.string ⟨#[]⟩,.int .i64 0] [])]) (.sq (rg [qF 4 0 1,qL 5 4,qF 6 0 3,
 ZI (.st 1 (.t 6) (.t 5))]) (.sq (rg [qF 7 1 1,qL 8 7,qF 9 1 3,
 ZI (.st 1 (.t 9) (.t 8))]) (.sq (rg [qS 10 2 3,
 ZI (.st 2 (.t 2) (.t 10))]) (.rt)))))) }
theorem Zxa:Zo UbR Zd1 ZjI=true:=by kernel_rfl
def ZjJ:F2 :=
 { nt:=21,res:=[.t 4 [0]],body:=(.sq (rg [oo 2 (.bt (.t 0)),oo 3 (.bt (.t 1)),om 4 (.k (.bool false))]) (.sq (.sq (rg [qF 5 0 2,qL 6 5,qF 7 0 3,qL 8 7,qB 9 .neq 6 8]) (.cd (.t 9) (.sq (rg [om 4 (.k (.bool false))]) (.rt)) (.sk))) (.sq (.sq (rg [qF 10 1 2,qL 11 10,qF 12 1 3,qL 13 12,qB 14 .neq 11 13]) (.cd (.t 14) (.sq (rg [om 4 (.k (.bool false))]) (.rt)) (.sk))) (.sq (.sq (rg [qF 15 2 2,qL 16 15,qF 17 2 3,qL 18 17,oo 19 (.ca .pure false (.f Wj) [.t 16,.t 18]),oo 20 (.nt (.t 19))]) (.cd (.t 20) (.sq (rg [om 4 (.k (.bool false))]) (.rt)) (.sk))) (.sq (rg [om 4 (.k (.bool true))]) (.rt)))))) }
theorem Zxb:Zo UbR Zd4 ZjJ=true:=by kernel_rfl
def ZjK:F2 :=
 { nt:=15,res:=[.t 4 [0]],body:=(.sq (rg [oo 2 (.bt (.t 0)),oo 3 (.bt (.t 1)),om 4 (.k (.bool false))]) (.sq (.sq (rg [qF 5 0 2,qL 6 5,qF 7 0 3,qL 8 7,qB 9 .neq 6 8]) (.cd (.t 9) (.sq (rg [om 4 (.k (.bool false))]) (.rt)) (.sk))) (.sq (.sq (rg [qF 10 1 2,qL 11 10,qF 12 1 3,qL 13 12,qB 14 .neq 11 13]) (.cd (.t 14) (.sq (rg [om 4 (.k (.bool false))]) (.rt)) (.sk))) (.sq (rg [om 4 (.k (.bool true))]) (.rt))))) }
theorem Zxc:Zo UbR Zd5 ZjK=true:=by kernel_rfl
theorem QK{S:Zc}{id i:Zd}{ob:Ob}(h:i≠id):Ze S id ob i=S i:=if_neg h
theorem ZjL{α:Type}{m:α->Int->α}{n:α->Nat}:∀{a:List α} {k:Int} {j:Nat} (h:j<a.length),(mL m n a k)[j]? = some (m a[j] (kJ n a k j))
 | [],_,_,h=>by cases h
 | x::r,k,0,_=>by simp [mL,kJ,nL]
 | x::r,k,j+1,h=>by
  simp only[mL,List.getElem?_cons_succ,List.getElem_cons_succ]
  rw[ZjL (by simpa using h)]
  simp only[kJ,List.take_succ_cons,nL]
  congr 2
  omega
theorem Zev{α:Type}{c:α->List Tr}{m:α->Int->α}{n:α->Nat}{a:List α}{k:Int}{j:Nat}(h:j<a.length):((mL m n a k).map c)[j]? = some (c (m a[j] (kJ n a k j))):=by
 rw[Uan,ZjL h];rfl
theorem JB{α:Type}{c:α->List Tr}{m:α->Int->α}{n:α->Nat}{a:List α}{k:Int}:cut ((mL m n a k).map c) 0 a.length=(mL m n a k).map c:=by
 simp only[cut,Uby]
 exact UaL (by rw[Uab,Jm];exact Uag _)
theorem JC{α:Type}{c:α->List Tr}{a:List α}:cut (a.map c) 0 a.length=a.map c:=by
 simp only[cut,Uby]
 exact UaL (by rw[Uab];exact Uag _)
def YZ(x:TSorting):Nat:=nL ZF x.tops+nL ZM x.nest+nL ZM x.sorts+nL ZF x.most+nL Jl x.apart
theorem Zxd(x:TSorting)(k:Int)(lvl:Nat)(S:Zc)(i1 i2 i3 i4 i5:Zd)(k1 h1 v1 k2 h2 v2 k3 h3 v3 k4 h4 v4 k5 h5 v5:Nat)(c1 c2 c3 c4 c5:Option Nat)(l1:i1.1<lvl)(l2:i2.1<lvl)(l3:i3.1<lvl)(l4:i4.1<lvl)(l5:i5.1<lvl)(n2_1:i2≠i1)(n3_1:i3≠i1)(n3_2:i3≠i2)(n4_1:i4≠i1)(n4_2:i4≠i2)(n4_3:i4≠i3)(n5_1:i5≠i1)(n5_2:i5≠i2)(n5_3:i5≠i3)(n5_4:i5≠i4)(s1:S i1=some (.ar k1 (rI x.tops) true h1 v1))(s2:S i2=some (.ar k2 (x.nest.map (fun l=>[Tr.sl (rI l)])) true h2 v2))(s3:S i3=some (.ar k3 (x.sorts.map (fun l=>[Tr.sl (rI l)])) true h3 v3))(s4:S i4=some (.ar k4 (rI x.most) true h4 v4))(s5:S i5=some (.ar k5 (x.apart.map Zx) true h5 v5))(h0:0<=k)(hk:k+YZ x<=4611686018427387904)(hb:VC 4294967296 x) :
  Sem UbR ZaX lvl [.ag [.hd i1 [] 0 x.tops.length c1 h1,.hd i2 [] 0 x.nest.length c2 h2,.hd i3 [] 0 x.sorts.length c3 h3,.hd i4 [] 0 x.most.length c4 h4,.hd i5 [] 0 x.apart.length c5 h5],iI k] S (iI (k+YZ x)) (Ze (Ze (Ze (Ze (Ze S i1 (.ar k1 (rI (mL Yj ZF x.tops (k))) true h1 v1)) i2 (.ar k2 (((mL YP ZM x.nest (k+(nL ZF x.tops:Nat)))).map (fun l=>[Tr.sl (rI l)])) true h2 v2)) i3 (.ar k3 (((mL YP ZM x.sorts (k+(nL ZF x.tops:Nat)+(nL ZM x.nest:Nat)))).map (fun l=>[Tr.sl (rI l)])) true h3 v3)) i4 (.ar k4 (rI (mL Yj ZF x.most (k+(nL ZF x.tops:Nat)+(nL ZM x.nest:Nat)+(nL ZM x.sorts:Nat)))) true h4 v4)) i5 (.ar k5 (((mL Vp Jl x.apart (k+(nL ZF x.tops:Nat)+(nL ZM x.nest:Nat)+(nL ZM x.sorts:Nat)+(nL ZF x.most:Nat)))).map Zx) true h5 v5)):=by
 obtain⟨b0,b1,b2,b3,b4,b5,b6⟩:=hb
 have e1:i1.1≠lvl:=by omega
 have e2:i2.1≠lvl:=by omega
 have e3:i3.1≠lvl:=by omega
 have e4:i4.1≠lvl:=by omega
 have e5:i5.1≠lvl:=by omega
 simp only[YZ] at hk
 refine Zv ZwB trivial ?_
 simp only[Zjh,ZQ e1,ZQ e2,ZQ e3,ZQ e4,ZQ e5,Zb,seval,Za,men]
 simp only[J2]
 refine Da DI l1 s1 (by omega) (by omega) b0 (fun _ _=>trivial) ?_
 simp only[ZQ e1,ZQ e2,ZQ e3,ZQ e4,ZQ e5,Zb,seval,Za,men]
 simp only[J2]
 refine Da Zeu l2 (by rw[QK n2_1];exact s2) (by omega) (by omega) b1 b2 ?_
 simp only[ZQ e1,ZQ e2,ZQ e3,ZQ e4,ZQ e5,Zb,seval,Za,men]
 simp only[J2]
 refine Da Zeu l3 (by rw[QK n3_2,QK n3_1];exact s3) (by omega) (by omega) b3 b4 ?_
 simp only[ZQ e1,ZQ e2,ZQ e3,ZQ e4,ZQ e5,Zb,seval,Za,men]
 simp only[J2]
 refine Da DI l4 (by rw[QK n4_3,QK n4_2,QK n4_1];exact s4) (by omega) (by omega) b5 (fun _ _=>trivial) ?_
 simp only[ZQ e1,ZQ e2,ZQ e3,ZQ e4,ZQ e5,Zb,seval,Za,men]
 simp only[J2]
 refine Da ZwR l5 (by rw[QK n5_4,QK n5_3,QK n5_2,QK n5_1];exact s5) (by omega) (by omega) b6 (fun _ _=>trivial) ?_
 simp only[ZQ e1,ZQ e2,ZQ e3,ZQ e4,ZQ e5,Zb,seval,Za,men]
 simp only[YZ,Int.natCast_add,<-Uba]
 try exact⟨rfl,rfl⟩
theorem Zxe{x:TSorting}{k:Int}{lvl a1 a2 a3 a4 a5:Nat}{out:Zc}{k1 h1 v1 k2 h2 v2 k3 h3 v3 k4 h4 v4 k5 h5 v5:Nat}{c1 c2 c3 c4 c5:Option Nat}{env:List (Nat×IV)}{loc:List (Nat×Ob)}{d:Option Nat}{K:St->Prop}(n2_1:a2≠a1)(n3_1:a3≠a1)(n3_2:a3≠a2)(n4_1:a4≠a1)(n4_2:a4≠a2)(n4_3:a4≠a3)(n5_1:a5≠a1)(n5_2:a5≠a2)(n5_3:a5≠a3)(n5_4:a5≠a4)(s1:lkO a1 loc=some (.ar k1 (rI x.tops) true h1 v1))(s2:lkO a2 loc=some (.ar k2 (x.nest.map (fun l=>[Tr.sl (rI l)])) true h2 v2))(s3:lkO a3 loc=some (.ar k3 (x.sorts.map (fun l=>[Tr.sl (rI l)])) true h3 v3))(s4:lkO a4 loc=some (.ar k4 (rI x.most) true h4 v4))(s5:lkO a5 loc=some (.ar k5 (x.apart.map Zx) true h5 v5))(h0:0<=k)(hk:k+YZ x<=4611686018427387904)(hb:VC 4294967296 x)
  (hK:K ⟨lvl,ptd d (iI (k+YZ x)) env,(ptO a5 (.ar k5 (((mL Vp Jl x.apart (k+(nL ZF x.tops:Nat)+(nL ZM x.nest:Nat)+(nL ZM x.sorts:Nat)+(nL ZF x.most:Nat)))).map Zx) true h5 v5) (ptO a4 (.ar k4 (rI (mL Yj ZF x.most (k+(nL ZF x.tops:Nat)+(nL ZM x.nest:Nat)+(nL ZM x.sorts:Nat)))) true h4 v4) (ptO a3 (.ar k3 (((mL YP ZM x.sorts (k+(nL ZF x.tops:Nat)+(nL ZM x.nest:Nat)))).map (fun l=>[Tr.sl (rI l)])) true h3 v3) (ptO a2 (.ar k2 (((mL YP ZM x.nest (k+(nL ZF x.tops:Nat)))).map (fun l=>[Tr.sl (rI l)])) true h2 v2) (ptO a1 (.ar k1 (rI (mL Yj ZF x.tops (k))) true h1 v1) loc))))),out⟩) :
  QB (Sem UbR) ZaX true lvl env loc out d K [.ag [.hd (lvl,a1) [] 0 x.tops.length c1 h1,.hd (lvl,a2) [] 0 x.nest.length c2 h2,.hd (lvl,a3) [] 0 x.sorts.length c3 h3,.hd (lvl,a4) [] 0 x.most.length c4 h4,.hd (lvl,a5) [] 0 x.apart.length c5 h5],iI k]:=by
 refine W3 (r:=iI (k+YZ x)) (ptO a5 (.ar k5 (((mL Vp Jl x.apart (k+(nL ZF x.tops:Nat)+(nL ZM x.nest:Nat)+(nL ZM x.sorts:Nat)+(nL ZF x.most:Nat)))).map Zx) true h5 v5) (ptO a4 (.ar k4 (rI (mL Yj ZF x.most (k+(nL ZF x.tops:Nat)+(nL ZM x.nest:Nat)+(nL ZM x.sorts:Nat)))) true h4 v4) (ptO a3 (.ar k3 (((mL YP ZM x.sorts (k+(nL ZF x.tops:Nat)+(nL ZM x.nest:Nat)))).map (fun l=>[Tr.sl (rI l)])) true h3 v3) (ptO a2 (.ar k2 (((mL YP ZM x.nest (k+(nL ZF x.tops:Nat)))).map (fun l=>[Tr.sl (rI l)])) true h2 v2) (ptO a1 (.ar k1 (rI (mL Yj ZF x.tops (k))) true h1 v1) loc))))) out (fun _ _=>rfl) ?_ ⟨trivial,hK⟩
 rw[Q9,Q9,Q9,Q9,Q9]
 exact Zxd x k (lvl+1) _ (lvl,a1) (lvl,a2) (lvl,a3) (lvl,a4) (lvl,a5) k1 h1 v1 k2 h2 v2 k3 h3 v3 k4 h4 v4 k5 h5 v5 c1 c2 c3 c4 c5 (Uav _) (Uav _) (Uav _) (Uav _) (Uav _) (fun e=>n2_1 (congrArg Prod.snd e)) (fun e=>n3_1 (congrArg Prod.snd e)) (fun e=>n3_2 (congrArg Prod.snd e)) (fun e=>n4_1 (congrArg Prod.snd e)) (fun e=>n4_2 (congrArg Prod.snd e)) (fun e=>n4_3 (congrArg Prod.snd e)) (fun e=>n5_1 (congrArg Prod.snd e)) (fun e=>n5_2 (congrArg Prod.snd e)) (fun e=>n5_3 (congrArg Prod.snd e)) (fun e=>n5_4 (congrArg Prod.snd e)) (by rw[Z8];exact s1) (by rw[Z8];exact s2) (by rw[Z8];exact s3) (by rw[Z8];exact s4) (by rw[Z8];exact s5) h0 hk hb
def Wy(x:TSorting)(k:Int):TSorting:={ x with tops:=mL Yj ZF x.tops (k),nest:=mL YP ZM x.nest (k+(nL ZF x.tops:Nat)),sorts:=mL YP ZM x.sorts (k+(nL ZF x.tops:Nat)+(nL ZM x.nest:Nat)),most:=mL Yj ZF x.most (k+(nL ZF x.tops:Nat)+(nL ZM x.nest:Nat)+(nL ZM x.sorts:Nat)),apart:=mL Vp Jl x.apart (k+(nL ZF x.tops:Nat)+(nL ZM x.nest:Nat)+(nL ZM x.sorts:Nat)+(nL ZF x.most:Nat)) }
theorem Zew(a:List Int)(k:Int)(hl:a.length<=4294967296)(h0:0<=k)(hk:k+nL ZF a<=4611686018427387904)(lvl:Nat)(S:Zc):Sem UbR Di lvl [.tr (.sl (rI (mL Yj ZF a k))),iI k] S (iI (k+nL ZF a)) S:=by
 refine Zv ZwJ trivial ?_
 simp only[Zjp,Zb,seval,Za,men]
 refine Jf (α:=Unit) a.length (fun j _=>⟨lvl,[(0,.tr (.sl (rI (mL Yj ZF a k)))),(1,iI (kJ ZF a k j)),(5,iI j)],[],S⟩) (fun _ _=>True) () ⟨by simp only[Zb,seval,Za,men],by (simp only[Qg,Zb,seval,Za,men]) <;> rfl⟩ trivial ?_
 intro j _ hj _
 simp only[Uab,Jm,Zb,seval,Za,men]
 refine Zl (fun hlt=>?_) (fun hge=>?_)
 ·have hja:j<a.length:=by omega
  have ga:=Zev (c:=(fun n:Int=>[tv n])) (m:=Yj) (n:=ZF) (k:=k) hja
  have hge2:=Qi ZF (a:=a) (k:=k) (j:=j+1)
  rw[Yg ZF hja] at hge2
  have hge3:=Qj ZF (a:=a) (k:=k) (j:=j)
  try simp only[ZF] at hge2
  simp only[ga,Yj,XW,Uap,hja,ne_eq,not_true_eq_false,Zb,seval,Za,men]
  refine⟨by rw[Zh];omega,⟨by rw[Zh];omega,Zr () hja ?_ trivial⟩⟩
  rw[Yg ZF hja]
  simp only[ZF,Int.natCast_add,Int.natCast_one,Uba]
  try rfl
 ·have:j=a.length:=by omega
  subst this
  rw[Qh]
theorem ZjM(a:List (List Int))(k:Int)(hl:a.length<=4294967296)(hB:∀ x∈a,(fun x=>x.length<=4294967296) x)(h0:0<=k)(hk:k+nL ZM a<=4611686018427387904)(lvl:Nat)(S:Zc):Sem UbR Za4 lvl [.tr (.sl (((mL YP ZM a k)).map (fun l=>[Tr.sl (rI l)]))),iI k] S (iI (k+nL ZM a)) S:=by
 refine Zv ZwK trivial ?_
 simp only[Zjq,Zb,seval,Za,men]
 refine Jf (α:=Unit) a.length (fun j _=>⟨lvl,[(0,.tr (.sl (((mL YP ZM a k)).map (fun l=>[Tr.sl (rI l)])))),(1,iI (kJ ZM a k j)),(5,iI j)],[],S⟩) (fun _ _=>True) () ⟨by simp only[Zb,seval,Za,men],by (simp only[Qg,Zb,seval,Za,men]) <;> rfl⟩ trivial ?_
 intro j _ hj _
 simp only[Uab,Jm,Zb,seval,Za,men]
 refine Zl (fun hlt=>?_) (fun hge=>?_)
 ·have hja:j<a.length:=by omega
  have ga:=Zev (c:=(fun l=>[Tr.sl (rI l)])) (m:=YP) (n:=ZM) (k:=k) hja
  have hge2:=Qi ZM (a:=a) (k:=k) (j:=j+1)
  rw[Yg ZM hja] at hge2
  have hge3:=Qj ZM (a:=a) (k:=k) (j:=j)
  try simp only[ZM] at hge2
  have hb:=hB _ (Ual hja)
  simp only[ga,YP,Yj,XW,Uap,hja,ne_eq,not_true_eq_false,Zb,seval,Za,men]
  refine Zi (Zew (a[j]) (kJ ZM a k j) hb (by omega) (by omega)) ?_
  have hz0:¬ (kJ ZM a k j+(nL ZF (a[j]):Nat)<0):=by omega
  simp only[ga,YP,Yj,XW,Uap,hja,ne_eq,not_true_eq_false,hz0,Zb,seval,Za,men]
  refine⟨by rw[Zh];omega,Zr () hja ?_ trivial⟩
  rw[Yg ZM hja]
  simp only[ZM,Int.natCast_add,Int.natCast_one,Uba]
  try rfl
 ·have:j=a.length:=by omega
  subst this
  rw[Qh]
theorem Zxf(a:List (Int×Int))(k:Int)(hl:a.length<=4294967296)(h0:0<=k)(hk:k+nL Jl a<=4611686018427387904)(lvl:Nat)(S:Zc):Sem UbR Zdz lvl [.tr (.sl (((mL Vp Jl a k)).map Zx)),iI k] S (iI (k+nL Jl a)) S:=by
 refine Zv ZwL trivial ?_
 simp only[Zjr,Zb,seval,Za,men]
 refine Jf (α:=Unit) a.length (fun j _=>⟨lvl,[(0,.tr (.sl (((mL Vp Jl a k)).map Zx))),(1,iI (kJ Jl a k j)),(5,iI j)],[],S⟩) (fun _ _=>True) () ⟨by simp only[Zb,seval,Za,men],by (simp only[Qg,Zb,seval,Za,men]) <;> rfl⟩ trivial ?_
 intro j _ hj _
 simp only[Uab,Jm,Zb,seval,Za,men]
 refine Zl (fun hlt=>?_) (fun hge=>?_)
 ·have hja:j<a.length:=by omega
  have ga:=Zev (c:=Zx) (m:=Vp) (n:=Jl) (k:=k) hja
  have hge2:=Qi Jl (a:=a) (k:=k) (j:=j+1)
  rw[Yg Jl hja] at hge2
  have hge3:=Qj Jl (a:=a) (k:=k) (j:=j)
  try simp only[Jl] at hge2
  try simp only[ga,Uap,hja,Zb,seval,Za,men]
  refine Jf (α:=Unit) 2 (fun i _=>⟨lvl,[(0,.tr (.sl (((mL Vp Jl a k)).map Zx))),(1,iI (kJ Jl a k j+i)),(5,iI j),(6,iI i)],[],S⟩) (fun _ _=>True) () ⟨by simp only[Zb,seval,Za,men],by (simp only[Int.natCast_zero,Int.add_zero,Zb,seval,Za,men]) <;> rfl⟩ trivial ?_
  intro i _ hi _
  have hc:i=0\/i=1\/i=2:=by omega
  rcases hc with rfl | rfl | rfl
  ·simp only[ga,Zx,Vp,Uap,hja,Int.cast_ofNat_Int,Int.natCast_zero,Nat.zero_mul,Ubh,Nat.mul_one,Int.add_zero,Int.natCast_one,Int.reduceAdd,Ua4,UaE,Nat.zero_lt_one,Nat.reduceAdd,ne_eq,not_true_eq_false,Zb,↓reduceIte,Nat.reduceEqDiff,Nat.reduceMul,reduceCtorEq,Nat.reduceSub,Nat.reduceLeDiff,Nat.reduceLT,Int.reduceToNat,Int.reduceLE,Int.reduceLT,Za,men]
   refine⟨by rw[Zh];omega,by rw[Zh];omega,Zr (N:=2) (k:=0) () (by omega) ?_ trivial⟩
   rw[show kJ Jl a k j+1=kJ Jl a k j+((1:Nat):Int) from by omega]
   rfl
  ·simp only[ga,Zx,Vp,Uap,hja,Int.cast_ofNat_Int,Int.natCast_zero,Nat.zero_mul,Ubh,Nat.mul_one,Int.add_zero,Int.natCast_one,Int.reduceAdd,Ua4,UaE,Nat.zero_lt_one,Nat.reduceAdd,ne_eq,not_true_eq_false,Zb,↓reduceIte,Nat.reduceEqDiff,Nat.reduceMul,reduceCtorEq,Nat.reduceSub,Nat.reduceLeDiff,Nat.reduceLT,Int.reduceToNat,Int.reduceLE,Int.reduceLT,Za,men]
   refine⟨by rw[Zh];omega,by rw[Zh];omega,Zr (N:=2) (k:=1) () (by omega) ?_ trivial⟩
   rw[show kJ Jl a k j+1+1=kJ Jl a k j+((2:Nat):Int) from by omega]
   rfl
  ·simp only[ga,Zx,Vp,Uap,hja,Int.cast_ofNat_Int,Int.natCast_zero,Nat.zero_mul,Ubh,Nat.mul_one,Int.add_zero,Int.natCast_one,Int.reduceAdd,Ua4,UaE,Nat.zero_lt_one,Nat.reduceAdd,ne_eq,not_true_eq_false,Zb,↓reduceIte,Nat.reduceEqDiff,Nat.reduceMul,reduceCtorEq,Nat.reduceSub,Nat.reduceLeDiff,Nat.reduceLT,Int.reduceToNat,Int.reduceLE,Int.reduceLT,Za,men]
   refine⟨by rw[Zh];omega,Zr () hja ?_ trivial⟩
   rw[Yg Jl hja]
   rfl
 ·have:j=a.length:=by omega
  subst this
  rw[Qh]
theorem ZjN(x:TSorting)(k:Int)(hb:VC 4294967296 x)(h0:0<=k)(hk:k+YZ x<=4611686018427387904)(lvl:Nat)(S:Zc):Sem UbR ZaY lvl [.ag ((ZJ (Wy x k)).map .tr),iI k] S (iI (k+YZ x)) S:=by
 obtain⟨b0,b1,b2,b3,b4,b5,b6⟩:=hb
 simp only[YZ] at hk
 refine Zv ZwC trivial ?_
 simp only[Zji,ZJ,Wy,Zb,seval,Za,men]
 refine Zi (Zew x.tops (k) b0 (by omega) (by omega)) ?_
 have hz0:¬ (k+(nL ZF x.tops:Nat)<0):=by omega
 simp only[ZJ,Wy,hz0,Zb,seval,Za,men]
 refine Zi (ZjM x.nest (k+(nL ZF x.tops:Nat)) b1 b2 (by omega) (by omega)) ?_
 have hz1:¬ (k+(nL ZF x.tops:Nat)+(nL ZM x.nest:Nat)<0):=by omega
 simp only[ZJ,Wy,hz1,Zb,seval,Za,men]
 refine Zi (ZjM x.sorts (k+(nL ZF x.tops:Nat)+(nL ZM x.nest:Nat)) b3 b4 (by omega) (by omega)) ?_
 have hz2:¬ (k+(nL ZF x.tops:Nat)+(nL ZM x.nest:Nat)+(nL ZM x.sorts:Nat)<0):=by omega
 simp only[ZJ,Wy,hz2,Zb,seval,Za,men]
 refine Zi (Zew x.most (k+(nL ZF x.tops:Nat)+(nL ZM x.nest:Nat)+(nL ZM x.sorts:Nat)) b5 (by omega) (by omega)) ?_
 have hz3:¬ (k+(nL ZF x.tops:Nat)+(nL ZM x.nest:Nat)+(nL ZM x.sorts:Nat)+(nL ZF x.most:Nat)<0):=by omega
 simp only[ZJ,Wy,hz3,Zb,seval,Za,men]
 refine Zi (Zxf x.apart (k+(nL ZF x.tops:Nat)+(nL ZM x.nest:Nat)+(nL ZM x.sorts:Nat)+(nL ZF x.most:Nat)) b6 (by omega) (by omega)) ?_
 have hz4:¬ (k+(nL ZF x.tops:Nat)+(nL ZM x.nest:Nat)+(nL ZM x.sorts:Nat)+(nL ZF x.most:Nat)+(nL Jl x.apart:Nat)<0):=by omega
 simp only[ZJ,Wy,hz4,Zb,seval,Za,men]
 simp only[YZ,Int.natCast_add,<-Uba]
theorem Zex:∀(l:List Int),nL ZF l=l.length
 | []=>rfl
 | x::r=>by simp only[nL,List.length_cons,Zex r,ZF];omega
theorem ZjO{α:Type}{n:α->Nat}{B:Nat}:∀(l:List α),(∀ x∈l,n x<=B)->nL n l<=l.length*B
 | [],_=>Ubg _
 | x::r,h=>by
  have h1:=h x (by simp)
  have h2:=ZjO r (fun y hy=>h y (by simp [hy]))
  simp only[nL,List.length_cons,UaJ]
  omega
theorem ZjP{B:Nat}(l:List (List Int))(h:∀ x∈l,x.length<=B):nL ZM l<=l.length*B:=ZjO l fun x hx=>by simp only[ZM,Zex];exact h x hx
theorem Zxg(x:TControl):Zq 256 (fun l=>YC x l) (Y8 x):=Xa (Wi (by omega) (by omega) (Zha x.name.size) ZaR) (by simp only[Y8];omega)
theorem Zxh(x:TNode):Zq 256 (fun l=>VS x l) (Yw x):=Xa (Wi (by omega) (by omega) (Zc4 ZF (fun _=>(by decide:1<=256)) x.links) ZaR) (by simp only[Yw];omega)
theorem Zxi(x:TWire):Zq 256 (fun l=>VT x l) (YY x):=Xa (Wi (by omega) (by omega) (Zha x.name.size) ZaR) (by simp only[YY];omega)
theorem Zxj(x:TBigraph):Zq 256 (fun l=>VU x l) (Vq x):=Xa (Wi (by omega) (by omega) (Uc (n:=Yw) (fun y=>Xa (Zxh y) (by omega)) x.nodes) (Wi (by omega) (by omega) (Zc4 ZF (fun _=>(by decide:1<=256)) x.sites) (Wi (by omega) (by omega) (Uc (n:=Y7) (fun y=>Zus y.size) x.outer) (Wi (by omega) (by omega) (Uc (n:=YY) (fun y=>Xa (Zxi y) (by omega)) x.inner) ZaR)))) (by simp only[Vq];omega)
theorem Zxk{n:Nat}{l:Int}(h:0<=l):Yf n l<=l:=by unfold Yf;split <;> omega
theorem ZjQ{α:Type}{f:α->Int->Int}:∀(a:List α) (l:Int),(∀ x∈a,∀ l:Int,0<=l->l<=1048576->f x l<=l)->0<=l->l<=1048576->J5 f a l<=l
 | [],l,_,_,_=>Ubd l
 | x::r,l,hf,h0,h1=>by
  simp only[J5]
  have:=hf x (by simp) l h0 h1
  split
  ·omega
  ·have h2:=ZjQ r (f x l) (fun y hy=>hf y (by simp [hy])) (by omega) (by omega)
   omega
theorem Uq{α:Type}{f:α->Int->Int}(a:List α){l:Int}(hf:∀ x∈a,∀ l:Int,0<=l->l<=1048576->f x l<=l)(h0:0<=l)(h1:l<=1048576):Jn f a l<=l:=by
 unfold Jn
 split
 ·omega
 ·have:=ZjQ a (l-a.length) hf (by omega) (by omega)
  omega
theorem Wz{l m:Int}{g:Int->Int}(h0:0<=l)(h:m<=l)(hg:0<=m->g m<=m):JM m g<=l:=by
 unfold JM
 split
 ·omega
 ·have:=hg (by omega)
  omega
theorem ZjR(x:TControl)(hb:Yd 9223372036854775807 x)(l:Int)(h0:0<=l)(h1:l<=1048576):YC x l<=l/\∀ lvl S,Sem UbR Zdf lvl [.ag ((ZB x).map .tr),iI l] S (iI (YC x l)) S:=by
 have b0:x.name.size<=9223372036854775807:=hb
 refine⟨?_,fun lvl S=>?_⟩
 ·unfold YC
  refine Wz h0 (m:=l-x.name.size) (by omega) (fun p0=>?_)
  have r0:_<=(1048576:Int):=Int.le_trans (show l-x.name.size<=l by omega) h1
  exact Ubd _
 ·refine Zv ZwY trivial ?_
  simp only[Zjw,ZB,UaB,UaX,Zb,seval,Za,men]
  unfold YC
  refine⟨by rw[Zh];omega,?_⟩
  obtain⟨l1,hl1⟩:∃ m:Int,m=l-x.name.size:=⟨_,rfl⟩
  have u1:l1<=l:=by omega
  rw[<-hl1]
  split
  ·rename_i hn;rw[JM,if_pos hn]
  rename_i hn0
  rw[JM,if_neg hn0]
theorem Zxl:Zo UbR Zc7 (Q8 3 (some 3) Zdf)=true:=by kernel_rfl
theorem Zxm(a:List TControl)(hl:a.length<=9223372036854775807)(hb:∀ y∈a,Yd 9223372036854775807 y)(l:Int)(h0:0<=l)(h1:l<=1048576):Jn YC a l<=l/\∀ lvl S,Sem UbR Zc7 lvl [.tr (.sl (a.map ZB)),iI l] S (iI (Jn YC a l)) S :=
 ⟨Uq a (fun x hx l h0 h1=>(ZjR x (hb x hx) l h0 h1).1) h0 h1,fun lvl S=>ZaN Zxl ZB YC Zhc a l hl h0 h1 (fun x hx l h0 h1=>ZjR x (hb x hx) l h0 h1) lvl S⟩
theorem Zxn:Zo UbR De sz0=true:=by kernel_rfl
theorem Ur(a:List Int)(hl:a.length<=9223372036854775807)(l:Int)(h0:0<=l)(h1:l<=1048576):Yf a.length l<=l/\∀ lvl S,Sem UbR De lvl [.tr (.sl (rI a)),iI l] S (iI (Yf a.length l)) S:=by
 refine⟨Zxk h0,fun lvl S=>?_⟩
 have:=Zug Zxn (rI a) l (by simpa using hl) h0 h1 lvl S
 simpa using this
theorem ZjS(x:TNode)(hb:VQ 9223372036854775807 x)(l:Int)(h0:0<=l)(h1:l<=1048576):VS x l<=l/\∀ lvl S,Sem UbR ZdX lvl [.ag ((ZH x).map .tr),iI l] S (iI (VS x l)) S:=by
 have b0:x.links.length<=9223372036854775807:=hb
 refine⟨?_,fun lvl S=>?_⟩
 ·unfold VS
  have q0:=Ur x.links b0 _ h0 h1
  refine Wz h0 q0.1 (fun p0=>?_)
  have r0:_<=(1048576:Int):=Int.le_trans q0.1 h1
  exact Ubd _
 ·refine Zv Zw7 trivial ?_
  simp only[ZjF,ZH,UaB,UaX,Zb,seval,Za,men]
  unfold VS
  have q0:=Ur x.links b0 l h0 h1
  refine Zi q0.2 ?_
  simp only[Zb,seval,Za,men]
  obtain⟨l1,hl1⟩:∃ m:Int,m=(Yf x.links.length l):=⟨_,rfl⟩
  have u1:l1<=l:=by rw[hl1];exact q0.1
  rw[<-hl1]
  split
  ·rename_i hn;rw[JM,if_pos hn]
  rename_i hn0
  rw[JM,if_neg hn0]
theorem Zxo:Zo UbR ZdA (Q8 3 (some 3) ZdX)=true:=by kernel_rfl
theorem ZjT(a:List TNode)(hl:a.length<=9223372036854775807)(hb:∀ y∈a,VQ 9223372036854775807 y)(l:Int)(h0:0<=l)(h1:l<=1048576):Jn VS a l<=l/\∀ lvl S,Sem UbR ZdA lvl [.tr (.sl (a.map ZH)),iI l] S (iI (Jn VS a l)) S :=
 ⟨Uq a (fun x hx l h0 h1=>(ZjS x (hb x hx) l h0 h1).1) h0 h1,fun lvl S=>ZaN Zxo ZH VS Zut a l hl h0 h1 (fun x hx l h0 h1=>ZjS x (hb x hx) l h0 h1) lvl S⟩
theorem ZjU(x:TWire)(hb:VB 9223372036854775807 x)(l:Int)(h0:0<=l)(h1:l<=1048576):VT x l<=l/\∀ lvl S,Sem UbR ZdY lvl [.ag ((Jc x).map .tr),iI l] S (iI (VT x l)) S:=by
 have b0:x.name.size<=9223372036854775807:=hb
 refine⟨?_,fun lvl S=>?_⟩
 ·unfold VT
  refine Wz h0 (m:=l-x.name.size) (by omega) (fun p0=>?_)
  have r0:_<=(1048576:Int):=Int.le_trans (show l-x.name.size<=l by omega) h1
  exact Ubd _
 ·refine Zv Zw8 trivial ?_
  simp only[ZjG,Jc,UaB,UaX,Zb,seval,Za,men]
  unfold VT
  refine⟨by rw[Zh];omega,?_⟩
  obtain⟨l1,hl1⟩:∃ m:Int,m=l-x.name.size:=⟨_,rfl⟩
  have u1:l1<=l:=by omega
  rw[<-hl1]
  split
  ·rename_i hn;rw[JM,if_pos hn]
  rename_i hn0
  rw[JM,if_neg hn0]
theorem Zxp:Zo UbR ZdC (Q8 2 (some 2) ZdY)=true:=by kernel_rfl
theorem ZjV(a:List TWire)(hl:a.length<=9223372036854775807)(hb:∀ y∈a,VB 9223372036854775807 y)(l:Int)(h0:0<=l)(h1:l<=1048576):Jn VT a l<=l/\∀ lvl S,Sem UbR ZdC lvl [.tr (.sl (a.map Jc)),iI l] S (iI (Jn VT a l)) S :=
 ⟨Uq a (fun x hx l h0 h1=>(ZjU x (hb x hx) l h0 h1).1) h0 h1,fun lvl S=>ZaN Zxp Jc VT Zuu a l hl h0 h1 (fun x hx l h0 h1=>ZjU x (hb x hx) l h0 h1) lvl S⟩
theorem Zxq:Zo UbR ZdB ZcY=true:=by kernel_rfl
theorem ZjW(a:List ByteArray)(hl:a.length<=9223372036854775807)(hb:∀ y∈a,y.size<=9223372036854775807)(l:Int)(h0:0<=l)(h1:l<=1048576):Jn (fun x m=>m-x.size) a l<=l/\∀ lvl S,Sem UbR ZdB lvl [tS a,iI l] S (iI (Jn (fun x m=>m-x.size) a l)) S :=
 ⟨Uq a (fun x _ l _ _=>by omega) h0 h1,fun lvl S=>Zuh Zxq a l hl h0 h1 hb lvl S⟩
theorem ZjX(x:TBigraph)(hb:YD 9223372036854775807 x)(l:Int)(h0:0<=l)(h1:l<=1048576):VU x l<=l/\∀ lvl S,Sem UbR Zdg lvl [.ag ((Zk x).map .tr),iI l] S (iI (VU x l)) S:=by
 obtain⟨b0,b1,b2,b3,b4,b5,b6⟩:=hb
 refine⟨?_,fun lvl S=>?_⟩
 ·unfold VU
  have q0:=ZjT x.nodes b0 b1 _ h0 h1
  refine Wz h0 q0.1 (fun p0=>?_)
  have r0:_<=(1048576:Int):=Int.le_trans q0.1 h1
  have q1:=Ur x.sites b2 _ p0 r0
  refine Wz p0 q1.1 (fun p1=>?_)
  have r1:_<=(1048576:Int):=Int.le_trans q1.1 r0
  have q2:=ZjW x.outer b3 b4 _ p1 r1
  refine Wz p1 q2.1 (fun p2=>?_)
  have r2:_<=(1048576:Int):=Int.le_trans q2.1 r1
  have q3:=ZjV x.inner b5 b6 _ p2 r2
  refine Wz p2 q3.1 (fun p3=>?_)
  have r3:_<=(1048576:Int):=Int.le_trans q3.1 r2
  exact Ubd _
 ·refine Zv ZwZ trivial ?_
  simp only[Zjx,Zk,UaB,UaX,Zb,seval,Za,men]
  unfold VU
  have q0:=ZjT x.nodes b0 b1 l h0 h1
  refine Zi q0.2 ?_
  simp only[Zb,seval,Za,men]
  obtain⟨l1,hl1⟩:∃ m:Int,m=(Jn VS x.nodes l):=⟨_,rfl⟩
  have u1:l1<=l:=by rw[hl1];exact q0.1
  rw[<-hl1]
  split
  ·rename_i hn;rw[JM,if_pos hn]
  rename_i hn0
  rw[JM,if_neg hn0]
  have q1:=Ur x.sites b2 l1 (show 0<=l1 by omega) (show l1<=1048576 by omega)
  refine Zi q1.2 ?_
  simp only[Zb,seval,Za,men]
  obtain⟨l2,hl2⟩:∃ m:Int,m=(Yf x.sites.length l1):=⟨_,rfl⟩
  have u2:l2<=l1:=by rw[hl2];exact q1.1
  rw[<-hl2]
  split
  ·rename_i hn;rw[JM,if_pos hn]
  rename_i hn1
  rw[JM,if_neg hn1]
  have q2:=ZjW x.outer b3 b4 l2 (show 0<=l2 by omega) (show l2<=1048576 by omega)
  refine Zi q2.2 ?_
  simp only[Zb,seval,Za,men]
  obtain⟨l3,hl3⟩:∃ m:Int,m=(Jn (fun x m=>m-x.size) x.outer l2):=⟨_,rfl⟩
  have u3:l3<=l2:=by rw[hl3];exact q2.1
  rw[<-hl3]
  split
  ·rename_i hn;rw[JM,if_pos hn]
  rename_i hn2
  rw[JM,if_neg hn2]
  have q3:=ZjV x.inner b5 b6 l3 (show 0<=l3 by omega) (show l3<=1048576 by omega)
  refine Zi q3.2 ?_
  simp only[Zb,seval,Za,men]
  obtain⟨l4,hl4⟩:∃ m:Int,m=(Jn VT x.inner l3):=⟨_,rfl⟩
  have u4:l4<=l3:=by rw[hl4];exact q3.1
  rw[<-hl4]
  split
  ·rename_i hn;rw[JM,if_pos hn]
  rename_i hn3
  rw[JM,if_neg hn3]
theorem Zxr:Zo UbR Zc9 (Q8 6 (some 6) Zdg)=true:=by kernel_rfl
theorem Zxs(a:List TBigraph)(hl:a.length<=9223372036854775807)(hb:∀ y∈a,YD 9223372036854775807 y)(l:Int)(h0:0<=l)(h1:l<=1048576):Jn VU a l<=l/\∀ lvl S,Sem UbR Zc9 lvl [.tr (.sl (a.map Zk)),iI l] S (iI (Jn VU a l)) S :=
 ⟨Uq a (fun x hx l h0 h1=>(ZjX x (hb x hx) l h0 h1).1) h0 h1,fun lvl S=>ZaN Zxr Zk VU Zuv a l hl h0 h1 (fun x hx l h0 h1=>ZjX x (hb x hx) l h0 h1) lvl S⟩
theorem Zxt:Zo UbR Zc8 (Q8 1 none De)=true:=by kernel_rfl
theorem Zxu(a:(List (List Int)))(hl:a.length<=9223372036854775807)(hb:∀ y∈a,y.length<=9223372036854775807)(l:Int)(h0:0<=l)(h1:l<=1048576):Jn (fun x m=>(Yf x.length m)) a l<=l/\∀ lvl S,Sem UbR Zc8 lvl [.tr (.sl (a.map (fun l=>[Tr.sl (rI l)]))),iI l] S (iI (Jn (fun x m=>(Yf x.length m)) a l)) S :=
 ⟨Uq a (fun x hx l h0 h1=>(Ur x (hb x hx) l h0 h1).1) h0 h1,fun lvl S=>Zum Zxt (fun l=>Tr.sl (rI l)) (fun x m=>(Yf x.length m)) a l hl h0 h1 (fun x hx l h0 h1=>Ur x (hb x hx) l h0 h1) lvl S⟩
theorem Zxv(x y:TControl)(hb:Yd 9223372036854775807 x)(lvl:Nat)(S:Zc):Sem UbR Zdt lvl [.ag ((ZB x).map .tr),.ag ((ZB y).map .tr)] S (iB (decide (x=y))) S:=by
 have b0:x.name.size<=9223372036854775807:=hb
 refine Zv Zw2 trivial ?_
 simp only[ZjA,ZB,UaB,UaX,Zb,seval,Za,men]
 refine Zl (fun hne=>?_) (fun heq0=>?_)
 ·have:¬ x=y:=fun e=>(by rw[e] at hne;simp at hne)
  simp [this]
 refine Zl (fun hne=>?_) (fun heq1=>?_)
 ·have:¬ x=y:=fun e=>(by rw[e] at hne;simp at hne)
  simp [this]
 refine Zl (fun hne=>?_) (fun heq2=>?_)
 ·have:¬ x=y:=fun e=>(by rw[e] at hne;simp at hne)
  simp [this]
 have:x=y:=by
  cases x;cases y;simp_all
 simp [this]
theorem Zxw:Zo UbR Zdb (QF 3 (some 3) Zdt)=true:=by kernel_rfl
theorem Zxx(a b:(List TControl))(ha:a.length<=9223372036854775807)(ha2:∀ y∈a,Yd 9223372036854775807 y)(lvl:Nat)(S:Zc):Sem UbR Zdb lvl [.tr (.sl (a.map ZB)),.tr (.sl (b.map ZB))] S (iB (decide (a=b))) S :=
 U8 Zxw ZB (fun _=>rfl) a b ha (fun x hx y _ lvl S=>Zxv x y (ha2 x hx) lvl S) lvl S
theorem Zxy:Zo UbR Wj W7=true:=by kernel_rfl
theorem DL(a b:(List Int))(ha:a.length<=9223372036854775807)(lvl:Nat)(S:Zc):Sem UbR Wj lvl [.tr (.sl (rI a)),.tr (.sl (rI b))] S (iB (decide (a=b))) S:=Zui Zxy a b ha lvl S
theorem Zxz(x y:TNode)(hb:VQ 9223372036854775807 x)(lvl:Nat)(S:Zc):Sem UbR Zd4 lvl [.ag ((ZH x).map .tr),.ag ((ZH y).map .tr)] S (iB (decide (x=y))) S:=by
 have b0:x.links.length<=9223372036854775807:=hb
 refine Zv Zxb trivial ?_
 simp only[ZjJ,ZH,UaB,UaX,Zb,seval,Za,men]
 refine Zl (fun hne=>?_) (fun heq0=>?_)
 ·have:¬ x=y:=fun e=>(by rw[e] at hne;simp at hne)
  simp [this]
 refine Zl (fun hne=>?_) (fun heq1=>?_)
 ·have:¬ x=y:=fun e=>(by rw[e] at hne;simp at hne)
  simp [this]
 refine Zi (DL x.links y.links b0) ?_
 simp only[Uar,Zb,seval,Za,men]
 refine Zl (fun hne=>?_) (fun heq2=>?_)
 ·have:¬ x=y:=fun e=>(by rw[e] at hne;simp at hne)
  simp [this]
 have:x=y:=by
  cases x;cases y;simp_all
 simp [this]
theorem ZxA:Zo UbR ZdU (QF 3 (some 3) Zd4)=true:=by kernel_rfl
theorem ZxB(a b:(List TNode))(ha:a.length<=9223372036854775807)(ha2:∀ y∈a,VQ 9223372036854775807 y)(lvl:Nat)(S:Zc):Sem UbR ZdU lvl [.tr (.sl (a.map ZH)),.tr (.sl (b.map ZH))] S (iB (decide (a=b))) S :=
 U8 ZxA ZH (fun _=>rfl) a b ha (fun x hx y _ lvl S=>Zxz x y (ha2 x hx) lvl S) lvl S
theorem ZxC(x y:TWire)(hb:VB 9223372036854775807 x)(lvl:Nat)(S:Zc):Sem UbR Zd5 lvl [.ag ((Jc x).map .tr),.ag ((Jc y).map .tr)] S (iB (decide (x=y))) S:=by
 have b0:x.name.size<=9223372036854775807:=hb
 refine Zv Zxc trivial ?_
 simp only[ZjK,Jc,UaB,UaX,Zb,seval,Za,men]
 refine Zl (fun hne=>?_) (fun heq0=>?_)
 ·have:¬ x=y:=fun e=>(by rw[e] at hne;simp at hne)
  simp [this]
 refine Zl (fun hne=>?_) (fun heq1=>?_)
 ·have:¬ x=y:=fun e=>(by rw[e] at hne;simp at hne)
  simp [this]
 have:x=y:=by
  cases x;cases y;simp_all
 simp [this]
theorem ZxD:Zo UbR ZdW (QF 2 (some 2) Zd5)=true:=by kernel_rfl
theorem ZxE(a b:(List TWire))(ha:a.length<=9223372036854775807)(ha2:∀ y∈a,VB 9223372036854775807 y)(lvl:Nat)(S:Zc):Sem UbR ZdW lvl [.tr (.sl (a.map Jc)),.tr (.sl (b.map Jc))] S (iB (decide (a=b))) S :=
 U8 ZxD Jc (fun _=>rfl) a b ha (fun x hx y _ lvl S=>ZxC x y (ha2 x hx) lvl S) lvl S
theorem ZxF:Zo UbR ZdV W7=true:=by kernel_rfl
theorem ZxG(a b:(List ByteArray))(ha:a.length<=9223372036854775807)(lvl:Nat)(S:Zc):Sem UbR ZdV lvl [.tr (.sl (rS a)),.tr (.sl (rS b))] S (iB (decide (a=b))) S:=Zuj ZxF a b ha lvl S
theorem ZxH(x y:TBigraph)(hb:YD 9223372036854775807 x)(lvl:Nat)(S:Zc):Sem UbR Zdu lvl [.ag ((Zk x).map .tr),.ag ((Zk y).map .tr)] S (iB (decide (x=y))) S:=by
 obtain⟨b0,b1,b2,b3,b4,b5,b6⟩:=hb
 refine Zv Zw3 trivial ?_
 simp only[ZjB,Zk,UaB,UaX,Zb,seval,Za,men]
 refine Zl (fun hne=>?_) (fun heq0=>?_)
 ·have:¬ x=y:=fun e=>(by rw[e] at hne;simp at hne)
  simp [this]
 refine Zi (ZxB x.nodes y.nodes b0 b1) ?_
 simp only[Uar,Zb,seval,Za,men]
 refine Zl (fun hne=>?_) (fun heq1=>?_)
 ·have:¬ x=y:=fun e=>(by rw[e] at hne;simp at hne)
  simp [this]
 refine Zi (DL x.sites y.sites b2) ?_
 simp only[Uar,Zb,seval,Za,men]
 refine Zl (fun hne=>?_) (fun heq2=>?_)
 ·have:¬ x=y:=fun e=>(by rw[e] at hne;simp at hne)
  simp [this]
 refine Zl (fun hne=>?_) (fun heq3=>?_)
 ·have:¬ x=y:=fun e=>(by rw[e] at hne;simp at hne)
  simp [this]
 refine Zi (ZxG x.outer y.outer b3) ?_
 simp only[Uar,Zb,seval,Za,men]
 refine Zl (fun hne=>?_) (fun heq4=>?_)
 ·have:¬ x=y:=fun e=>(by rw[e] at hne;simp at hne)
  simp [this]
 refine Zi (ZxE x.inner y.inner b5 b6) ?_
 simp only[Uar,Zb,seval,Za,men]
 refine Zl (fun hne=>?_) (fun heq5=>?_)
 ·have:¬ x=y:=fun e=>(by rw[e] at hne;simp at hne)
  simp [this]
 have:x=y:=by
  cases x;cases y;simp_all
 simp [this]
theorem ZxI:Zo UbR Zdc (QF 6 (some 6) Zdu)=true:=by kernel_rfl
theorem ZxJ(a b:(List TBigraph))(ha:a.length<=9223372036854775807)(ha2:∀ y∈a,YD 9223372036854775807 y)(lvl:Nat)(S:Zc):Sem UbR Zdc lvl [.tr (.sl (a.map Zk)),.tr (.sl (b.map Zk))] S (iB (decide (a=b))) S :=
 U8 ZxI Zk (fun _=>rfl) a b ha (fun x hx y _ lvl S=>ZxH x y (ha2 x hx) lvl S) lvl S
theorem ZxK:Zo UbR Dc (QF 1 none Wj)=true:=by kernel_rfl
theorem Zey(a b:(List (List Int)))(ha:a.length<=9223372036854775807)(ha2:∀ y∈a,y.length<=9223372036854775807)(lvl:Nat)(S:Zc):Sem UbR Dc lvl [.tr (.sl (a.map (fun l=>[Tr.sl (rI l)]))),.tr (.sl (b.map (fun l=>[Tr.sl (rI l)])))] S (iB (decide (a=b))) S :=
 Zun ZxK (fun l=>Tr.sl (rI l)) a b ha (fun x hx y _ lvl S=>DL x y (ha2 x hx) lvl S) lvl S
theorem ZxL(x y:(Int×Int))(lvl:Nat)(S:Zc):Sem UbR ZdT lvl [.ag ((Zx x).map .tr),.ag ((Zx y).map .tr)] S (iB (decide (x=y))) S:=by
 refine Zv Zw6 trivial ?_
 simp only[ZjE,Zx,Zb,seval,Za,men]
 refine Jf (α:=Unit) 2 (fun j _=>⟨lvl,[(2,.ta (Zx x)),(3,.ta (Zx y)),(5,iI j)],[],S⟩) (fun j _=>(Zx x).take j=(Zx y).take j) () ⟨by simp only[Zb,seval,Za,men],by (simp only[Zb,seval,Za,men]) <;> rfl⟩ rfl ?_
 intro j _ hj hA
 have hc:j=0\/j=1\/j=2:=by omega
 rcases hc with rfl | rfl | rfl
 ·simp only[Zx,Int.cast_ofNat_Int,Int.natCast_zero,Nat.zero_mul,Ubh,Nat.mul_one,Zb,seval,Za,men]
  refine Zl (fun hne=>?_) (fun heq=>?_)
  ·have:¬ x=y:=fun e=>hne (by rw[e])
   simp [this]
  ·refine⟨by rw[Zh];omega,Zr (N:=2) (k:=0) () (by omega) rfl ?_⟩
   simp [Zx] at hA ⊢
   simp_all
 ·simp only[Zx,Int.cast_ofNat_Int,Int.natCast_zero,Nat.zero_mul,Ubh,Nat.mul_one,Zb,seval,Za,men]
  refine Zl (fun hne=>?_) (fun heq=>?_)
  ·have:¬ x=y:=fun e=>hne (by rw[e])
   simp [this]
  ·refine⟨by rw[Zh];omega,Zr (N:=2) (k:=1) () (by omega) rfl ?_⟩
   simp [Zx] at hA ⊢
   simp_all
 ·simp only[Zx,Int.cast_ofNat_Int,Zb,seval,Za,men]
  have:x=y:=by
   simp [Zx] at hA
   obtain⟨x0,x1⟩:=x;obtain⟨y0,y1⟩:=y
   simp_all
  simp [this]
theorem ZxM:Zo UbR Zds (QF 2 (some 2) ZdT)=true:=by kernel_rfl
theorem ZxN(a b:(List (Int×Int)))(ha:a.length<=9223372036854775807)(lvl:Nat)(S:Zc):Sem UbR Zds lvl [.tr (.sl (a.map Zx)),.tr (.sl (b.map Zx))] S (iB (decide (a=b))) S :=
 U8 ZxM Zx (fun _=>rfl) a b ha (fun x hx y _ lvl S=>ZxL x y lvl S) lvl S
theorem Zez(x y:TSorting)(hb:VC 9223372036854775807 x)(lvl:Nat)(S:Zc):Sem UbR Db lvl [.ag ((ZJ x).map .tr),.ag ((ZJ y).map .tr)] S (iB (decide (x=y))) S:=by
 obtain⟨b0,b1,b2,b3,b4,b5,b6⟩:=hb
 refine Zv ZwX trivial ?_
 simp only[Zjv,ZJ,UaB,UaX,Zb,seval,Za,men]
 refine Zi (DL x.tops y.tops b0) ?_
 simp only[Uar,Zb,seval,Za,men]
 refine Zl (fun hne=>?_) (fun heq0=>?_)
 ·have:¬ x=y:=fun e=>(by rw[e] at hne;simp at hne)
  simp [this]
 refine Zi (Zey x.nest y.nest b1 b2) ?_
 simp only[Uar,Zb,seval,Za,men]
 refine Zl (fun hne=>?_) (fun heq1=>?_)
 ·have:¬ x=y:=fun e=>(by rw[e] at hne;simp at hne)
  simp [this]
 refine Zi (Zey x.sorts y.sorts b3 b4) ?_
 simp only[Uar,Zb,seval,Za,men]
 refine Zl (fun hne=>?_) (fun heq2=>?_)
 ·have:¬ x=y:=fun e=>(by rw[e] at hne;simp at hne)
  simp [this]
 refine Zi (DL x.most y.most b5) ?_
 simp only[Uar,Zb,seval,Za,men]
 refine Zl (fun hne=>?_) (fun heq3=>?_)
 ·have:¬ x=y:=fun e=>(by rw[e] at hne;simp at hne)
  simp [this]
 refine Zi (ZxN x.apart y.apart b6) ?_
 simp only[Uar,Zb,seval,Za,men]
 refine Zl (fun hne=>?_) (fun heq4=>?_)
 ·have:¬ x=y:=fun e=>(by rw[e] at hne;simp at hne)
  simp [this]
 have:x=y:=by
  cases x;cases y;simp_all
 simp [this]
end Go.Fd
