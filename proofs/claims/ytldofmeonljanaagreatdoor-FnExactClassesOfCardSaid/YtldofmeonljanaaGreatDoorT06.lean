/-
  ClassesOf: THE PROGRAM'S LOOKS AND THE REFERENCE'S SIGNS SAY THE SAME. Own work.
-/
import Derived.Test.YtldofmeonljanaaGreatDoorT05
import Derived.Sort.Row
import Derived.Sort.Grow
import Derived.Shelf.Sort.AssemblyIn
import Derived.Test.YtldofmeonljanaaGreatDoorProg
import Derived.Shelf.Sort.Plain
import Derived.MakeChecks
import Derived.Stop.LaidErr
import Derived.Shelf.Vars
import Derived.Handed
import Derived.KernelRfl
set_option linter.all false
namespace Go.Fd
set_option maxRecDepth 20000
theorem ZiL:∀(x:List UInt8),Op.bytesLess x x=false
 | []=>rfl
 | a::x=>by
  have e:¬ a<a:=UbT a
  simp [Op.bytesLess,e,ZiL x]
theorem ZiM:∀(x y z:List UInt8),Op.bytesLess x y=true->Op.bytesLess y z=true->Op.bytesLess x z=true
 | [],[],_,h,_=>by simp [Op.bytesLess] at h
 | [],_::_,[],_,h=>by simp [Op.bytesLess] at h
 | [],_::_,_::_,_,_=>by simp [Op.bytesLess]
 | _::_,[],_,h,_=>by simp [Op.bytesLess] at h
 | _::_,_::_,[],_,h=>by simp [Op.bytesLess] at h
 | a::x,b::y,c::z,h1,h2=>by
  have ih:=ZiM x y z
  have irr:∀ a:UInt8,¬ a<a:=UbT
  simp only[Op.bytesLess] at h1 h2 ⊢
  by_cases e1:a=b
  ·subst e1
   simp only[irr,decide_false,Bool.false_or,beq_self_eq_true,Bool.true_and,if_true,if_false] at h1
   by_cases e2:a=c
   ·subst e2
    simp [irr] at h1 h2 ⊢
    exact ih h1 h2
   ·by_cases l2:a<c
    ·simp [l2]
    ·simp [l2,e2] at h2
  ·by_cases l1:a<b
   ·by_cases e2:b=c
    ·subst e2;simp [l1]
    ·by_cases l2:b<c
     ·simp [UInt8.lt_trans l1 l2]
     ·simp [l2,e2] at h2
   ·simp [l1,e1] at h1
theorem ZvV{l:List ByteArray}(h:Vi l):∀ d i (hi:i+d+1<l.length),XJ (l[i]'(by omega)) (l[i+d+1]'hi):=fun d=>by
 induction d with
 | zero =>
  intro i hi
  exact(h.1 (i+0+1) hi).2 (by omega)
 | succ d ih =>
  intro i hi
  exact ZiM _ _ _ (ih i (by omega)) ((h.1 (i+(d+1)+1) hi).2 (by omega))
theorem ZiN{l:List ByteArray}(h:Vi l){i j:Nat}(hi:i<l.length)(hj:j<l.length)(e:l[i]=l[j]):i=j:=by
 have key:∀ a b (ha:a<l.length) (hb:b<l.length),a<b->l[a]≠l[b]:=fun a b ha hb hab e=>by
  have:=ZvV h (b-a-1) a (by omega)
  simp only[show a+(b-a-1)+1=b from by omega] at this
  unfold XJ at this
  rw[e,ZiL] at this
  cases this
 rcases Nat.lt_trichotomy i j with g | g | g
 ·exact absurd e (key i j hi hj g)
 ·exact g
 ·exact absurd e.symm (key j i hj hi g)
noncomputable abbrev Z3(l:List Int):List Int:=Wq (fun a b:Int=>a<b) l
theorem ZvW{a b:List Int}:Z3 a=Z3 b↔a.Perm b:=by
 constructor
 ·intro h
  have h1:(Z3 a).Perm a:=srtG_perm
  have h2:(Z3 b).Perm b:=srtG_perm
  rw[h] at h1
  exact h1.symm.trans h2
 ·intro h
  exact Zbp XL (Dv XL) (Dv XL) ((srtG_perm.trans h).trans srtG_perm.symm)
def Z4(M:Nat)(l:List Int):List Int:=(List.range M).map fun v:Nat=>((l.count (v:Int):Nat):Int)
theorem J8{M:Nat}{l:List Int}:(Z4 M l).length=M:=by simp [Z4]
def inM(M:Nat)(l:List Int):Prop:=∀ x∈l,0<=x/\x<M
theorem Zei{M:Nat}{a b:List Int}(ha:inM M a)(hb:inM M b):Z4 M a=Z4 M b↔Z3 a=Z3 b:=by
 rw[ZvW,List.perm_iff_count]
 constructor
 ·intro h x
  by_cases hx:0<=x/\x<M
  ·obtain⟨u,rfl⟩:=Ua2 hx.1
   have hu:u<M:=by omega
   have:=congrArg (fun l=>l[u]?) h
   simp only[Z4,Uaz,UbK hu,Option.map_some,Uam] at this
   omega
  ·rw[List.count_eq_zero.2 fun hm=>hx (ha x hm),List.count_eq_zero.2 fun hm=>hx (hb x hm)]
 ·intro h
  unfold Z4
  exact Ubg fun v _=>by rw[h]
def YE(b:TBigraph)(k:Nat):Int:=((b.nodes[k]?).map TNode.parent).getD 0
theorem Dw{b:TBigraph}{k:Nat}(h:k<b.nodes.length):YE b k=b.nodes[k].parent:=by simp [YE,h]
def Vx(b:TBigraph)(c:List Int)(k:Nat):Int:=if 0<=YE b k then g0 c (YE b k).toNat else YE b k
def ZH(b:TBigraph)(c:List Int)(k:Nat):List Int:=(kids b k).map fun m=>g0 c m.toNat
def ptC(c:List Int)(q:Int×Int):Int:=g0 c q.1.toNat*3+q.2
def ZA(b:TBigraph)(c:List Int)(l:Int):List Int:=(ports b l).map (ptC c)
def Vk(b:TBigraph)(i:Nat):ByteArray:=(b.outer[i]?).getD ⟨#[]⟩
noncomputable def Xe(b:TBigraph)(c:List Int)(l:Int):LD:=if b.edges<=l then .out (Vk b (l-b.edges).toNat) else .edg (Z3 (ZA b c l)) (Jt b l)
noncomputable def J9(b:TBigraph)(c:List Int)(k:Nat):DS:=⟨g0 c k,Vx b c k,Z3 (ZH b c k),((Yu b k).length:Int),(ZF b k).map (Xe b c)⟩
def Vl(b:TBigraph)(c:List Int)(k:Nat):List Int:=if YE b k<0 then [0,-1-YE b k] else [1,g0 c (YE b k).toNat]
def VS(b:TBigraph)(c:List Int)(k:Nat):List Int:=Z4 b.nodes.length (ZH b c k)++[((Yu b k).length:Int)]
def QB(b:TBigraph)(l:Int):List Int:=(List.range b.inner.length).map fun x=>if J7 b (b.inner.length-1-x)=l then 1 else 0
def Yv(b:TBigraph)(c:List Int)(l:Int):List Int:=if b.edges<=l then [l-b.edges] else -1::(Z4 (b.nodes.length*3) (ZA b c l)++QB b l)
def Vy(b:TBigraph)(c:List Int)(k:Nat):List Int:=(Vl b c k++VS b c k)++((ZF b k).flatMap (Yv b c)++[g0 c k])
def Vz(b:TBigraph)(c:List Int):Prop:=c.length=b.nodes.length/\∀ i,i<b.nodes.length->0<=g0 c i/\g0 c i<b.nodes.length
theorem Zej{b:TBigraph}{l:Int}:(QB b l).length=b.inner.length:=by simp [QB]
theorem ends_mem{b:TBigraph}{l:Int}{n:ByteArray}:∀{j:Nat},n∈J4 b l j↔∃ i,i<j/\J7 b i=l/\XK b i=n
 | 0=>by simp [J4]
 | j+1=>by
  have ih:=ends_mem (b:=b) (l:=l) (n:=n) (j:=j)
  unfold J4
  split
  ·rename_i h
   rw[Uas,ih,UaO]
   constructor
   ·rintro(⟨i,h1,h2⟩ | rfl)
    ·exact⟨i,by omega,h2⟩
    ·exact⟨j,by omega,h,rfl⟩
   ·rintro⟨i,h1,h2,h3⟩
    by_cases e:i=j
    ·subst e;exact .inr h3.symm
    ·exact .inl ⟨i,by omega,h2,h3⟩
  ·rename_i h
   rw[ih]
   constructor
   ·rintro⟨i,h1,h2⟩
    exact⟨i,by omega,h2⟩
   ·rintro⟨i,h1,h2,h3⟩
    by_cases e:i=j
    ·subst e;exact absurd h2 h
    ·exact⟨i,by omega,h2,h3⟩
theorem ZiO{b:TBigraph}{l m:Int}:∀{j:Nat},(∀ i,i<j->(J7 b i=l↔J7 b i=m))->J4 b l j=J4 b m j
 | 0,_=>rfl
 | j+1,h=>by
  have ih:=ZiO (b:=b) (l:=l) (m:=m) (j:=j) fun i hi=>h i (by omega)
  have hj:=h j (by omega)
  unfold J4
  rw[ih]
  by_cases g:J7 b j=l
  ·rw[if_pos g,if_pos (hj.1 g)]
  ·rw[if_neg g,if_neg fun e=>g (hj.2 e)]
theorem ZvX{sig:List TControl}{b:TBigraph}(h:bigOK sig b){i j:Nat}(hi:i<b.inner.length)(hj:j<b.inner.length)(e:XK b i=XK b j):i=j:=by
 refine ZiN h.inn (by rw[Xb];exact hi) (by rw[Xb];exact hj) ?_
 simp only[inn,List.getElem_map]
 rw[Uc hi,Uc hj] at e
 exact e
theorem ZiP{sig:List TControl}{b:TBigraph}(h:bigOK sig b){l m:Int}:QB b l=QB b m↔Jt b l=Jt b m:=by
 constructor
 ·intro e
  refine ZiO fun i hi=>?_
  have:=congrArg (fun q=>q[b.inner.length-1-i]?) e
  have hx:b.inner.length-1-i<b.inner.length:=by omega
  have hy:b.inner.length-1-(b.inner.length-1-i)=i:=by omega
  simp only[QB,Uaz,UbK hx,Option.map_some,Uam,hy] at this
  by_cases g:J7 b i=l
  ·rw[if_pos g] at this
   by_cases g2:J7 b i=m
   ·exact⟨fun _=>g2,fun _=>g⟩
   ·rw[if_neg g2] at this;exact absurd this (by decide)
  ·rw[if_neg g] at this
   by_cases g2:J7 b i=m
   ·rw[if_pos g2] at this;exact absurd this (by decide)
   ·exact⟨fun q=>absurd q g,fun q=>absurd q g2⟩
 ·intro e
  have key:∀ i,i<b.inner.length->(J7 b i=l↔J7 b i=m):=fun i hi=>by
   have m1:∀ l,J7 b i=l↔XK b i∈Jt b l:=fun l=>by
    unfold Jt
    rw[ends_mem]
    constructor
    ·intro g;exact⟨i,hi,g,rfl⟩
    ·rintro⟨j,hj,g1,g2⟩
     rw[<-ZvX h hj hi g2];exact g1
   rw[m1 l,m1 m,e]
  unfold QB
  refine Ubg fun x hx=>?_
  have hx:=UbW.1 hx
  have:=key (b.inner.length-1-x) (by omega)
  by_cases g:J7 b (b.inner.length-1-x)=l
  ·rw[if_pos g,if_pos (this.1 g)]
  ·rw[if_neg g,if_neg fun q=>g (this.2 q)]
structure nbOK (sig:List TControl) (b:TBigraph) (k:Nat):Prop where
 par:(YE b k<0/\-4<=YE b k)\/(0<=YE b k/\YE b k<b.nodes.length)
 links:∀ l∈ZF b k,0<=l/\l<b.edges+b.outer.length
 linksL:(ZF b k).length<=3
theorem XM{sig:List TControl}{b:TBigraph}(h:bigOK sig b){k:Nat}(hk:k<b.nodes.length):nbOK sig b k:=by
 have hn:=h.nodes k hk
 have hr:=h.roots
 refine⟨?_,fun l hl=>?_,?_⟩
 ·rw[Dw hk]
  rcases hn.par with ⟨h1,h2⟩ | ⟨h1,h2,_⟩
  ·exact .inl ⟨h1,by omega⟩
  ·exact .inr ⟨h1,by omega⟩
 ·rw[Wm hk] at hl
  have:=hn.links l hl
  unfold Vj at this
  omega
 ·rw[Wm hk]
  have h1:=hn.ports
  have h2:=ZiC h.sg b.nodes[k].control
  omega
theorem Zek{b:TBigraph}{c:List Int}(hc:Vz b c){k:Nat}:inM b.nodes.length (ZH b c k):=fun x hx=>by
 obtain⟨m,hm,rfl⟩:=UaG.1 hx
 obtain⟨i,h1,h2,_⟩:=Uf hm
 have:=hc.2 i h1
 rw[h2,Int.toNat_natCast]
 exact this
theorem Zbr{sig:List TControl}{b:TBigraph}(h:bigOK sig b){l:Int}{p:Int×Int}(hp:p∈ports b l):∃ i m:Nat,i<b.nodes.length/\m<3/\p=((i:Int),(m:Int)):=by
 obtain⟨i,m,h1,h2,h3⟩:=ZiD hp
 have:=(XM h h1).linksL
 exact⟨i,m,h1,by omega,h3⟩
theorem Wr{sig:List TControl}{b:TBigraph}(h:bigOK sig b){c:List Int}(hc:Vz b c){l:Int}:inM (b.nodes.length*3) (ZA b c l):=fun x hx=>by
 obtain⟨p,hp,rfl⟩:=UaG.1 hx
 obtain⟨i,m,h1,h2,rfl⟩:=Zbr h hp
 have:=hc.2 i h1
 unfold ptC
 simp only[Int.toNat_natCast]
 omega
theorem ZvY{sig:List TControl}{b:TBigraph}(h:bigOK sig b){c:List Int}(hc:Vz b c){l m:Int}(hl:0<=l/\l<b.edges+b.outer.length)(hm:0<=m/\m<b.edges+b.outer.length):Yv b c l=Yv b c m↔Xe b c l=Xe b c m:=by
 have he:=h.edges
 unfold Yv Xe
 by_cases g:b.edges<=l <;> by_cases g2:b.edges<=m
 ·rw[if_pos g,if_pos g2,if_pos g,if_pos g2]
  have o1:Vk b (l-b.edges).toNat=b.outer[(l-b.edges).toNat]'(by omega):=by unfold Vk;rw[Uag (by omega)];rfl
  have o2:Vk b (m-b.edges).toNat=b.outer[(m-b.edges).toNat]'(by omega):=by unfold Vk;rw[Uag (by omega)];rfl
  constructor
  ·intro e
   injection e with e _
   rw[e]
  ·intro e
   injection e with e
   rw[o1,o2] at e
   have:=ZiN h.outer (by omega) (by omega) e
   rw[show l-b.edges=m-b.edges by omega]
 ·rw[if_pos g,if_neg g2,if_pos g,if_neg g2]
  refine⟨fun e=>?_,fun e=>by cases e⟩
  injection e with e _
  omega
 ·rw[if_neg g,if_pos g2,if_neg g,if_pos g2]
  refine⟨fun e=>?_,fun e=>by cases e⟩
  injection e with e _
  omega
 ·rw[if_neg g,if_neg g2,if_neg g,if_neg g2]
  constructor
  ·intro e
   injection e with _ e
   obtain⟨e1,e2⟩:=List.append_inj e (by rw[J8,J8])
   rw[(Zei (Wr h hc) (Wr h hc)).1 e1,(ZiP h).1 e2]
  ·intro e
   injection e with e1 e2
   rw[(Zei (Wr h hc) (Wr h hc)).2 e1,(ZiP h).2 e2]
theorem ZiQ{α β γ:Type}{f:α->β}{g:α->γ}:∀{L M:List α},(∀ x∈L,∀ y∈M,f x=f y↔g x=g y)->(L.map f=M.map f↔L.map g=M.map g)
 | [],[],_=>by simp
 | [],y::M,_=>by simp
 | x::L,[],_=>by simp
 | x::L,y::M,h=>by
  have ih:=ZiQ (f:=f) (g:=g) (L:=L) (M:=M) fun a ha b hb=>h a (by simp [ha]) b (by simp [hb])
  have h0:=h x (by simp) y (by simp)
  simp only[Uay,List.cons.injEq,h0,ih]
def Zbs(E:Nat)(x:List Int):Prop:=(∃ n,x=[n]/\0<=n)\/∃ r,x = -1::r/\r.length=E
theorem ZiR{E:Nat}{x:List Int}(h:Zbs E x):1<=x.length:=by
 rcases h with ⟨n,rfl,_⟩ | ⟨r,rfl,_⟩ <;> simp
theorem ZiS{E:Nat}:∀{X Y:List (List Int)} {a b:Int},(∀ x∈X,Zbs E x)->(∀ y∈Y,Zbs E y)->0<=a->0<=b->X.flatMap id++[a]=Y.flatMap id++[b]->X=Y/\a=b
 | [],[],a,b,_,_,_,_,h=>by simpa using h
 | [],y::Y,a,b,_,hY,_,_,h=>by
  exfalso
  have:=congrArg List.length h
  have hl:=ZiR (hY y (by simp))
  simp at this
  omega
 | x::X,[],a,b,hX,_,_,_,h=>by
  exfalso
  have:=congrArg List.length h
  have hl:=ZiR (hX x (by simp))
  simp at this
  omega
 | x::X,y::Y,a,b,hX,hY,ha,hb,h=>by
  rw[UaL,UaL,Uav,Uav] at h
  have hx:=hX x (by simp)
  have hy:=hY y (by simp)
  have hlen:x.length=y.length:=by
   rcases hx with ⟨n,rfl,hn⟩ | ⟨r,rfl,hr⟩ <;> rcases hy with ⟨m,rfl,hm⟩ | ⟨q,rfl,hq⟩
   ·rfl
   ·injection h with e _
    omega
   ·injection h with e _
    omega
   ·simp [hr,hq]
  obtain⟨e1,e2⟩:=List.append_inj h hlen
  obtain⟨e3,e4⟩:=ZiS (fun z hz=>hX z (by simp [hz])) (fun z hz=>hY z (by simp [hz])) ha hb e2
  have e1:x=y:=e1
  exact⟨by rw[e1,e3],e4⟩
theorem Dx{b:TBigraph}{c:List Int}{k:Nat}:(Vl b c k).length=2:=by unfold Vl;split <;> rfl
theorem Zbt{b:TBigraph}{c:List Int}{k:Nat}:(VS b c k).length=b.nodes.length+1:=by unfold VS;rw[Uai,J8];rfl
theorem ZiT{sig:List TControl}{b:TBigraph}{c:List Int}(hc:Vz b c){k m:Nat}(hk:nbOK sig b k)(hm:nbOK sig b m):Vl b c k=Vl b c m↔Vx b c k=Vx b c m:=by
 have q:∀ j,nbOK sig b j->0<=YE b j->0<=g0 c (YE b j).toNat:=fun j hj h0=>(hc.2 _ (by rcases hj.par with h | h <;> omega)).1
 unfold Vl Vx
 by_cases g:YE b k<0 <;> by_cases g2:YE b m<0
 ·rw[if_pos g,if_pos g2,if_neg (by omega),if_neg (by omega)]
  constructor
  ·intro e
   injection e with _ e
   injection e with e _
   omega
  ·intro e;rw[e]
 ·rw[if_pos g,if_neg g2,if_neg (by omega),if_pos (by omega)]
  have:=q m hm (by omega)
  exact⟨fun e=>(by injection e with e _;exact absurd e (by decide)),fun e=>(by omega)⟩
 ·rw[if_neg g,if_pos g2,if_pos (by omega),if_neg (by omega)]
  have:=q k hk (by omega)
  exact⟨fun e=>(by injection e with e _;exact absurd e (by decide)),fun e=>(by omega)⟩
 ·rw[if_neg g,if_neg g2,if_pos (by omega),if_pos (by omega)]
  constructor
  ·intro e
   injection e with _ e
   injection e with e _
  ·intro e;rw[e]
theorem ZiU{sig:List TControl}{b:TBigraph}(h:bigOK sig b){c:List Int}(hc:Vz b c){k m:Nat}(hk:k<b.nodes.length)(hm:m<b.nodes.length):Vy b c k=Vy b c m↔J9 b c k=J9 b c m:=by
 have nk:=XM h hk
 have nm:=XM h hm
 have i1:∀ j,nbOK sig b j->∀ x∈(ZF b j).map (Yv b c),Zbs (b.nodes.length*3+b.inner.length) x:=fun j hj x hx=>by
  obtain⟨l,hl,rfl⟩:=UaG.1 hx
  have:=hj.links l hl
  unfold Yv
  split
  ·exact .inl ⟨_,rfl,by omega⟩
  ·exact .inr ⟨_,rfl,by rw[Uai,J8,Zej]⟩
 have fm:∀ j,(ZF b j).flatMap (Yv b c)=((ZF b j).map (Yv b c)).flatMap id:=fun j=>by rw[List.flatMap_map];rfl
 have ml:=ZiQ (f:=Yv b c) (g:=Xe b c) (L:=ZF b k) (M:=ZF b m) fun l hl q hq=>ZvY h hc (nk.links l hl) (nm.links q hq)
 have ki:=Zei (Zek hc (k:=k)) (Zek hc (k:=m))
 unfold Vy J9
 rw[fm,fm]
 constructor
 ·intro e
  obtain⟨e1,e2⟩:=List.append_inj e (by rw[Uai,Uai,Dx,Dx,Zbt,Zbt])
  obtain⟨e3,e4⟩:=List.append_inj e1 (by rw[Dx,Dx])
  obtain⟨e5,e6⟩:=ZiS (i1 k nk) (i1 m nm) (hc.2 k hk).1 (hc.2 m hm).1 e2
  unfold VS at e4
  obtain⟨e7,e8⟩:=List.append_inj e4 (by rw[J8,J8])
  injection e8 with e8 _
  rw[e6,(ZiT hc nk nm).1 e3,ki.1 e7,e8,ml.1 e5]
 ·intro e
  injection e with e1 e2 e3 e4 e5
  rw[(ZiT hc nk nm).2 e2,ml.2 e5,e1]
  unfold VS
  rw[ki.2 e3,e4]
def IsL(E:Nat->Nat->Prop)(i j:Nat):Prop:=E j i/\∀ k,k<j -> ¬ E k i
theorem IsL.uniq{E:Nat->Nat->Prop}{i j k:Nat}(h1:IsL E i j)(h2:IsL E i k):j=k:=by
 rcases Nat.lt_trichotomy j k with g | g | g
 ·exact absurd h1.1 (h2.2 j g)
 ·exact g
 ·exact absurd h2.1 (h1.2 k g)
theorem IsL.ex{E:Nat->Nat->Prop}(i:Nat):∀ n,E n i->∃ j,j<=n/\IsL E i j:=fun n=>by
 induction n using Nat.strongRecOn with
 | _ n ih =>
  intro h
  by_cases g:∃ k,k<n/\E k i
  ·obtain⟨k,hk,he⟩:=g
   obtain⟨j,h1,h2⟩:=ih k hk he
   exact⟨j,by omega,h2⟩
  ·exact⟨n,Uaf n,h,fun k hk he=>g ⟨k,hk,he⟩⟩
open Classical in
noncomputable def lf(E:Nat->Nat->Prop)(i:Nat):Nat:=if h:∃ j,IsL E i j then h.choose else i
theorem Zbu{E:Nat->Nat->Prop}{i j:Nat}(h:IsL E i j):lf E i=j:=by
 unfold lf
 rw[dif_pos ⟨j,h⟩]
 exact(Exists.choose_spec (⟨j,h⟩:∃ j,IsL E i j)).uniq h
theorem Zbv{E:Nat->Nat->Prop}{i:Nat}(h:E i i):IsL E i (lf E i)/\lf E i<=i:=by
 obtain⟨j,h1,h2⟩:=IsL.ex i i h
 rw[Zbu h2]
 exact⟨h2,h1⟩
noncomputable def VT(E:Nat->Nat->Prop)(n:Nat):List Int:=(List.range n).map fun i:Nat=>((lf E i:Nat):Int)
theorem Zel{E:Nat->Nat->Prop}{n:Nat}:(VT E n).length=n:=by simp [VT]
theorem Zem{E:Nat->Nat->Prop}{n i:Nat}(h:i<n):g0 (VT E n) i=(lf E i:Nat):=by
 simp [VT,g0,h]
structure RepOK (b:TBigraph) (c:List Int):Prop where
 len:c.length=b.nodes.length
 rep:∀ i,i<b.nodes.length->∃ r:Nat,g0 c i=r/\r<=i/\g0 c r=r
theorem RepOK.cl{b:TBigraph}{c:List Int}(h:RepOK b c):Vz b c:=⟨h.len,fun i hi=>by
 obtain⟨r,h1,h2,_⟩:=h.rep i hi
 omega⟩
theorem ZiV{b:TBigraph}{E:Nat->Nat->Prop}(hr:∀ i,E i i)(hs:∀ i j,E i j->E j i)(ht:∀ i j k,E i j->E j k->E i k):RepOK b (VT E b.nodes.length):=by
 refine⟨Zel,fun i hi=>?_⟩
 obtain⟨h1,h2⟩:=Zbv (hr i)
 refine⟨lf E i,Zem hi,h2,?_⟩
 rw[Zem (by omega)]
 have:IsL E (lf E i) (lf E i):=⟨hr _,fun k hk he=>h1.2 k hk (ht k _ i he h1.1)⟩
 rw[Zbu this]
noncomputable def Jg(b:TBigraph)(c:List Int):List Int:=VT (fun j i=>J9 b c j=J9 b c i) b.nodes.length
def Ju(b:TBigraph)(k:Nat):Int:=((b.nodes[k]?).map TNode.control).getD 0
noncomputable def XN(b:TBigraph):List Int:=VT (fun j i=>Ju b j=Ju b i) b.nodes.length
theorem nx_rep{b:TBigraph}{c:List Int}:RepOK b (Jg b c):=ZiV (fun _=>rfl) (fun _ _ h=>h.symm) fun _ _ _ h1 h2=>h1.trans h2
theorem c0_rep{b:TBigraph}:RepOK b (XN b):=ZiV (fun _=>rfl) (fun _ _ h=>h.symm) fun _ _ _ h1 h2=>h1.trans h2
theorem ZiW{b:TBigraph}{c:List Int}{i:Nat}(hi:i<b.nodes.length):∃ r:Nat,g0 (Jg b c) i=r/\r<=i/\g0 c r=g0 c i/\∀ k,k<r->J9 b c k≠J9 b c i:=by
 obtain⟨h1,h2⟩:=Zbv (E:=fun j i=>J9 b c j=J9 b c i) (i:=i) rfl
 refine⟨lf (fun j i=>J9 b c j=J9 b c i) i,Zem hi,h2,congrArg DS.own h1.1,h1.2⟩
theorem Zen{b:TBigraph}{c:List Int}(h:RepOK b c){x:Int}:x∈c↔∃ r:Nat,r<b.nodes.length/\x=r/\g0 c r=r:=by
 constructor
 ·intro hx
  obtain⟨i,hi,rfl⟩:=UaX hx
  obtain⟨r,h1,h2,h3⟩:=h.rep i (by rw[<-h.len];exact hi)
  have e:g0 c i=c[i]:=by simp [hi]
  have:=h.len
  exact⟨r,by omega,by rw[<-e,h1],h3⟩
 ·rintro⟨r,h1,rfl,h3⟩
  have hr:r<c.length:=by rw[h.len];exact h1
  have e:g0 c r=c[r]:=by simp [hr]
  rw[<-h3,e]
  exact Uan hr
theorem setN_same{l:List Int}{x:Int}:x∈Yk l↔x∈l:=ZvT
theorem ZvZ{b:TBigraph}{c:List Int}(h:RepOK b c){x:Int}(hx:x∈c):x∈Jg b c:=by
 obtain⟨r,h1,rfl,h3⟩:=(Zen h).1 hx
 refine(Zen nx_rep).2 ⟨r,h1,rfl,?_⟩
 obtain⟨q,g1,g2,g3,_⟩:=ZiW (b:=b) (c:=c) h1
 obtain⟨p,k1,k2,_⟩:=h.rep q (by omega)
 rw[g1]
 have:g0 c q=(r:Int):=by rw[g3,h3]
 omega
theorem ZiX{b:TBigraph}{c:List Int}(h:RepOK b c):(Yk c).length<=(Yk (Jg b c)).length/\((Yk (Jg b c)).length=(Yk c).length↔Jg b c=c):=by
 have hs:=Zeh (ZiI (l:=c)) fun x (hx:x∈Yk c)=>setN_same.2 (ZvZ h (setN_same.1 hx))
 refine⟨hs.1,fun e=>?_,fun e=>by rw[e]⟩
 have hp:=hs.2 (by omega)
 refine List.ext_getElem (by rw[nx_rep.len,h.len]) fun i h1 h2=>?_
 have hi:i<b.nodes.length:=by rw[<-h.len];exact h2
 obtain⟨q,g1,g2,g3,_⟩:=ZiW (b:=b) (c:=c) hi
 have e1:g0 (Jg b c) i=(Jg b c)[i]:=by simp [h1]
 have e2:g0 c i=c[i]:=by simp [h2]
 have hm:(q:Int)∈Jg b c:=by rw[<-g1,e1];exact Uan h1
 have hm2:(q:Int)∈c:=setN_same.1 (hp.mem_iff.2 (setN_same.2 hm))
 obtain⟨r,k1,k2,k3⟩:=(Zen h).1 hm2
 have:r=q:=by omega
 subst this
 rw[<-e1,<-e2,g1,<-g3,k3]
noncomputable def ZR(b:TBigraph):Nat->List Int
 | 0=>XN b
 | t+1=>Jg b (ZR b t)
theorem Ui{b:TBigraph}:∀ t,RepOK b (ZR b t)
 | 0=>c0_rep
 | _+1=>nx_rep
theorem Zv0{b:TBigraph}{c:List Int}(h:RepOK b c):(Yk c).length<=b.nodes.length:=by
 have hs:=(Zeh (ZiI (l:=c)) fun x (hx:x∈Yk c)=>setN_same.1 hx).1
 rw[h.len] at hs
 exact hs
theorem Zv1(b:TBigraph):∃ t,t<=b.nodes.length/\Jg b (ZR b t)=ZR b t:=by
 refine Classical.byContradiction fun hn=>?_
 have hne:∀ t,t<=b.nodes.length->Jg b (ZR b t)≠ZR b t:=fun t ht e=>hn ⟨t,ht,e⟩
 have key:∀ t,t<=b.nodes.length+1->t<=(Yk (ZR b t)).length:=fun t=>by
  induction t with
  | zero=>intro _;exact Ua9 _
  | succ t ih =>
   intro ht
   have h1:=ih (by omega)
   have h2:=ZiX (Ui (b:=b) t)
   have h3:(Yk (Jg b (ZR b t))).length≠(Yk (ZR b t)).length:=fun e=>hne t (by omega) (h2.2.1 e)
   show t+1<=(Yk (Jg b (ZR b t))).length
   omega
 have h1:=key (b.nodes.length+1) (Uaf _)
 have h2:=Zv0 (Ui (b:=b) (b.nodes.length+1))
 omega
noncomputable def QC(b:TBigraph):Nat:=lf (fun t _=>Jg b (ZR b t)=ZR b t) 0
theorem ZiY(b:TBigraph):Jg b (ZR b (QC b))=ZR b (QC b)/\∀ t,t<QC b->Jg b (ZR b t)≠ZR b t:=by
 obtain⟨t,_,h⟩:=Zv1 b
 obtain⟨j,_,hj⟩:=IsL.ex (E:=fun t _=>Jg b (ZR b t)=ZR b t) 0 t h
 unfold QC
 rw[Zbu hj]
 exact hj
open Classical in
noncomputable def Yl(sig:List TControl)(b:TBigraph):List Int:=if bigOK sig b then ZR b (QC b) else []
noncomputable def Zbw(sig:List TControl)(b:TBigraph):Bool:=dc (bigOK sig b)
end Go.Fd

namespace Go.Fd
variable [Tabs]
open Go.Sort
section
variable {P:Program} {α:Type} [Inhabited α] {enc:α->Value}
abbrev XO(enc:α->Value)(l:List α):Row:=l.map fun x=>[.v (enc x)]
theorem Dy{l:List α}{p:Ze}{es2:Row}(hp:p≠[]):getp (XO enc l) p≠some es2:=fun h=>by
 cases p with
 | nil=>exact hp rfl
 | cons cd q =>
  obtain⟨c,d⟩:=cd
  obtain⟨e,x,h1,h2,_⟩:=YR h
  obtain⟨n,_,rfl⟩:=UaG.1 (Uae h1)
  have:=Uae h2
  simp at this
theorem Zeo{l:List α}:Zu 1 (XO enc l):=ZgL (fun x=>[.v (enc x)]) (fun _=>rfl) l
theorem Zv2{d:Array α}{off:Nat}{c:Array Value}:(putCells enc off d c).size=c.size:=by simp [putCells]
theorem Zv3{d:List α}{c:Array Value}{i:Nat}(h:i<d.length)(hc:i<c.size):(putCells enc 0 d.toArray c)[i]? = some (enc d[i]):=by
 simp [putCells,hc,h]
theorem Zv4{f:FuncId}{lvl:Nat}{S:Zc}{id:Zd}{xs ys:List α}{u:Bool}{hw ver:Nat}(hc:WH P f)(hid:id.1<lvl)(hS:S id=some (.ar 1 (XO enc xs) u hw ver))
  (hsc:∀ x:α,Jk (enc x)=true) (hl:ys.length=xs.length)
  (h0:xs=[]->∀(a:Option Addr) (cap:Nat) (w:World),Calls P f #[.slice a 0 cap] w fun e w' => e = .returned (.tuple #[])/\∃ n,w'=Sort.ahead w n)
  (h1:xs≠[]->∀(b cap:Nat) (w:World),Holds enc w b 0 xs.toArray->b<w.heap.size->Calls P f #[.slice (some ⟨b,0,none⟩) xs.length cap] w fun e w' => e = .returned (.tuple #[])/\∃ n os,w'=grow (putRow enc (Sort.ahead w n) b 0 ys.toArray) os) :
  Sem P f lvl [.hd id [] 0 xs.length none hw] S (.tu []) (Zf S id (.ar 1 (XO enc ys) u hw ver)):=by
 refine⟨trivial,hc,fun hlow G w vs hok hv _=>?_⟩
 simp only[Zi] at hv
 obtain⟨v,vr,rfl,hv,rfl⟩:=hv
 simp only[VR] at hv
 obtain⟨⟨a0,c0,hv0,hlc0⟩,k2,es2,u2,hw2,ver2,hs2,_,hrel⟩:=hv
 rw[hS] at hs2;cases hs2
 obtain⟨es3,k',a,c,hg3,hk,hun,rfl,hlc,hcap,hcap2,hor⟩:=hrel rfl
 cases hg3
 have hk1:=hk rfl
 subst hk1
 by_cases hx:xs=[]
 ·subst hx
  have hy:ys=[]:=List.length_eq_zero_iff.1 (by simpa using hl)
  subst hy
  rw[W3 hS]
  refine(h0 rfl a c w).mono ?_
  rintro e w' ⟨rfl,n,rfl⟩
  have e:Ext w (Sort.ahead w n):=⟨Uaf _,fun _ _=>rfl,rfl,rfl,rfl⟩
  exact⟨_,G,rfl,hok.ext e,by simp [impv,impvs,VR,Zi],hlow,Frm.of_ext e⟩
 ·have hpos:0<xs.length:=List.length_pos_iff.2 hx
  rcases hor with hz | ⟨hz,_⟩ | ⟨b,cc,hG,rfl,hoc⟩
  ·omega
  ·exact absurd rfl hz
  ·obtain⟨o1,o2,o3,o4,o5⟩:=hok.obs _ _ hS
   have hr:=o4 [] _ (.inl rfl) rfl
   unfold ZS at hr
   rw[hG] at hr
   obtain⟨k3,cells,ty,g1,g2,g3,g4,g5,g6⟩:=hr
   have hk3:=g1 rfl
   subst hk3
   have hbs:b<w.heap.size:=by
    rcases Nat.lt_or_ge b w.heap.size with h | h
    ·exact h
    ·rw[UbS h] at g3;cases g3
   have hH:Holds enc w b 0 xs.toArray:=fun j hj=>by
    have hj:j<xs.length:=by simpa using hj
    obtain⟨x,hx1,hx2⟩:=g6 j [.v (enc xs[j])] 0 (.v (enc xs[j])) (by simp [hj]) rfl
    simp only[Z8] at hx2
    obtain⟨rfl,_⟩:=hx2
    refine⟨?_,by simp [World.frozen?,g3]⟩
    have:(xs.toArray)[j]! = xs[j]:=by simp [hj]
    rw[this,cell_of_row w b (0+j) cells ty (0,0) g3]
    simpa using hx1
   refine(h1 hx b c w hH hbs).mono ?_
   rintro e w' ⟨rfl,n,os,rfl⟩
   have hsz:w.heap.size<=(grow (putRow enc (Sort.ahead w n) b 0 ys.toArray) os).heap.size:=by simp [grow,putRow,mapBlock,Sort.ahead]
   have hheap:∀ b2,b2<w.heap.size->b2≠b->(grow (putRow enc (Sort.ahead w n) b 0 ys.toArray) os).heap[b2]? = w.heap[b2]?:=fun b2 h2 hne=>by
    simp only[grow,putRow,mapBlock,Sort.ahead]
    rw[UaE (by simpa using h2),Array.getElem?_modify,if_neg (fun e=>hne e.symm)]
   have hrow:(grow (putRow enc (Sort.ahead w n) b 0 ys.toArray) os).heap[b]? = some (.cells (putCells enc 0 ys.toArray cells) ty (0,0)):=by
    simp only[grow,putRow,mapBlock,Sort.ahead]
    rw[UaE (by simpa using hbs),Array.getElem?_modify,if_pos rfl,g3]
    rfl
   have hown:∀ ob b2,ob=(.ar 1 (XO enc ys) u hw ver:Ob)->ZC G id ob b2->b2=b:=fun ob b2 ho h=>by
    subst ho
    obtain⟨p,c2,hp,hq,hg⟩:=h
    by_cases hp0:p=[]
    ·subst hp0
     rw[hG] at hg
     cases hg
     rfl
    ·obtain⟨e2,he2⟩:=Uaj.1 hq
     exact absurd he2 (Dy hp0)
   have hbown:ZC G id (.ar 1 (XO enc xs) u hw ver) b:=⟨[],cc,.inl rfl,rfl,hG⟩
   have t:Trn G G S (Zf S id (.ar 1 (XO enc ys) u hw ver)) w (grow (putRow enc (Sort.ahead w n) b 0 ys.toArray) os) (· = id) (fun _=>False):=by
    refine⟨fun _ _=>rfl,fun i ob hi _ hs=>⟨ob,by unfold Zf;rw[if_neg hi];exact hs,Wk.refl ob⟩,fun i ob hi hs=>⟨fun h=>h,ob,by unfold Zf at hs;rw[if_neg hi] at hs;exact hs,Wk.refl ob⟩,hsz,fun b2 h2 hn=>hheap b2 h2 fun e=>hn id _ rfl hS (e ▸ hbown),fun i ob b2 hi hs ho=>?_,fun i ob hi _ hs=>?_⟩
    ·subst hi
     unfold Zf at hs;rw[if_pos rfl] at hs;cases hs
     have:=hown _ b2 rfl ho
     subst this
     exact .inl ⟨i,_,.inl rfl,hS,hbown⟩
    ·subst hi
     rw[hS] at hs;cases hs
     refine⟨.ar 1 (XO enc ys) u hw ver,by unfold Zf;rw[if_pos rfl],rfl,Uaf _,Uaf _,fun p st _ hst=>⟨hst,fun es' he=>?_⟩⟩
     by_cases hp0:p=[]
     ·subst hp0
      exact⟨rfl,_,rfl,fun k' hkk _=>by rw[hkk rfl];exact Zeo⟩
     ·exact absurd he (Dy hp0)
   refine⟨_,G,rfl,t.ok hok (fun i ob hi hs=>?_) (fun i ob j ob' b hi hj _ _ _ _=>hi.trans hj.symm) (fun i cells hi hs=>?_),by simp [impv,impvs,VR,Zi],fun i ob hs=>?_,t.frm (fun _ h=>h.elim) rfl rfl rfl⟩
   ·subst hi
    simp only[Zf,if_true] at hs;cases hs
    refine⟨by rw[Uab] at *;omega,Zeo,o3,fun p es2 hp he=>?_,fun p p' b1 c1 c2 hp hp' g1 g2 g3 g4=>?_⟩
    ·by_cases hp0:p=[]
     ·subst hp0
      cases he
      unfold ZS
      rw[hG]
      refine⟨1,_,ty,fun _=>rfl,Zeo,hrow,by rw[Zv2];exact g4,by rw[Uab] at *;omega,fun i e f t hi hf=>?_⟩
      rw[Uaz] at hi
      obtain⟨y,hy,rfl⟩:=UaF.1 hi
      obtain⟨hil,hyy⟩:=Uac.1 hy
      have hf0:f=0/\t = .v (enc y):=by
       cases f with
       | zero=>simp at hf;exact⟨rfl,hf.symm⟩
       | succ f=>simp at hf
      obtain⟨rfl,rfl⟩:=hf0
      refine⟨enc y,?_,rfl,hsc y⟩
      rw[Uab] at g5
      rw[show i*1+0=i from by omega,Zv3 hil (by omega),hyy]
     ·exact absurd he (Dy hp0)
    ·by_cases hp0:p=[]
     ·by_cases hp1:p'=[]
      ·rw[hp0,hp1]
      ·obtain⟨e2,he2⟩:=Uaj.1 g2
       exact absurd he2 (Dy hp1)
     ·obtain⟨e2,he2⟩:=Uaj.1 g1
      exact absurd he2 (Dy hp0)
   ·subst hi
    simp only[Zf,if_true] at hs;cases hs
   ·simp only[Zf] at hs
    split at hs
    ·rename_i h;rw[h];exact hid
    ·exact hlow i ob hs
end
end Go.Fd

namespace Go.Proofs
open Go.Shelf
def Tryz.lays189_ren:Go.Shelf.Ren:=⟨fun | 189=>70 | 125=>85 | 257=>84 | 128=>101 | 129=>102 | 294=>92 | 295=>93 | 296=>94 | 297=>95 | 298=>96 | 299=>97 | 216=>98 | 300=>99 | 301=>100 | 328=>117 | 329=>118 | 330=>119 | 331=>120 | 332=>121 | 215=>122 | 343=>131 | n=>n,fun | 28=>24 | 3=>3 | 46=>115 | 0=>0 | 51=>130 | 53=>132 | 4=>4 | 183=>122 | 182=>121 | 131=>127 | 5=>5 | 9=>9 | 218=>146 | 222=>150 | 228=>160 | 229=>161 | n=>n,fun | n=>n⟩
theorem Tryz.lays189:Go.Proofs.Lays.n189 Tryz.prog Tryz.lays189_ren:={
  mixed:=by kernel_rfl,
  f125:=Tryz.func85.trans (congrArg some (by kernel_rfl)),
  f128:=Tryz.func101.trans (congrArg some (by kernel_rfl)),
  f129:=Tryz.func102.trans (congrArg some (by kernel_rfl)),
  f189:=Tryz.func70.trans (congrArg some (by kernel_rfl)),
  f215:=Tryz.func122.trans (congrArg some (by kernel_rfl)),
  f216:=Tryz.func98.trans (congrArg some (by kernel_rfl)),
  f257:=Tryz.func84.trans (congrArg some (by kernel_rfl)),
  f294:=Tryz.func92.trans (congrArg some (by kernel_rfl)),
  f295:=Tryz.func93.trans (congrArg some (by kernel_rfl)),
  f296:=Tryz.func94.trans (congrArg some (by kernel_rfl)),
  f297:=Tryz.func95.trans (congrArg some (by kernel_rfl)),
  f298:=Tryz.func96.trans (congrArg some (by kernel_rfl)),
  f299:=Tryz.func97.trans (congrArg some (by kernel_rfl)),
  f300:=Tryz.func99.trans (congrArg some (by kernel_rfl)),
  f301:=Tryz.func100.trans (congrArg some (by kernel_rfl)),
  f328:=Tryz.func117.trans (congrArg some (by kernel_rfl)),
  f329:=Tryz.func118.trans (congrArg some (by kernel_rfl)),
  f330:=Tryz.func119.trans (congrArg some (by kernel_rfl)),
  f331:=Tryz.func120.trans (congrArg some (by kernel_rfl)),
  f332:=Tryz.func121.trans (congrArg some (by kernel_rfl)),
  f343:=Tryz.func131.trans (congrArg some (by kernel_rfl)),
  t0:=Tryz.underlying0,
  a0:=Tryz.isAgg0,
  z0:=Tryz.sizeOf0,
  v0:=Tryz.zeroValue0,
  t3:=Tryz.underlying3,
  a3:=Tryz.isAgg3,
  z3:=Tryz.sizeOf3,
  v3:=Tryz.zeroValue3,
  t4:=Tryz.underlying4,
  a4:=Tryz.isAgg4,
  z4:=Tryz.sizeOf4,
  v4:=Tryz.zeroValue4,
  t5:=Tryz.underlying5,
  a5:=Tryz.isAgg5,
  z5:=Tryz.sizeOf5,
  v5:=Tryz.zeroValue5,
  t9:=Tryz.underlying9,
  a9:=Tryz.isAgg9,
  z9:=Tryz.sizeOf9,
  v9:=Tryz.zeroValue9,
  t28:=Tryz.underlying24,
  a28:=Tryz.isAgg24,
  z28:=Tryz.sizeOf24,
  v28:=Tryz.zeroValue24,
  t46:=Tryz.underlying115,
  a46:=Tryz.isAgg115,
  z46:=Tryz.sizeOf115,
  v46:=Tryz.zeroValue115,
  t51:=Tryz.underlying130,
  a51:=Tryz.isAgg130,
  z51:=Tryz.sizeOf130,
  v51:=Tryz.zeroValue130,
  t53:=Tryz.underlying132,
  a53:=Tryz.isAgg132,
  z53:=Tryz.sizeOf132,
  v53:=Tryz.zeroValue132,
  t131:=Tryz.underlying127,
  a131:=Tryz.isAgg127,
  z131:=Tryz.sizeOf127,
  v131:=Tryz.zeroValue127,
  t182:=Tryz.underlying121,
  a182:=Tryz.isAgg121,
  z182:=Tryz.sizeOf121,
  v182:=Tryz.zeroValue121,
  t183:=Tryz.underlying122,
  a183:=Tryz.isAgg122,
  z183:=Tryz.sizeOf122,
  v183:=Tryz.zeroValue122,
  t218:=Tryz.underlying146,
  a218:=Tryz.isAgg146,
  z218:=Tryz.sizeOf146,
  v218:=Tryz.zeroValue146,
  t222:=Tryz.underlying150,
  a222:=Tryz.isAgg150,
  z222:=Tryz.sizeOf150,
  v222:=Tryz.zeroValue150,
  t228:=Tryz.underlying160,
  a228:=Tryz.isAgg160,
  z228:=Tryz.sizeOf160,
  v228:=Tryz.zeroValue160,
  t229:=Tryz.underlying161,
  a229:=Tryz.isAgg161,
  z229:=Tryz.sizeOf161,
  v229:=Tryz.zeroValue161 }
end Go.Proofs

namespace Go.Fd
open Go.Proofs.Tryz renaming prog->UbX
set_option maxRecDepth 20000
def QD(l:List ByteArray)(s:ByteArray):Int:=Yt (fun x=>decide (s=x)) l 0
theorem Zv5:Zo UbX ZdC ZdV=true:=by kernel_rfl
theorem Zv6(l:List ByteArray)(s:ByteArray)(hl:l.length<=4294967296)(lvl:Nat)(S:Zc):Sem UbX ZdC lvl [.tr (.sl (rS l)),iS s] S (iI (QD l s)) S:=ZuW Zv5 ZuV l s (by omega) lvl S
theorem ZiZ(T:List ByteArray)(hl:T.length<=3000000)(lvl:Nat)(S:Zc):Sem UbX ZaV lvl [.tr (.sl (rS T))] S (.ow 1 (rI (T.map (QD T))) true) S:=by
 refine Zr Zud trivial ?_
 simp only[Zhh,Uab,Zb,seval,Za,men]
 refine ZZ (α:=Unit) T.length (fun j _=>[(3,.hd (lvl,192) [] 0 j none j),(9,iI j)]) (fun j _=>[(192,.ar 1 (rI ((T.take j).map (QD T))) true j 0)]) (fun _ _=>True) () (by simp only[Zb,seval,Za,men]) (by (simp only[Zb,seval,Za,men]) <;> rfl) trivial ?_
 intro j _ hj _
 simp only[Uab,Zb,seval,Za,men]
 refine Zs (fun hlt=>?_) (fun hge=>?_)
 ·have hja:j<T.length:=by omega
  have ga:=Jd (c:=fun n:ByteArray=>[ts n]) hja
  have hmx:max j (j+1)=j+1:=by omega
  have ht:(T.take j).length=j:=by rw[Uao];omega
  have st:rI ((T.take j).map (QD T))++[[tv (QD T T[j])]]=rI ((T.take (j+1)).map (QD T)):=by rw[Uah hja,Ua8,Vv];rfl
  simp only[ga,Uab,Zb,seval,Za,men]
  refine Zk (Zv6 T T[j] (by omega)) ?_
  simp only[ht,hmx,st,Uab,Zb,seval,Za,men]
  exact⟨by omega,by rw[Zh];omega,Zy () hja rfl trivial⟩
 ·have hj1:j=T.length:=by omega
  subst hj1
  rw[UaT]
  simp only[Uab,Zb,seval,Za,men]
  try rfl
theorem Zi0{T:List ByteArray}{E:Nat->Nat->Prop}(hE:∀ j i (hj:j<T.length) (hi:i<T.length),T[j]=T[i]↔E j i):T.map (QD T)=VT E T.length:=by
 refine List.ext_getElem (by rw[Uab,Zel]) fun i h1 h2=>?_
 have hi:i<T.length:=by rw[Uab] at h1;exact h1
 simp only[List.getElem_map,VT,List.getElem_range]
 unfold QD
 rcases ZiG (f:=fun x=>decide (T[i]=x)) (l:=T) (j:=0) with ⟨_,h⟩ | ⟨q,hq,e1,e2,e3⟩
 ·have:=h T[i] (Uan hi)
  simp at this
 ·rw[e1,Zbu (j:=q) ⟨(hE q i hq hi).1 (of_decide_eq_true e3).symm,fun k hk he=>?_⟩]
  ·omega
  ·have hm:T[k]'(by omega)∈T.take q:=by
    rw[List.mem_take_iff_getElem]
    exact⟨k,by omega,rfl⟩
   have:=e2 _ hm
   rw[(hE k i (by omega) hi).2 he] at this
   simp at this
theorem Zv7(l:List Int):l.mergeSort (fun x y=>decide (x<=y))=Z3 l:=by
 refine Zbp XL ?_ (Dv XL) ((List.mergeSort_perm l _).trans srtG_perm.symm)
 have h:=List.pairwise_mergeSort (le:=fun x y:Int=>decide (x<=y)) (fun a b c h1 h2=>by simp only[decide_eq_true_eq] at *;omega) (fun a b=>by simp only[UaJ,decide_eq_true_eq];omega) l
 refine h.imp fun {x y} h=>?_
 simp only[decide_eq_true_eq] at h
 omega
theorem Zbx(l:List Int)(hl:l.length<=4294967296)(lvl:Nat)(S:Zc)(id:Zd)(u:Bool)(hw ver:Nat)(hid:id.1<lvl)(hS:S id=some (.ar 1 (rI l) u hw ver)) :
  Sem UbX Wf lvl [.hd id [] 0 l.length none hw] S (.tu []) (Zf S id (.ar 1 (rI (Z3 l)) u hw ver)):=by
 by_cases hs:l.length<=12
 ·exact ZiF l hs lvl S id u hw ver hid hS _ fun x hp hu=>ZiJ hp hu
 ·have h:=Zv4 (P:=UbX) (f:=Wf) (lvl:=lvl) (S:=S) (id:=id) (xs:=l) (ys:=Z3 l) (enc:=Value.int .i64) (u:=u) (hw:=hw) (ver:=ver) (ZdX (by kernel_rfl)) hid hS (fun _=>rfl) srtG_perm.length_eq
   (fun h=>absurd (congrArg List.length h) (by show ¬ l.length=0;omega))
   (fun _ b cap w hH hb=>by
    have:=Go.Proofs.Any.slices_Sort_int Proofs.Tryz.lays189 b 0 cap l w hH hb (by omega)
    rw[Zv7] at this
    exact this)
  exact h
abbrev tIN:ByteArray:=⟨#[32,105,110]⟩
abbrev tKIDS:ByteArray:=⟨#[32,107,105,100,115]⟩
abbrev tSITES:ByteArray:=⟨#[32,115,105,116,101,115]⟩
abbrev tEDGE:ByteArray:=⟨#[32,101,100,103,101]⟩
abbrev tOUT:ByteArray:=⟨#[32,111,117,116,101,114,32]⟩
def Ym(w:ByteArray)(l:List ByteArray):ByteArray:=l.foldl (fun w n=>w++(SP++n)) w
noncomputable def Yw(b:TBigraph)(c:List Int)(o:ByteArray)(l:Int):ByteArray:=if b.edges<=l then o++(tOUT++Vk b (l-b.edges).toNat) else Ym (o++Jy Jp tEDGE (Z3 (ZA b c l))) (Jt b l)
noncomputable def YZ(b:TBigraph)(c:List Int)(k:Nat):ByteArray:=(Jy Jp wOWN [g0 c k]++Jy Jp tIN [Vx b c k])++(Jy Jp tKIDS (Z3 (ZH b c k))++Jy Jp tSITES [((Yu b k).length:Int)])
noncomputable def QE(b:TBigraph)(c:List Int)(k:Nat):ByteArray:=(ZF b k).foldl (Yw b c) (YZ b c k)
theorem Zv8(n:Int):bl (Jp n)=32::bl (Je n):=by rw[Vw];rfl
theorem Dz{w:ByteArray}{l:List Int}:bl (Jy Jp w l)=bl w++(l.map Je).flatMap fun p=>32::bl p:=by
 rw[Zib,List.flatMap_map]
 exact congrArg (fun f=>bl w++List.flatMap f l) (funext fun n=>Zv8 n)
theorem Zi1:∀{l:List ByteArray} {w:ByteArray},bl (Ym w l)=bl w++l.flatMap fun p=>32::bl p
 | [],w=>by simp [Ym]
 | n::r,w=>by
  have ih:=Zi1 (l:=r) (w:=w++(SP++n))
  have e:Ym w (n::r)=Ym (w++(SP++n)) r:=rfl
  rw[e,ih,Vw,Vw,UaL,Uav]
  rfl
theorem Zv9{b:TBigraph}{c:List Int}{o:ByteArray}{l:Int}:bl (Yw b c o l)=bl o++(J0 (Xe b c l)).flatMap fun p=>32::bl p:=by
 unfold Yw Xe
 split
 ·rw[Vw,Vw]
  simp only[J0,UaL,UbH,Ua5]
  rfl
 ·rw[Zi1,Vw,Dz]
  simp only[J0,UaL,Ubq,Uav]
  rfl
theorem Zi2{b:TBigraph}{c:List Int}:∀{L:List Int} {o:ByteArray},bl (L.foldl (Yw b c) o)=bl o++((L.map (Xe b c)).flatMap J0).flatMap fun p=>32::bl p
 | [],o=>by simp
 | l::r,o=>by
  rw[List.foldl_cons,Zi2 (L:=r),Zv9,Uay,UaL,Ubq,Uav]
theorem Zwa{b:TBigraph}{c:List Int}{k:Nat}:bl (YZ b c k)=bl wOWN++(Je (g0 c k)::wIN::Je (Vx b c k)::Ziv::((Z3 (ZH b c k)).map Je++[Ziw,Je ((Yu b k).length:Int)])).flatMap fun p=>32::bl p:=by
 unfold YZ
 rw[Vw,Vw,Vw,Dz,Dz,Dz,Dz]
 simp only[Uay,UaR,UaL,UbH,Ubq,Ua5,Uav]
 rfl
theorem Zi3{b:TBigraph}{c:List Int}{k:Nat}:bl (QE b c k)=bl wOWN++(Xc (J9 b c k)).flatMap fun p=>32::bl p:=by
 unfold QE
 rw[Zi2,Zwa]
 unfold Xc J9
 simp only[UaL,Ubq,Uav,UbH,Ua5,List.cons_append]
theorem Zi4{b:TBigraph}{l:Int}{i m:Nat}:∀{j:Nat},i<j->m<(ZF b i).length->g0 (ZF b i) m=l->((i:Int),(m:Int))∈Jq b l j
 | 0,h,_,_=>absurd h (UaZ _)
 | j+1,h,hm,hl=>by
  rw[Jq]
  by_cases e:i=j
  ·subst e
   refine Uas.2 (.inr ?_)
   have key:∀ q,m<q->((i:Int),(m:Int))∈JG l i (ZF b i) q:=fun q=>by
    induction q with
    | zero=>intro g;omega
    | succ q ih =>
     intro g
     unfold JG
     by_cases e2:m=q
     ·subst e2
      rw[if_pos hl]
      simp
     ·split
      ·exact Uas.2 (.inl (ih (by omega)))
      ·exact ih (by omega)
   exact key _ hm
  ·exact Uas.2 (.inl (Zi4 (by omega) hm hl))
theorem srtI_mem{l:List Int}{x:Int}:x∈Z3 l↔x∈l:=srtG_perm.mem_iff
theorem Zep{sig:List TControl}{b:TBigraph}(h:bigOK sig b){c:List Int}(hc:Vz b c){k:Nat}(hk:k<b.nodes.length):dsOK (J9 b c k):=by
 have hN:=h.nodesL
 have nk:=XM h hk
 have hv:=hc.2 k hk
 refine⟨⟨by show -100<g0 c k;omega,by show g0 c k<100;omega⟩,?_,fun x hx=>?_,?_,fun d hd=>?_⟩
 ·show YN (Vx b c k)
  unfold Vx
  split
  ·rename_i h0
   have:=hc.2 (YE b k).toNat (by rcases nk.par with g | g <;> omega)
   exact⟨by omega,by omega⟩
  ·exact⟨by rcases nk.par with g | g <;> omega,by omega⟩
 ·have:=Zek hc x (srtI_mem.1 hx)
  exact⟨by omega,by omega⟩
 ·have h1:(Yu b k).length<=b.sites.length:=Qz
  have h2:=h.sitesL
  exact⟨by show -100<((Yu b k).length:Int);omega,by show ((Yu b k).length:Int)<100;omega⟩
 ·obtain⟨l,hl,rfl⟩:=UaG.1 hd
  have hll:=nk.links l hl
  unfold Xe
  split
  ·rename_i g
   have hi:(l-b.edges).toNat<b.outer.length:=by omega
   have e:Vk b (l-b.edges).toNat=b.outer[(l-b.edges).toNat]:=by unfold Vk;rw[Uag hi];rfl
   show (32:UInt8) ∉ bl _
   rw[e]
   exact Ziy (h.outer.1 _ hi).1
  ·refine⟨fun e=>?_,fun x hx=>?_,fun n hn=>?_⟩
   ·obtain⟨m,hm,hme⟩:=UaX hl
    have hp:((k:Int),(m:Int))∈ports b l:=Zi4 hk hm (by rw[show g0 (ZF b k) m=(ZF b k)[m] by simp [hm],hme])
    have hx:ptC c ((k:Int),(m:Int))∈Z3 (ZA b c l):=srtI_mem.2 (UaG.2 ⟨_,hp,rfl⟩)
    rw[e] at hx
    cases hx
   ·have:=Wr h hc x (srtI_mem.1 hx)
    exact⟨by omega,by omega⟩
   ·obtain⟨i,hi,_,rfl⟩:=ends_mem.1 hn
    have:=(h.inn.1 i (by rw[Xb];exact hi)).1
    rw[Uc hi]
    simpa [inn] using this
theorem Zwb{sig:List TControl}{b:TBigraph}(h:bigOK sig b){c:List Int}(hc:Vz b c){k m:Nat}(hk:k<b.nodes.length)(hm:m<b.nodes.length):QE b c k=QE b c m↔J9 b c k=J9 b c m :=
 ZvA Zi3 Zi3 (Zep h hc hk) (Zep h hc hm)
theorem Zeq{M:Nat}{l:List Int}{v:Nat}(h:v<M):g0 (Z4 M l) v=(l.count (v:Int):Nat):=by
 simp [g0,Z4,h]
theorem Zi5{M:Nat}{l:List Int}{v:Nat}:(Z4 M l).set v (g0 (Z4 M l) v+1)=Z4 M (l++[(v:Int)]):=by
 refine List.ext_getElem (by simp [Z4]) fun i h1 h2=>?_
 have hi:i<M:=by simpa [Z4] using h2
 rw[List.getElem_set]
 simp only[Z4,List.getElem_map,List.getElem_range,List.count_append,List.count_singleton]
 split
 ·rename_i e
  subst e
  have:=Zeq (l:=l) hi
  unfold Z4 at this
  rw[this]
  simp
 ·rename_i e
  have:¬ ((v:Int) == (i:Int))=true:=by simp;omega
  simp [this]
theorem Zi6{M:Nat}:Z4 M []=List.replicate M 0:=by
 refine List.ext_getElem (by simp [Z4]) fun i h1 h2=>?_
 simp [Z4]
theorem Zwc{M:Nat}:Z4 M []++[0]=List.replicate (M+1) 0:=by rw[Zi6,List.replicate_succ']
theorem Zwd(c:List Int)(p:Int)(hp:(p<0/\-9<=p)\/(0<=p/\p<c.length))(lvl:Nat)(S:Zc):Sem UbX ZdK lvl [tI c,iI p] S (.ow 1 (rI (if p<0 then [0,-1-p] else [1,g0 c p.toNat])) true) S:=by
 refine Zr ZuJ trivial ?_
 by_cases h:p<0
 ·rw[if_pos h]
  have e:=eq_true h
  simp only[ZdT,e,UaI,Ubj,Zb,seval,Za,men]
  first | rfl | exact⟨by rw[Zh];omega,rfl⟩ | (rw[Zh];omega)
 ·rw[if_neg h]
  have e:=eq_false h
  have h0:0<=p:=by omega
  have ga:=Z5 (l:=c) (i:=p.toNat) (by omega)
  simp only[ZdT,e,ga,h0,UaI,Ubj,Zb,seval,Za,men]
  try rfl
theorem Zwe{sig:List TControl}{b:TBigraph}(h:bigOK sig b)(c:List Int)(hc:Vz b c)(k:Nat)(hk:k<b.nodes.length)(lvl:Nat)(S:Zc):Sem UbX ZdL lvl [.ag ((Zl b).map .tr),tI c,iI k] S (.ow 1 (rI (VS b c k)) true) S:=by
 have hsm:=h.small
 have hN:=hsm.nodes
 have hcl:=hc.1
 refine Zr ZuK trivial ?_
 simp only[ZhO,Zl,Uab,Zb,seval,Za,men]
 have hN1:((b.nodes.length:Int)+1).toNat=b.nodes.length+1:=by omega
 rw[hN1]
 refine⟨by rw[Zh];omega,by omega,by omega,Zk (Zvr b k (by omega)) ?_⟩
 have hkl:(kids b k).length<=b.nodes.length:=Qz
 simp only[Uab,Zb,seval,Za,men]
 refine ZZ (α:=Unit) (kids b k).length (fun j _=>[(9,iI j)]) (fun j _=>[(448,.ar 1 (rI (Z4 b.nodes.length ((ZH b c k).take j)++[0])) true (b.nodes.length+1) 0)]) (fun _ _=>True) () (by simp only[Zb,seval,Za,men]) (by simp only[Zvb,Zb,seval,Za,men];rw[Zwc]) trivial ?_
 intro j _ hj _
 simp only[Uab,Zb,seval,Za,men]
 refine Zs (fun hlt=>?_) (fun hge=>?_)
 ·have hja:j<(kids b k).length:=by omega
  have gk:=Z5 hja
  obtain⟨i,hi,hie,_⟩:=Uf (show g0 (kids b k) j∈kids b k by simp [hja])
  rw[hie] at gk
  have gc:=Z5 (l:=c) (i:=i) (by omega)
  have hcv:=hc.2 i hi
  obtain⟨v,hv⟩:=Ua2 hcv.1
  rw[hv] at gc
  have hvN:v<b.nodes.length:=by omega
  have hkc:(ZH b c k)[j]'(by unfold ZH;rw[Uab];exact hja)=(v:Int):=by
   unfold ZH
   rw[List.getElem_map]
   have:(kids b k)[j]=(i:Int):=by rw[<-hie];simp [hja]
   rw[this,Int.toNat_natCast,hv]
  have hrl:(Z4 b.nodes.length ((ZH b c k).take j)++[0]).length=b.nodes.length+1:=by rw[Uai,J8];rfl
  have hv2:v<(Z4 b.nodes.length ((ZH b c k).take j)++[0]).length:=by omega
  have gr:=Z5 hv2
  have hcm:=Zeq (l:=(ZH b c k).take j) hvN
  have hge0:g0 (Z4 b.nodes.length ((ZH b c k).take j)++[0]) v=g0 (Z4 b.nodes.length ((ZH b c k).take j)) v:=by
   simp [g0,Uap (show v<(Z4 b.nodes.length ((ZH b c k).take j)).length by rw[J8];exact hvN)]
  have hcnt:((ZH b c k).take j).count (v:Int)<=8:=Ua3 List.count_le_length (by rw[Uao];omega)
  simp only[gk,gc,gr,hja,hi,hv2,Int.toNat_natCast,Uak,Uab,isSc,Zb,seval,Za,men]
  refine⟨by omega,by rw[Zh,hge0,hcm];omega,by omega,by rw[Zh];omega,Zy () hja ?_ trivial⟩
  rw[Dt hv2,hge0,List.set_append_left _ _ (by rw[J8];exact hvN),Zi5,<-hkc,<-Uah]
  rfl
 ·have hj1:j=(kids b k).length:=by omega
  subst hj1
  rw[show (ZH b c k).take (kids b k).length=ZH b c k from Uar (by unfold ZH;rw[Uab];exact Uaf _)]
  have hhl:(Yu b k).length<=b.sites.length:=Qz
  have hs4:=hsm.sites
  refine Zk (Zvs b k (by omega)) ?_
  have hv2:b.nodes.length<(Z4 b.nodes.length (ZH b c k)++[0]).length:=by rw[Uai,J8];exact UaD _
  have gr:=Z5 hv2
  have hrl:(Z4 b.nodes.length (ZH b c k)++[0]).length=b.nodes.length+1:=by rw[Uai,J8];rfl
  simp only[gr,hv2,Int.toNat_natCast,Uak,Uab,isSc,Zb,seval,Za,men]
  have e:(Z4 b.nodes.length (ZH b c k)++[0]).set b.nodes.length ((Yu b k).length:Int)=VS b c k:=by
   rw[UbB _ _ (by rw[J8];exact Uaf _),J8,UbC]
   rfl
  rw[Dt hv2,e]
  exact⟨by rw[Uab,Zbt],rfl⟩
def J1(b:TBigraph)(l:Int)(j:Nat):List Int:=(List.range b.inner.length).map fun x=>if b.inner.length-1-x<j/\J7 b (b.inner.length-1-x)=l then 1 else 0
theorem Zwf{b:TBigraph}{l:Int}{j:Nat}:(J1 b l j).length=b.inner.length:=by simp [J1]
theorem Zwg{b:TBigraph}{l:Int}:J1 b l 0=List.replicate b.inner.length 0:=by
 refine List.ext_getElem (by simp [J1]) fun i h1 h2=>?_
 simp [J1]
theorem Zwh{b:TBigraph}{l:Int}:J1 b l b.inner.length=QB b l:=by
 unfold J1 QB
 refine Ubg fun x hx=>?_
 have hx:=UbW.1 hx
 have:b.inner.length-1-x<b.inner.length:=by omega
 simp only[this,true_and]
theorem Zwi{b:TBigraph}{l:Int}{j:Nat}(hj:j<b.inner.length)(h:J7 b j=l):(J1 b l j).set (b.inner.length-1-j) 1=J1 b l (j+1):=by
 refine List.ext_getElem (by simp [J1]) fun i h1 h2=>?_
 have hi:i<b.inner.length:=by simpa [J1] using h2
 rw[List.getElem_set]
 simp only[J1,List.getElem_map,List.getElem_range]
 by_cases e:b.inner.length-1-j=i
 ·rw[if_pos e,show b.inner.length-1-i=j by omega,if_pos ⟨by omega,h⟩]
 ·rw[if_neg e]
  have:b.inner.length-1-i≠j:=by omega
  by_cases g:b.inner.length-1-i<j
  ·simp only[g,show b.inner.length-1-i<j+1 by omega,true_and]
  ·simp only[g,show ¬ b.inner.length-1-i<j+1 by omega,false_and]
theorem Zwj{b:TBigraph}{l:Int}{j:Nat}(h:J7 b j≠l):J1 b l (j+1)=J1 b l j:=by
 unfold J1
 refine Ubg fun x _=>?_
 by_cases e:b.inner.length-1-x=j
 ·rw[if_neg (fun g=>h (by rw[<-e];exact g.2)),if_neg (fun g=>h (by rw[<-e];exact g.2))]
 ·by_cases g:b.inner.length-1-x<j
  ·simp only[g,show b.inner.length-1-x<j+1 by omega,true_and]
  ·simp only[g,show ¬ b.inner.length-1-x<j+1 by omega,false_and]
theorem Zi7{r:List Int}{v x:Int}{i:Nat}:(v::r).set (i+1) x=v::r.set i x:=rfl
theorem Zwk{M I:Nat}{l:List Int}{f:List Int}(hf:f.length=I){v:Nat}(hv:v<M):((-1:Int)::(Z4 M l++f)).set (1+v) (g0 ((-1:Int)::(Z4 M l++f)) (1+v)+1) = -1::(Z4 M (l++[(v:Int)])++f):=by
 have e:g0 ((-1:Int)::(Z4 M l++f)) (1+v)=g0 (Z4 M l) v:=by
  rw[Ua7]
  simp [g0,Uap (show v<(Z4 M l).length by rw[J8];exact hv)]
 rw[e,Ua7,Zi7,List.set_append_left _ _ (by rw[J8];exact hv),Zi5]
theorem Zwl{M:Nat}{l f:List Int}{v:Nat}(hv:v<M):g0 ((-1:Int)::(Z4 M l++f)) (1+v)=(l.count (v:Int):Nat):=by
 rw[Ua7]
 have e:g0 ((-1:Int)::(Z4 M l++f)) (v+1)=g0 (Z4 M l) v:=by
  simp [g0,Uap (show v<(Z4 M l).length by rw[J8];exact hv)]
 rw[e,Zeq hv]
def YF(M:Nat)(x f:List Int):List Int:=-1::(Z4 M x++f)
theorem Zwm{a n:Nat}:List.replicate (1+a+n) [Tr.v (Value.int .i64 0)]=rI ((0:Int)::(Z4 a []++List.replicate n 0)):=by
 rw[Zi6,List.replicate_append_replicate,<-List.replicate_succ,show a+n+1=1+a+n by omega]
 simp [List.map_replicate]
theorem Zwn{sig:List TControl}{b:TBigraph}(h:bigOK sig b)(c:List Int)(hc:Vz b c)(l:Int)(hl:0<=l/\l<b.edges+b.outer.length)(lvl:Nat)(S:Zc):Sem UbX ZdM lvl [.ag ((Zl b).map .tr),tI c,iI l] S (.ow 1 (rI (Yv b c l)) true) S:=by
 have hsm:=h.small
 have hN:=hsm.nodes
 have hE:=h.edges
 have hI:=hsm.inner
 have hO:=hsm.outer
 have hcl:=hc.1
 refine Zr ZuL trivial ?_
 unfold Yv
 by_cases g:b.edges<=l
 ·have e:=eq_true g
  rw[if_pos g]
  simp only[ZdU,Zl,e,Uab,Zb,seval,Za,men]
  first | rfl | exact⟨by rw[Zh];omega,rfl⟩ | (rw[Zh];omega)
 have e:=eq_false g
 rw[if_neg g]
 have hM:(1+(b.nodes.length:Int)*3+(b.inner.length:Int)).toNat=1+b.nodes.length*3+b.inner.length:=by omega
 have hrow:∀(x:List Int) (f:List Int),f.length=b.inner.length->(YF (b.nodes.length*3) x f).length=1+b.nodes.length*3+b.inner.length:=fun x f hf=>by
  unfold YF;rw[List.length_cons,Uai,J8,hf];omega
 have hpl:=Zbn hsm l
 have g0r:=Z5 (l:=(0:Int)::(Z4 (b.nodes.length*3) []++List.replicate b.inner.length 0)) (i:=0) (by simp)
 have hp0:ZG (rI ((0:Int)::(Z4 (b.nodes.length*3) []++List.replicate b.inner.length 0))) [] 0 0 (.v (.int .i64 (-1)))=rI (YF (b.nodes.length*3) [] (List.replicate b.inner.length 0)):=by
  rw[Dt (by simp)]
  rfl
 simp only[ZdU,Zl,e,hM,Zwm,g0r,hp0,isSc,Uab,Zb,seval,Za,men]
 refine⟨by rw[Zh];omega,by rw[Zh];omega,by rw[Zh];omega,by omega,by omega,by omega,Zk (Zvv b l (by omega) hsm.links) ?_⟩
 simp only[Uab,Zb,seval,Za,men]
 refine ZZ (α:=Unit) (ports b l).length (fun j _=>[(9,iI j)]) (fun j _=>[(960,.ar 1 (rI (YF (b.nodes.length*3) ((ZA b c l).take j) (List.replicate b.inner.length 0))) true (1+b.nodes.length*3+b.inner.length) 0)]) (fun _ _=>True) () (by simp only[Zb,seval,Za,men]) (by (simp only[Zb,seval,Za,men]) <;> rfl) trivial ?_
 intro j _ hj _
 simp only[Uab,Zb,seval,Za,men]
 refine Zs (fun hlt=>?_) (fun hge=>?_)
 ·have hja:j<(ports b l).length:=by omega
  obtain⟨i,m,hi,hm,hpe⟩:=Zbr h (Uan hja)
  have gp:=Jd (c:=YY) hja
  rw[hpe] at gp
  have gc:=Z5 (l:=c) (i:=i) (by omega)
  have hcv:=hc.2 i hi
  obtain⟨v,hv⟩:=Ua2 hcv.1
  rw[hv] at gc
  have hpt:(ZA b c l)[j]'(by unfold ZA;rw[Uab];exact hja)=((v*3+m:Nat):Int):=by
   unfold ZA
   rw[List.getElem_map,hpe]
   unfold ptC
   simp only[Int.toNat_natCast]
   rw[hv]
   omega
  have hvM:v*3+m<b.nodes.length*3:=by omega
  have hix:1+(v:Int)*3+(m:Int)=((1+(v*3+m):Nat):Int):=by omega
  have hrl:=hrow ((ZA b c l).take j) (List.replicate b.inner.length 0) (by simp)
  have hq2:1+(v*3+m)<(YF (b.nodes.length*3) ((ZA b c l).take j) (List.replicate b.inner.length 0)).length:=by omega
  have gr:=Z5 hq2
  have hg:g0 (YF (b.nodes.length*3) ((ZA b c l).take j) (List.replicate b.inner.length 0)) (1+(v*3+m))=_:=Zwl (M:=b.nodes.length*3) (l:=(ZA b c l).take j) (f:=List.replicate b.inner.length 0) hvM
  have hcnt:((ZA b c l).take j).count ((v*3+m:Nat):Int)<=8000:=Ua3 List.count_le_length (by
   have:=Zbn hsm l
   rw[Uao];unfold ZA;rw[Uab];omega)
  have hlt3:1+(v*3+m)<1+b.nodes.length*3+b.inner.length:=by omega
  simp only[gp,YY,gc,hix,gr,hja,hi,hlt3,Int.toNat_natCast,Uak,Uab,isSc,Zb,seval,Za,men]
  refine⟨by rw[Zh];omega,by rw[Zh];omega,by rw[Zh];omega,by rw[Zh,hg];omega,by rw[Zh];omega,Zy () hja ?_ trivial⟩
  rw[Dt hq2]
  have hset:(YF (b.nodes.length*3) ((ZA b c l).take j) (List.replicate b.inner.length 0)).set (1+(v*3+m)) (g0 (YF (b.nodes.length*3) ((ZA b c l).take j) (List.replicate b.inner.length 0)) (1+(v*3+m))+1)=YF (b.nodes.length*3) ((ZA b c l).take (j+1)) (List.replicate b.inner.length 0):=by
   unfold YF
   rw[Zwk (I:=b.inner.length) (by simp) hvM,Uah (by unfold ZA;rw[Uab];exact hja),hpt]
  rw[hset]
  rfl
 ·have hj1:j=(ports b l).length:=by omega
  subst hj1
  rw[show (ZA b c l).take (ports b l).length=ZA b c l from Uar (by unfold ZA;rw[Uab];exact Uaf _),<-Zwg (b:=b) (l:=l)]
  refine ZZ (α:=Unit) b.inner.length (fun j _=>[(11,iI j)]) (fun j _=>[(960,.ar 1 (rI (YF (b.nodes.length*3) (ZA b c l) (J1 b l j))) true (1+b.nodes.length*3+b.inner.length) 0)]) (fun _ _=>True) () (by simp only[Zb,seval,Za,men]) (by (simp only[Zb,seval,Za,men]) <;> rfl) trivial ?_
  intro i _ hi _
  simp only[Uab,Zb,seval,Za,men]
  refine Zs (fun hlt2=>?_) (fun hge2=>?_)
  ·have hia:i<b.inner.length:=by omega
   have gi:=Jd (c:=ZU) hia
   have hwl:=Zd8 hia
   have hrl:=hrow (ZA b c l) (J1 b l i) Zwf
   simp only[gi,ZU,Uab,Zb,seval,Za,men]
   refine Zs (fun hq=>?_) (fun hq=>?_)
   ·have hix:((1+b.nodes.length*3+b.inner.length:Nat):Int)-1-(i:Int)=((1+b.nodes.length*3+(b.inner.length-1-i):Nat):Int):=by omega
    have hq2:1+b.nodes.length*3+(b.inner.length-1-i)<(YF (b.nodes.length*3) (ZA b c l) (J1 b l i)).length:=by omega
    have gr:=Z5 hq2
    have hlt3:1+b.nodes.length*3+(b.inner.length-1-i)<1+b.nodes.length*3+b.inner.length:=by omega
    have hset:(YF (b.nodes.length*3) (ZA b c l) (J1 b l i)).set (1+b.nodes.length*3+(b.inner.length-1-i)) 1=YF (b.nodes.length*3) (ZA b c l) (J1 b l (i+1)):=by
     unfold YF
     rw[show 1+b.nodes.length*3+(b.inner.length-1-i)=(b.nodes.length*3+(b.inner.length-1-i))+1 by omega,Zi7,UbB _ _ (by rw[J8];omega),J8,UaW,Zwi hia (by rw[hwl];exact hq)]
    have hsp:ZG (rI (YF (b.nodes.length*3) (ZA b c l) (J1 b l i))) [] (1+b.nodes.length*3+(b.inner.length-1-i)) 0 (.v (.int .i64 1))=rI (YF (b.nodes.length*3) (ZA b c l) (J1 b l (i+1))):=by rw[Dt hq2,hset]
    simp only[gr,hix,hlt3,hsp,Int.toNat_natCast,Uak,Uab,isSc,Zb,seval,Za,men]
    exact⟨by rw[Zh];omega,by rw[Zh];omega,by rw[Zh];omega,Zy () hia rfl trivial⟩
   ·refine⟨by rw[Zh];omega,Zy () hia ?_ trivial⟩
    rw[Zwj (by rw[hwl];exact hq)]
    rfl
  ·have hi1:i=b.inner.length:=by omega
   subst hi1
   rw[Zwh]
   have hrl:=hrow (ZA b c l) (QB b l) Zej
   exact⟨hrl.symm,rfl⟩
theorem Zi8{sig:List TControl}{b:TBigraph}(h:bigOK sig b){c:List Int}{l:Int}:(Yv b c l).length<=50:=by
 have hsm:=h.small
 have hN:=hsm.nodes
 have hI:=hsm.inner
 unfold Yv
 split
 ·simp
 ·rw[List.length_cons,Uai,J8,Zej];omega
def Jz(b:TBigraph)(c:List Int)(k j:Nat):List Int:=(Vl b c k++VS b c k)++((ZF b k).take j).flatMap (Yv b c)
theorem Zby{sig:List TControl}{b:TBigraph}(h:bigOK sig b){c:List Int}{k:Nat}:∀{j:Nat},(Jz b c k j).length<=20+50*j:=fun {j}=>by
 have hN:=h.small.nodes
 have key:∀ L:List Int,(L.flatMap (Yv b c)).length<=50*L.length:=fun L=>by
  induction L with
  | nil=>simp
  | cons x r ih =>
   have:=Zi8 h (c:=c) (l:=x)
   rw[UaL,Uai,List.length_cons];omega
 have h1:=key ((ZF b k).take j)
 have h2:((ZF b k).take j).length<=j:=by rw[Uao];omega
 unfold Jz
 rw[Uai,Uai,Dx,Zbt]
 omega
theorem Zi9{b:TBigraph}{c:List Int}{k j:Nat}(hj:j<(ZF b k).length):Jz b c k (j+1)=Jz b c k j++Yv b c ((ZF b k)[j]):=by
 unfold Jz
 rw[Uah hj,Ubq,<-Uav]
 simp
theorem Zja{l:List Int}:ScR (rI l):=fun e he t ht=>by
 obtain⟨n,_,rfl⟩:=UaG.1 he
 rw[UaO] at ht
 rw[ht];rfl
theorem Zjb{l:List Int}:Zu 1 (rI l):=ZgL (fun n:Int=>[tv n]) (fun _=>rfl) l
theorem Zjc{sig:List TControl}{b:TBigraph}(h:bigOK sig b)(c:List Int)(hc:Vz b c)(k:Nat)(hk:k<b.nodes.length)(lvl:Nat)(S:Zc):Sem UbX Za5 lvl [.ag ((Zl b).map .tr),tI c,iI k] S (.ow 1 (rI (Vy b c k)) true) S:=by
 have nk:=XM h hk
 have hN:=h.small.nodes
 have hcl:=hc.1
 refine Zr ZuE trivial ?_
 have gn:=Jd (c:=ZB) hk
 have ab:(if b.nodes[k].parent<0 then [0,-1-b.nodes[k].parent] else [1,g0 c b.nodes[k].parent.toNat])=Vl b c k:=by unfold Vl;rw[Dw hk]
 have hpar:=nk.par
 rw[Dw hk] at hpar
 have qA:=Zwd c b.nodes[k].parent (by omega)
 rw[ab] at qA
 simp only[ZhJ,Zl,gn,ZB,hk,Int.toNat_natCast,Uak,Uab,Zb,seval,Za,men]
 refine Zk qA ?_
 simp only[Uab,Zb,seval,Za,men]
 refine Zk (Zwe h c hc k hk) ?_
 simp only[Uab,Zb,seval,Za,men]
 have hl0:=Zby h (c:=c) (k:=k) (j:=0)
 have hr0:rI (Vl b c k)++rI (VS b c k)=rI (Jz b c k 0):=by rw[<-Vv];unfold Jz;simp
 have hn0:(Vl b c k).length+(VS b c k).length=(Jz b c k 0).length:=by unfold Jz;simp
 have hmx0:max (Vl b c k).length ((Vl b c k).length+(VS b c k).length)=(Vl b c k).length+(VS b c k).length:=by omega
 rw[hmx0,hr0,hn0]
 refine⟨Zja,Zjb,by omega,?_⟩
 have hla:=Wm hk
 have hl3:=nk.linksL
 refine ZZ (α:=Unit) (ZF b k).length (fun j _=>[(7,.hd (lvl,512) [] 0 (Jz b c k j).length none (Jz b c k j).length),(8,iI j)]) (fun j _=>[(512,.ar 1 (rI (Jz b c k j)) true (Jz b c k j).length 0)]) (fun _ _=>True) () (by simp only[Zb,seval,Za,men]) (by (simp only[Zb,seval,Za,men]) <;> rfl) trivial ?_
 intro j _ hj _
 have gn2:(List.map ZB b.nodes)[k]? = some [tv b.nodes[k].control,tv b.nodes[k].parent,.sl (rI (ZF b k))]:=by rw[gn,hla];rfl
 simp only[gn2,hk,Int.toNat_natCast,Uak,Uab,Zb,seval,Za,men]
 refine Zs (fun hlt=>?_) (fun hge=>?_)
 ·have hja:j<(ZF b k).length:=by omega
  have gl:=Z5 hja
  have hg:g0 (ZF b k) j=(ZF b k)[j]:=by simp [hja]
  rw[hg] at gl
  have hlk:=nk.links _ (Uan hja)
  have h1:=Zby h (c:=c) (k:=k) (j:=j)
  have h2:=Zi8 h (c:=c) (l:=(ZF b k)[j])
  have hst:rI (Jz b c k j)++rI (Yv b c (ZF b k)[j])=rI (Jz b c k (j+1)):=by rw[<-Vv,Zi9 hja]
  have hn:(Jz b c k j).length+(Yv b c (ZF b k)[j]).length=(Jz b c k (j+1)).length:=by rw[Zi9 hja,Uai]
  have hmx:max (Jz b c k j).length (Jz b c k (j+1)).length=(Jz b c k (j+1)).length:=by omega
  simp only[gn2,gl,hja,hk,Int.toNat_natCast,Uak,Uab,Zb,seval,Za,men]
  refine Zk (Zwn h c hc _ hlk) ?_
  simp only[hst,hn,hmx,Uab,Zb,seval,Za,men]
  exact⟨Zja,Zjb,by omega,by rw[Zh];omega,Zy () hja rfl trivial⟩
 ·have hj1:j=(ZF b k).length:=by omega
  subst hj1
  have gc:=Z5 (l:=c) (i:=k) (by omega)
  have h1:=Zby h (c:=c) (k:=k) (j:=(ZF b k).length)
  have hmx:max (Jz b c k (ZF b k).length).length ((Jz b c k (ZF b k).length).length+1)=(Jz b c k (ZF b k).length).length+1:=by omega
  have hsg:Vy b c k=Jz b c k (ZF b k).length++[g0 c k]:=by unfold Vy Jz;rw[UaT];simp [Uav]
  have hst:rI (Jz b c k (ZF b k).length)++[[tv (g0 c k)]]=rI (Vy b c k):=by rw[hsg,Vv];rfl
  have hn:(Vy b c k).length=(Jz b c k (ZF b k).length).length+1:=by rw[hsg,Uai];rfl
  simp only[gc,hmx,hst,hk,Int.toNat_natCast,Uak,Uab,Zb,seval,Za,men]
  refine⟨by omega,?_⟩
  first | exact hn.symm | exact⟨hn.symm,rfl⟩
theorem Zjd{sig:List TControl}{b:TBigraph}(h:bigOK sig b){c:List Int}{k:Nat}(hk:k<b.nodes.length):(Vy b c k).length<=1000:=by
 have h1:=Zby h (c:=c) (k:=k) (j:=(ZF b k).length)
 have h2:=(XM h hk).linksL
 have hsg:Vy b c k=Jz b c k (ZF b k).length++[g0 c k]:=by unfold Vy Jz;rw[UaT];simp [Uav]
 rw[hsg,Uai]
 simp only[List.length_cons,List.length_nil]
 omega
noncomputable abbrev QF(b:TBigraph)(c:List Int):Nat->Nat->Prop:=fun j i=>J9 b c j=J9 b c i
theorem Zje{E:Nat->Nat->Prop}{n j:Nat}(hj:j<n):rI ((VT E n).take j)++[[tv ((lf E j:Nat):Int)]]=rI ((VT E n).take (j+1)):=by
 rw[Uah (by rw[Zel];exact hj),Vv]
 congr 1
 simp [VT]
theorem Zwo{sig:List TControl}{b:TBigraph}(h:bigOK sig b)(c:List Int)(hc:Vz b c)(lvl:Nat)(S:Zc):Sem UbX Zdt lvl [.ag ((Zl b).map .tr),tI c] S (.ow 1 (rI (Jg b c)) true) S:=by
 have hN:=h.small.nodes
 refine Zr Zun trivial ?_
 simp only[Zhr,Zl,Uab,Zb,seval,Za,men]
 refine ZZ (α:=Unit) b.nodes.length (fun j _=>[(5,.hd (lvl,256) [] 0 j none j),(6,iI j)]) (fun j _=>[(256,.ar 1 (rI ((Jg b c).take j)) true j 0)]) (fun _ _=>True) () (by simp only[Zb,seval,Za,men]) (by (simp only[Zb,seval,Za,men]) <;> rfl) trivial ?_
 intro j _ hj _
 simp only[Uab,Zb,seval,Za,men]
 refine Zs (fun hlt=>?_) (fun hge=>?_)
 ·have hja:j<b.nodes.length:=by omega
  obtain⟨hL,hle⟩:=Zbv (E:=QF b c) (i:=j) rfl
  refine ZZ (α:=Unit) (lf (QF b c) j) (fun k _=>[(7,iI k)]) (fun _ _=>[]) (fun _ _=>True) () (by simp only[Zb,seval,Za,men]) (by (simp only[Zb,seval,Za,men]) <;> rfl) trivial ?_
  intro k _ hk _
  have hmx:max j (j+1)=j+1:=by omega
  have hnl:(Jg b c).length=b.nodes.length:=nx_rep.len
  have htl:((Jg b c).take j).length=j:=by rw[Uao,hnl];omega
  have hst:rI ((Jg b c).take j)++[[tv ((lf (QF b c) j:Nat):Int)]]=rI ((Jg b c).take (j+1)):=Zje hja
  by_cases hkj:k<j
  ·have e1:=eq_true (show (k:Int)<(j:Int) by omega)
   have hkN:k<b.nodes.length:=by omega
   simp only[e1,Zl,Uab,Zb,seval,Za,men]
   refine Zk (Zjc h c hc k hkN) ?_
   simp only[Zl,Uab,Zb,seval,Za,men]
   refine Zk (Zjc h c hc j hja) ?_
   simp only[Zl,Uab,Zb,seval,Za,men]
   refine Zk (ZiE (Vy b c k) (Vy b c j) (by have:=Zjd h (c:=c) hkN;omega) (by have:=Zjd h (c:=c) hja;omega)) ?_
   by_cases hE:J9 b c k=J9 b c j
   ·have hke:k=lf (QF b c) j:=by
     rcases Nat.lt_trichotomy k (lf (QF b c) j) with g | g | g
     ·exact absurd hE (hL.2 k g)
     ·exact g
     ·omega
    rw[Vh ((ZiU h hc hkN hja).2 hE)]
    rw[<-hke] at hst ⊢
    simp only[htl,hmx,hst,Uab,Zb,seval,Za,men]
    exact⟨by omega,by rw[Zh];omega,Zy () hja rfl trivial⟩
   ·have hkl:k<lf (QF b c) j:=by
     rcases Nat.lt_or_ge k (lf (QF b c) j) with g | g
     ·exact g
     ·exact absurd (by rw[show k=lf (QF b c) j by omega];exact hL.1) hE
    rw[ZP fun q=>hE ((ZiU h hc hkN hja).1 q)]
    simp only[Uab,Zb,seval,Za,men]
    exact⟨by rw[Zh];omega,Zy () hkl rfl trivial⟩
  ·have e1:=eq_false (show ¬ (k:Int)<(j:Int) by omega)
   have hke:k=lf (QF b c) j:=by omega
   rw[<-hke] at hst ⊢
   simp only[e1,htl,hmx,hst,Uab,Zb,seval,Za,men]
   exact⟨by omega,by rw[Zh];omega,Zy () hja rfl trivial⟩
 ·have hj1:j=b.nodes.length:=by omega
  subst hj1
  have hnl:(Jg b c).length=b.nodes.length:=nx_rep.len
  rw[show (Jg b c).take b.nodes.length=Jg b c from Uar (by omega)]
  simp only[hnl,Uab,Zb,seval,Za,men]
  try rfl
theorem Uj{b:TBigraph}{k:Nat}(h:k<b.nodes.length):Ju b k=b.nodes[k].control:=by simp [Ju,h]
theorem Zwp{sig:List TControl}{b:TBigraph}(h:bigOK sig b)(lvl:Nat)(S:Zc):Sem UbX Zda lvl [.ag ((Zl b).map .tr)] S (.ow 1 (rI (ZR b (QC b))) true) S:=by
 have hN:=h.small.nodes
 have hcl:(XN b).length=b.nodes.length:=c0_rep.len
 refine Zr Zua trivial ?_
 simp only[Zhe,Zl,Uab,Zb,seval,Za,men]
 refine ZZ (α:=Unit) b.nodes.length (fun j _=>[(3,.hd (lvl,96) [] 0 j none j),(4,iI j)]) (fun j _=>[(96,.ar 1 (rI ((XN b).take j)) true j 0)]) (fun _ _=>True) () (by simp only[Zb,seval,Za,men]) (by (simp only[Zb,seval,Za,men]) <;> rfl) trivial ?_
 intro j _ hj _
 simp only[Uab,Zb,seval,Za,men]
 refine Zs (fun hlt=>?_) (fun hge=>?_)
 ·have hja:j<b.nodes.length:=by omega
  obtain⟨hL,hle⟩:=Zbv (E:=fun j i=>Ju b j=Ju b i) (i:=j) rfl
  refine ZZ (α:=Unit) (lf (fun j i=>Ju b j=Ju b i) j) (fun k _=>[(5,iI k)]) (fun _ _=>[]) (fun _ _=>True) () (by simp only[Zb,seval,Za,men]) (by (simp only[Zb,seval,Za,men]) <;> rfl) trivial ?_
  intro k _ hk _
  have hkN:k<b.nodes.length:=by omega
  have hmx:max j (j+1)=j+1:=by omega
  have htl:((XN b).take j).length=j:=by rw[Uao,hcl];omega
  have hst:rI ((XN b).take j)++[[tv ((lf (fun j i=>Ju b j=Ju b i) j:Nat):Int)]]=rI ((XN b).take (j+1)):=Zje hja
  have gk:=Jd (c:=ZB) hkN
  have gj:=Jd (c:=ZB) hja
  by_cases hE:Ju b k=Ju b j
  ·have hke:k=lf (fun j i=>Ju b j=Ju b i) j:=by
    rcases Nat.lt_trichotomy k (lf (fun j i=>Ju b j=Ju b i) j) with g | g | g
    ·exact absurd hE (hL.2 k g)
    ·exact g
    ·omega
   rw[<-hke] at hst ⊢
   rw[Uj hkN,Uj hja] at hE
   have e:=eq_true hE
   simp only[gk,gj,ZB,e,ne_eq,not_true_eq_false,htl,hmx,hst,hkN,hja,Int.toNat_natCast,Uak,Uab,Zb,seval,Za,men]
   exact⟨by omega,by rw[Zh];omega,Zy () hja rfl trivial⟩
  ·have hkl:k<lf (fun j i=>Ju b j=Ju b i) j:=by
    rcases Nat.lt_or_ge k (lf (fun j i=>Ju b j=Ju b i) j) with g | g
    ·exact g
    ·exact absurd (by rw[show k=lf (fun j i=>Ju b j=Ju b i) j by omega];exact hL.1) hE
   rw[Uj hkN,Uj hja] at hE
   have e:=eq_false hE
   simp only[gk,gj,ZB,e,ne_eq,not_false_eq_true,hkN,hja,Int.toNat_natCast,Uak,Uab,Zb,seval,Za,men]
   exact⟨by rw[Zh];omega,Zy () hkl rfl trivial⟩
 ·have hj1:j=b.nodes.length:=by omega
  subst hj1
  rw[show (XN b).take b.nodes.length=ZR b 0 from Uar (by omega)]
  refine ZZ (α:=Unit) (QC b) (fun t _=>[(3,.hd (lvl,96) [] 0 b.nodes.length none b.nodes.length)]) (fun t _=>[(96,.ar 1 (rI (ZR b t)) true b.nodes.length 0)]) (fun _ _=>True) () (by simp only[Zb,seval,Za,men]) (by (simp only[Zb,seval,Za,men]) <;> rfl) trivial ?_
  intro t _ ht _
  have hr:=Ui (b:=b) t
  have hcut:cut (rI (ZR b t)) 0 b.nodes.length=rI (ZR b t):=Qw (by rw[Uab,hr.len])
  have hnl:(Jg b (ZR b t)).length=b.nodes.length:=nx_rep.len
  have htl:=hr.len
  simp only[hcut,htl,Zl,Uab,Zb,seval,Za,men]
  refine Zk (Zwo h (ZR b t) hr.cl) ?_
  have hcut2:cut (rI (Jg b (ZR b t))) 0 b.nodes.length=rI (Jg b (ZR b t)):=Qw (by rw[Uab,hnl])
  simp only[hcut,hcut2,htl,hnl,Uab,Zb,seval,Za,men]
  refine Zk (ZiE (Jg b (ZR b t)) (ZR b t) (by omega) (by omega)) ?_
  obtain⟨st1,st2⟩:=ZiY b
  by_cases hs:t=QC b
  ·rw[Vh (by rw[hs];exact st1)]
   rw[hs] at htl ⊢
   simp only[htl,Uab,Zb,seval,Za,men]
   try rfl
  ·rw[ZP (st2 t (by omega))]
   simp only[htl,hnl,Uab,Zb,seval,Za,men]
   exact Zy () (by omega) rfl trivial
theorem Zwq(sig:List TControl)(b:TBigraph)(hn:sig.length<=4294967296)(hbs:∀ y∈sig,J2 4294967296 y)(hb:Vf 4294967296 b)(hf:Dd b)(lvl:Nat)(S:Zc):Sem UbX Zc1 lvl [.tr (.sl (sig.map ZE)),.ag ((Zl b).map .tr)] S (.tu [.ow 1 (rI (Yl sig b)) true,iB (Zbw sig b)]) S:=by
 refine Zr Zt7 (by simp [low,men,Za]) ?_
 simp only[Zhb,Zl,Uab,Zb,seval,Za,men]
 refine Zk (Zvk sig b hn hbs hb hf) ?_
 unfold Yl Zbw
 by_cases h:bigOK sig b
 ·rw[Vh h,if_pos h]
  simp only[Zl,Uab,Zb,seval,Za,men]
  refine Zk (Zwp h) ?_
  simp only[Uab,Zb,seval,Za,men]
  try rfl
 ·rw[ZP h,if_neg h]
  simp only[Uab,Zb,seval,Za,men]
  try rfl
theorem Xf{n:Int}(h:YN n):smL [n]:=fun k hk=>by rw[UaO] at hk;rw[hk];exact h
theorem Zjf{sig:List TControl}{b:TBigraph}(h:bigOK sig b){l:Int}:(ports b l).length<=24:=by
 have hN:=h.nodesL
 have key:∀ j,j<=b.nodes.length->(Jq b l j).length<=3*j:=fun j=>by
  induction j with
  | zero=>intro _;exact Ua9 _
  | succ j ih =>
   intro hj
   have h1:=ih (by omega)
   have h2:=Do (l:=l) (i:=j) (ls:=ZF b j) (k:=(ZF b j).length)
   have h3:=(XM h (show j<b.nodes.length by omega)).linksL
   rw[Jq,Uai]
   omega
 have:=key b.nodes.length (Uaf _)
 unfold ports
 omega
theorem Zwr{sig:List TControl}{b:TBigraph}(h:bigOK sig b)(c:List Int)(hc:Vz b c)(k:Nat)(hk:k<b.nodes.length)(lvl:Nat)(S:Zc):Sem UbX Zdg lvl [.ag ((Zl b).map .tr),tI c,iI k] S (iS (QE b c k)) S:=by
 have hsm:=h.small
 have hN:=hsm.nodes
 have hcl:=hc.1
 have nk:=XM h hk
 have hd:=Zep h hc hk
 have gn:=Jd (c:=ZB) hk
 have hla:=Wm hk
 have gn2:(List.map ZB b.nodes)[k]? = some [tv b.nodes[k].control,tv b.nodes[k].parent,.sl (rI (ZF b k))]:=by rw[gn,hla];rfl
 have gc:=Z5 (l:=c) (i:=k) (by omega)
 have hpar:=nk.par
 rw[Dw hk] at hpar
 refine Zr Zue trivial ?_
 simp only[Zhi,Zl,gn2,gc,hk,zfill,zobs,Vb,Vc,List.set_cons_zero,List.set_cons_succ,Int.toNat_natCast,Uak,Uab,Zb,seval,Za,men]
 refine Zk (Q9 wOWN [g0 c k] (Xf hd.own) (by decide) (by simp)) ?_
 have z1:=Qy (f:=Jp) (B:=4) [g0 c k] wOWN fun x hx=>Q8 (Xf hd.own x hx)
 have z2:=Qy (f:=Jp) (B:=4) [Vx b c k] tIN fun x hx=>Q8 (Xf hd.par x hx)
 have s1:wOWN.size=3:=rfl
 have s2:tIN.size=3:=rfl
 have s3:tKIDS.size=5:=rfl
 have s4:tSITES.size=6:=rfl
 have s5:tEDGE.size=5:=rfl
 have s6:tOUT.size=7:=rfl
 simp only[List.length_cons,List.length_nil] at z1 z2
 have hkl:(kids b k).length<=b.nodes.length:=Qz
 have hhl:(Yu b k).length<=b.sites.length:=Qz
 have hs4:=hsm.sites
 have hpP:Vx b c k=if 0<=b.nodes[k].parent then g0 c b.nodes[k].parent.toNat else b.nodes[k].parent:=by unfold Vx;rw[Dw hk]
 by_cases h0:0<=b.nodes[k].parent
 ·have e:=eq_true h0
  have gp:=Z5 (l:=c) (i:=b.nodes[k].parent.toNat) (by omega)
  rw[if_pos h0] at hpP
  simp only[e,gp,Uab,Zb,seval,Za,men]
  refine Zk (Q9 tIN [g0 c b.nodes[k].parent.toNat] (Xf (by rw[<-hpP];exact hd.par)) (by decide) (by simp)) ?_
  rw[<-hpP]
  simp only[Ual,Uab,Zb,seval,Za,men]
  refine⟨by omega,Zk (Zip b k (by omega) (by omega)) ?_⟩
  obtain⟨o2,ho2⟩:∃ o2,o2=Jy Jp wOWN [g0 c k]++Jy Jp tIN [Vx b c k]:=⟨_,rfl⟩
  have zo2:o2.size<=14:=by rw[ho2,Ual];omega
  rw[<-ho2]
  simp only[Uab,Zb,seval,Za,men]
  refine ZZ (α:=Unit) (kids b k).length (fun j _=>[(11,.hd (lvl,1856) [] 0 j none j),(61,iI j)]) (fun j _=>[(1856,.ar 1 (rI ((ZH b c k).take j)) true j 0)]) (fun _ _=>True) () (by simp only[Zb,seval,Za,men]) (by (simp only[Zb,seval,Za,men]) <;> rfl) trivial ?_
  intro j _ hj _
  simp only[Uab,Zb,seval,Za,men]
  refine Zs (fun hlt=>?_) (fun hge=>?_)
  ·have hja:j<(kids b k).length:=by omega
   have gk:=Z5 hja
   obtain⟨i,hi,hie,_⟩:=Uf (show g0 (kids b k) j∈kids b k by simp [hja])
   rw[hie] at gk
   have gci:=Z5 (l:=c) (i:=i) (by omega)
   have hic:i<c.length:=by omega
   have hkl2:(ZH b c k).length=(kids b k).length:=by unfold ZH;rw[Uab]
   have hkc:(ZH b c k)[j]'(by omega)=g0 c i:=by
    unfold ZH
    rw[List.getElem_map]
    have:(kids b k)[j]=(i:Int):=by rw[<-hie];simp [hja]
    rw[this,Int.toNat_natCast]
   have hmx:max j (j+1)=j+1:=by omega
   have htl:((ZH b c k).take j).length=j:=by rw[Uao];omega
   have hst:rI ((ZH b c k).take j)++[[tv (g0 c i)]]=rI ((ZH b c k).take (j+1)):=by
    rw[Uah (by omega),Vv,hkc]
    rfl
   simp only[gk,gci,hja,hic,hmx,htl,hst,Int.toNat_natCast,Uak,Uab,Zb,seval,Za,men]
   exact⟨by omega,by rw[Zh];omega,Zy () hja rfl trivial⟩
  ·have hj1:j=(kids b k).length:=by omega
   subst hj1
   have hkl2:(ZH b c k).length=(kids b k).length:=by unfold ZH;rw[Uab]
   rw[show (ZH b c k).take (kids b k).length=ZH b c k from Uar (by omega),<-hkl2]
   have q1:=fun S' hS=>Zbx (ZH b c k) (by omega) (lvl+1) S' (lvl,1856) true (ZH b c k).length 0 (UaD _) hS
   refine Uh 1856 _ (q1 _ ?_) ?_
   ·rw[JN];rfl
   simp only[Uab,Zb,seval,Za,men]
   have hsl:(Z3 (ZH b c k)).length=(ZH b c k).length:=srtG_perm.length_eq
   have hcut:cut (rI (Z3 (ZH b c k))) 0 (ZH b c k).length=rI (Z3 (ZH b c k)):=Qw (by rw[Uab,hsl])
   have hkl3:(ZH b c k).length<=8:=by omega
   have z3:=Qy (f:=Jp) (B:=4) (Z3 (ZH b c k)) tKIDS fun x hx=>Q8 (hd.kids x hx)
   have z4:=Qy (f:=Jp) (B:=4) [((Yu b k).length:Int)] tSITES fun x hx=>Q8 (Xf hd.sites x hx)
   simp only[List.length_cons,List.length_nil] at z4
   rw[hcut]
   refine⟨by omega,Zk (Q9 tKIDS (Z3 (ZH b c k)) (fun x hx=>hd.kids x hx) (by decide) (by omega)) ?_⟩
   simp only[hsl,hcut,Uab,Zb,seval,Za,men]
   refine Zk (Q9 tSITES [((Yu b k).length:Int)] (Xf hd.sites) (by decide) (by simp)) ?_
   simp only[Ual,Uab,Zb,seval,Za,men]
   have hhd:o2++(Jy Jp tKIDS (Z3 (ZH b c k))++Jy Jp tSITES [((Yu b k).length:Int)])=YZ b c k:=by rw[ho2];rfl
   have zhd:(YZ b c k).size<=100:=by rw[<-hhd,Ual,Ual];omega
   rw[hhd]
   refine⟨by omega,by omega,?_⟩
   refine ZZ (α:=Unit) (ZF b k).length (fun j _=>[(8,iS (((ZF b k).take j).foldl (Yw b c) (YZ b c k))),(87,iI j)]) (fun _ _=>[]) (fun j _=>(((ZF b k).take j).foldl (Yw b c) (YZ b c k)).size<=100+300*j) () (by simp only[Zb,seval,Za,men]) (by (simp only[Zb,seval,Za,men]) <;> rfl) (by simpa using zhd) ?_
   intro j _ hj hA
   simp only[Uab,Zb,seval,Za,men]
   refine Zs (fun hlt=>?_) (fun hge=>?_)
   ·have hja:j<(ZF b k).length:=by omega
    have gl:=Z5 hja
    rw[show g0 (ZF b k) j=(ZF b k)[j] by simp [hja]] at gl
    have hlk:=nk.links _ (Uan hja)
    have hl3:=nk.linksL
    obtain⟨o,ho⟩:∃ o,o=((ZF b k).take j).foldl (Yw b c) (YZ b c k):=⟨_,rfl⟩
    have hsucc:((ZF b k).take (j+1)).foldl (Yw b c) (YZ b c k)=Yw b c o ((ZF b k)[j]):=by
     rw[Uah hja,Ubx,<-ho];rfl
    rw[<-ho] at hA ⊢
    obtain⟨l,hl⟩:∃ l,l=(ZF b k)[j]:=⟨_,rfl⟩
    rw[<-hl] at gl hlk hsucc
    by_cases g:b.edges<=l
    ·have eg:=eq_true g
     have hi:(l-b.edges).toNat<b.outer.length:=by omega
     have h0e:0<=l-b.edges:=by omega
     have go:=Jd (c:=fun n:ByteArray=>[ts n]) hi
     have eo:b.outer[(l-b.edges).toNat]=Vk b (l-b.edges).toNat:=by unfold Vk;rw[Uag hi];rfl
     have zo:=(h.outer.1 _ hi).1.2.2
     have hE:=h.edges
     have hO:=hsm.outer
     rw[eo] at go zo
     simp only[gl,eg,go,h0e,s6,Ual,Uab,Zb,seval,Za,men]
     have hln:Yw b c o l=o++(tOUT++Vk b (l-b.edges).toNat):=if_pos g
     exact⟨by rw[Zh];omega,by omega,by omega,by rw[Zh];omega,Zy () hja (by rw[hsucc,hln];rfl) (by rw[hsucc,hln,Ual,Ual];omega)⟩
    ·have eg:=eq_false g
     have hbN:b.nodes.length<=1000:=by omega
     have hI:=hsm.inner
     have hln:Yw b c o l=Ym (o++Jy Jp tEDGE (Z3 (ZA b c l))) (Jt b l):=if_neg g
     simp only[gl,eg,Uab,Zb,seval,Za,men]
     refine Zk (Zit b l hbN hsm.links (by omega)) ?_
     have hpl:=Zbn hsm l
     have hptl:(ZA b c l).length=(ports b l).length:=by unfold ZA;rw[Uab]
     simp only[Uab,Zb,seval,Za,men]
     refine ZZ (α:=Unit) (ports b l).length (fun j _=>[(18,.hd (lvl,3584) [] 0 j none j),(115,iI j)]) (fun j _=>[(3584,.ar 1 (rI ((ZA b c l).take j)) true j 0)]) (fun _ _=>True) () (by simp only[Zb,seval,Za,men]) (by (simp only[Zb,seval,Za,men]) <;> rfl) trivial ?_
     intro q _ hq _
     simp only[Uab,Zb,seval,Za,men]
     refine Zs (fun hlt2=>?_) (fun hge2=>?_)
     ·have hqa:q<(ports b l).length:=by omega
      obtain⟨i,m,hi,hm,hpe⟩:=Zbr h (Uan hqa)
      have gp:=Jd (c:=YY) hqa
      rw[hpe] at gp
      have gci:=Z5 (l:=c) (i:=i) (by omega)
      have hcv:=hc.2 i hi
      have hic:i<c.length:=by omega
      have hpt:(ZA b c l)[q]'(by omega)=g0 c i*3+(m:Int):=by
       unfold ZA
       rw[List.getElem_map,hpe]
       rfl
      have hmx:max q (q+1)=q+1:=by omega
      have htl:((ZA b c l).take q).length=q:=by rw[Uao];omega
      have hst:rI ((ZA b c l).take q)++[[tv (g0 c i*3+(m:Int))]]=rI ((ZA b c l).take (q+1)):=by
       rw[Uah (by omega),Vv,hpt]
       rfl
      simp only[gp,YY,gci,hqa,hic,hmx,htl,hst,zfill,zobs,Vb,Vc,List.set_cons_zero,List.set_cons_succ,Int.toNat_natCast,Uak,Uab,Zb,seval,Za,men]
      exact⟨by rw[Zh];omega,by rw[Zh];omega,by omega,by rw[Zh];omega,Zy () hqa rfl trivial⟩
     ·have hq1:q=(ports b l).length:=by omega
      subst hq1
      rw[show (ZA b c l).take (ports b l).length=ZA b c l from Uar (by omega),<-hptl]
      have q2:=fun S' hS=>Zbx (ZA b c l) (by omega) (lvl+1) S' (lvl,3584) true (ZA b c l).length 0 (UaD _) hS
      refine Uh 3584 _ (q2 _ ?_) ?_
      ·rw[JN];rfl
      simp only[Uab,Zb,seval,Za,men]
      have hsp:(Z3 (ZA b c l)).length=(ZA b c l).length:=srtG_perm.length_eq
      have hcut2:cut (rI (Z3 (ZA b c l))) 0 (ZA b c l).length=rI (Z3 (ZA b c l)):=Qw (by rw[Uab,hsp])
      have hsm2:smL (Z3 (ZA b c l)):=fun x hx=>by
       have:=Wr h hc x (srtI_mem.1 hx)
       exact⟨by omega,by omega⟩
      have hp24:(ZA b c l).length<=24:=by rw[hptl];exact Zjf h
      have z5:=Qy (f:=Jp) (B:=4) (Z3 (ZA b c l)) tEDGE fun x hx=>Q8 (hsm2 x hx)
      rw[hcut2]
      refine⟨by omega,Zk (Q9 tEDGE (Z3 (ZA b c l)) hsm2 (by decide) (by omega)) ?_⟩
      simp only[hsp,hcut2,Ual,Uab,Zb,seval,Za,men]
      obtain⟨w0,hw0⟩:∃ w0,w0=o++Jy Jp tEDGE (Z3 (ZA b c l)):=⟨_,rfl⟩
      have zw0:w0.size<=o.size+101:=by rw[hw0,Ual];omega
      rw[<-hw0] at hln ⊢
      refine⟨by omega,?_⟩
      have hel:(Jt b l).length<=b.inner.length:=Zbj
      have hez:∀ n∈Jt b l,n.size<=4:=fun n hn=>by
       obtain⟨i,hi,_,rfl⟩:=ends_mem.1 hn
       have:=(h.inn.1 i (by rw[Xb];exact hi)).1.2.2
       rw[Uc hi]
       simpa [inn] using this
      refine ZZ (α:=Unit) (Jt b l).length (fun i _=>[(8,iS (Ym w0 ((Jt b l).take i))),(140,iI i)]) (fun _ _=>[]) (fun i _=>(Ym w0 ((Jt b l).take i)).size<=w0.size+5*i) () (by simp only[Zb,seval,Za,men]) (by (simp only[Zb,seval,Za,men]) <;> rfl) (by simp [Ym]) ?_
      intro i _ hi hB
      simp only[Uab,Zb,seval,Za,men]
      refine Zs (fun hlt3=>?_) (fun hge3=>?_)
      ·have hia:i<(Jt b l).length:=by omega
       have ge:=Jd (c:=fun n:ByteArray=>[ts n]) hia
       have hze:=hez _ (Uan hia)
       have hns:Ym w0 ((Jt b l).take (i+1))=Ym w0 ((Jt b l).take i)++(SP++(Jt b l)[i]):=by
        rw[Uah hia]
        unfold Ym
        rw[Ubx]
        rfl
       simp only[ge,Ub,Ual,Uab,Zb,seval,Za,men]
       exact⟨by omega,by omega,by rw[Zh];omega,Zy () hia (by rw[hns];rfl) (by rw[hns,Ual,Ual,Ub];omega)⟩
      ·have hi1:i=(Jt b l).length:=by omega
       subst hi1
       rw[UaT] at hB ⊢
       rw[<-hln] at hB ⊢
       exact⟨by rw[Zh];omega,Zy () hja (by rw[hsucc];rfl) (by rw[hsucc];omega)⟩
   ·have hj1:j=(ZF b k).length:=by omega
    subst hj1
    rw[UaT]
    first | rfl | trivial
 ·have e:=eq_false h0
  rw[if_neg h0] at hpP
  simp only[e,Uab,Zb,seval,Za,men]
  refine Zk (Q9 tIN [b.nodes[k].parent] (Xf (by rw[<-hpP];exact hd.par)) (by decide) (by simp)) ?_
  rw[<-hpP]
  simp only[Ual,Uab,Zb,seval,Za,men]
  refine⟨by omega,Zk (Zip b k (by omega) (by omega)) ?_⟩
  obtain⟨o2,ho2⟩:∃ o2,o2=Jy Jp wOWN [g0 c k]++Jy Jp tIN [Vx b c k]:=⟨_,rfl⟩
  have zo2:o2.size<=14:=by rw[ho2,Ual];omega
  rw[<-ho2]
  simp only[Uab,Zb,seval,Za,men]
  refine ZZ (α:=Unit) (kids b k).length (fun j _=>[(11,.hd (lvl,1856) [] 0 j none j),(61,iI j)]) (fun j _=>[(1856,.ar 1 (rI ((ZH b c k).take j)) true j 0)]) (fun _ _=>True) () (by simp only[Zb,seval,Za,men]) (by (simp only[Zb,seval,Za,men]) <;> rfl) trivial ?_
  intro j _ hj _
  simp only[Uab,Zb,seval,Za,men]
  refine Zs (fun hlt=>?_) (fun hge=>?_)
  ·have hja:j<(kids b k).length:=by omega
   have gk:=Z5 hja
   obtain⟨i,hi,hie,_⟩:=Uf (show g0 (kids b k) j∈kids b k by simp [hja])
   rw[hie] at gk
   have gci:=Z5 (l:=c) (i:=i) (by omega)
   have hic:i<c.length:=by omega
   have hkl2:(ZH b c k).length=(kids b k).length:=by unfold ZH;rw[Uab]
   have hkc:(ZH b c k)[j]'(by omega)=g0 c i:=by
    unfold ZH
    rw[List.getElem_map]
    have:(kids b k)[j]=(i:Int):=by rw[<-hie];simp [hja]
    rw[this,Int.toNat_natCast]
   have hmx:max j (j+1)=j+1:=by omega
   have htl:((ZH b c k).take j).length=j:=by rw[Uao];omega
   have hst:rI ((ZH b c k).take j)++[[tv (g0 c i)]]=rI ((ZH b c k).take (j+1)):=by
    rw[Uah (by omega),Vv,hkc]
    rfl
   simp only[gk,gci,hja,hic,hmx,htl,hst,Int.toNat_natCast,Uak,Uab,Zb,seval,Za,men]
   exact⟨by omega,by rw[Zh];omega,Zy () hja rfl trivial⟩
  ·have hj1:j=(kids b k).length:=by omega
   subst hj1
   have hkl2:(ZH b c k).length=(kids b k).length:=by unfold ZH;rw[Uab]
   rw[show (ZH b c k).take (kids b k).length=ZH b c k from Uar (by omega),<-hkl2]
   have q1:=fun S' hS=>Zbx (ZH b c k) (by omega) (lvl+1) S' (lvl,1856) true (ZH b c k).length 0 (UaD _) hS
   refine Uh 1856 _ (q1 _ ?_) ?_
   ·rw[JN];rfl
   simp only[Uab,Zb,seval,Za,men]
   have hsl:(Z3 (ZH b c k)).length=(ZH b c k).length:=srtG_perm.length_eq
   have hcut:cut (rI (Z3 (ZH b c k))) 0 (ZH b c k).length=rI (Z3 (ZH b c k)):=Qw (by rw[Uab,hsl])
   have hkl3:(ZH b c k).length<=8:=by omega
   have z3:=Qy (f:=Jp) (B:=4) (Z3 (ZH b c k)) tKIDS fun x hx=>Q8 (hd.kids x hx)
   have z4:=Qy (f:=Jp) (B:=4) [((Yu b k).length:Int)] tSITES fun x hx=>Q8 (Xf hd.sites x hx)
   simp only[List.length_cons,List.length_nil] at z4
   rw[hcut]
   refine⟨by omega,Zk (Q9 tKIDS (Z3 (ZH b c k)) (fun x hx=>hd.kids x hx) (by decide) (by omega)) ?_⟩
   simp only[hsl,hcut,Uab,Zb,seval,Za,men]
   refine Zk (Q9 tSITES [((Yu b k).length:Int)] (Xf hd.sites) (by decide) (by simp)) ?_
   simp only[Ual,Uab,Zb,seval,Za,men]
   have hhd:o2++(Jy Jp tKIDS (Z3 (ZH b c k))++Jy Jp tSITES [((Yu b k).length:Int)])=YZ b c k:=by rw[ho2];rfl
   have zhd:(YZ b c k).size<=100:=by rw[<-hhd,Ual,Ual];omega
   rw[hhd]
   refine⟨by omega,by omega,?_⟩
   refine ZZ (α:=Unit) (ZF b k).length (fun j _=>[(8,iS (((ZF b k).take j).foldl (Yw b c) (YZ b c k))),(87,iI j)]) (fun _ _=>[]) (fun j _=>(((ZF b k).take j).foldl (Yw b c) (YZ b c k)).size<=100+300*j) () (by simp only[Zb,seval,Za,men]) (by (simp only[Zb,seval,Za,men]) <;> rfl) (by simpa using zhd) ?_
   intro j _ hj hA
   simp only[Uab,Zb,seval,Za,men]
   refine Zs (fun hlt=>?_) (fun hge=>?_)
   ·have hja:j<(ZF b k).length:=by omega
    have gl:=Z5 hja
    rw[show g0 (ZF b k) j=(ZF b k)[j] by simp [hja]] at gl
    have hlk:=nk.links _ (Uan hja)
    have hl3:=nk.linksL
    obtain⟨o,ho⟩:∃ o,o=((ZF b k).take j).foldl (Yw b c) (YZ b c k):=⟨_,rfl⟩
    have hsucc:((ZF b k).take (j+1)).foldl (Yw b c) (YZ b c k)=Yw b c o ((ZF b k)[j]):=by
     rw[Uah hja,Ubx,<-ho];rfl
    rw[<-ho] at hA ⊢
    obtain⟨l,hl⟩:∃ l,l=(ZF b k)[j]:=⟨_,rfl⟩
    rw[<-hl] at gl hlk hsucc
    by_cases g:b.edges<=l
    ·have eg:=eq_true g
     have hi:(l-b.edges).toNat<b.outer.length:=by omega
     have h0e:0<=l-b.edges:=by omega
     have go:=Jd (c:=fun n:ByteArray=>[ts n]) hi
     have eo:b.outer[(l-b.edges).toNat]=Vk b (l-b.edges).toNat:=by unfold Vk;rw[Uag hi];rfl
     have zo:=(h.outer.1 _ hi).1.2.2
     have hE:=h.edges
     have hO:=hsm.outer
     rw[eo] at go zo
     simp only[gl,eg,go,h0e,s6,Ual,Uab,Zb,seval,Za,men]
     have hln:Yw b c o l=o++(tOUT++Vk b (l-b.edges).toNat):=if_pos g
     exact⟨by rw[Zh];omega,by omega,by omega,by rw[Zh];omega,Zy () hja (by rw[hsucc,hln];rfl) (by rw[hsucc,hln,Ual,Ual];omega)⟩
    ·have eg:=eq_false g
     have hbN:b.nodes.length<=1000:=by omega
     have hI:=hsm.inner
     have hln:Yw b c o l=Ym (o++Jy Jp tEDGE (Z3 (ZA b c l))) (Jt b l):=if_neg g
     simp only[gl,eg,Uab,Zb,seval,Za,men]
     refine Zk (Zit b l hbN hsm.links (by omega)) ?_
     have hpl:=Zbn hsm l
     have hptl:(ZA b c l).length=(ports b l).length:=by unfold ZA;rw[Uab]
     simp only[Uab,Zb,seval,Za,men]
     refine ZZ (α:=Unit) (ports b l).length (fun j _=>[(18,.hd (lvl,3584) [] 0 j none j),(115,iI j)]) (fun j _=>[(3584,.ar 1 (rI ((ZA b c l).take j)) true j 0)]) (fun _ _=>True) () (by simp only[Zb,seval,Za,men]) (by (simp only[Zb,seval,Za,men]) <;> rfl) trivial ?_
     intro q _ hq _
     simp only[Uab,Zb,seval,Za,men]
     refine Zs (fun hlt2=>?_) (fun hge2=>?_)
     ·have hqa:q<(ports b l).length:=by omega
      obtain⟨i,m,hi,hm,hpe⟩:=Zbr h (Uan hqa)
      have gp:=Jd (c:=YY) hqa
      rw[hpe] at gp
      have gci:=Z5 (l:=c) (i:=i) (by omega)
      have hcv:=hc.2 i hi
      have hic:i<c.length:=by omega
      have hpt:(ZA b c l)[q]'(by omega)=g0 c i*3+(m:Int):=by
       unfold ZA
       rw[List.getElem_map,hpe]
       rfl
      have hmx:max q (q+1)=q+1:=by omega
      have htl:((ZA b c l).take q).length=q:=by rw[Uao];omega
      have hst:rI ((ZA b c l).take q)++[[tv (g0 c i*3+(m:Int))]]=rI ((ZA b c l).take (q+1)):=by
       rw[Uah (by omega),Vv,hpt]
       rfl
      simp only[gp,YY,gci,hqa,hic,hmx,htl,hst,zfill,zobs,Vb,Vc,List.set_cons_zero,List.set_cons_succ,Int.toNat_natCast,Uak,Uab,Zb,seval,Za,men]
      exact⟨by rw[Zh];omega,by rw[Zh];omega,by omega,by rw[Zh];omega,Zy () hqa rfl trivial⟩
     ·have hq1:q=(ports b l).length:=by omega
      subst hq1
      rw[show (ZA b c l).take (ports b l).length=ZA b c l from Uar (by omega),<-hptl]
      have q2:=fun S' hS=>Zbx (ZA b c l) (by omega) (lvl+1) S' (lvl,3584) true (ZA b c l).length 0 (UaD _) hS
      refine Uh 3584 _ (q2 _ ?_) ?_
      ·rw[JN];rfl
      simp only[Uab,Zb,seval,Za,men]
      have hsp:(Z3 (ZA b c l)).length=(ZA b c l).length:=srtG_perm.length_eq
      have hcut2:cut (rI (Z3 (ZA b c l))) 0 (ZA b c l).length=rI (Z3 (ZA b c l)):=Qw (by rw[Uab,hsp])
      have hsm2:smL (Z3 (ZA b c l)):=fun x hx=>by
       have:=Wr h hc x (srtI_mem.1 hx)
       exact⟨by omega,by omega⟩
      have hp24:(ZA b c l).length<=24:=by rw[hptl];exact Zjf h
      have z5:=Qy (f:=Jp) (B:=4) (Z3 (ZA b c l)) tEDGE fun x hx=>Q8 (hsm2 x hx)
      rw[hcut2]
      refine⟨by omega,Zk (Q9 tEDGE (Z3 (ZA b c l)) hsm2 (by decide) (by omega)) ?_⟩
      simp only[hsp,hcut2,Ual,Uab,Zb,seval,Za,men]
      obtain⟨w0,hw0⟩:∃ w0,w0=o++Jy Jp tEDGE (Z3 (ZA b c l)):=⟨_,rfl⟩
      have zw0:w0.size<=o.size+101:=by rw[hw0,Ual];omega
      rw[<-hw0] at hln ⊢
      refine⟨by omega,?_⟩
      have hel:(Jt b l).length<=b.inner.length:=Zbj
      have hez:∀ n∈Jt b l,n.size<=4:=fun n hn=>by
       obtain⟨i,hi,_,rfl⟩:=ends_mem.1 hn
       have:=(h.inn.1 i (by rw[Xb];exact hi)).1.2.2
       rw[Uc hi]
       simpa [inn] using this
      refine ZZ (α:=Unit) (Jt b l).length (fun i _=>[(8,iS (Ym w0 ((Jt b l).take i))),(140,iI i)]) (fun _ _=>[]) (fun i _=>(Ym w0 ((Jt b l).take i)).size<=w0.size+5*i) () (by simp only[Zb,seval,Za,men]) (by (simp only[Zb,seval,Za,men]) <;> rfl) (by simp [Ym]) ?_
      intro i _ hi hB
      simp only[Uab,Zb,seval,Za,men]
      refine Zs (fun hlt3=>?_) (fun hge3=>?_)
      ·have hia:i<(Jt b l).length:=by omega
       have ge:=Jd (c:=fun n:ByteArray=>[ts n]) hia
       have hze:=hez _ (Uan hia)
       have hns:Ym w0 ((Jt b l).take (i+1))=Ym w0 ((Jt b l).take i)++(SP++(Jt b l)[i]):=by
        rw[Uah hia]
        unfold Ym
        rw[Ubx]
        rfl
       simp only[ge,Ub,Ual,Uab,Zb,seval,Za,men]
       exact⟨by omega,by omega,by rw[Zh];omega,Zy () hia (by rw[hns];rfl) (by rw[hns,Ual,Ual,Ub];omega)⟩
      ·have hi1:i=(Jt b l).length:=by omega
       subst hi1
       rw[UaT] at hB ⊢
       rw[<-hln] at hB ⊢
       exact⟨by rw[Zh];omega,Zy () hja (by rw[hsucc];rfl) (by rw[hsucc];omega)⟩
   ·have hj1:j=(ZF b k).length:=by omega
    subst hj1
    rw[UaT]
    first | rfl | trivial
noncomputable def VA(f:Nat->ByteArray)(n:Nat):List ByteArray:=(List.range n).map f
theorem Ws{f:Nat->ByteArray}{n:Nat}:(VA f n).length=n:=by simp [VA]
theorem Zjg{f:Nat->ByteArray}{n j:Nat}(hj:j<n):rS ((VA f n).take j)++[[ts (f j)]]=rS ((VA f n).take (j+1)):=by
 rw[Uah (by rw[Ws];exact hj)]
 simp [VA]
theorem Zjh(sig:List TControl)(b:TBigraph)(hn:sig.length<=4294967296)(hbs:∀ y∈sig,J2 4294967296 y)(hb:Vf 4294967296 b)(_hf:Dd b)(lvl:Nat)(S:Zc):Sem UbX ZaP lvl [.tr (.sl (sig.map ZE)),.ag ((Zl b).map .tr)] S (.tu [.ow 1 (rI (Yl sig b)) true,iB (Zbw sig b)]) S:=by
 refine Zr Zt8 (by simp [low,men,Za]) ?_
 simp only[Zhc,Zl,Uab,Zb,seval,Za,men]
 refine Zk (Zvq sig b hn hbs hb) ?_
 unfold Yl Zbw
 by_cases h:bigOK sig b
 rotate_left
 ·rw[ZP h,if_neg h]
  simp only[Uab,Zb,seval,Za,men]
  try rfl
 rw[Vh h,if_pos h]
 have hN:=h.nodesL
 have hn6:=h.sg.2.2
 simp only[Zl,Uab,Zb,seval,Za,men]
 refine ZZ (α:=Unit) b.nodes.length (fun j _=>[(6,.hd (lvl,512) [] 0 j none j),(20,iI j)]) (fun j _=>[(512,.ar 1 (rS ((VA (fun k=>Je (Ju b k)) b.nodes.length).take j)) true j 0)]) (fun _ _=>True) () (by simp only[Zb,seval,Za,men]) (by (simp only[Zb,seval,Za,men]) <;> rfl) trivial ?_
 intro j _ hj _
 simp only[Uab,Zb,seval,Za,men]
 refine Zs (fun hlt=>?_) (fun hge=>?_)
 ·have hja:j<b.nodes.length:=by omega
  have gn:=Jd (c:=ZB) hja
  have hct:=(h.nodes j hja).ctl
  have hst:=Zjg (f:=fun k=>Je (Ju b k)) hja
  rw[Uj hja] at hst
  have hmx:max j (j+1)=j+1:=by omega
  have htl:((VA (fun k=>Je (Ju b k)) b.nodes.length).take j).length=j:=by rw[Uao,Ws];omega
  simp only[gn,ZB,zfill,zobs,Vb,Vc,List.set_cons_zero,List.set_cons_succ,Uab,Zb,seval,Za,men]
  refine Zk (Zid _ ⟨by omega,by omega⟩) ?_
  simp only[hst,hmx,htl,Uab,Zb,seval,Za,men]
  exact⟨by omega,by rw[Zh];omega,Zy () hja rfl trivial⟩
 ·have hj1:j=b.nodes.length:=by omega
  subst hj1
  rw[Uar (by rw[Ws];exact Uaf _)]
  obtain⟨T,hT⟩:∃ T,T=VA (fun k=>Je (Ju b k)) b.nodes.length:=⟨_,rfl⟩
  have hTl:T.length=b.nodes.length:=by rw[hT,Ws]
  have hTg:∀ q (hq:q<T.length),T[q]=Je (Ju b q):=fun q hq=>by subst hT;simp [VA]
  have hsm:∀ q,q<b.nodes.length->YN (Ju b q):=fun q hq=>by
   have:=(h.nodes q hq).ctl
   rw[Uj hq]
   exact⟨by omega,by omega⟩
  have hc0:T.map (QD T)=ZR b 0:=by
   have:=Zi0 (T:=T) (E:=fun j i=>Ju b j=Ju b i) fun x y hx hy=>by
    rw[hTg x hx,hTg y hy]
    exact⟨fun e=>Dr (hsm x (by omega)) (hsm y (by omega)) e,fun e=>by rw[e]⟩
   rw[hTl] at this
   exact this
  have hcutT:cut (rS T) 0 b.nodes.length=rS T:=Qw (by rw[Uab,hTl])
  rw[<-hT,hcutT]
  have hi0:=(Ui (b:=b) 0).len
  refine⟨by omega,Zk (ZiZ T (by omega)) ?_⟩
  rw[hc0]
  simp only[hi0,Uab,Zb,seval,Za,men]
  refine ZZ (α:=Unit) (QC b) (fun t _=>[(9,.hd (lvl,288) [] 0 b.nodes.length none b.nodes.length)]) (fun t _=>[(288,.ar 1 (rI (ZR b t)) true b.nodes.length 0)]) (fun _ _=>True) () (by simp only[Zb,seval,Za,men]) (by (simp only[Zb,seval,Za,men]) <;> rfl) trivial ?_
  intro t _ ht _
  have hr:=Ui (b:=b) t
  have htl:=hr.len
  simp only[htl,Uab,Zb,seval,Za,men]
  obtain⟨st1,st2⟩:=ZiY b
  have hcut:cut (rI (ZR b t)) 0 b.nodes.length=rI (ZR b t):=Qw (by rw[Uab,hr.len])
  refine ZZ (α:=Unit) b.nodes.length (fun j _=>[(6,.hd (lvl,192) [] 0 j none j),(36,iI j)]) (fun j _=>[(192,.ar 1 (rS ((VA (QE b (ZR b t)) b.nodes.length).take j)) true j 0)]) (fun _ _=>True) () (by simp only[Zb,seval,Za,men]) (by (simp only[Zb,seval,Za,men]) <;> rfl) trivial ?_
  intro k _ hk _
  simp only[hcut,htl,Uab,Zb,seval,Za,men]
  refine Zs (fun hlt2=>?_) (fun hge2=>?_)
  ·have hka:k<b.nodes.length:=by omega
   have hst:=Zjg (f:=QE b (ZR b t)) hka
   have hmx:max k (k+1)=k+1:=by omega
   have htk:((VA (QE b (ZR b t)) b.nodes.length).take k).length=k:=by rw[Uao,Ws];omega
   refine Zk (Zwr h (ZR b t) hr.cl k hka) ?_
   simp only[hst,hmx,htk,Uab,Zb,seval,Za,men]
   exact⟨by omega,by rw[Zh];omega,Zy () hka rfl trivial⟩
  ·have hk1:k=b.nodes.length:=by omega
   subst hk1
   rw[Uar (by rw[Ws];exact Uaf _)]
   obtain⟨L,hL⟩:∃ L,L=VA (QE b (ZR b t)) b.nodes.length:=⟨_,rfl⟩
   have hLl:L.length=b.nodes.length:=by rw[hL,Ws]
   have hLg:∀ q (hq:q<L.length),L[q]=QE b (ZR b t) q:=fun q hq=>by subst hL;simp [VA]
   have hnx:L.map (QD L)=Jg b (ZR b t):=by
    have:=Zi0 (T:=L) (E:=QF b (ZR b t)) fun x y hx hy=>by
     rw[hLg x hx,hLg y hy]
     exact Zwb h hr.cl (by omega) (by omega)
    rw[hLl] at this
    exact this
   have hcutL:cut (rS L) 0 b.nodes.length=rS L:=Qw (by rw[Uab,hLl])
   have hnl:(Jg b (ZR b t)).length=b.nodes.length:=nx_rep.len
   have hcut2:cut (rI (Jg b (ZR b t))) 0 b.nodes.length=rI (Jg b (ZR b t)):=Qw (by rw[Uab,hnl])
   rw[<-hL,hcutL]
   refine⟨by omega,Zk (ZiZ L (by omega)) ?_⟩
   rw[hnx]
   simp only[hcut,hcut2,hnl,htl,Uab,Zb,seval,Za,men]
   refine Zk (ZiK (Jg b (ZR b t)) (by omega)) ?_
   simp only[hcut,hcut2,hnl,htl,Uab,Zb,seval,Za,men]
   refine Zk (ZiK (ZR b t) (by omega)) ?_
   have hmany:=(ZiX hr).2
   by_cases hs:t=QC b
   ·have e:(((Yk (Jg b (ZR b t))).length:Int)=((Yk (ZR b t)).length:Int))=True:=eq_true (by rw[hmany.2 (by rw[hs];exact st1)])
    rw[hs] at htl e ⊢
    simp only[e,htl,Uab,Zb,seval,Za,men]
    try rfl
   ·have e:(((Yk (Jg b (ZR b t))).length:Int)=((Yk (ZR b t)).length:Int))=False:=eq_false fun q=>st2 t (by omega) (hmany.1 (by omega))
    simp only[e,htl,hnl,Uab,Zb,seval,Za,men]
    exact Zy () (by omega) rfl trivial
theorem Zji{P:Program}{x:String×DataW Unit}{rest:List (String×DataW Unit)}{w:World}(h:laidMet P (x::rest) w):laidMet P rest w:=by
 obtain⟨n,d⟩:=x
 obtain⟨ps,⟨g,t,cs,fuel,p,q,_,_,_,_,hr,rfl⟩,hn,hc⟩:=h
 exact⟨q,hr,(List.nodup_append.1 hn).2.1,fun b off hb=>hc b off (List.mem_append_right _ hb)⟩
theorem Zws{x y:String×DataW Unit}{rest:List (String×DataW Unit)}{w:World} (h:laidMet UbX (x::y::("internal/strconv.uint64pow10",Lib.tabData .u64 Lib.pow10Tab)::rest) w) (_hs:w.ShapedOpen UbX):Tabs.good w :=
 Lib.tabIs_of_head (g:=0) (t:=158) (e:=132) (n:=20) (by kernel_rfl) (by kernel_rfl) Proofs.Tryz.underlying158 Proofs.Tryz.underlying132 (by kernel_rfl) (by kernel_rfl) (Zji (Zji h))
section
variable {H:Type} {enc:TypeId×Value->H}
theorem Zwt{a:Assume}{C:Checked}{os:Os}{f:FuncId}{fn:Func}{s:ChangeSpec}{conds:List PathCond}{YK fresh handsOn again:Bool}{X:World->Array Value->Prop}
  (hX:∀(w w':World) (args:Array Value),w.heap=w'.heap->X w args->X w' args)
  (own:ownKnob C.prog.godebug=none) (started:os.Started) (noInit:C.prog.inits.idxOf? f=none) (hfn:C.prog.funcs[f]? = some fn)
  (witness:∃(w:World) (tape:Tape) (i:Input),w.os=os/\(w.forCall tape i).Shaped C.prog/\i.vars=[]/\Input.okWide C.prog (w.forCall tape i) .any w.heap.size f i /\
   ((s.pre enc C.prog fn conds YK (w.forCall tape i).memory i.args/\X (w.forCall tape i).memory i.args)/\sizedMet enc C.prog fn (OpenSpec.ofChange s) YK (w.forCall tape i).memory i.args)/\a.holds C.prog (lone (Frame.enter C.prog f i.args .normal) [] (w.forCall tape i)))
  (contract:∀(W:World) (base:Nat) (args:Array Value) (ds gs:List (DataW H)) (before:List MemPlace),
   (∀(j:Nat) t v,fn.params[j]? = some t->args[j]? = some v->Value.okWide C.prog W .any base t v) ->
   DataW.Whole enc C.prog fn.params.toList s.vars YK W args.toList ds gs before->X W args->W.ShapedOpen C.prog ->
   Calls C.prog f args W fun e W' => ∃ v,e = .returned v/\s.post enc C.prog fn YK fresh handsOn again W args v W') :
  ReturnsInHanded a C os f .any (fun w args=>(s.pre enc C.prog fn conds YK w args/\X w args)/\sizedMet enc C.prog fn (OpenSpec.ofChange s) YK w args) (s.post enc C.prog fn YK fresh handsOn again):=by
 refine returnsInHanded_of_calls own started noInit witness ?_
 intro w tape i _ hsh _ hok hpre _
 obtain⟨_,_,_,fn',hfn',_,_,_,_,hval⟩:=hok
 have e:fn'=fn:=Ua6 (hfn'.symm.trans hfn)
 subst e
 obtain⟨⟨⟨ds,gs,before,hw,_⟩,hx⟩,_⟩:=hpre
 have hw':=DataW.Whole.of_heap (w':=w.forCall tape i) (by rfl) hw
 refine(contract (w.forCall tape i) w.heap.size i.args ds gs before hval hw' (hX _ _ _ (by rfl) hx) hsh).mono fun e W' ⟨v,he,hp⟩=>?_
 subst he
 exact ChangeSpec.post_blind hp
end
def Zjj:F2 :=
 { nt:=119,res:=[.t 4 [0]],body:=(.sq (rg [oo 3 (.bt (.t 1)),om 4 (.k (.bool false))]) (.sq (rg [om 5 (i6 1048576)]) (.sq (rg [qM 17 0,qM 18 5,oo 19 (.ca .pure false (.f ZcZ) [.t 17,.t 18]),qM 5 19]) (.sq (.sq (rg [qM 20 5,oo 21 (.bi .lss 0 (.t 20) (i6 0))]) (.cd (.t 21) (.sq (rg [om 4 (.k (.bool true))]) (.rt)) (.sk))) (.sq (rg [qS 22 6 3,qM 23 5,oo 24 (.ca .pure false (.f Zc0) [.t 22,.t 23]),qM 5 24]) (.sq (.sq (rg [qM 25 5,oo 26 (.bi .lss 0 (.t 25) (i6 0))]) (.cd (.t 26) (.sq (rg [om 4 (.k (.bool true))]) (.rt)) (.sk))) (.sq (.rg (some 0) [qM 28 0,oo 29 (.ca .pure false (.f W9) [.t 28]),qS 30 6 3,oo 31 (.ca .pure false (.f Ua) [.t 30]),oo 32 (.ca .pure false (.f Zc1) [.t 29,.t 31]),qM 27 32,qE 33 0 27,qE 34 1 27,qM 6 33,qM 7 34]) (.sq (rg [qM 35 0,oo 36 (.ca .pure true (.f W9) [.t 35]),qM 8 36]) (.sq (rg [qS 37 6 3,oo 38 (.ca .pure true (.f Ua) [.t 37]),oo 9 (.al [.int .i64 0,.slice none 0 0,.slice none 0 0,.int .i64 0,.slice none 0 0,.slice none 0 0] []),
 ZT (.st 6 (.t 9) (.t 38))]) (.sq (rg [qM 40 8,qS 41 6 9,oo 42 (.ca .pure true (.f ZaP) [.t 40,.t 41]),qM 39 42,qE 43 0 39,qE 44 1 39,qM 10 43,qM 11 44]) (.sq (.sq (rg [qM 45 10,qM 46 6,oo 47 (.ca .pure false (.f We) [.t 45,.t 46]),oo 48 (.nt (.t 47)),qM 49 48,og 50 49 false (.mv (.t 11) none),og 51 49 false (.mv (.t 7) none),og 52 49 false (.bi .neq 2 (.t 50) (.t 51)),oo 53 (.pk (.t 49) (.k (.bool true)) (.t 52))]) (.cd (.t 53) (.sq (rg [om 4 (.k (.bool false))]) (.rt)) (.sk))) (.sq (.sq (rg [qM 54 8,qM 55 0,oo 56 (.ca .pure false (.f W9) [.t 55]),oo 57 (.ca .pure false (.f Zc2) [.t 54,.t 56]),oo 58 (.nt (.t 57))]) (.cd (.t 58) (.sq (rg [om 4 (.k (.bool false))]) (.rt)) (.sk))) (.sq (.sq (.rg (some 0) [qS 59 6 9,qS 60 6 3,oo 61 (.ca .pure false (.f Ua) [.t 60]),oo 62 (.ca .pure false (.f Zc3) [.t 59,.t 61]),oo 63 (.nt (.t 62))]) (.cd (.t 63) (.sq (rg [om 4 (.k (.bool false))]) (.rt)) (.sk))) (.sq (rg [om 12 (i6 1)]) (.sq (rg [qM 64 8,qM 65 12,oo 66 (.ca .any true (.f Zc4) [.t 64,.t 65]),qM 12 66]) (.sq (rg [qS 67 6 9,qM 68 12,oo 69 (.ca .any true (.f ZaQ) [.t 67,.t 68]),qM 12 69]) (.sq (.sq (rg [qM 70 12,oo 71 (.bi .lss 0 (.t 70) (i6 0)),qM 72 71,og 73 72 false (.mv (.t 10) none),og 74 72 false (.mv (.t 6) none),og 75 72 false (.ca .pure false (.f We) [.t 73,.t 74]),og 76 72 false (.nt (.t 75)),oo 77 (.pk (.t 72) (.k (.bool true)) (.t 76)),qM 78 77,og 79 78 false (.mv (.t 11) none),og 80 78 false (.mv (.t 7) none),og 81 78 false (.bi .neq 2 (.t 79) (.t 80)),oo 82 (.pk (.t 78) (.k (.bool true)) (.t 81))]) (.cd (.t 82) (.sq (rg [om 4 (.k (.bool false))]) (.rt)) (.sk))) (.sq (rg [om 13 (i6 1)]) (.sq (rg [qM 83 10,qM 84 13,oo 85 (.ca .any true (.f De) [.t 83,.t 84]),qM 13 85]) (.sq (rg [om 14 (i6 1)]) (.sq (rg [qM 86 10,qM 87 14,oo 88 (.ca .pure false (.f ZaR) [.t 86,.t 87]),qM 14 88]) (.sq (.sq (rg [qM 89 14,oo 90 (.bi .lss 0 (.t 89) (i6 0))]) (.cd (.t 90) (.sq (rg [om 4 (.k (.bool false))]) (.rt)) (.sk))) (.sq (.sq (rg [qM 91 14,qM 92 13,qB 93 .neq 91 92]) (.cd (.t 93) (.sq (rg [om 4 (.k (.bool false))]) (.rt)) (.sk))) (.sq (.rg (some 0) [qM 95 0,oo 96 (.ca .pure false (.f W9) [.t 95]),qS 97 6 3,oo 98 (.ca .pure false (.f Ua) [.t 97]),oo 99 (.ca .pure false (.f ZaP) [.t 96,.t 98]),qM 94 99,qE 100 0 94,qE 101 1 94,qM 15 100,qM 16 101]) (.sq (.sq (rg [qM 102 15,qM 103 6,oo 104 (.ca .pure false (.f We) [.t 102,.t 103]),oo 105 (.nt (.t 104)),qM 106 105,og 107 106 false (.mv (.t 16) none),og 108 106 false (.mv (.t 7) none),og 109 106 false (.bi .neq 2 (.t 107) (.t 108)),oo 110 (.pk (.t 106) (.k (.bool true)) (.t 109))]) (.cd (.t 110) (.sq (rg [om 4 (.k (.bool false))]) (.rt)) (.sk))) (.sq (rg [om 14 (i6 1)]) (.sq (rg [qM 111 10,qM 112 14,oo 113 (.ca .pure false (.f ZaR) [.t 111,.t 112]),qM 14 113]) (.sq (.sq (rg [qM 114 14,oo 115 (.bi .lss 0 (.t 114) (i6 0))]) (.cd (.t 115) (.sq (rg [om 4 (.k (.bool false))]) (.rt)) (.sk))) (.sq (.sq (rg [qM 116 14,qM 117 13,qB 118 .neq 116 117]) (.cd (.t 118) (.sq (rg [om 4 (.k (.bool false))]) (.rt)) (.sk))) (.sq (rg [om 4 (.k (.bool true))]) (.rt))))))))))))))))))))))))))))))) }
theorem Zwu:Zo UbX Zg3 Zjj=true:=by kernel_rfl
def Zjk:F2 :=
 { nt:=35,res:=[.t 4 [0]],body:=(.sq (rg [om 4 (i6 0)]) (.sq (.sq (rg [om 5 (i6 0)]) (.bl 0 (.lp [0,1,5] [] (.sq (.sq (rg [qM 6 5,qM 7 0,qN 8 7,qB 9 .lss 6 8]) (.cd (.t 9) (.sk) (.ex 0))) (.sq (.bl 1 (.sq (rg [qM 12 0,qM 13 5,qM 14 1,oo 15 (.ca .pure false (.f Df) [.t 14]),qI 16 3 12 13,qF 17 0 16,
 ZT (.st 1 (.t 17) (.t 15))]) (.sq (rg [qM 18 1,oo 19 (.bi .add 0 (.t 18) (i6 1)),qM 1 19]) (.sq (rg [qM 20 0,qM 21 5,qM 22 1,qI 23 3 20 21,qF 24 1 23,
 ZT (.st 1 (.t 24) (.t 22))]) (.sq (rg [qM 25 1,oo 26 (.bi .add 0 (.t 25) (i6 1)),qM 1 26]) (.sq (rg [qM 27 0,qM 28 5,qM 29 1,qI 30 3 27 28,qF 31 2 30,
 ZT (.st 1 (.t 31) (.t 29))])
 (rg [qM 32 1,oo 33 (.bi .add 0 (.t 32) (i6 1)),qM 1 33])))))))
 (rg [qM 10 5,oo 11 (.bi .add 0 (.t 10) (i6 1)),qM 5 11])))))) (.sq (rg [qM 34 1,qM 4 34]) (.rt)))) }
theorem Zwv:Zo UbX Zc4 Zjk=true:=by kernel_rfl
def Zjl:F2 :=
 { nt:=22,res:=[.t 4 [0]],body:=(.sq (rg [oo 2 (.bx (.t 0)),om 4 (i6 0)]) (.sq (rg [qF 5 1 2,qL 6 5,qM 7 1,oo 8 (.ca .any true (.f Zdl) [.t 6,.t 7]),qM 1 8]) (.sq (rg [qF 9 2 2,qL 10 9,qM 11 1,oo 12 (.ca .any true (.f De) [.t 10,.t 11]),qM 1 12]) (.sq (rg [qF 13 4 2,qL 14 13,qM 15 1,oo 16 (.ca .any true (.f Zdm) [.t 14,.t 15]),qM 1 16]) (.sq (rg [qF 17 5 2,qL 18 17,qM 19 1,oo 20 (.ca .any true (.f Zdn) [.t 18,.t 19]),qM 1 20]) (.sq (rg [qM 21 1,qM 4 21]) (.rt))))))) }
theorem Zww:Zo UbX ZaQ Zjl=true:=by kernel_rfl
def Zjm:F2 :=
 { nt:=19,res:=[.t 4 [0]],body:=(.sq (rg [om 4 (i6 0)]) (.sq (.sq (rg [om 5 (i6 0)]) (.bl 0 (.lp [0,1,5] [] (.sq (.sq (rg [qM 6 5,qM 7 0,qN 8 7,qB 9 .lss 6 8]) (.cd (.t 9) (.sk) (.ex 0))) (.sq (.bl 1 (.sq (rg [qM 12 0,qM 13 5,qM 14 1,qI 15 1 12 13,
 ZT (.st 1 (.t 15) (.t 14))])
 (rg [qM 16 1,oo 17 (.bi .add 0 (.t 16) (i6 1)),qM 1 17])))
 (rg [qM 10 5,oo 11 (.bi .add 0 (.t 10) (i6 1)),qM 5 11])))))) (.sq (rg [qM 18 1,qM 4 18]) (.rt)))) }
theorem Zwx:Zo UbX De Zjm=true:=by kernel_rfl
def Zjn:F2 :=
 { nt:=21,res:=[.t 4 [0]],body:=(.sq (rg [om 4 (i6 0)]) (.sq (.sq (rg [om 5 (i6 0)]) (.bl 0 (.lp [0,1,5] [] (.sq (.sq (rg [qM 6 5,qM 7 0,qN 8 7,qB 9 .lss 6 8]) (.cd (.t 9) (.sk) (.ex 0))) (.sq (.bl 1 (.sq (.sq (rg [qM 12 0,qM 13 5,qI 14 1 12 13,qL 15 14,qM 16 1,qB 17 .neq 15 16]) (.cd (.t 17) (.sq (rg [om 4 (i6 (-1))]) (.rt)) (.sk)))
 (rg [qM 18 1,oo 19 (.bi .add 0 (.t 18) (i6 1)),qM 1 19])))
 (rg [qM 10 5,oo 11 (.bi .add 0 (.t 10) (i6 1)),qM 5 11])))))) (.sq (rg [qM 20 1,qM 4 20]) (.rt)))) }
theorem Zwy:Zo UbX ZaR Zjn=true:=by kernel_rfl
def Zjo:F2 :=
 { nt:=20,res:=[.t 2 [0]],body:=(.sq (rg [om 2 (.k (.string ⟨#[]⟩))]) (.sq (.sq (rg [qM 4 0,oo 5 (.bi .leq 0 (.t 4) (i6 0))]) (.cd (.t 5) (.sq (rg [om 2 (.k (.string ⟨#[109,48]⟩))]) (.rt)) (.sk))) (.sq (rg [om 3 (.k (.string ⟨#[]⟩))]) (.sq (.bl 0 (.lp [0,3] [] (.sq (.sq (rg [qM 6 0,oo 7 (.bi .gtr 0 (.t 6) (i6 0))]) (.cd (.t 7) (.sk) (.ex 0))) (.bl 1 (.sq (rg [qM 8 0,oo 9 (.bi .rem 0 (.t 8) (i6 10)),oo 10 (.bi .add 0 (i6 48) (.t 9)),oo 11 (.cv (.int .u8) (.t 10)),oo 12 (.bs 1 1 [.int .u8 0] [(0,.t 11)]),oo 13 (.sb (.t 12)),qM 14 3,qB 15 .add 13 14,qM 3 15])
 (rg [qM 16 0,oo 17 (.bi .quo 0 (.t 16) (i6 10)),qM 0 17])))))) (.sq (rg [qM 18 3,oo 19 (.bi .add 0 (.k (.string ⟨#[109]⟩)) (.t 18)),qM 2 19]) (.rt)))))) }
theorem Zwz:Zo UbX Df Zjo=true:=by kernel_rfl
def Zjp:F2 :=
 { nt:=34,res:=[.t 4 [0]],body:=(.sq (rg [om 4 (i6 0)]) (.sq (.sq (rg [om 5 (i6 0)]) (.bl 0 (.lp [0,1,5] [] (.sq (.sq (rg [qM 6 5,qM 7 0,qN 8 7,qB 9 .lss 6 8]) (.cd (.t 9) (.sk) (.ex 0))) (.sq (.bl 1 (.sq (rg [qM 12 0,qM 13 5,qM 14 1,qI 15 3 12 13,qF 16 0 15,
 ZT (.st 1 (.t 16) (.t 14))]) (.sq (rg [qM 17 1,oo 18 (.bi .add 0 (.t 17) (i6 1)),qM 1 18]) (.sq (rg [qM 19 0,qM 20 5,qM 21 1,qI 22 3 19 20,qF 23 1 22,
 ZT (.st 1 (.t 23) (.t 21))]) (.sq (rg [qM 24 1,oo 25 (.bi .add 0 (.t 24) (i6 1)),qM 1 25])
 (rg [qM 26 0,qM 27 5,qI 28 3 26 27,qF 29 2 28,qL 30 29,qM 31 1,oo 32 (.ca .any true (.f De) [.t 30,.t 31]),qM 1 32]))))))
 (rg [qM 10 5,oo 11 (.bi .add 0 (.t 10) (i6 1)),qM 5 11])))))) (.sq (rg [qM 33 1,qM 4 33]) (.rt)))) }
theorem ZwA:Zo UbX Zdl Zjp=true:=by kernel_rfl
def Zjq:F2 :=
 { nt:=20,res:=[.t 4 [0]],body:=(.sq (rg [om 4 (i6 0)]) (.sq (.sq (rg [om 5 (i6 0)]) (.bl 0 (.lp [0,1,5] [] (.sq (.sq (rg [qM 6 5,qM 7 0,qN 8 7,qB 9 .lss 6 8]) (.cd (.t 9) (.sk) (.ex 0))) (.sq (.bl 1 (.sq (rg [qM 12 0,qM 13 5,qM 14 1,oo 15 (.ca .pure false (.f Df) [.t 14]),qI 16 1 12 13,
 ZT (.st 1 (.t 16) (.t 15))])
 (rg [qM 17 1,oo 18 (.bi .add 0 (.t 17) (i6 1)),qM 1 18])))
 (rg [qM 10 5,oo 11 (.bi .add 0 (.t 10) (i6 1)),qM 5 11])))))) (.sq (rg [qM 19 1,qM 4 19]) (.rt)))) }
theorem ZwB:Zo UbX Zdm Zjq=true:=by kernel_rfl
def Zjr:F2 :=
 { nt:=28,res:=[.t 4 [0]],body:=(.sq (rg [om 4 (i6 0)]) (.sq (.sq (rg [om 5 (i6 0)]) (.bl 0 (.lp [0,1,5] [] (.sq (.sq (rg [qM 6 5,qM 7 0,qN 8 7,qB 9 .lss 6 8]) (.cd (.t 9) (.sk) (.ex 0))) (.sq (.bl 1 (.sq (rg [qM 12 0,qM 13 5,qM 14 1,oo 15 (.ca .pure false (.f Df) [.t 14]),qI 16 2 12 13,qF 17 0 16,
 ZT (.st 1 (.t 17) (.t 15))]) (.sq (rg [qM 18 1,oo 19 (.bi .add 0 (.t 18) (i6 1)),qM 1 19]) (.sq (rg [qM 20 0,qM 21 5,qM 22 1,qI 23 2 20 21,qF 24 1 23,
 ZT (.st 1 (.t 24) (.t 22))])
 (rg [qM 25 1,oo 26 (.bi .add 0 (.t 25) (i6 1)),qM 1 26])))))
 (rg [qM 10 5,oo 11 (.bi .add 0 (.t 10) (i6 1)),qM 5 11])))))) (.sq (rg [qM 27 1,qM 4 27]) (.rt)))) }
theorem ZwC:Zo UbX Zdn Zjr=true:=by kernel_rfl
abbrev VU(_:Int)(k:Int):Int:=k
abbrev Z9(_:Int):Nat:=1
def mt(q:Nat)(o:ByteArray):ByteArray:=if q=0 then o else mt (q / 10) (⟨#[UInt8.ofNat (48+q % 10)]⟩++o)
 termination_by q
 decreasing_by omega
theorem ZwD{q:Nat}{o:ByteArray}(h:0<q):mt q o=mt (q / 10) (⟨#[UInt8.ofNat (48+q % 10)]⟩++o):=by
 rw[mt,if_neg (by omega)]
theorem ZwE{o:ByteArray}:mt 0 o=o:=by rw[mt,if_pos rfl]
def DI(k:Int):ByteArray:=if k<=0 then ⟨#[109,48]⟩ else ⟨#[109]⟩++mt k.toNat ⟨#[]⟩
theorem Zer(k:Int)(h:k<=4611686018427387904)(lvl:Nat)(S:Zc):Sem UbX Df lvl [iI k] S (iS (DI k)) S:=by
 refine Zr Zwz trivial ?_
 simp only[Zjo,Zb,seval,Za,men]
 unfold DI
 refine Zs (fun h0=>?_) (fun h0=>?_)
 ·rw[if_pos h0]
 ·rw[if_neg h0]
  obtain⟨K,hK⟩:∃ K:Nat,k=K:=⟨k.toNat,by omega⟩
  subst hK
  rw[Int.toNat_natCast]
  refine JR (α:=Nat×ByteArray) K (fun j y=>⟨lvl,[(0,iI y.1),(3,iS y.2)],[],S⟩) (fun j y=>y.1+j<=K/\mt y.1 y.2=mt K ⟨#[]⟩/\y.1*10 ^ y.2.size<=K/\y.2.size<=19) (K,⟨#[]⟩) ⟨by simp only[Zb,seval,Za,men],by simp only[Zb,seval,Za,men]⟩ ⟨Uaf _,rfl,Nat.le_of_eq (Nat.mul_one K),(by decide:(0:Nat)<=19)⟩ ?_
  intro j y hj hA
  obtain⟨q,o⟩:=y
  obtain⟨h1,h2,h3,h4⟩:=hA
  simp only at h1 h2 h3 h4
  simp only[Zb,seval,Za,men]
  refine Zs (fun hq=>?_) (fun hq=>?_)
  ·have hq0:0<q:=by omega
   have hby:Yy [[Tr.v (Value.int IntKind.u8 (48+(q:Int) % 10))]]=some [UInt8.ofNat (48+q % 10)]:=by
    have e:(48+(q:Int) % 10).toNat=48+q % 10:=by omega
    simp only[cut,List.replicate_one,List.set_cons_zero,Ubz,List.take_succ_cons,List.take_zero,Yy,Option.map_some,e]
   have h5:o.size<19:=by
    apply Classical.byContradiction
    intro hc
    have e:o.size=19:=by omega
    rw[e] at h3
    have:1*10 ^ 19<=q*10 ^ 19:=UaC _ hq0
    omega
   have h6:q / 10*10 ^ (o.size+1)<=K:=by
    refine Ua3 ?_ h3
    rw[Nat.pow_succ,UbE (10 ^ o.size) 10,<-Nat.mul_assoc]
    exact UaC _ (by omega)
   rw[hby]
   simp only[Zb,seval,Za,men]
   have hs:(ByteArray.mk #[UInt8.ofNat (48+q % 10)]++o).size=o.size+1:=by
    rw[Ual,Ua7];rfl
   have e8:Z2 .u8 (48+(q:Int) % 10):=by
    constructor
    ·show (0:Int)<=_;omega
    ·show _<=(255:Int);omega
   refine⟨by rw[Zh];omega,e8,?_,by rw[Zh];omega,Zy (q / 10,ByteArray.mk #[UInt8.ofNat (48+q % 10)]++o) (by omega) ?_ ⟨by simp only;omega,?_,?_,?_⟩⟩
   ·show 1+o.size<=4294967296
    omega
   ·rfl
   ·rw[<-h2,ZwD hq0]
   ·simp only[hs];exact h6
   ·simp only[hs];omega
  ·have:q=0:=by omega
   subst this
   rw[<-h2,ZwE]
   refine⟨?_,rfl⟩
   show 1+o.size<=4294967296
   omega
abbrev XP(_:ByteArray)(k:Int):ByteArray:=DI k
abbrev Yn(_:ByteArray):Nat:=1
theorem Zes:MarkS UbX De (fun n:Int=>[tv n]) VU Z9 (fun _=>True):=by
 intro a k lvl S id p es r0 kk hw ver st cap hid hv hst h0 hk hl hB
 have hne:id.1≠lvl:=by omega
 have hgp:∀ r,getp (Jc es p r) p=some r:=fun r=>Wa hv
 refine Zr Zwx trivial ?_
 simp only[Zjm,Zb,seval,Za,men]
 refine JR (α:=Unit) a.length (fun j _=>⟨lvl,[(0,.hd id p 0 a.length cap st),(1,iI (kJ Z9 a k j)),(5,iI j)],[],Zf S id (.ar kk (Jc es p ((lJ VU Z9 a k j).map (fun n:Int=>[tv n]))) true hw ver)⟩) (fun _ _=>True) () ⟨by simp only[ZY hne,Zb,seval,Za,men],by (simp only[W4,Da,Zb,seval,Za,men]) <;> rfl⟩ trivial ?_
 intro j _ hj _
 simp only[Uab,Zb,seval,Za,men]
 refine Zs (fun hlt=>?_) (fun hge=>?_)
 ·have hja:j<a.length:=by omega
  obtain⟨R,hjR,hR,hR'⟩:=Dc VU Z9 (fun n:Int=>[tv n]) (k:=k) hja
  have hge2:=W6 Z9 (a:=a) (k:=k) (j:=j+1)
  rw[VM Z9 hja] at hge2
  have hge3:=W7 Z9 (a:=a) (k:=k) (j:=j)
  rw[hR]
  try simp only[Z9] at hge2
  try simp only[JZ hne,VI hne,VL,YD,hst,hgp,Qu hjR,Q5 hv hjR,Uax,hja,ZY hne,Uab,tv,Zb,seval,Za,men]
  refine⟨by rw[Zh];omega,⟨by rw[Zh];omega,Zy () hja ?_ trivial⟩⟩
  rw[VM Z9 hja,hR']
  simp only[Z9,VU,tv,Int.natCast_add,Int.natCast_one,Ubv]
  try rfl
 ·have:j=a.length:=by omega
  subst this
  rw[W5,Db]
  exact⟨rfl,rfl⟩
def Wt(x:TNode)(k:Int):TNode:={ control:=k,parent:=k+1,links:=mL VU Z9 x.links (k+1+1) }
def JH(x:TNode):Nat:=1+1+nL Z9 x.links
theorem ZwF:MarkS UbX Zdl ZB Wt JH (VN 4294967296):=by
 intro a k lvl S id p es r0 kk hw ver st cap hid hv hst h0 hk hl hB
 have hne:id.1≠lvl:=by omega
 have hgp:∀ r,getp (Jc es p r) p=some r:=fun r=>Wa hv
 refine Zr ZwA trivial ?_
 simp only[Zjp,Zb,seval,Za,men]
 refine JR (α:=Unit) a.length (fun j _=>⟨lvl,[(0,.hd id p 0 a.length cap st),(1,iI (kJ JH a k j)),(5,iI j)],[],Zf S id (.ar kk (Jc es p ((lJ Wt JH a k j).map ZB)) true hw ver)⟩) (fun _ _=>True) () ⟨by simp only[ZY hne,Zb,seval,Za,men],by (simp only[W4,Da,Zb,seval,Za,men]) <;> rfl⟩ trivial ?_
 intro j _ hj _
 simp only[Uab,Zb,seval,Za,men]
 refine Zs (fun hlt=>?_) (fun hge=>?_)
 ·have hja:j<a.length:=by omega
  obtain⟨R,hjR,hR,hR'⟩:=Dc Wt JH ZB (k:=k) hja
  have hge2:=W6 JH (a:=a) (k:=k) (j:=j+1)
  rw[VM JH hja] at hge2
  have hge3:=W7 JH (a:=a) (k:=k) (j:=j)
  rw[hR]
  try simp only[JH] at hge2
  have hb:=hB _ (Uan hja)
  have b0:(a[j]).links.length<=4294967296:=hb
  try simp only[JZ hne,VI hne,VL,YD,hst,hgp,Qu hjR,Q5 hv hjR,Uax,hja,ZY hne,Uab,ZB,Zb,seval,Za,men]
  refine⟨by rw[Zh];omega,⟨by rw[Zh];omega,?_⟩⟩
  simp only[Yb]
  refine ZtV Zes hid hv (by omega) (by omega) b0 (fun _ _=>trivial) hjR rfl (by simp only[Uab]) ?_
  simp only[List.set_cons_succ,List.set_cons_zero,JZ hne,VI hne,VL,YD,hst,hgp,Qu hjR,Q5 hv hjR,Uax,hja,ZY hne,Uab,ZB,Zb,seval,Za,men]
  refine⟨by rw[Zh];omega,Zy () hja ?_ trivial⟩
  rw[VM JH hja,hR']
  simp only[JH,Wt,ZB,Int.natCast_add,Int.natCast_one,Ubv]
  try rfl
 ·have:j=a.length:=by omega
  subst this
  rw[W5,Db]
  exact⟨rfl,rfl⟩
theorem ZwG:MarkS UbX Zdm (fun n:ByteArray=>[ts n]) XP Yn (fun x=>x.size<=4294967296):=by
 intro a k lvl S id p es r0 kk hw ver st cap hid hv hst h0 hk hl hB
 have hne:id.1≠lvl:=by omega
 have hgp:∀ r,getp (Jc es p r) p=some r:=fun r=>Wa hv
 refine Zr ZwB trivial ?_
 simp only[Zjq,Zb,seval,Za,men]
 refine JR (α:=Unit) a.length (fun j _=>⟨lvl,[(0,.hd id p 0 a.length cap st),(1,iI (kJ Yn a k j)),(5,iI j)],[],Zf S id (.ar kk (Jc es p ((lJ XP Yn a k j).map (fun n:ByteArray=>[ts n]))) true hw ver)⟩) (fun _ _=>True) () ⟨by simp only[ZY hne,Zb,seval,Za,men],by (simp only[W4,Da,Zb,seval,Za,men]) <;> rfl⟩ trivial ?_
 intro j _ hj _
 simp only[Uab,Zb,seval,Za,men]
 refine Zs (fun hlt=>?_) (fun hge=>?_)
 ·have hja:j<a.length:=by omega
  obtain⟨R,hjR,hR,hR'⟩:=Dc XP Yn (fun n:ByteArray=>[ts n]) (k:=k) hja
  have hge2:=W6 Yn (a:=a) (k:=k) (j:=j+1)
  rw[VM Yn hja] at hge2
  have hge3:=W7 Yn (a:=a) (k:=k) (j:=j)
  rw[hR]
  try simp only[Yn] at hge2
  try simp only[JZ hne,VI hne,VL,YD,hst,hgp,Qu hjR,Q5 hv hjR,Uax,hja,ZY hne,Uab,tv,Zb,seval,Za,men]
  refine Zk (Zer (kJ Yn a k j) (by omega)) ?_
  simp only[JZ hne,VI hne,VL,YD,hst,hgp,Qu hjR,Q5 hv hjR,Uax,hja,ZY hne,Uab,tv,Zb,seval,Za,men]
  refine⟨by rw[Zh];omega,⟨by rw[Zh];omega,Zy () hja ?_ trivial⟩⟩
  rw[VM Yn hja,hR']
  simp only[Yn,XP,tv,Int.natCast_add,Int.natCast_one,Ubv]
  try rfl
 ·have:j=a.length:=by omega
  subst this
  rw[W5,Db]
  exact⟨rfl,rfl⟩
def Wu(x:TWire)(k:Int):TWire:={ name:=DI (k),link:=k+1 }
def Yx(x:TWire):Nat:=1+1
theorem ZwH:MarkS UbX Zdn ZU Wu Yx (Vt 4294967296):=by
 intro a k lvl S id p es r0 kk hw ver st cap hid hv hst h0 hk hl hB
 have hne:id.1≠lvl:=by omega
 have hgp:∀ r,getp (Jc es p r) p=some r:=fun r=>Wa hv
 refine Zr ZwC trivial ?_
 simp only[Zjr,Zb,seval,Za,men]
 refine JR (α:=Unit) a.length (fun j _=>⟨lvl,[(0,.hd id p 0 a.length cap st),(1,iI (kJ Yx a k j)),(5,iI j)],[],Zf S id (.ar kk (Jc es p ((lJ Wu Yx a k j).map ZU)) true hw ver)⟩) (fun _ _=>True) () ⟨by simp only[ZY hne,Zb,seval,Za,men],by (simp only[W4,Da,Zb,seval,Za,men]) <;> rfl⟩ trivial ?_
 intro j _ hj _
 simp only[Uab,Zb,seval,Za,men]
 refine Zs (fun hlt=>?_) (fun hge=>?_)
 ·have hja:j<a.length:=by omega
  obtain⟨R,hjR,hR,hR'⟩:=Dc Wu Yx ZU (k:=k) hja
  have hge2:=W6 Yx (a:=a) (k:=k) (j:=j+1)
  rw[VM Yx hja] at hge2
  have hge3:=W7 Yx (a:=a) (k:=k) (j:=j)
  rw[hR]
  try simp only[Yx] at hge2
  have hb:=hB _ (Uan hja)
  have b0:(a[j]).name.size<=4294967296:=hb
  try simp only[JZ hne,VI hne,VL,YD,hst,hgp,Qu hjR,Q5 hv hjR,Uax,hja,ZY hne,Uab,ZU,Zb,seval,Za,men]
  refine Zk (Zer (kJ Yx a k j) (by omega)) ?_
  simp only[JZ hne,VI hne,VL,YD,hst,hgp,Qu hjR,Q5 hv hjR,Uax,hja,ZY hne,Uab,ZU,Zb,seval,Za,men]
  refine⟨by rw[Zh];omega,⟨by rw[Zh];omega,⟨by rw[Zh];omega,Zy () hja ?_ trivial⟩⟩⟩
  rw[VM Yx hja,hR']
  simp only[Yx,Wu,ZU,Int.natCast_add,Int.natCast_one,Ubv]
  try rfl
 ·have:j=a.length:=by omega
  subst this
  rw[W5,Db]
  exact⟨rfl,rfl⟩
def Zbz(x:TControl)(k:Int):TControl:={ name:=DI (k),ports:=k+1,kind_:=k+1+1 }
def Y0(x:TControl):Nat:=1+1+1
theorem ZwI:MarkS UbX Zc4 ZE Zbz Y0 (J2 4294967296):=by
 intro a k lvl S id p es r0 kk hw ver st cap hid hv hst h0 hk hl hB
 have hne:id.1≠lvl:=by omega
 have hgp:∀ r,getp (Jc es p r) p=some r:=fun r=>Wa hv
 refine Zr Zwv trivial ?_
 simp only[Zjk,Zb,seval,Za,men]
 refine JR (α:=Unit) a.length (fun j _=>⟨lvl,[(0,.hd id p 0 a.length cap st),(1,iI (kJ Y0 a k j)),(5,iI j)],[],Zf S id (.ar kk (Jc es p ((lJ Zbz Y0 a k j).map ZE)) true hw ver)⟩) (fun _ _=>True) () ⟨by simp only[ZY hne,Zb,seval,Za,men],by (simp only[W4,Da,Zb,seval,Za,men]) <;> rfl⟩ trivial ?_
 intro j _ hj _
 simp only[Uab,Zb,seval,Za,men]
 refine Zs (fun hlt=>?_) (fun hge=>?_)
 ·have hja:j<a.length:=by omega
  obtain⟨R,hjR,hR,hR'⟩:=Dc Zbz Y0 ZE (k:=k) hja
  have hge2:=W6 Y0 (a:=a) (k:=k) (j:=j+1)
  rw[VM Y0 hja] at hge2
  have hge3:=W7 Y0 (a:=a) (k:=k) (j:=j)
  rw[hR]
  try simp only[Y0] at hge2
  have hb:=hB _ (Uan hja)
  have b0:(a[j]).name.size<=4294967296:=hb
  try simp only[JZ hne,VI hne,VL,YD,hst,hgp,Qu hjR,Q5 hv hjR,Uax,hja,ZY hne,Uab,ZE,Zb,seval,Za,men]
  refine Zk (Zer (kJ Y0 a k j) (by omega)) ?_
  simp only[JZ hne,VI hne,VL,YD,hst,hgp,Qu hjR,Q5 hv hjR,Uax,hja,ZY hne,Uab,ZE,Zb,seval,Za,men]
  refine⟨by rw[Zh];omega,⟨by rw[Zh];omega,⟨by rw[Zh];omega,⟨by rw[Zh];omega,Zy () hja ?_ trivial⟩⟩⟩⟩
  rw[VM Y0 hja,hR']
  simp only[Y0,Zbz,ZE,Int.natCast_add,Int.natCast_one,Ubv]
  try rfl
 ·have:j=a.length:=by omega
  subst this
  rw[W5,Db]
  exact⟨rfl,rfl⟩
def Zjs:F2 :=
 { nt:=30,res:=[.t 4 [0]],body:=(.sq (rg [oo 2 (.bt (.t 0)),om 4 (i6 0)]) (.sq (rg [qF 5 1 2,qL 6 5,qM 7 1,oo 8 (.ca .pure false (.f Zc6) [.t 6,.t 7]),qM 1 8]) (.sq (.sq (rg [qM 9 1,oo 10 (.bi .lss 0 (.t 9) (i6 0))]) (.cd (.t 10) (.sq (rg [om 4 (i6 (-1))]) (.rt)) (.sk))) (.sq (rg [qF 11 2 2,qL 12 11,qM 13 1,oo 14 (.ca .pure false (.f ZaS) [.t 12,.t 13]),qM 1 14]) (.sq (.sq (rg [qM 15 1,oo 16 (.bi .lss 0 (.t 15) (i6 0))]) (.cd (.t 16) (.sq (rg [om 4 (i6 (-1))]) (.rt)) (.sk))) (.sq (rg [qF 17 4 2,qL 18 17,qM 19 1,oo 20 (.ca .pure false (.f Zc7) [.t 18,.t 19]),qM 1 20]) (.sq (.sq (rg [qM 21 1,oo 22 (.bi .lss 0 (.t 21) (i6 0))]) (.cd (.t 22) (.sq (rg [om 4 (i6 (-1))]) (.rt)) (.sk))) (.sq (rg [qF 23 5 2,qL 24 23,qM 25 1,oo 26 (.ca .pure false (.f Zc8) [.t 24,.t 25]),qM 1 26]) (.sq (.sq (rg [qM 27 1,oo 28 (.bi .lss 0 (.t 27) (i6 0))]) (.cd (.t 28) (.sq (rg [om 4 (i6 (-1))]) (.rt)) (.sk))) (.sq (rg [qM 29 1,qM 4 29]) (.rt))))))))))) }
theorem ZwJ:Zo UbX Zc0 Zjs=true:=by kernel_rfl
def Zjt:F2 :=
 { nt:=23,res:=[.t 2 [4]],body:=(.sq (rg [om 2 (.k (.slice none 0 0))]) (.sq (rg [qM 5 0,qN 6 5,oo 7 (.ms 3 [.string ⟨#[]⟩,.int .i64 0,.int .i64 0] (.t 6)),qM 3 7]) (.sq (.sq (rg [om 4 (i6 0)]) (.bl 0 (.lp [0,3,4] [224] (.sq (.sq (rg [qM 8 4,qM 9 0,qN 10 9,qB 11 .lss 8 10]) (.cd (.t 11) (.sk) (.ex 0))) (.sq (.bl 1 (rg [qM 14 3,qM 15 4,qM 16 0,qM 17 4,qI 18 3 16 17,qS 19 3 18,oo 20 (.ca .pure true (.f Zdb) [.t 19]),qI 21 3 14 15,
 ZT (.st 3 (.t 21) (.t 20))]))
 (rg [qM 12 4,oo 13 (.bi .add 0 (.t 12) (i6 1)),qM 4 13])))))) (.sq (rg [qM 22 3,qM 2 22]) (.rt))))) }
theorem ZwK:Zo UbX W9 Zjt=true:=by kernel_rfl
def Zju:F2 :=
 { nt:=27,res:=[.c 2 (some 6) [0,4,2,0,2,3]],body:=(.sq (rg [oo 1 (.bt (.t 0)),oo 2 (.al [.int .i64 0,.slice none 0 0,.slice none 0 0,.int .i64 0,.slice none 0 0,.slice none 0 0] [])]) (.sq (rg [oo 3 (.al [.int .i64 0,.slice none 0 0,.slice none 0 0,.int .i64 0,.slice none 0 0,.slice none 0 0] [])]) (.sq (rg [qF 4 0 1,qL 5 4,qF 6 0 3,
 ZT (.st 1 (.t 6) (.t 5))]) (.sq (rg [qF 7 1 1,qL 8 7,oo 9 (.ca .pure true (.f Zdc) [.t 8]),qF 10 1 3,
 ZT (.st 1 (.t 10) (.t 9))]) (.sq (rg [qF 11 2 1,qL 12 11,oo 13 (.ca .pure true (.f ZaT) [.t 12]),qF 14 2 3,
 ZT (.st 1 (.t 14) (.t 13))]) (.sq (rg [qF 15 3 1,qL 16 15,qF 17 3 3,
 ZT (.st 1 (.t 17) (.t 16))]) (.sq (rg [qF 18 4 1,qL 19 18,oo 20 (.ca .pure true (.f Zdd) [.t 19]),qF 21 4 3,
 ZT (.st 1 (.t 21) (.t 20))]) (.sq (rg [qF 22 5 1,qL 23 22,oo 24 (.ca .pure true (.f Zde) [.t 23]),qF 25 5 3,
 ZT (.st 1 (.t 25) (.t 24))]) (.sq (rg [qS 26 6 3,
 ZT (.st 6 (.t 2) (.t 26))]) (.rt)))))))))) }
theorem ZwL:Zo UbX Ua Zju=true:=by kernel_rfl
def Zjv:F2 :=
 { nt:=39,res:=[.t 4 [0]],body:=(.sq (rg [oo 2 (.bt (.t 0)),oo 3 (.bt (.t 1)),om 4 (.k (.bool false))]) (.sq (.sq (rg [qF 5 0 2,qL 6 5,qF 7 0 3,qL 8 7,qB 9 .neq 6 8]) (.cd (.t 9) (.sq (rg [om 4 (.k (.bool false))]) (.rt)) (.sk))) (.sq (.sq (rg [qF 10 1 2,qL 11 10,qF 12 1 3,qL 13 12,oo 14 (.ca .pure false (.f Zdi) [.t 11,.t 13]),oo 15 (.nt (.t 14))]) (.cd (.t 15) (.sq (rg [om 4 (.k (.bool false))]) (.rt)) (.sk))) (.sq (.sq (rg [qF 16 2 2,qL 17 16,qF 18 2 3,qL 19 18,oo 20 (.ca .pure false (.f We) [.t 17,.t 19]),oo 21 (.nt (.t 20))]) (.cd (.t 21) (.sq (rg [om 4 (.k (.bool false))]) (.rt)) (.sk))) (.sq (.sq (rg [qF 22 3 2,qL 23 22,qF 24 3 3,qL 25 24,qB 26 .neq 23 25]) (.cd (.t 26) (.sq (rg [om 4 (.k (.bool false))]) (.rt)) (.sk))) (.sq (.sq (rg [qF 27 4 2,qL 28 27,qF 29 4 3,qL 30 29,oo 31 (.ca .pure false (.f Zdj) [.t 28,.t 30]),oo 32 (.nt (.t 31))]) (.cd (.t 32) (.sq (rg [om 4 (.k (.bool false))]) (.rt)) (.sk))) (.sq (.sq (rg [qF 33 5 2,qL 34 33,qF 35 5 3,qL 36 35,oo 37 (.ca .pure false (.f Zdk) [.t 34,.t 36]),oo 38 (.nt (.t 37))]) (.cd (.t 38) (.sq (rg [om 4 (.k (.bool false))]) (.rt)) (.sk))) (.sq (rg [om 4 (.k (.bool true))]) (.rt))))))))) }
theorem ZwM:Zo UbX Zc3 Zjv=true:=by kernel_rfl
def Zjw:F2 :=
 { nt:=13,res:=[.t 4 [0]],body:=(.sq (rg [oo 2 (.bt (.t 0)),om 4 (i6 0)]) (.sq (rg [qM 5 1,qF 6 0 2,qL 7 6,oo 8 (.lg (.t 7)),qB 9 .sub 5 8,qM 1 9]) (.sq (.sq (rg [qM 10 1,oo 11 (.bi .lss 0 (.t 10) (i6 0))]) (.cd (.t 11) (.sq (rg [om 4 (i6 (-1))]) (.rt)) (.sk))) (.sq (rg [qM 12 1,qM 4 12]) (.rt))))) }
theorem ZwN:Zo UbX Zc5 Zjw=true:=by kernel_rfl
def Zjx:F2 :=
 { nt:=14,res:=[.c 2 (some 3) [0,0,0]],body:=(.sq (rg [oo 1 (.bt (.t 0)),oo 2 (.al [.string ⟨#[]⟩,.int .i64 0,.int .i64 0] [])]) (.sq (rg [oo 3 (.al [.string ⟨#[]⟩,.int .i64 0,.int .i64 0] [])]) (.sq (rg [qF 4 0 1,qL 5 4,qF 6 0 3,
 ZT (.st 1 (.t 6) (.t 5))]) (.sq (rg [qF 7 1 1,qL 8 7,qF 9 1 3,
 ZT (.st 1 (.t 9) (.t 8))]) (.sq (rg [qF 10 2 1,qL 11 10,qF 12 2 3,
 ZT (.st 1 (.t 12) (.t 11))]) (.sq (rg [qS 13 3 3,
 ZT (.st 3 (.t 2) (.t 13))]) (.rt))))))) }
theorem ZwO:Zo UbX Zdb Zjx=true:=by kernel_rfl
def Zjy:F2 :=
 { nt:=23,res:=[.t 2 [4]],body:=(.sq (rg [om 2 (.k (.slice none 0 0))]) (.sq (rg [qM 5 0,qN 6 5,oo 7 (.ms 3 [.int .i64 0,.int .i64 0,.slice none 0 0] (.t 6)),qM 3 7]) (.sq (.sq (rg [om 4 (i6 0)]) (.bl 0 (.lp [0,3,4] [224,640] (.sq (.sq (rg [qM 8 4,qM 9 0,qN 10 9,qB 11 .lss 8 10]) (.cd (.t 11) (.sk) (.ex 0))) (.sq (.bl 1 (rg [qM 14 3,qM 15 4,qM 16 0,qM 17 4,qI 18 3 16 17,qS 19 3 18,oo 20 (.ca .pure true (.f Zdu) [.t 19]),qI 21 3 14 15,
 ZT (.st 3 (.t 21) (.t 20))]))
 (rg [qM 12 4,oo 13 (.bi .add 0 (.t 12) (i6 1)),qM 4 13])))))) (.sq (rg [qM 22 3,qM 2 22]) (.rt))))) }
theorem ZwP:Zo UbX Zdc Zjy=true:=by kernel_rfl
def Zjz:F2 :=
 { nt:=23,res:=[.t 2 [3]],body:=(.sq (rg [om 2 (.k (.slice none 0 0))]) (.sq (rg [qM 5 0,qN 6 5,oo 7 (.ms 2 [.string ⟨#[]⟩,.int .i64 0] (.t 6)),qM 3 7]) (.sq (.sq (rg [om 4 (i6 0)]) (.bl 0 (.lp [0,3,4] [224] (.sq (.sq (rg [qM 8 4,qM 9 0,qN 10 9,qB 11 .lss 8 10]) (.cd (.t 11) (.sk) (.ex 0))) (.sq (.bl 1 (rg [qM 14 3,qM 15 4,qM 16 0,qM 17 4,qI 18 2 16 17,qS 19 2 18,oo 20 (.ca .pure true (.f Zdv) [.t 19]),qI 21 2 14 15,
 ZT (.st 2 (.t 21) (.t 20))]))
 (rg [qM 12 4,oo 13 (.bi .add 0 (.t 12) (i6 1)),qM 4 13])))))) (.sq (rg [qM 22 3,qM 2 22]) (.rt))))) }
theorem ZwQ:Zo UbX Zde Zjz=true:=by kernel_rfl
def ZjA:F2 :=
 { nt:=20,res:=[.t 4 [0]],body:=(.sq (rg [oo 2 (.bt (.t 0)),oo 3 (.bt (.t 1)),om 4 (.k (.bool false))]) (.sq (.sq (rg [qF 5 0 2,qL 6 5,qF 7 0 3,qL 8 7,qB 9 .neq 6 8]) (.cd (.t 9) (.sq (rg [om 4 (.k (.bool false))]) (.rt)) (.sk))) (.sq (.sq (rg [qF 10 1 2,qL 11 10,qF 12 1 3,qL 13 12,qB 14 .neq 11 13]) (.cd (.t 14) (.sq (rg [om 4 (.k (.bool false))]) (.rt)) (.sk))) (.sq (.sq (rg [qF 15 2 2,qL 16 15,qF 17 2 3,qL 18 17,qB 19 .neq 16 18]) (.cd (.t 19) (.sq (rg [om 4 (.k (.bool false))]) (.rt)) (.sk))) (.sq (rg [om 4 (.k (.bool true))]) (.rt)))))) }
theorem ZwR:Zo UbX Zdh ZjA=true:=by kernel_rfl
def ZjB:F2 :=
 { nt:=12,res:=[.t 4 [0]],body:=(.sq (rg [oo 2 (.bt (.t 0)),om 4 (i6 0)]) (.sq (rg [qF 5 2 2,qL 6 5,qM 7 1,oo 8 (.ca .pure false (.f ZaS) [.t 6,.t 7]),qM 1 8]) (.sq (.sq (rg [qM 9 1,oo 10 (.bi .lss 0 (.t 9) (i6 0))]) (.cd (.t 10) (.sq (rg [om 4 (i6 (-1))]) (.rt)) (.sk))) (.sq (rg [qM 11 1,qM 4 11]) (.rt))))) }
theorem ZwS:Zo UbX Zdo ZjB=true:=by kernel_rfl
def ZjC:F2 :=
 { nt:=13,res:=[.t 4 [0]],body:=(.sq (rg [oo 2 (.bt (.t 0)),om 4 (i6 0)]) (.sq (rg [qM 5 1,qF 6 0 2,qL 7 6,oo 8 (.lg (.t 7)),qB 9 .sub 5 8,qM 1 9]) (.sq (.sq (rg [qM 10 1,oo 11 (.bi .lss 0 (.t 10) (i6 0))]) (.cd (.t 11) (.sq (rg [om 4 (i6 (-1))]) (.rt)) (.sk))) (.sq (rg [qM 12 1,qM 4 12]) (.rt))))) }
theorem ZwT:Zo UbX Zdp ZjC=true:=by kernel_rfl
def ZjD:F2 :=
 { nt:=15,res:=[.c 2 (some 3) [0,0,2]],body:=(.sq (rg [oo 1 (.bt (.t 0)),oo 2 (.al [.int .i64 0,.int .i64 0,.slice none 0 0] [])]) (.sq (rg [oo 3 (.al [.int .i64 0,.int .i64 0,.slice none 0 0] [])]) (.sq (rg [qF 4 0 1,qL 5 4,qF 6 0 3,
 ZT (.st 1 (.t 6) (.t 5))]) (.sq (rg [qF 7 1 1,qL 8 7,qF 9 1 3,
 ZT (.st 1 (.t 9) (.t 8))]) (.sq (rg [qF 10 2 1,qL 11 10,oo 12 (.ca .pure true (.f ZaT) [.t 11]),qF 13 2 3,
 ZT (.st 1 (.t 13) (.t 12))]) (.sq (rg [qS 14 3 3,
 ZT (.st 3 (.t 2) (.t 14))]) (.rt))))))) }
theorem ZwU:Zo UbX Zdu ZjD=true:=by kernel_rfl
def ZjE:F2 :=
 { nt:=11,res:=[.c 2 (some 2) [0,0]],body:=(.sq (rg [oo 1 (.bt (.t 0)),oo 2 (.al [.string ⟨#[]⟩,.int .i64 0] [])]) (.sq (rg [oo 3 (.al [.string ⟨#[]⟩,.int .i64 0] [])]) (.sq (rg [qF 4 0 1,qL 5 4,qF 6 0 3,
 ZT (.st 1 (.t 6) (.t 5))]) (.sq (rg [qF 7 1 1,qL 8 7,qF 9 1 3,
 ZT (.st 1 (.t 9) (.t 8))]) (.sq (rg [qS 10 2 3,
 ZT (.st 2 (.t 2) (.t 10))]) (.rt)))))) }
theorem ZwV:Zo UbX Zdv ZjE=true:=by kernel_rfl
def ZjF:F2 :=
 { nt:=21,res:=[.t 4 [0]],body:=(.sq (rg [oo 2 (.bt (.t 0)),oo 3 (.bt (.t 1)),om 4 (.k (.bool false))]) (.sq (.sq (rg [qF 5 0 2,qL 6 5,qF 7 0 3,qL 8 7,qB 9 .neq 6 8]) (.cd (.t 9) (.sq (rg [om 4 (.k (.bool false))]) (.rt)) (.sk))) (.sq (.sq (rg [qF 10 1 2,qL 11 10,qF 12 1 3,qL 13 12,qB 14 .neq 11 13]) (.cd (.t 14) (.sq (rg [om 4 (.k (.bool false))]) (.rt)) (.sk))) (.sq (.sq (rg [qF 15 2 2,qL 16 15,qF 17 2 3,qL 18 17,oo 19 (.ca .pure false (.f We) [.t 16,.t 18]),oo 20 (.nt (.t 19))]) (.cd (.t 20) (.sq (rg [om 4 (.k (.bool false))]) (.rt)) (.sk))) (.sq (rg [om 4 (.k (.bool true))]) (.rt)))))) }
theorem ZwW:Zo UbX ZdH ZjF=true:=by kernel_rfl
def ZjG:F2 :=
 { nt:=15,res:=[.t 4 [0]],body:=(.sq (rg [oo 2 (.bt (.t 0)),oo 3 (.bt (.t 1)),om 4 (.k (.bool false))]) (.sq (.sq (rg [qF 5 0 2,qL 6 5,qF 7 0 3,qL 8 7,qB 9 .neq 6 8]) (.cd (.t 9) (.sq (rg [om 4 (.k (.bool false))]) (.rt)) (.sk))) (.sq (.sq (rg [qF 10 1 2,qL 11 10,qF 12 1 3,qL 13 12,qB 14 .neq 11 13]) (.cd (.t 14) (.sq (rg [om 4 (.k (.bool false))]) (.rt)) (.sk))) (.sq (rg [om 4 (.k (.bool true))]) (.rt))))) }
theorem ZwX:Zo UbX ZdI ZjG=true:=by kernel_rfl
theorem Uk{S:Zc}{id i:Zd}{ob:Ob}(h:i≠id):Zf S id ob i=S i:=if_neg h
theorem ZjH{α:Type}{m:α->Int->α}{n:α->Nat}:∀{a:List α} {k:Int} {j:Nat} (h:j<a.length),(mL m n a k)[j]? = some (m a[j] (kJ n a k j))
 | [],_,_,h=>by cases h
 | x::r,k,0,_=>by simp [mL,kJ,nL]
 | x::r,k,j+1,h=>by
  simp only[mL,List.getElem?_cons_succ,List.getElem_cons_succ]
  rw[ZjH (by simpa using h)]
  simp only[kJ,List.take_succ_cons,nL]
  congr 2
  omega
theorem ZwY{α:Type}{c:α->List Tr}{m:α->Int->α}{n:α->Nat}{a:List α}{k:Int}{j:Nat}(h:j<a.length):((mL m n a k).map c)[j]? = some (c (m a[j] (kJ n a k j))):=by
 rw[Uaz,ZjH h];rfl
theorem JO{α:Type}{c:α->List Tr}{m:α->Int->α}{n:α->Nat}{a:List α}{k:Int}:cut ((mL m n a k).map c) 0 a.length=(mL m n a k).map c:=by
 simp only[cut,Ubz]
 exact Uar (by rw[Uab,Jo];exact Uaf _)
theorem JP{α:Type}{c:α->List Tr}{a:List α}:cut (a.map c) 0 a.length=a.map c:=by
 simp only[cut,Ubz]
 exact Uar (by rw[Uab];exact Uaf _)
def QG(x:TBigraph):Nat:=nL JH x.nodes+nL Z9 x.sites+nL Yn x.outer+nL Yx x.inner
theorem ZwZ(x:TBigraph)(k:Int)(lvl:Nat)(S:Zc)(i1 i2 i3 i4:Zd)(k1 h1 v1 k2 h2 v2 k3 h3 v3 k4 h4 v4:Nat)(c1 c2 c3 c4:Option Nat)(l1:i1.1<lvl)(l2:i2.1<lvl)(l3:i3.1<lvl)(l4:i4.1<lvl)(n2_1:i2≠i1)(n3_1:i3≠i1)(n3_2:i3≠i2)(n4_1:i4≠i1)(n4_2:i4≠i2)(n4_3:i4≠i3)(s1:S i1=some (.ar k1 (x.nodes.map ZB) true h1 v1))(s2:S i2=some (.ar k2 (rI x.sites) true h2 v2))(s3:S i3=some (.ar k3 (rS x.outer) true h3 v3))(s4:S i4=some (.ar k4 (x.inner.map ZU) true h4 v4))(h0:0<=k)(hk:k+QG x<=4611686018427387904)(hb:Vf 4294967296 x) :
  Sem UbX ZaQ lvl [.ag [iI x.roots,.hd i1 [] 0 x.nodes.length c1 h1,.hd i2 [] 0 x.sites.length c2 h2,iI x.edges,.hd i3 [] 0 x.outer.length c3 h3,.hd i4 [] 0 x.inner.length c4 h4],iI k] S (iI (k+QG x)) (Zf (Zf (Zf (Zf S i1 (.ar k1 (((mL Wt JH x.nodes (k))).map ZB) true h1 v1)) i2 (.ar k2 (rI (mL VU Z9 x.sites (k+(nL JH x.nodes:Nat)))) true h2 v2)) i3 (.ar k3 (rS (mL XP Yn x.outer (k+(nL JH x.nodes:Nat)+(nL Z9 x.sites:Nat)))) true h3 v3)) i4 (.ar k4 (((mL Wu Yx x.inner (k+(nL JH x.nodes:Nat)+(nL Z9 x.sites:Nat)+(nL Yn x.outer:Nat)))).map ZU) true h4 v4)):=by
 obtain⟨b0,b1,b2,b3,b4,b5,b6⟩:=hb
 have e1:i1.1≠lvl:=by omega
 have e2:i2.1≠lvl:=by omega
 have e3:i3.1≠lvl:=by omega
 have e4:i4.1≠lvl:=by omega
 simp only[QG] at hk
 refine Zr Zww trivial ?_
 simp only[Zjl,ZY e1,ZY e2,ZY e3,ZY e4,Zb,seval,Za,men]
 simp only[Yb]
 refine ZaJ ZwF l1 s1 (by omega) (by omega) b0 b1 ?_
 simp only[ZY e1,ZY e2,ZY e3,ZY e4,Zb,seval,Za,men]
 simp only[Yb]
 refine ZaJ Zes l2 (by rw[Uk n2_1];exact s2) (by omega) (by omega) b2 (fun _ _=>trivial) ?_
 simp only[ZY e1,ZY e2,ZY e3,ZY e4,Zb,seval,Za,men]
 simp only[Yb]
 refine ZaJ ZwG l3 (by rw[Uk n3_2,Uk n3_1];exact s3) (by omega) (by omega) b3 b4 ?_
 simp only[ZY e1,ZY e2,ZY e3,ZY e4,Zb,seval,Za,men]
 simp only[Yb]
 refine ZaJ ZwH l4 (by rw[Uk n4_3,Uk n4_2,Uk n4_1];exact s4) (by omega) (by omega) b5 b6 ?_
 simp only[ZY e1,ZY e2,ZY e3,ZY e4,Zb,seval,Za,men]
 simp only[QG,Int.natCast_add,<-Ubv]
 try exact⟨rfl,rfl⟩
theorem Zw0{x:TBigraph}{k:Int}{lvl a1 a2 a3 a4:Nat}{out:Zc}{k1 h1 v1 k2 h2 v2 k3 h3 v3 k4 h4 v4:Nat}{c1 c2 c3 c4:Option Nat}{env:List (Nat×IV)}{loc:List (Nat×Ob)}{d:Option Nat}{K:St->Prop}(n2_1:a2≠a1)(n3_1:a3≠a1)(n3_2:a3≠a2)(n4_1:a4≠a1)(n4_2:a4≠a2)(n4_3:a4≠a3)(s1:lkO a1 loc=some (.ar k1 (x.nodes.map ZB) true h1 v1))(s2:lkO a2 loc=some (.ar k2 (rI x.sites) true h2 v2))(s3:lkO a3 loc=some (.ar k3 (rS x.outer) true h3 v3))(s4:lkO a4 loc=some (.ar k4 (x.inner.map ZU) true h4 v4))(h0:0<=k)(hk:k+QG x<=4611686018427387904)(hb:Vf 4294967296 x)
  (hK:K ⟨lvl,ptd d (iI (k+QG x)) env,(ptO a4 (.ar k4 (((mL Wu Yx x.inner (k+(nL JH x.nodes:Nat)+(nL Z9 x.sites:Nat)+(nL Yn x.outer:Nat)))).map ZU) true h4 v4) (ptO a3 (.ar k3 (rS (mL XP Yn x.outer (k+(nL JH x.nodes:Nat)+(nL Z9 x.sites:Nat)))) true h3 v3) (ptO a2 (.ar k2 (rI (mL VU Z9 x.sites (k+(nL JH x.nodes:Nat)))) true h2 v2) (ptO a1 (.ar k1 (((mL Wt JH x.nodes (k))).map ZB) true h1 v1) loc)))),out⟩) :
  Q4 (Sem UbX) ZaQ true lvl env loc out d K [.ag [iI x.roots,.hd (lvl,a1) [] 0 x.nodes.length c1 h1,.hd (lvl,a2) [] 0 x.sites.length c2 h2,iI x.edges,.hd (lvl,a3) [] 0 x.outer.length c3 h3,.hd (lvl,a4) [] 0 x.inner.length c4 h4],iI k]:=by
 refine X6 (r:=iI (k+QG x)) (ptO a4 (.ar k4 (((mL Wu Yx x.inner (k+(nL JH x.nodes:Nat)+(nL Z9 x.sites:Nat)+(nL Yn x.outer:Nat)))).map ZU) true h4 v4) (ptO a3 (.ar k3 (rS (mL XP Yn x.outer (k+(nL JH x.nodes:Nat)+(nL Z9 x.sites:Nat)))) true h3 v3) (ptO a2 (.ar k2 (rI (mL VU Z9 x.sites (k+(nL JH x.nodes:Nat)))) true h2 v2) (ptO a1 (.ar k1 (((mL Wt JH x.nodes (k))).map ZB) true h1 v1) loc)))) out (fun _ _=>rfl) ?_ ⟨trivial,hK⟩
 rw[W8,W8,W8,W8]
 exact ZwZ x k (lvl+1) _ (lvl,a1) (lvl,a2) (lvl,a3) (lvl,a4) k1 h1 v1 k2 h2 v2 k3 h3 v3 k4 h4 v4 c1 c2 c3 c4 (UaD _) (UaD _) (UaD _) (UaD _) (fun e=>n2_1 (congrArg Prod.snd e)) (fun e=>n3_1 (congrArg Prod.snd e)) (fun e=>n3_2 (congrArg Prod.snd e)) (fun e=>n4_1 (congrArg Prod.snd e)) (fun e=>n4_2 (congrArg Prod.snd e)) (fun e=>n4_3 (congrArg Prod.snd e)) (by rw[JN];exact s1) (by rw[JN];exact s2) (by rw[JN];exact s3) (by rw[JN];exact s4) h0 hk hb
theorem ZjI(a:List Int)(k:Int)(hl:a.length<=4294967296)(h0:0<=k)(hk:k+nL Z9 a<=4611686018427387904)(lvl:Nat)(S:Zc):Sem UbX ZaR lvl [.tr (.sl (rI (mL VU Z9 a k))),iI k] S (iI (k+nL Z9 a)) S:=by
 refine Zr Zwy trivial ?_
 simp only[Zjn,Zb,seval,Za,men]
 refine JR (α:=Unit) a.length (fun j _=>⟨lvl,[(0,.tr (.sl (rI (mL VU Z9 a k)))),(1,iI (kJ Z9 a k j)),(5,iI j)],[],S⟩) (fun _ _=>True) () ⟨by simp only[Zb,seval,Za,men],by (simp only[W4,Zb,seval,Za,men]) <;> rfl⟩ trivial ?_
 intro j _ hj _
 simp only[Uab,Jo,Zb,seval,Za,men]
 refine Zs (fun hlt=>?_) (fun hge=>?_)
 ·have hja:j<a.length:=by omega
  have ga:=ZwY (c:=(fun n:Int=>[tv n])) (m:=VU) (n:=Z9) (k:=k) hja
  have hge2:=W6 Z9 (a:=a) (k:=k) (j:=j+1)
  rw[VM Z9 hja] at hge2
  have hge3:=W7 Z9 (a:=a) (k:=k) (j:=j)
  try simp only[Z9] at hge2
  simp only[ga,VU,XP,Uax,hja,ne_eq,not_true_eq_false,Zb,seval,Za,men]
  refine⟨by rw[Zh];omega,⟨by rw[Zh];omega,Zy () hja ?_ trivial⟩⟩
  rw[VM Z9 hja]
  simp only[Z9,Int.natCast_add,Int.natCast_one,Ubv]
  try rfl
 ·have:j=a.length:=by omega
  subst this
  rw[W5]
theorem Zw1(x:TNode):Zq 256 (fun l=>VO x l) (JH x):=Wc (Wb (by omega) (by omega) (ZgY Z9 (fun _=>(by decide:1<=256)) x.links) ZaK) (by simp only[JH];omega)
theorem Zw2(x:TWire):Zq 256 (fun l=>VP x l) (Yx x):=Wc (Wb (by omega) (by omega) (ZgZ x.name.size) ZaK) (by simp only[Yx];omega)
theorem Zw3(x:TBigraph):Zq 0 (fun l=>Wd x l) (QG x):=Wc (Wb (by omega) (by omega) (ZaL (n:=JH) (fun y=>Wc (Zw1 y) (by omega)) x.nodes) (Wb (by omega) (by omega) (ZgY Z9 (fun _=>(by decide:1<=256)) x.sites) (Wb (by omega) (by omega) (ZaL (n:=Yn) (fun y=>ZtW y.size) x.outer) (Wb (by omega) (by omega) (ZaL (n:=Yx) (fun y=>Wc (Zw2 y) (by omega)) x.inner) ZaK)))) (by simp only[QG];omega)
theorem Zw4(x:TControl):Zq 256 (fun l=>YU x l) (Y0 x):=Wc (Wb (by omega) (by omega) (ZgZ x.name.size) ZaK) (by simp only[Y0];omega)
theorem ZjJ:∀(l:List Int),nL Z9 l=l.length
 | []=>rfl
 | x::r=>by simp only[nL,List.length_cons,ZjJ r,Z9];omega
theorem Zw5{n:Nat}{l:Int}(h:0<=l):Ve n l<=l:=by unfold Ve;split <;> omega
theorem ZjK{α:Type}{f:α->Int->Int}:∀(a:List α) (l:Int),(∀ x∈a,∀ l:Int,0<=l->l<=1048576->f x l<=l)->0<=l->l<=1048576->Yj f a l<=l
 | [],l,_,_,_=>Ubc l
 | x::r,l,hf,h0,h1=>by
  simp only[Yj]
  have:=hf x (by simp) l h0 h1
  split
  ·omega
  ·have h2:=ZjK r (f x l) (fun y hy=>hf y (by simp [hy])) (by omega) (by omega)
   omega
theorem ZbA{α:Type}{f:α->Int->Int}(a:List α){l:Int}(hf:∀ x∈a,∀ l:Int,0<=l->l<=1048576->f x l<=l)(h0:0<=l)(h1:l<=1048576):JD f a l<=l:=by
 unfold JD
 split
 ·omega
 ·have:=ZjK a (l-a.length) hf (by omega) (by omega)
  omega
theorem Wv{l m:Int}{g:Int->Int}(h0:0<=l)(h:m<=l)(hg:0<=m->g m<=m):Jx m g<=l:=by
 unfold Jx
 split
 ·omega
 ·have:=hg (by omega)
  omega
theorem Zw6:Zo UbX ZaS sz0=true:=by kernel_rfl
theorem ZbB(a:List Int)(hl:a.length<=9223372036854775807)(l:Int)(h0:0<=l)(h1:l<=1048576):Ve a.length l<=l/\∀ lvl S,Sem UbX ZaS lvl [.tr (.sl (rI a)),iI l] S (iI (Ve a.length l)) S:=by
 refine⟨Zw5 h0,fun lvl S=>?_⟩
 have:=ZtL Zw6 (rI a) l (by simpa using hl) h0 h1 lvl S
 simpa using this
theorem ZjL(x:TNode)(hb:VN 9223372036854775807 x)(l:Int)(h0:0<=l)(h1:l<=1048576):VO x l<=l/\∀ lvl S,Sem UbX Zdo lvl [.ag ((ZB x).map .tr),iI l] S (iI (VO x l)) S:=by
 have b0:x.links.length<=9223372036854775807:=hb
 refine⟨?_,fun lvl S=>?_⟩
 ·unfold VO
  have q0:=ZbB x.links b0 _ h0 h1
  refine Wv h0 q0.1 (fun p0=>?_)
  have r0:_<=(1048576:Int):=Int.le_trans q0.1 h1
  exact Ubc _
 ·refine Zr ZwS trivial ?_
  simp only[ZjB,ZB,Uay,UaR,Zb,seval,Za,men]
  unfold VO
  have q0:=ZbB x.links b0 l h0 h1
  refine Zk q0.2 ?_
  simp only[Zb,seval,Za,men]
  obtain⟨l1,hl1⟩:∃ m:Int,m=(Ve x.links.length l):=⟨_,rfl⟩
  have u1:l1<=l:=by rw[hl1];exact q0.1
  rw[<-hl1]
  split
  ·rename_i hn;rw[Jx,if_pos hn]
  rename_i hn0
  rw[Jx,if_neg hn0]
theorem Zw7:Zo UbX Zc6 (U3 3 (some 3) Zdo)=true:=by kernel_rfl
theorem ZjM(a:List TNode)(hl:a.length<=9223372036854775807)(hb:∀ y∈a,VN 9223372036854775807 y)(l:Int)(h0:0<=l)(h1:l<=1048576):JD VO a l<=l/\∀ lvl S,Sem UbX Zc6 lvl [.tr (.sl (a.map ZB)),iI l] S (iI (JD VO a l)) S :=
 ⟨ZbA a (fun x hx l h0 h1=>(ZjL x (hb x hx) l h0 h1).1) h0 h1,fun lvl S=>ZcN Zw7 ZB VO ZtX a l hl h0 h1 (fun x hx l h0 h1=>ZjL x (hb x hx) l h0 h1) lvl S⟩
theorem ZjN(x:TWire)(hb:Vt 9223372036854775807 x)(l:Int)(h0:0<=l)(h1:l<=1048576):VP x l<=l/\∀ lvl S,Sem UbX Zdp lvl [.ag ((ZU x).map .tr),iI l] S (iI (VP x l)) S:=by
 have b0:x.name.size<=9223372036854775807:=hb
 refine⟨?_,fun lvl S=>?_⟩
 ·unfold VP
  refine Wv h0 (m:=l-x.name.size) (by omega) (fun p0=>?_)
  have r0:_<=(1048576:Int):=Int.le_trans (show l-x.name.size<=l by omega) h1
  exact Ubc _
 ·refine Zr ZwT trivial ?_
  simp only[ZjC,ZU,Uay,UaR,Zb,seval,Za,men]
  unfold VP
  refine⟨by rw[Zh];omega,?_⟩
  obtain⟨l1,hl1⟩:∃ m:Int,m=l-x.name.size:=⟨_,rfl⟩
  have u1:l1<=l:=by omega
  rw[<-hl1]
  split
  ·rename_i hn;rw[Jx,if_pos hn]
  rename_i hn0
  rw[Jx,if_neg hn0]
theorem Zw8:Zo UbX Zc8 (U3 2 (some 2) Zdp)=true:=by kernel_rfl
theorem ZjO(a:List TWire)(hl:a.length<=9223372036854775807)(hb:∀ y∈a,Vt 9223372036854775807 y)(l:Int)(h0:0<=l)(h1:l<=1048576):JD VP a l<=l/\∀ lvl S,Sem UbX Zc8 lvl [.tr (.sl (a.map ZU)),iI l] S (iI (JD VP a l)) S :=
 ⟨ZbA a (fun x hx l h0 h1=>(ZjN x (hb x hx) l h0 h1).1) h0 h1,fun lvl S=>ZcN Zw8 ZU VP ZtY a l hl h0 h1 (fun x hx l h0 h1=>ZjN x (hb x hx) l h0 h1) lvl S⟩
theorem Zw9:Zo UbX Zc7 ZcO=true:=by kernel_rfl
theorem ZjP(a:List ByteArray)(hl:a.length<=9223372036854775807)(hb:∀ y∈a,y.size<=9223372036854775807)(l:Int)(h0:0<=l)(h1:l<=1048576):JD (fun x m=>m-x.size) a l<=l/\∀ lvl S,Sem UbX Zc7 lvl [tS a,iI l] S (iI (JD (fun x m=>m-x.size) a l)) S :=
 ⟨ZbA a (fun x _ l _ _=>by omega) h0 h1,fun lvl S=>ZtM Zw9 a l hl h0 h1 hb lvl S⟩
theorem Zxa(x:TBigraph)(hb:Vf 9223372036854775807 x)(l:Int)(h0:0<=l)(h1:l<=1048576):Wd x l<=l/\∀ lvl S,Sem UbX Zc0 lvl [.ag ((Zl x).map .tr),iI l] S (iI (Wd x l)) S:=by
 obtain⟨b0,b1,b2,b3,b4,b5,b6⟩:=hb
 refine⟨?_,fun lvl S=>?_⟩
 ·unfold Wd
  have q0:=ZjM x.nodes b0 b1 _ h0 h1
  refine Wv h0 q0.1 (fun p0=>?_)
  have r0:_<=(1048576:Int):=Int.le_trans q0.1 h1
  have q1:=ZbB x.sites b2 _ p0 r0
  refine Wv p0 q1.1 (fun p1=>?_)
  have r1:_<=(1048576:Int):=Int.le_trans q1.1 r0
  have q2:=ZjP x.outer b3 b4 _ p1 r1
  refine Wv p1 q2.1 (fun p2=>?_)
  have r2:_<=(1048576:Int):=Int.le_trans q2.1 r1
  have q3:=ZjO x.inner b5 b6 _ p2 r2
  refine Wv p2 q3.1 (fun p3=>?_)
  have r3:_<=(1048576:Int):=Int.le_trans q3.1 r2
  exact Ubc _
 ·refine Zr ZwJ trivial ?_
  simp only[Zjs,Zl,Uay,UaR,Zb,seval,Za,men]
  unfold Wd
  have q0:=ZjM x.nodes b0 b1 l h0 h1
  refine Zk q0.2 ?_
  simp only[Zb,seval,Za,men]
  obtain⟨l1,hl1⟩:∃ m:Int,m=(JD VO x.nodes l):=⟨_,rfl⟩
  have u1:l1<=l:=by rw[hl1];exact q0.1
  rw[<-hl1]
  split
  ·rename_i hn;rw[Jx,if_pos hn]
  rename_i hn0
  rw[Jx,if_neg hn0]
  have q1:=ZbB x.sites b2 l1 (show 0<=l1 by omega) (show l1<=1048576 by omega)
  refine Zk q1.2 ?_
  simp only[Zb,seval,Za,men]
  obtain⟨l2,hl2⟩:∃ m:Int,m=(Ve x.sites.length l1):=⟨_,rfl⟩
  have u2:l2<=l1:=by rw[hl2];exact q1.1
  rw[<-hl2]
  split
  ·rename_i hn;rw[Jx,if_pos hn]
  rename_i hn1
  rw[Jx,if_neg hn1]
  have q2:=ZjP x.outer b3 b4 l2 (show 0<=l2 by omega) (show l2<=1048576 by omega)
  refine Zk q2.2 ?_
  simp only[Zb,seval,Za,men]
  obtain⟨l3,hl3⟩:∃ m:Int,m=(JD (fun x m=>m-x.size) x.outer l2):=⟨_,rfl⟩
  have u3:l3<=l2:=by rw[hl3];exact q2.1
  rw[<-hl3]
  split
  ·rename_i hn;rw[Jx,if_pos hn]
  rename_i hn2
  rw[Jx,if_neg hn2]
  have q3:=ZjO x.inner b5 b6 l3 (show 0<=l3 by omega) (show l3<=1048576 by omega)
  refine Zk q3.2 ?_
  simp only[Zb,seval,Za,men]
  obtain⟨l4,hl4⟩:∃ m:Int,m=(JD VP x.inner l3):=⟨_,rfl⟩
  have u4:l4<=l3:=by rw[hl4];exact q3.1
  rw[<-hl4]
  split
  ·rename_i hn;rw[Jx,if_pos hn]
  rename_i hn3
  rw[Jx,if_neg hn3]
theorem ZjQ(x:TControl)(hb:J2 9223372036854775807 x)(l:Int)(h0:0<=l)(h1:l<=1048576):YU x l<=l/\∀ lvl S,Sem UbX Zc5 lvl [.ag ((ZE x).map .tr),iI l] S (iI (YU x l)) S:=by
 have b0:x.name.size<=9223372036854775807:=hb
 refine⟨?_,fun lvl S=>?_⟩
 ·unfold YU
  refine Wv h0 (m:=l-x.name.size) (by omega) (fun p0=>?_)
  have r0:_<=(1048576:Int):=Int.le_trans (show l-x.name.size<=l by omega) h1
  exact Ubc _
 ·refine Zr ZwN trivial ?_
  simp only[Zjw,ZE,Uay,UaR,Zb,seval,Za,men]
  unfold YU
  refine⟨by rw[Zh];omega,?_⟩
  obtain⟨l1,hl1⟩:∃ m:Int,m=l-x.name.size:=⟨_,rfl⟩
  have u1:l1<=l:=by omega
  rw[<-hl1]
  split
  ·rename_i hn;rw[Jx,if_pos hn]
  rename_i hn0
  rw[Jx,if_neg hn0]
theorem Zxb:Zo UbX ZcZ (U3 3 (some 3) Zc5)=true:=by kernel_rfl
theorem Zxc(a:List TControl)(hl:a.length<=9223372036854775807)(hb:∀ y∈a,J2 9223372036854775807 y)(l:Int)(h0:0<=l)(h1:l<=1048576):JD YU a l<=l/\∀ lvl S,Sem UbX ZcZ lvl [.tr (.sl (a.map ZE)),iI l] S (iI (JD YU a l)) S :=
 ⟨ZbA a (fun x hx l h0 h1=>(ZjQ x (hb x hx) l h0 h1).1) h0 h1,fun lvl S=>ZcN Zxb ZE YU Zg1 a l hl h0 h1 (fun x hx l h0 h1=>ZjQ x (hb x hx) l h0 h1) lvl S⟩
theorem Zxd:Zo UbX We WZ=true:=by kernel_rfl
theorem DJ(a b:(List Int))(ha:a.length<=9223372036854775807)(lvl:Nat)(S:Zc):Sem UbX We lvl [.tr (.sl (rI a)),.tr (.sl (rI b))] S (iB (decide (a=b))) S:=ZtN Zxd a b ha lvl S
theorem Zxe(x y:TNode)(hb:VN 9223372036854775807 x)(lvl:Nat)(S:Zc):Sem UbX ZdH lvl [.ag ((ZB x).map .tr),.ag ((ZB y).map .tr)] S (iB (decide (x=y))) S:=by
 have b0:x.links.length<=9223372036854775807:=hb
 refine Zr ZwW trivial ?_
 simp only[ZjF,ZB,Uay,UaR,Zb,seval,Za,men]
 refine Zs (fun hne=>?_) (fun heq0=>?_)
 ·have:¬ x=y:=fun e=>(by rw[e] at hne;simp at hne)
  simp [this]
 refine Zs (fun hne=>?_) (fun heq1=>?_)
 ·have:¬ x=y:=fun e=>(by rw[e] at hne;simp at hne)
  simp [this]
 refine Zk (DJ x.links y.links b0) ?_
 simp only[Uau,Zb,seval,Za,men]
 refine Zs (fun hne=>?_) (fun heq2=>?_)
 ·have:¬ x=y:=fun e=>(by rw[e] at hne;simp at hne)
  simp [this]
 have:x=y:=by
  cases x;cases y;simp_all
 simp [this]
theorem Zxf:Zo UbX Zdi (U4 3 (some 3) ZdH)=true:=by kernel_rfl
theorem Zxg(a b:(List TNode))(ha:a.length<=9223372036854775807)(ha2:∀ y∈a,VN 9223372036854775807 y)(lvl:Nat)(S:Zc):Sem UbX Zdi lvl [.tr (.sl (a.map ZB)),.tr (.sl (b.map ZB))] S (iB (decide (a=b))) S :=
 ZcS Zxf ZB (fun _=>rfl) a b ha (fun x hx y _ lvl S=>Zxe x y (ha2 x hx) lvl S) lvl S
theorem Zxh(x y:TWire)(hb:Vt 9223372036854775807 x)(lvl:Nat)(S:Zc):Sem UbX ZdI lvl [.ag ((ZU x).map .tr),.ag ((ZU y).map .tr)] S (iB (decide (x=y))) S:=by
 have b0:x.name.size<=9223372036854775807:=hb
 refine Zr ZwX trivial ?_
 simp only[ZjG,ZU,Uay,UaR,Zb,seval,Za,men]
 refine Zs (fun hne=>?_) (fun heq0=>?_)
 ·have:¬ x=y:=fun e=>(by rw[e] at hne;simp at hne)
  simp [this]
 refine Zs (fun hne=>?_) (fun heq1=>?_)
 ·have:¬ x=y:=fun e=>(by rw[e] at hne;simp at hne)
  simp [this]
 have:x=y:=by
  cases x;cases y;simp_all
 simp [this]
theorem Zxi:Zo UbX Zdk (U4 2 (some 2) ZdI)=true:=by kernel_rfl
theorem Zxj(a b:(List TWire))(ha:a.length<=9223372036854775807)(ha2:∀ y∈a,Vt 9223372036854775807 y)(lvl:Nat)(S:Zc):Sem UbX Zdk lvl [.tr (.sl (a.map ZU)),.tr (.sl (b.map ZU))] S (iB (decide (a=b))) S :=
 ZcS Zxi ZU (fun _=>rfl) a b ha (fun x hx y _ lvl S=>Zxh x y (ha2 x hx) lvl S) lvl S
theorem Zxk:Zo UbX Zdj WZ=true:=by kernel_rfl
theorem Zxl(a b:(List ByteArray))(ha:a.length<=9223372036854775807)(lvl:Nat)(S:Zc):Sem UbX Zdj lvl [.tr (.sl (rS a)),.tr (.sl (rS b))] S (iB (decide (a=b))) S:=ZtO Zxk a b ha lvl S
theorem Zxm(x y:TBigraph)(hb:Vf 9223372036854775807 x)(lvl:Nat)(S:Zc):Sem UbX Zc3 lvl [.ag ((Zl x).map .tr),.ag ((Zl y).map .tr)] S (iB (decide (x=y))) S:=by
 obtain⟨b0,b1,b2,b3,b4,b5,b6⟩:=hb
 refine Zr ZwM trivial ?_
 simp only[Zjv,Zl,Uay,UaR,Zb,seval,Za,men]
 refine Zs (fun hne=>?_) (fun heq0=>?_)
 ·have:¬ x=y:=fun e=>(by rw[e] at hne;simp at hne)
  simp [this]
 refine Zk (Zxg x.nodes y.nodes b0 b1) ?_
 simp only[Uau,Zb,seval,Za,men]
 refine Zs (fun hne=>?_) (fun heq1=>?_)
 ·have:¬ x=y:=fun e=>(by rw[e] at hne;simp at hne)
  simp [this]
 refine Zk (DJ x.sites y.sites b2) ?_
 simp only[Uau,Zb,seval,Za,men]
 refine Zs (fun hne=>?_) (fun heq2=>?_)
 ·have:¬ x=y:=fun e=>(by rw[e] at hne;simp at hne)
  simp [this]
 refine Zs (fun hne=>?_) (fun heq3=>?_)
 ·have:¬ x=y:=fun e=>(by rw[e] at hne;simp at hne)
  simp [this]
 refine Zk (Zxl x.outer y.outer b3) ?_
 simp only[Uau,Zb,seval,Za,men]
 refine Zs (fun hne=>?_) (fun heq4=>?_)
 ·have:¬ x=y:=fun e=>(by rw[e] at hne;simp at hne)
  simp [this]
 refine Zk (Zxj x.inner y.inner b5 b6) ?_
 simp only[Uau,Zb,seval,Za,men]
 refine Zs (fun hne=>?_) (fun heq5=>?_)
 ·have:¬ x=y:=fun e=>(by rw[e] at hne;simp at hne)
  simp [this]
 have:x=y:=by
  cases x;cases y;simp_all
 simp [this]
theorem Zxn(x y:TControl)(hb:J2 9223372036854775807 x)(lvl:Nat)(S:Zc):Sem UbX Zdh lvl [.ag ((ZE x).map .tr),.ag ((ZE y).map .tr)] S (iB (decide (x=y))) S:=by
 have b0:x.name.size<=9223372036854775807:=hb
 refine Zr ZwR trivial ?_
 simp only[ZjA,ZE,Uay,UaR,Zb,seval,Za,men]
 refine Zs (fun hne=>?_) (fun heq0=>?_)
 ·have:¬ x=y:=fun e=>(by rw[e] at hne;simp at hne)
  simp [this]
 refine Zs (fun hne=>?_) (fun heq1=>?_)
 ·have:¬ x=y:=fun e=>(by rw[e] at hne;simp at hne)
  simp [this]
 refine Zs (fun hne=>?_) (fun heq2=>?_)
 ·have:¬ x=y:=fun e=>(by rw[e] at hne;simp at hne)
  simp [this]
 have:x=y:=by
  cases x;cases y;simp_all
 simp [this]
theorem Zxo:Zo UbX Zc2 (U4 3 (some 3) Zdh)=true:=by kernel_rfl
theorem Zxp(a b:(List TControl))(ha:a.length<=9223372036854775807)(ha2:∀ y∈a,J2 9223372036854775807 y)(lvl:Nat)(S:Zc):Sem UbX Zc2 lvl [.tr (.sl (a.map ZE)),.tr (.sl (b.map ZE))] S (iB (decide (a=b))) S :=
 ZcS Zxo ZE (fun _=>rfl) a b ha (fun x hx y _ lvl S=>Zxn x y (ha2 x hx) lvl S) lvl S
theorem Zxq:Zo UbX ZaT (W0 (.int .i64 0))=true:=by kernel_rfl
theorem ZjR(a:(List Int))(ha:a.length<=4294967296)(lvl:Nat)(S:Zc):Sem UbX ZaT lvl [.tr (.sl (rI a))] S (.ow 1 (rI a) true) S:=ZtP Zxq a ha lvl S
theorem Zxr(x:TNode)(hb:VN 4294967296 x)(lvl:Nat)(S:Zc):Sem UbX Zdu lvl [.ag ((ZB x).map .tr)] S (ZaM x) S:=by
 have b0:x.links.length<=4294967296:=hb
 refine Zr ZwU (by simp [ZaM,low,men,Za]) ?_
 simp only[ZjD,ZB,zfill,zobs,Uay,UaR,Vb,Vc,List.set_cons_zero,List.set_cons_succ,Zb,seval,Za,men]
 refine Zk (ZjR x.links b0) ?_
 simp only[Vb,Vc,List.set_cons_zero,List.set_cons_succ,Ua0,Zb,seval,Za,men]
 rfl
theorem Zxs(a:(List TNode))(ha:a.length<=4294967296)(hb:∀ y∈a,VN 4294967296 y)(lvl:Nat)(S:Zc):Sem UbX Zdc lvl [.tr (.sl (a.map ZB))] S (.ow 3 (a.map ZB) true) S:=by
 refine Zr ZwP trivial ?_
 simp only[Zjy,Uab,bigN,Uak,Zb,seval,Za,men]
 refine⟨by omega,?_⟩
 refine JR (α:=Unit) a.length (fun j _=>⟨lvl,[(0,.tr (.sl (a.map ZB))),(3,.hd (lvl,224) [] 0 a.length none a.length),(4,iI j)],[(224,.ar 3 (JS ZB [tv 0,tv 0,.sl []] a j) true a.length (j*1))],S⟩) (fun _ _=>True) () ⟨by simp only[Zb,seval,Za,men],by (simp only[U5,Zb,seval,Za,men]) <;> rfl⟩ trivial ?_
 intro j _ hj _
 simp only[Uab,Zb,seval,Za,men]
 refine Zs (fun hlt=>?_) (fun hge=>?_)
 ·have hja:j<a.length:=by omega
  have ga:(a.map ZB)[j]? = some (ZB a[j]):=by simp [hja]
  have gz:(JS ZB [tv 0,tv 0,.sl []] a j)[j]? = some [tv 0,tv 0,.sl []]:=U7 hja
  have hfl:(JS ZB [tv 0,tv 0,.sl []] a j).length=a.length:=ZcT hj
  have hsem:=fun lvl S=>Zxr a[j] (hb a[j] (Uan hja)) lvl S
  simp only[ga,gz,Uak,Uaf,hja,ZB,ZaM,Nat.reduceLeDiff,Zb,↓reduceIte,Nat.reduceEqDiff,Nat.reduceMul,reduceCtorEq,Nat.reduceAdd,Nat.reduceSub,Nat.reduceLT,Int.reduceToNat,Int.reduceLE,Int.reduceLT,Za,men]
  refine Zk hsem ?_
  simp only[ZaM,gz,Uak,Uaf,hja,hfl,ZG,Uba,Ubi,UaI,List.set_cons_zero,List.set_cons_succ,Ua0,ne_eq,not_false_eq_true,Zb,seval,Za,men]
  refine⟨by rw[Zh];omega,Zy () hja ?_ trivial⟩
  have hse:=U8 (c:=ZB) (z:=[tv 0,tv 0,.sl []]) (e:=[tv a[j].control,tv a[j].parent,.sl (rI a[j].links)]) hja rfl
  rw[hse,show (j+1)*1=j*1+1 from by omega]
  rfl
 ·have:j=a.length:=by omega
  subst this
  rw[U6]
  simp
theorem Zxt(x:TWire)(hb:Vt 4294967296 x)(lvl:Nat)(S:Zc):Sem UbX Zdv lvl [.ag ((ZU x).map .tr)] S (ZaN x) S:=by
 have b0:x.name.size<=4294967296:=hb
 refine Zr ZwV (by simp [ZaN,low,men,Za]) ?_
 simp only[ZjE,ZU,zfill,zobs,Uay,UaR,Vb,Vc,List.set_cons_zero,List.set_cons_succ,Zb,seval,Za,men]
 rfl
theorem Zxu(a:(List TWire))(ha:a.length<=4294967296)(hb:∀ y∈a,Vt 4294967296 y)(lvl:Nat)(S:Zc):Sem UbX Zde lvl [.tr (.sl (a.map ZU))] S (.ow 2 (a.map ZU) true) S:=by
 refine Zr ZwQ trivial ?_
 simp only[Zjz,Uab,bigN,Uak,Zb,seval,Za,men]
 refine⟨by omega,?_⟩
 refine JR (α:=Unit) a.length (fun j _=>⟨lvl,[(0,.tr (.sl (a.map ZU))),(3,.hd (lvl,224) [] 0 a.length none a.length),(4,iI j)],[(224,.ar 2 (JS ZU [ts ⟨#[]⟩,tv 0] a j) true a.length (j*0))],S⟩) (fun _ _=>True) () ⟨by simp only[Zb,seval,Za,men],by (simp only[U5,Zb,seval,Za,men]) <;> rfl⟩ trivial ?_
 intro j _ hj _
 simp only[Uab,Zb,seval,Za,men]
 refine Zs (fun hlt=>?_) (fun hge=>?_)
 ·have hja:j<a.length:=by omega
  have ga:(a.map ZU)[j]? = some (ZU a[j]):=by simp [hja]
  have gz:(JS ZU [ts ⟨#[]⟩,tv 0] a j)[j]? = some [ts ⟨#[]⟩,tv 0]:=U7 hja
  have hfl:(JS ZU [ts ⟨#[]⟩,tv 0] a j).length=a.length:=ZcT hj
  have hsem:=fun lvl S=>Zxt a[j] (hb a[j] (Uan hja)) lvl S
  simp only[ga,gz,Uak,Uaf,hja,ZU,ZaN,Nat.reduceLeDiff,Zb,↓reduceIte,Nat.reduceEqDiff,Nat.reduceMul,reduceCtorEq,Nat.reduceAdd,Nat.reduceSub,Nat.reduceLT,Int.reduceToNat,Int.reduceLE,Int.reduceLT,Za,men]
  refine Zk hsem ?_
  simp only[ZaN,gz,Uak,Uaf,hja,hfl,ZG,Uba,Ubi,UaI,List.set_cons_zero,List.set_cons_succ,Ua0,ne_eq,not_false_eq_true,Zb,seval,Za,men]
  refine⟨by rw[Zh];omega,Zy () hja ?_ trivial⟩
  have hse:=U8 (c:=ZU) (z:=[ts ⟨#[]⟩,tv 0]) (e:=[ts a[j].name,tv a[j].link]) hja rfl
  rw[hse,show (j+1)*0=j*0 from by omega]
  rfl
 ·have:j=a.length:=by omega
  subst this
  rw[U6]
  simp
theorem Zxv:Zo UbX Zdd (W0 (.string ⟨#[]⟩))=true:=by kernel_rfl
theorem Zxw(a:(List ByteArray))(ha:a.length<=4294967296)(lvl:Nat)(S:Zc):Sem UbX Zdd lvl [.tr (.sl (rS a))] S (.ow 1 (rS a) true) S:=ZtQ Zxv a ha lvl S
theorem ZbC(x:TBigraph)(hb:Vf 4294967296 x)(lvl:Nat)(S:Zc):Sem UbX Ua lvl [.ag ((Zl x).map .tr)] S (JE x) S:=by
 obtain⟨b0,b1,b2,b3,b4,b5,b6⟩:=hb
 refine Zr ZwL (by simp [JE,low,men,Za]) ?_
 simp only[Zju,Zl,zfill,zobs,Uay,UaR,Vb,Vc,List.set_cons_zero,List.set_cons_succ,Zb,seval,Za,men]
 refine Zk (Zxs x.nodes b0 b1) ?_
 simp only[Vb,Vc,List.set_cons_zero,List.set_cons_succ,Ua0,Zb,seval,Za,men]
 refine Zk (ZjR x.sites b2) ?_
 simp only[Vb,Vc,List.set_cons_zero,List.set_cons_succ,Ua0,Zb,seval,Za,men]
 refine Zk (Zxw x.outer b3) ?_
 simp only[Vb,Vc,List.set_cons_zero,List.set_cons_succ,Ua0,Zb,seval,Za,men]
 refine Zk (Zxu x.inner b5 b6) ?_
 simp only[Vb,Vc,List.set_cons_zero,List.set_cons_succ,Ua0,Zb,seval,Za,men]
 rfl
theorem Zxx(x:TControl)(hb:J2 4294967296 x)(lvl:Nat)(S:Zc):Sem UbX Zdb lvl [.ag ((ZE x).map .tr)] S (ZaO x) S:=by
 have b0:x.name.size<=4294967296:=hb
 refine Zr ZwO (by simp [ZaO,low,men,Za]) ?_
 simp only[Zjx,ZE,zfill,zobs,Uay,UaR,Vb,Vc,List.set_cons_zero,List.set_cons_succ,Zb,seval,Za,men]
 rfl
theorem ZbD(a:(List TControl))(ha:a.length<=4294967296)(hb:∀ y∈a,J2 4294967296 y)(lvl:Nat)(S:Zc):Sem UbX W9 lvl [.tr (.sl (a.map ZE))] S (.ow 3 (a.map ZE) true) S:=by
 refine Zr ZwK trivial ?_
 simp only[Zjt,Uab,bigN,Uak,Zb,seval,Za,men]
 refine⟨by omega,?_⟩
 refine JR (α:=Unit) a.length (fun j _=>⟨lvl,[(0,.tr (.sl (a.map ZE))),(3,.hd (lvl,224) [] 0 a.length none a.length),(4,iI j)],[(224,.ar 3 (JS ZE [ts ⟨#[]⟩,tv 0,tv 0] a j) true a.length (j*0))],S⟩) (fun _ _=>True) () ⟨by simp only[Zb,seval,Za,men],by (simp only[U5,Zb,seval,Za,men]) <;> rfl⟩ trivial ?_
 intro j _ hj _
 simp only[Uab,Zb,seval,Za,men]
 refine Zs (fun hlt=>?_) (fun hge=>?_)
 ·have hja:j<a.length:=by omega
  have ga:(a.map ZE)[j]? = some (ZE a[j]):=by simp [hja]
  have gz:(JS ZE [ts ⟨#[]⟩,tv 0,tv 0] a j)[j]? = some [ts ⟨#[]⟩,tv 0,tv 0]:=U7 hja
  have hfl:(JS ZE [ts ⟨#[]⟩,tv 0,tv 0] a j).length=a.length:=ZcT hj
  have hsem:=fun lvl S=>Zxx a[j] (hb a[j] (Uan hja)) lvl S
  simp only[ga,gz,Uak,Uaf,hja,ZE,ZaO,Nat.reduceLeDiff,Zb,↓reduceIte,Nat.reduceEqDiff,Nat.reduceMul,reduceCtorEq,Nat.reduceAdd,Nat.reduceSub,Nat.reduceLT,Int.reduceToNat,Int.reduceLE,Int.reduceLT,Za,men]
  refine Zk hsem ?_
  simp only[ZaO,gz,Uak,Uaf,hja,hfl,ZG,Uba,Ubi,UaI,List.set_cons_zero,List.set_cons_succ,Ua0,ne_eq,not_false_eq_true,Zb,seval,Za,men]
  refine⟨by rw[Zh];omega,Zy () hja ?_ trivial⟩
  have hse:=U8 (c:=ZE) (z:=[ts ⟨#[]⟩,tv 0,tv 0]) (e:=[ts a[j].name,tv a[j].ports,tv a[j].kind_]) hja rfl
  rw[hse,show (j+1)*0=j*0 from by omega]
  rfl
 ·have:j=a.length:=by omega
  subst this
  rw[U6]
  simp
theorem Zxy(sig:List TControl)(b:TBigraph)(_hn:sig.length<=4294967296)(_hbs:∀ y∈sig,J2 4294967296 y)(_hb:Vf 4294967296 b):(Yl sig b).length<=4294967296/\1+(nL Z9 (Yl sig b):Int)<=4611686018427387904:=by
 have h:(Yl sig b).length<=4294967296:=by
  unfold Yl
  split
  ·rename_i h
   rw[(Ui (b:=b) _).len]
   have:=h.nodesL
   omega
  ·simp
 rw[ZjJ]
 exact⟨h,by omega⟩
theorem Zxz(x0:(List TControl))(x1:TBigraph)(hb0_0:x0.length<=9223372036854775807)(hb0_1:∀ y∈x0,J2 9223372036854775807 y)(hb1_0:Vf 9223372036854775807 x1)(hf1:Dd x1)(lvl:Nat)(S:Zc):Sem UbX Zg3 lvl [.tr (.sl (x0.map ZE)),.ag ((Zl x1).map .tr)] S (iB true) S:=by
 refine Zr Zwu trivial ?_
 simp only[Zjj,Uab,JP,JO,Jo,ne_eq,not_true_eq_false,bne_self_eq_false,Zl,JE,Zb,seval,Za,men]
 have ul:(1048576:Int)<=1048576:=Ubc _
 obtain⟨_,ha0⟩:=Zxc x0 hb0_0 hb0_1 (1048576) (by omega) (by omega)
 refine Zk ha0 ?_
 simp only[Uab,JP,JO,Jo,ne_eq,not_true_eq_false,bne_self_eq_false,Zl,JE,Zb,seval,Za,men]
 refine Zs (fun _=>trivial) (fun hz0=>?_)
 have zp0:=(Zbb (f:=YU) (fun y=>(Zu8 y)) x0) (1048576) (by omega) (by omega)
 have zq0:=(ZaL (f:=YU) (n:=Y0) (fun y=>Wc (Zw4 y) (by omega)) x0) (1048576) (by omega) (by omega)
 simp only at zp0 zq0
 have hp0:=zp0.2 (by omega)
 have hq0:=zq0.2 (by omega)
 obtain⟨hs0_0,hs0_1⟩:=hp0
 obtain⟨_,ha1⟩:=Zxa x1 hb1_0 (JD YU x0 (1048576)) (by omega) (by omega)
 refine Zk ha1 ?_
 simp only[Uab,JP,JO,Jo,ne_eq,not_true_eq_false,bne_self_eq_false,Zl,JE,Zb,seval,Za,men]
 refine Zs (fun _=>trivial) (fun hz1=>?_)
 have zp1:=(Zu7 x1) (JD YU x0 (1048576)) (by omega) (by omega)
 have zq1:=(Zw3 x1) (JD YU x0 (1048576)) (by omega) (by omega)
 simp only at zp1 zq1
 have hp1:=zp1.2 (by omega)
 have hq1:=zq1.2 (by omega)
 have hs1_0:=hp1
 refine Zk (ZbD x0 hs0_0 hs0_1) ?_
 simp only[Uab,JP,JO,Jo,ne_eq,not_true_eq_false,bne_self_eq_false,Zl,JE,Zb,seval,Za,men]
 refine Zk (ZbC x1 hs1_0) ?_
 simp only[Uab,JP,JO,Jo,ne_eq,not_true_eq_false,bne_self_eq_false,Zl,JE,Zb,seval,Za,men]
 refine Zk (Zwq x0 x1 hs0_0 hs0_1 hs1_0 hf1) ?_
 simp only[Uab,JP,JO,Jo,ne_eq,not_true_eq_false,bne_self_eq_false,Zl,JE,Zb,seval,Za,men]
 refine Zk (ZbD x0 hs0_0 hs0_1) ?_
 simp only[Uab,JP,JO,Jo,ne_eq,not_true_eq_false,bne_self_eq_false,Zl,JE,Zb,seval,Za,men]
 refine Zk (ZbC x1 hs1_0) ?_
 simp only[Uab,JP,JO,Jo,ne_eq,not_true_eq_false,bne_self_eq_false,Zl,JE,Zb,seval,Za,men]
 refine Zk (Zjh x0 x1 hs0_0 hs0_1 hs1_0 hf1) ?_
 simp only[Uab,JP,JO,Jo,ne_eq,not_true_eq_false,bne_self_eq_false,Zl,JE,Zb,seval,Za,men]
 obtain⟨hr0_0,hrn⟩:=Zxy x0 x1 hs0_0 hs0_1 hs1_0
 refine Zk (DJ (Yl x0 x1) (Yl x0 x1) (by omega)) ?_
 simp only[Uab,JP,JO,Jo,ne_eq,not_true_eq_false,bne_self_eq_false,Zl,JE,Zb,seval,Za,men]
 refine Zk (ZbD x0 hs0_0 hs0_1) ?_
 simp only[Uab,JP,JO,Jo,ne_eq,not_true_eq_false,bne_self_eq_false,Zl,JE,Zb,seval,Za,men]
 refine Zk (Zxp x0 x0 hb0_0 hb0_1) ?_
 simp only[Uab,JP,JO,Jo,ne_eq,not_true_eq_false,bne_self_eq_false,Zl,JE,Zb,seval,Za,men]
 refine Zk (ZbC x1 hs1_0) ?_
 simp only[Uab,JP,JO,Jo,ne_eq,not_true_eq_false,bne_self_eq_false,Zl,JE,Zb,seval,Za,men]
 refine Zk (Zxm x1 x1 hb1_0) ?_
 simp only[Uab,JP,JO,Jo,ne_eq,not_true_eq_false,bne_self_eq_false,Zl,JE,Zb,seval,Za,men]
 simp only[Yb]
 refine ZgX ZwI (a:=x0) rfl (by omega) (by omega) hs0_0 hs0_1 ?_
 simp only[Uab,JP,JO,Jo,ne_eq,not_true_eq_false,bne_self_eq_false,Zl,JE,Zb,seval,Za,men]
 simp only[Yb]
 refine Zw0 (x:=x1) (by decide) (by decide) (by decide) (by decide) (by decide) (by decide) rfl rfl rfl rfl (by omega) (by omega) hs1_0 ?_
 simp only[Uab,JP,JO,Jo,ne_eq,not_true_eq_false,bne_self_eq_false,Zl,JE,Zb,seval,Za,men]
 have hk0:¬ (1+(nL Y0 x0:Nat)+(QG x1:Nat)<(0:Int)):=by omega
 simp only[hk0,Uab,JP,JO,Jo,ne_eq,not_true_eq_false,bne_self_eq_false,Zl,JE,Zb,seval,Za,men]
 refine Zk (DJ (Yl x0 x1) (Yl x0 x1) (by omega)) ?_
 simp only[Uab,JP,JO,Jo,ne_eq,not_true_eq_false,bne_self_eq_false,Zl,JE,Zb,seval,Za,men]
 simp only[Yb]
 refine ZgX Zes (a:=(Yl x0 x1)) rfl (by omega) (by omega) hr0_0 (fun _ _=>trivial) ?_
 simp only[Uab,JP,JO,Jo,ne_eq,not_true_eq_false,bne_self_eq_false,Zl,JE,Zb,seval,Za,men]
 refine Zk (ZjI (Yl x0 x1) (1) hr0_0 (by omega) (by omega)) ?_
 have hh0:¬ (1+(nL Z9 (Yl x0 x1):Nat)<(0:Int)):=by omega
 simp only[hh0,Uab,JP,JO,Jo,ne_eq,not_true_eq_false,bne_self_eq_false,Zl,JE,Zb,seval,Za,men]
 refine Zk (ZbD x0 hs0_0 hs0_1) ?_
 simp only[Uab,JP,JO,Jo,ne_eq,not_true_eq_false,bne_self_eq_false,Zl,JE,Zb,seval,Za,men]
 refine Zk (ZbC x1 hs1_0) ?_
 simp only[Uab,JP,JO,Jo,ne_eq,not_true_eq_false,bne_self_eq_false,Zl,JE,Zb,seval,Za,men]
 refine Zk (Zjh x0 x1 hs0_0 hs0_1 hs1_0 hf1) ?_
 simp only[Uab,JP,JO,Jo,ne_eq,not_true_eq_false,bne_self_eq_false,Zl,JE,Zb,seval,Za,men]
 refine Zk (DJ (Yl x0 x1) (Yl x0 x1) (by omega)) ?_
 simp only[Uab,JP,JO,Jo,ne_eq,not_true_eq_false,bne_self_eq_false,Zl,JE,Zb,seval,Za,men]
 refine Zk (ZjI (Yl x0 x1) (1) hr0_0 (by omega) (by omega)) ?_
 have hh0:¬ (1+(nL Z9 (Yl x0 x1):Nat)<(0:Int)):=by omega
 simp only[hh0,Uab,JP,JO,Jo,ne_eq,not_true_eq_false,bne_self_eq_false,Zl,JE,Zb,seval,Za,men]
theorem Zet:JX UbX 9 (fun n:ByteArray=>[ts n]) (fun n=>n.size<=9223372036854775807):=Zs5 Proofs.Tryz.underlying9
theorem XQ:JX UbX 3 (fun n:Int=>[tv n]) (Z2 .i64):=Zs4 Proofs.Tryz.underlying3
theorem ZxA:JX UbX 49 ZE (fun x=>J2 9223372036854775807 x/\Zg2 x):=ZaI (ZaH Proofs.Tryz.underlying49 (show XE UbX 0 [(0,9),(1,3),(2,3)] _ _ from (Vd (k:=1) (by kernel_rfl) (fun _=>rfl) Zet (Vd (k:=1) (by kernel_rfl) (fun _=>rfl) XQ (Vd (k:=1) (by kernel_rfl) (fun _=>rfl) XQ ZaG))))) (fun p=>TControl.mk p.1 p.2.1 p.2.2.1) (fun _=>rfl) (fun x h=>⟨h.1,⟨h.2.1,h.2.2.1⟩⟩)
theorem ZxB:JX UbX 22 (fun l:List TControl=>[Tr.sl (l.map ZE)]) (fun l=>l.length<=9223372036854775807/\∀ x∈l,(fun x=>J2 9223372036854775807 x/\Zg2 x) x):=U1 (k:=2) Proofs.Tryz.underlying22 (by kernel_rfl) (fun _=>rfl) ZxA
theorem ZjS:JX UbX 24 (fun l:List Int=>[Tr.sl (l.map (fun n:Int=>[tv n]))]) (fun l=>l.length<=9223372036854775807/\∀ x∈l,(Z2 .i64) x):=U1 (k:=0) Proofs.Tryz.underlying24 (by kernel_rfl) (fun _=>rfl) XQ
theorem ZxC:JX UbX 74 ZB (fun x=>VN 9223372036854775807 x/\ZcX x):=ZaI (ZaH Proofs.Tryz.underlying74 (show XE UbX 0 [(0,3),(1,3),(2,24)] _ _ from (Vd (k:=1) (by kernel_rfl) (fun _=>rfl) XQ (Vd (k:=1) (by kernel_rfl) (fun _=>rfl) XQ (Vd (k:=1) (by kernel_rfl) (fun _=>rfl) ZjS ZaG))))) (fun p=>TNode.mk p.1 p.2.1 p.2.2.1) (fun _=>rfl) (fun x h=>⟨h.2.2.1.1,⟨h.1,h.2.1,(fun y hy=>(h.2.2.1.2 y hy))⟩⟩)
theorem ZxD:JX UbX 23 (fun l:List TNode=>[Tr.sl (l.map ZB)]) (fun l=>l.length<=9223372036854775807/\∀ x∈l,(fun x=>VN 9223372036854775807 x/\ZcX x) x):=U1 (k:=2) Proofs.Tryz.underlying23 (by kernel_rfl) (fun _=>rfl) ZxC
theorem ZxE:JX UbX 25 (fun l:List ByteArray=>[Tr.sl (l.map (fun n:ByteArray=>[ts n]))]) (fun l=>l.length<=9223372036854775807/\∀ x∈l,(fun n=>n.size<=9223372036854775807) x):=U1 (k:=0) Proofs.Tryz.underlying25 (by kernel_rfl) (fun _=>rfl) Zet
theorem ZxF:JX UbX 77 ZU (fun x=>Vt 9223372036854775807 x/\ZcY x):=ZaI (ZaH Proofs.Tryz.underlying77 (show XE UbX 0 [(0,9),(1,3)] _ _ from (Vd (k:=1) (by kernel_rfl) (fun _=>rfl) Zet (Vd (k:=1) (by kernel_rfl) (fun _=>rfl) XQ ZaG)))) (fun p=>TWire.mk p.1 p.2.1) (fun _=>rfl) (fun x h=>⟨h.1,h.2.1⟩)
theorem ZxG:JX UbX 26 (fun l:List TWire=>[Tr.sl (l.map ZU)]) (fun l=>l.length<=9223372036854775807/\∀ x∈l,(fun x=>Vt 9223372036854775807 x/\ZcY x) x):=U1 (k:=1) Proofs.Tryz.underlying26 (by kernel_rfl) (fun _=>rfl) ZxF
theorem ZxH:JX UbX 28 Zl (fun x=>Vf 9223372036854775807 x/\Dd x):=ZaI (ZaH Proofs.Tryz.underlying28 (show XE UbX 0 [(0,3),(1,23),(2,24),(3,3),(4,25),(5,26)] _ _ from (Vd (k:=1) (by kernel_rfl) (fun _=>rfl) XQ (Vd (k:=1) (by kernel_rfl) (fun _=>rfl) ZxD (Vd (k:=1) (by kernel_rfl) (fun _=>rfl) ZjS (Vd (k:=1) (by kernel_rfl) (fun _=>rfl) XQ (Vd (k:=1) (by kernel_rfl) (fun _=>rfl) ZxE (Vd (k:=1) (by kernel_rfl) (fun _=>rfl) ZxG ZaG)))))))) (fun p=>TBigraph.mk p.1 p.2.1 p.2.2.1 p.2.2.2.1 p.2.2.2.2.1 p.2.2.2.2.2.1) (fun _=>rfl) (fun x h=>⟨⟨h.2.1.1,(fun y hy=>(h.2.1.2 y hy).1),h.2.2.1.1,h.2.2.2.2.1.1,(fun y hy=>(h.2.2.2.2.1.2 y hy)),h.2.2.2.2.2.1.1,(fun y hy=>(h.2.2.2.2.2.1.2 y hy).1)⟩,⟨h.1,(fun y hy=>(h.2.1.2 y hy).2),(fun y hy=>(h.2.2.1.2 y hy)),h.2.2.2.1,(fun y hy=>(h.2.2.2.2.2.1.2 y hy).2)⟩⟩)
end Go.Fd
