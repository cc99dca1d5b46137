/-
  TRANSLATIONS, THE PROGRAM: ALL THAT BEGIN WITH SOME. Own work.
-/
import Derived.Test.YtkhjhkepdjkiaaaGreatDoorT06
import Derived.KernelRfl
import Derived.Test.YtkhjhkepdjkiaaaGreatDoorProg
set_option linter.all false
namespace Go.Fd
set_option maxRecDepth 20000
section
variable {C:Zo} {lvl:Nat} {env:List (Nat×IV)} {loc:List (Nat×Ob)} {out:Sto} {st:St} {Q:Ex->St->Prop} {d:Option Nat} {K:St->Prop}
def Zuy(ce:List (Nat×IV))(co:List (Nat×Ob))(o:Sto)(s:St):St:=⟨s.lvl,pts ce s.env,Zo3 co s.loc,o⟩
theorem Zpn{ce:List (Nat×IV)}{co:List (Nat×Ob)}{o:Sto}:Zuy ce co o ⟨lvl,env,loc,out⟩=⟨lvl,pts ce env,Zo3 co loc,o⟩:=(rfl)
theorem Zra{α:Type}{ks js:List Nat}{c:C2}(N:Nat)(ce:Nat->α->List (Nat×IV))(co:Nat->α->List (Nat×Ob))(oo:Nat->α->Sto)(A:Nat->α->Prop)(x0:α)
  (h1:clean ks js st) (h0:fgt ks js st=Zuy (ce 0 x0) (co 0 x0) (oo 0 x0) (fgt ks js st)) (hA:A 0 x0)
  (hs:∀ k x,k<=N->A k x->wp C c (Zuy (ce k x) (co k x) (oo k x) (fgt ks js st)) (ZbI ks js (ZuO N (fun k x=>Zuy (ce k x) (co k x) (oo k x) (fgt ks js st)) A (N-k)) Q)):wp C (.lp ks js c) st Q :=
 ZP N (fun k x=>Zuy (ce k x) (co k x) (oo k x) (fgt ks js st)) A x0 ⟨h1,h0⟩ hA hs
theorem ZmU{β:Type}{L0:Nat}{D:β->List (Nat×Ob)}{acc:β}{base:Sto}{fid:FuncId}{imp:Bool}{args:List IV}(acc':β)(r:IV)(hne:L0≠lvl)
  (h:∀ B,C fid (lvl+1) args (Zy L0 (D acc) B) r (Zy L0 (D acc') B))
  (hk:freshK (keyOf d) loc (impv imp lvl (keyOf d) 0 r).2.length/\K ⟨lvl,ptd d (impv imp lvl (keyOf d) 0 r).1 env,addO (keyOf d) (impv imp lvl (keyOf d) 0 r).2 loc,Zy L0 (D acc') base⟩) :
  kcy C fid imp lvl env loc (Zy L0 (D acc) base) d K args :=
 YK loc (Zy L0 (D acc') base) (fun i hi=>by rw[ZeP (fun e=>hne (by omega)),ZeP (fun e=>hne (by omega))]) (by
  rw[ZfO (fun e=>hne e.symm),ZfO (fun e=>hne e.symm)]
  exact h _) hk
end
theorem ZmV(l:List Int)(hl:l.length<=4294967296)(lvl:Nat)(S:Sto):Sem Proofs.Tryz.prog YC lvl [tI l] S (.cs (rI l)) S:=by
 refine Zc Zaj trivial ?_
 have c1:cut (rI l) 0 (l.length-0)=rI l:=by rw[Nat.sub_zero];exact WR (by simp)
 simp only[XA,List.length_map,EVA,seval]
 exact⟨fun h=>h.elim,by omega,by rw[c1]⟩
noncomputable def fT(a b:TBigraph)(r:Nat)(ns:List Int)(m:Int):List (List Int):=@ite _ (ZcZ a b ns m) (Classical.propDecidable _) (Zbm a b r (ns++[m])) []
theorem ZmW{a b:TBigraph}{r:Nat}{ns:List Int}:Zbm a b (r+1) ns=jnL (fT a b r ns) b.nodes.length:=by
 rw[Zbm]
 rfl
theorem ZyJ{a b:TBigraph}{r:Nat}{ns:List Int}{m:Int}(h:¬ ZcZ a b ns m):fT a b r ns m=[]:=if_neg h
theorem Zuz{a b:TBigraph}{r:Nat}{ns:List Int}{m:Int}(h:ZcZ a b ns m):fT a b r ns m=Zbm a b r (ns++[m]):=if_pos h
theorem Zrb{β:Type}{m:Bool}{x:List β}:(tkB m x).length<=x.length:=by
 cases m
 ·show (x.take 1).length<=_
  rw[List.length_take];omega
 ·exact Nat.le_refl _
set_option maxHeartbeats 1000000 in
theorem XV(sig:List TControl)(a b:TBigraph)(hA:bigOK sig a)(hB:bigOK sig b)(more:Bool)(yid:FuncId)(L0 kb:Nat)(D:List (List Int)->List (Nat×Ob))
  (hy:∀(base:Sto) (acc:List (List Int)) (x:List Int) (lvl:Nat),L0<lvl->x.length=a.nodes.length->acc.length<=100000->(more=false->acc=[])->Sem Proofs.Tryz.prog yid lvl [tI x,.ab (L0,kb) 0] (Zy L0 (D acc) base) (iB more) (Zy L0 (D (acc++[x])) base)) :
  ∀(r:Nat) (ns:List Int) (acc:List (List Int)) (base:Sto) (lvl:Nat),ns.length+r=a.nodes.length->L0<lvl->(more=false->acc=[])->acc.length+(Zbm a b r ns).length<=100000 ->
   Sem Proofs.Tryz.prog JJ lvl [cB a,cB b,tI ns,.fn yid [.ab (L0,kb) 0]] (Zy L0 (D acc) base) (iB (more || (Zbm a b r ns).isEmpty)) (Zy L0 (D (acc++tkB more (Zbm a b r ns))) base)
 | 0,ns,acc,base,lvl,hr,hL,hm,hlen=>by
  have nA:=hA.small.nodes
  have hk:ns.length=a.nodes.length:=by omega
  have hne:L0≠lvl:=by omega
  have q:=Zjs sig a b ns hA hB (by omega)
  simp only[cB,Za,List.map_cons,List.map_nil] at q
  refine Zc WL trivial ?_
  rw[Zbm] at hlen ⊢
  simp only[Qb,Za,hk,List.length_map,EVA,seval,Zd,men]
  refine Zb q ?_
  by_cases hs:(trT a b ns).isSome=true
  ·rw[if_pos hs] at hlen ⊢
   rw[hs]
   simp only[EVA,seval]
   refine ZmU (acc++[ns]) (iB more) hne (fun B=>hy B acc ns (lvl+1) (by omega) hk (by simp at hlen;omega) hm) ?_
   have e1:(more || [ns].isEmpty)=more:=by cases more <;> rfl
   have e2:tkB more [ns]=[ns]:=by cases more <;> rfl
   rw[e1,e2]
   simp only[EVA,seval]
   try rfl
  ·have hs2:(trT a b ns).isSome=false:=by simpa using hs
   rw[if_neg hs,hs2,Zg4,List.append_nil]
   have e1:(more || ([]:List (List Int)).isEmpty)=true:=by cases more <;> rfl
   rw[e1]
   simp only[EVA,seval]
   try rfl
 | r+1,ns,acc,base,lvl,hr,hL,hm,hlen=>by
  have nA:=hA.small.nodes
  have nB:=hB.small.nodes
  have hk:ns.length<a.nodes.length:=by omega
  have hne:L0≠lvl:=by omega
  have hkn:((ns.length:Int)=a.nodes.length)=False:=eq_false (by omega)
  have hfi0:(False->kb∈([]:List Nat))=True:=eq_true fun h=>h.elim
  obtain⟨f,hf⟩:∃ f,f=fT a b r ns:=⟨_,rfl⟩
  have hX:Zbm a b (r+1) ns=jnL f b.nodes.length:=by rw[hf];exact ZmW
  rw[hX] at hlen ⊢
  have ga:=Wh (c:=ZG) hk
  have hpar:=ZeQ hA hk
  rw[Jm hk] at hpar
  obtain⟨P,hP⟩:∃ P,P=mvP ns a.nodes[ns.length].parent:=⟨_,rfl⟩
  refine Zc WL trivial ?_
  simp only[Qb,Za,hkn,ga,ZG,List.length_map,EVA,seval]
  refine Zn (fun hp0=>?_) (fun hp0=>?_)
  case' refine_1 =>
   obtain⟨p,hp⟩:=Int.eq_ofNat_of_zero_le hp0
   have hpl:p<ns.length:=by omega
   have gp:=Jv hpl
   have hPp:g0 ns p=P:=by
    rw[hP,hp]
    unfold mvP
    rw[if_neg (by omega),Int.toNat_natCast]
   rw[hp]
   simp only[gp,hPp,Int.toNat_natCast,EVA,seval]
  case' refine_2 =>
   have hPp:a.nodes[ns.length].parent=P:=by
    rw[hP]
    unfold mvP
    rw[if_pos (by omega)]
   rw[hPp]
  all_goals
   refine Zra (α:=Unit) b.nodes.length (fun j _=>[(48,iI j)]) (fun _ _=>[]) (fun j _=>Zy L0 (D (acc++tkB more (jnL f j))) base) (fun j _=>more=false->jnL f j=[]) () (by simp only[hne,hfi0,EVA,seval,men]) (by (simp only[Zpn,Zku,Zg4,List.append_nil,EVA,seval]) <;> rfl) (fun _=>rfl) ?_
   intro j _ hj hA2
   simp only[Zpn,EVA,seval]
   refine Zn (fun hlt=>?_) (fun hge=>?_)
   ·have hja:j<b.nodes.length:=by omega
    have gb:=Wh (c:=ZG) hja
    have hskip:¬ ZcZ a b ns j->jnL f (j+1)=jnL f j:=fun h=>Zjr (by rw[hf];exact ZyJ h)
    have hfi:ZcZ a b ns j↔(j:Int) ∉ ns/\a.nodes[ns.length].control=b.nodes[j].control/\P=b.nodes[j].parent:=by
     unfold ZcZ
     rw[Int.toNat_natCast,Jm hk,Jm hja,hP]
    by_cases hc:b.nodes[j].control=a.nodes[ns.length].control
    rotate_left
    ·have e:=eq_false hc
     have hn:=hskip fun h=>hc (hfi.1 h).2.1.symm
     simp only[gb,ga,ZG,e,hne,hfi0,EVA,seval,men]
     exact⟨by rw[Ze];omega,Zf () hja (by rw[hn];rfl) (fun h=>by rw[hn];exact hA2 h)⟩
    have ec:=eq_true hc
    by_cases hq:b.nodes[j].parent=P
    rotate_left
    ·have e:=eq_false hq
     have hn:=hskip fun h=>hq (hfi.1 h).2.2.symm
     simp only[gb,ga,ZG,ec,e,hne,hfi0,EVA,seval,men]
     exact⟨by rw[Ze];omega,Zf () hja (by rw[hn];rfl) (fun h=>by rw[hn];exact hA2 h)⟩
    have eq:=eq_true hq
    simp only[gb,ga,ZG,ec,eq,EVA,seval,Zd,men]
    refine Zb (Zan ns j (by omega)) ?_
    by_cases hmem:(j:Int)∈ns
    ·have hn:=hskip fun h=>(hfi.1 h).1 hmem
     simp only[hmem,decide_true,hne,hfi0,EVA,seval,men]
     exact⟨by rw[Ze];omega,Zf () hja (by rw[hn];rfl) (fun h=>by rw[hn];exact hA2 h)⟩
    have hfit:=hfi.2 ⟨hmem,hc.symm,hq.symm⟩
    have hfj:f j=Zbm a b r (ns++[(j:Int)]):=by rw[hf];exact Zuz hfit
    obtain⟨X,hXj⟩:=Zg3 (f:=f) (show j+1<=b.nodes.length by omega)
    have hsz:(jnL f j).length+(f j).length<=(jnL f b.nodes.length).length:=by
     rw[hXj,Ug,List.length_append,List.length_append];omega
    have htk:=Zrb (m:=more) (x:=jnL f j)
    have ih:=fun B=>XV sig a b hA hB more yid L0 kb D hy r (ns++[(j:Int)]) (acc++tkB more (jnL f j)) B (lvl+1) (by rw[List.length_append,List.length_singleton];omega) (by omega) (fun h=>by rw[hm h,hA2 h,Zg4];rfl) (by rw[<-hfj,List.length_append];omega)
    rw[<-hfj] at ih
    simp only[cB,Za,List.map_cons,List.map_nil] at ih
    have ea:rI ns++[[tv (j:Int)]]=rI (ns++[(j:Int)]):=by rw[Zdp];rfl
    have hacc:acc++tkB more (jnL f j)++tkB more (f j)=acc++tkB more (jnL f (j+1)):=by rw[Ug,Zq3 hA2,List.append_assoc]
    rw[hacc] at ih
    simp only[hmem,decide_false,EVA,seval,Zd,men]
    refine Zb (ZmV ns (by omega)) ?_
    simp only[Zof,ea,List.length_map,EVA,seval]
    refine⟨by omega,ZmU (acc++tkB more (jnL f (j+1))) (iB (more || (f j).isEmpty)) hne (fun B=>ih B) ?_⟩
    cases hb:more || (f j).isEmpty
    ·have hmf:more=false:=by
      cases hm2:more
      ·rfl
      ·rw[hm2] at hb;simp at hb
     have hne2:f j≠[]:=fun h=>by rw[h] at hb;simp at hb
     obtain⟨t1,t2⟩:=Zon hja (hA2 hmf) hne2
     have t3:jnL f (j+1)=f j:=by rw[Ug,hA2 hmf,List.nil_append]
     rw[hmf,t1,t2,t3]
     simp only[Bool.or_false,EVA,seval]
     try rfl
    ·simp only[hne,hfi0,EVA,seval,men]
     exact⟨by rw[Ze];omega,Zf () hja rfl (fun h=>by
      rw[Ug,hA2 h,List.nil_append]
      rw[h] at hb
      simpa using hb)⟩
   ·have hjn:j=b.nodes.length:=by omega
    subst hjn
    have e:(more || (jnL f b.nodes.length).isEmpty)=true:=by
     cases hmm:more
     ·rw[hA2 hmm];rfl
     ·rfl
    rw[e]
    first | rfl | exact⟨rfl,rfl⟩
end Go.Fd

/-
  TRANSLATIONS, THE PROGRAM: THE FIRST ONE. Own work.
-/
namespace Go.Fd
set_option maxRecDepth 20000
theorem Zrc:∀ n,n<=8->Zus n<=40320:=by decide
def Zoy(L0 kb:Nat)(acc:List (List Int)):List (Nat×Ob):=match acc with
 | []=>[(kb,.bx [.cs []])]
 | x::_=>[(kb,.bx [.hd (L0,kb+1) [] 0 x.length none x.length]),(kb+1,.ar 1 (rI x) true x.length 0)]
theorem Zoz{L0:Nat}{base:Sto}{o o1 o2:Ob}:ZK (ZK (Zy L0 [(192,o)] base) (L0,193) o2) (L0,192) o1=Zy L0 [(192,o1),(193,o2)] base:=by
 rw[<-VN,<-VN]
 simp [ptO]
theorem Zrd{L0:Nat}{base:Sto}{o:Ob}:Zy L0 [(192,o)] base (L0,192)=some o:=by
 rw[Zd5]
 simp [lkO]
theorem Zre{L0:Nat}{base:Sto}{o:Ob}:Zy L0 [(192,o)] base (L0,193)=none:=by
 rw[Zd5]
 simp [lkO]
theorem DR(L0:Nat)(base:Sto)(x:List Int)(lvl:Nat)(hL:L0<lvl)(hx:x.length<=100):Sem Proofs.Tryz.prog Jr lvl [tI x,.ab (L0,192) 0] (Zy L0 (Zoy L0 192 []) base) (iB false) (Zy L0 (Zoy L0 192 [x]) base):=by
 have hne:L0≠lvl:=by omega
 have ho:((L0,192):Oid).1≠lvl:=hne
 have ho3:((L0,193):Oid).1≠lvl:=hne
 have hS:Zy L0 (Zoy L0 192 []) base (L0,192)=some (.bx [.cs []]):=Zrd
 have hN:Zy L0 (Zoy L0 192 []) base (L0,193)=none:=Zre
 have hG:∀ o1 o2,ZK (ZK (Zy L0 (Zoy L0 192 []) base) (L0,193) o2) (L0,192) o1=Zy L0 [(192,o1),(193,o2)] base:=fun _ _=>Zoz
 refine Zc Uq trivial ?_
 simp only[VU,EVA,seval,Zd,men]
 refine Zb (WS x (by omega)) ?_
 simp only[ZD ho,ZD ho3,hS,hN,hL,JE ho,JE ho3,hG,List.length_map,List.length_cons,List.length_nil,EVA,seval]
 try rfl
theorem Zcl{a b:TBigraph}(h:a.nodes.length=b.nodes.length)(h8:a.nodes.length<=8):(Uh a b).length<=40320 :=
 Nat.le_trans (ZmE (by simp;omega) List.nodup_nil (fun x hx=>by simp at hx)) (Zrc _ h8)
theorem X3(sig:List TControl)(a b:TBigraph)(hA:bigOK sig a)(hB:bigOK sig b)(lvl:Nat)(S:Sto):Sem Proofs.Tryz.prog JF lvl [cB a,cB b] S (.tu [.ow 1 (rI ((Uh a b).headD [])) true,iB (!(Uh a b).isEmpty)]) S:=by
 have nA:=hA.small.nodes
 refine Zc Dd (by simp [low,men,Zd]) ?_
 by_cases hn:a.nodes.length=b.nodes.length
 rotate_left
 ·have e:((a.nodes.length:Int)=b.nodes.length)=False:=eq_false (by omega)
  rw[show Uh a b=[] from Zc6 fun h=>hn h.2.2.1]
  simp only[YE,Za,e,List.length_map,List.headD_nil,List.isEmpty_nil,EVA,seval]
  try rfl
 have e:((a.nodes.length:Int)=b.nodes.length)=True:=eq_true (by omega)
 have q:=XV sig a b hA hB false Jr lvl 192 (Zoy lvl 192) (fun base acc x l h1 h2 _ h3=>by
  rw[h3 rfl]
  exact DR lvl base x l h1 (by omega)) a.nodes.length [] [] S (lvl+1) (by simp) (Nat.lt_succ_self _) (fun _=>rfl) (by have:=Zcl hn nA;unfold Uh at this;simp;omega)
 rw[show Zbm a b a.nodes.length []=Uh a b from rfl,List.nil_append] at q
 simp only[cB,Za,List.map_cons,List.map_nil] at q
 simp only[YE,Za,e,List.length_map,EVA,seval]
 refine YK (Zoy lvl 192 (tkB false (Uh a b))) S (fun _ _=>rfl) q ?_
 cases h:Uh a b with
 | nil =>
  rw[Zg4]
  simp only[Zoy,List.isEmpty_nil,List.headD_nil,Bool.or_true,EVA,seval]
  try rfl
 | cons x r =>
  have e1:tkB false (x::r)=[x]:=rfl
  have e2:Zoy lvl 192 [x]=[(192,.bx [.hd (lvl,193) [] 0 x.length none x.length]),(193,.ar 1 (rI x) true x.length 0)]:=rfl
  rw[e1,e2]
  simp only[List.isEmpty_cons,List.headD_cons,Bool.or_false,List.length_map,EVA,seval]
  try rfl
theorem Zc7(sig:List TControl)(a b:TBigraph)(hA:bigOK sig a)(hB:bigOK sig b)(lvl:Nat)(S:Sto):Sem Proofs.Tryz.prog YV lvl [cB a,cB b] S (iB (!(Uh a b).isEmpty)) S:=by
 have q:=X3 sig a b hA hB
 simp only[cB,Za,List.map_cons,List.map_nil] at q
 refine Zc ZaS trivial ?_
 simp only[X0,Za,EVA,seval,Zd,men]
 refine Zb q ?_
 simp only[List.length_map,EVA,seval]
 try rfl
theorem ZfT(sig:List TControl)(a b:TBigraph)(hn:sig.length<=4294967296)(hbs:∀ y∈sig,ZC 4294967296 y)(hba:Zw 4294967296 a)(hbb:Zw 4294967296 b)(fa:ZR a)(fb:ZR b)(lvl:Nat)(S:Sto):Sem Proofs.Tryz.prog QJ lvl [.tr (.sl (sig.map Zj)),cB a,cB b] S (iB (dc (bigOK sig a/\bigOK sig b))) S:=by
 have q1:=Yc sig a hn hbs hba
 have q2:=Yc sig b hn hbs hbb
 simp only[Za,List.map_cons,List.map_nil] at q1 q2
 refine Zc Zgz trivial ?_
 simp only[ZbP,Za,EVA,seval,Zd,men]
 refine Zb q1 ?_
 by_cases h1:bigOK sig a
 rotate_left
 ·rw[Zk h1,Zk fun h:bigOK sig a/\bigOK sig b=>h1 h.1]
  simp only[EVA,seval]
  try rfl
 rw[Z5 h1]
 simp only[EVA,seval,Zd,men]
 refine Zb q2 ?_
 rw[Yi (show bigOK sig a/\bigOK sig b↔bigOK sig b from ⟨fun h=>h.2,fun h=>⟨h1,h⟩⟩)]
 simp only[EVA,seval]
 try rfl
end Go.Fd

/-
  SYMMETRIES: BOTH SIDES. Own work.
-/
namespace Go.Fd
set_option maxRecDepth 20000
theorem ZeS(b:TBigraph):Qi b b:=⟨rfl,rfl,rfl,rfl,rfl,rfl⟩
theorem ZeT(sig:List TControl)(b:TBigraph)(most:Nat)(hB:bigOK sig b)(h1:1<=most)(h2:most<=100000)(lvl:Nat)(S:Sto):Sem Proofs.Tryz.prog VO lvl [cB b,iI most] S (.ow 1 (rT ((Uh b b).take most)) true) S:=by
 have he:=hB.edges
 have qn:=ZfP b.edges.toNat (by omega)
 rw[show ((b.edges.toNat:Nat):Int)=b.edges by omega] at qn
 have q:=fun lvl S=>Zc5 sig b b hB hB (ZeS b) b.nodes.length [] (List.replicate b.edges.toNat (-1)) most lvl S (by simp) Zg7 h1 h2
 rw[Zkx (ZeS b)] at q
 simp only[cB,Za,List.map_cons,List.map_nil] at q
 refine Zc Zh0 trivial ?_
 simp only[Zdh,Za,EVA,seval,Zd,men]
 refine Zb qn ?_
 simp only[List.length_map,Zg7,EVA,seval,Zd,men]
 refine Zb q ?_
 simp only[List.length_map,EVA,seval,Zd,men]
 try rfl
def Zky(L0:Nat)(acc:List (List Int)):List (Nat×Ob):=[(96,.bx [.hd (L0,128) [] 0 acc.length none acc.length]),(128,.ar 1 (rT acc) true acc.length 0)]
theorem Zrf{L0:Nat}{acc:List (List Int)}{base:Sto}:Zy L0 (Zky L0 acc) base (L0,96)=some (.bx [.hd (L0,128) [] 0 acc.length none acc.length]):=by
 rw[Zd5]
 simp [Zky,lkO]
theorem ZoA{L0:Nat}{acc:List (List Int)}{base:Sto}:Zy L0 (Zky L0 acc) base (L0,128)=some (.ar 1 (rT acc) true acc.length 0):=by
 rw[Zd5]
 simp [Zky,lkO]
theorem ZoB{L0:Nat}{acc:List (List Int)}{base:Sto}{o1 o2:Ob}:ZK (ZK (Zy L0 (Zky L0 acc) base) (L0,128) o2) (L0,96) o1=Zy L0 [(96,o1),(128,o2)] base:=by
 rw[<-VN,<-VN]
 simp [Zky,ptO]
theorem Zrg{lvl:Nat}{env:List (Nat×IV)}{loc loc0:List (Nat×Ob)}{out:Sto}{d:Option Nat}{K:St->Prop}{id:Oid}{k len s ver:Nat}{es items:Row}{u ui:Bool}(h:id.1≠lvl)(hS:out id=some (.ar k es u s ver))
  (hk:UnR k items/\len=es.length/\len+items.length<=bigN/\K ⟨lvl,ptd d (.hd id [] 0 (len+items.length) none (max s (len+items.length))) env,loc,ZK out id (.ar k (es++items) (u&&ui) (max s (len+items.length)) ver)⟩):apx (.hd id [] 0 len none s) d k loc0 items ui ⟨lvl,env,loc,out⟩ K:=by
 have e:(⟨lvl,env,loc,out⟩:St).sto id=some (.ar k es u s ver):=by
  show Zy lvl loc out id=_
  rw[ZeP h];exact hS
 simp only[apx,e,JE h,true_and]
 exact hk
theorem ZuA{x y:List (List Int)}:rT (x++y)=rT x++rT y:=List.map_append
theorem ZdD(L0:Nat)(base:Sto)(acc:List (List Int))(x:List Int)(lvl:Nat)(hL:L0<lvl)(hx:x.length<=100)(hacc:acc.length<=100000):Sem Proofs.Tryz.prog J9 lvl [tI x,.ab (L0,96) 0] (Zy L0 (Zky L0 acc) base) (iB true) (Zy L0 (Zky L0 (acc++[x])) base):=by
 have hne:L0≠lvl:=by omega
 have h1:((L0,96):Oid).1≠lvl:=hne
 have h2:((L0,128):Oid).1≠lvl:=hne
 have e:Zky L0 (acc++[x])=[(96,.bx [.hd (L0,128) [] 0 (acc.length+1) none (acc.length+1)]),(128,.ar 1 (rT acc++[[Tr.sl (rI x)]]) true (acc.length+1) 0)]:=by
  unfold Zky
  rw[List.length_append,List.length_singleton,ZuA]
  rfl
 rw[e]
 have g1:=Zrf (L0:=L0) (acc:=acc) (base:=base)
 have g2:=ZoA (L0:=L0) (acc:=acc) (base:=base)
 have hmx:max acc.length (acc.length+1)=acc.length+1:=by omega
 refine Zc Zbh trivial ?_
 simp only[WM,ZD h1,ZD h2,g1,g2,EVA,seval,Zd,men]
 refine Zb (WS x (by omega)) ?_
 simp only[List.length_map,ZD h1,ZD h2,g1,g2,EVA,seval,Zd,men]
 refine Zrg h2 g2 ⟨ZcK (fun l:List Int=>[Tr.sl (rI l)]) (fun _=>rfl) [x],by rw[List.length_map],by show acc.length+1<=4294967296;omega,?_⟩
 have g3:ZK (Zy L0 (Zky L0 acc) base) (L0,128) (.ar 1 (rT acc++[[Tr.sl (rI x)]]) true (acc.length+1) 0) (L0,96)=some (.bx [.hd (L0,128) [] 0 acc.length none acc.length]):=by
  unfold ZK
  rw[if_neg (by simp)]
  exact g1
 have hlow:L0<L0+1:=Nat.lt_succ_self _
 simp only[ZD h1,ZD h2,List.length_cons,List.length_nil,hmx,Bool.and_self,g3,JE h1,ZoB,Uy,hlow,EVA,seval,Zd,men]
 try rfl
theorem Uw(sig:List TControl)(b:TBigraph)(hB:bigOK sig b)(lvl:Nat)(S:Sto):Sem Proofs.Tryz.prog J1 lvl [cB b] S (.ow 1 (rT (Uh b b)) true) S:=by
 have nB:=hB.nodesL
 have q:=XV sig b b hB hB true J9 lvl 96 (Zky lvl) (fun base acc x l h1 h2 h3 _=>ZdD lvl base acc x l h1 (by omega) h3) b.nodes.length [] [] S (lvl+1) (by simp) (Nat.lt_succ_self _) (fun h=>by cases h) (by have:=Zcl (a:=b) (b:=b) rfl nB;unfold Uh at this;simp;omega)
 rw[show Zbm b b b.nodes.length []=Uh b b from rfl,List.nil_append,show tkB true (Uh b b)=Uh b b from rfl] at q
 simp only[cB,Za,List.map_cons,List.map_nil] at q
 refine Zc ZcN trivial ?_
 simp only[UM,Za,EVA,seval,Zd,men]
 refine YK (Zky lvl (Uh b b)) S (fun _ _=>rfl) q ?_
 unfold Zky
 simp only[List.length_map,EVA,seval,Zd,men]
 try rfl
end Go.Fd

/-
  CountSymmetries, OrbitsOf: BOTH SIDES. Own work.
-/
namespace Go.Fd
set_option maxRecDepth 20000
open Classical in
noncomputable def Y4(sig:List TControl)(b:TBigraph):Int:=if bigOK sig b then ((Uh b b).length:Nat) else 0
noncomputable def Y5(sig:List TControl)(b:TBigraph):Bool:=dc (bigOK sig b)
theorem ZiC{sig:List TControl}{b:TBigraph}(h:bigOK sig b):(Uh b b).take 50000=Uh b b:=List.take_of_length_le (by have:=Zcl (a:=b) (b:=b) rfl h.nodesL;omega)
theorem UT(sig:List TControl)(b:TBigraph)(hn:sig.length<=4294967296)(hbs:∀ y∈sig,ZC 4294967296 y)(hbb:Zw 4294967296 b)(fb:ZR b)(lvl:Nat)(S:Sto):Sem Proofs.Tryz.prog Ym lvl [.tr (.sl (sig.map Zj)),.ag ((Za b).map .tr)] S (.tu [iI (Y4 sig b),iB (Y5 sig b)]) S:=by
 have q:=US sig b hn hbs hbb fb
 simp only[Za,List.map_cons,List.map_nil] at q
 unfold Y4 Y5
 refine Zc DK (by simp [low,men,Zd]) ?_
 simp only[Xa,Za,EVA,seval,Zd,men]
 refine Zb q ?_
 by_cases h:bigOK sig b
 rotate_left
 ·rw[Zk h,if_neg h]
  simp only[EVA,seval,Zd,men]
  try rfl
 rw[Z5 h,if_pos h]
 have q2:=ZeT sig b 50000 h (by omega) (by omega)
 rw[ZiC h] at q2
 simp only[cB,Za,List.map_cons,List.map_nil] at q2
 simp only[EVA,seval,Zd,men]
 refine Zb q2 ?_
 simp only[List.length_map,EVA,seval,Zd,men]
 try rfl
theorem UU(sig:List TControl)(b:TBigraph)(hn:sig.length<=4294967296)(hbs:∀ y∈sig,ZC 4294967296 y)(hbb:Zw 4294967296 b)(_fb:ZR b)(lvl:Nat)(S:Sto):Sem Proofs.Tryz.prog Yn lvl [.tr (.sl (sig.map Zj)),.ag ((Za b).map .tr)] S (.tu [iI (Y4 sig b),iB (Y5 sig b)]) S:=by
 have q:=Yc sig b hn hbs hbb
 simp only[Za,List.map_cons,List.map_nil] at q
 unfold Y4 Y5
 refine Zc DL (by simp [low,men,Zd]) ?_
 simp only[Xb,Za,EVA,seval,Zd,men]
 refine Zb q ?_
 by_cases h:bigOK sig b
 rotate_left
 ·rw[Zk h,if_neg h]
  simp only[EVA,seval,Zd,men]
  try rfl
 rw[Z5 h,if_pos h]
 have q2:=Uw sig b h
 simp only[cB,Za,List.map_cons,List.map_nil] at q2
 simp only[EVA,seval,Zd,men]
 refine Zb q2 ?_
 simp only[List.length_map,EVA,seval,Zd,men]
 try rfl
def orb(L:List (List Int))(i:Nat):Int:=L.foldl (fun m l=>min m (g0 l i)) (i:Int)
theorem Zkz{L:List (List Int)}{i j:Nat}(h:j<L.length):orb (L.take (j+1)) i=min (orb (L.take j) i) (g0 L[j] i):=by
 unfold orb
 rw[List.take_succ_eq_append_getElem h,List.foldl_append]
 rfl
def Zbn(n:Nat)(F:Nat->Int):List Int:=(List.range n).map F
theorem Wc{n:Nat}{F:Nat->Int}:(Zbn n F).length=n:=by simp [Zbn]
theorem ZiD{n:Nat}{F:Nat->Int}:Zbn (n+1) F=Zbn n F++[F n]:=by simp [Zbn,List.range_succ]
theorem ZoC{n k:Nat}{F:Nat->Int}(h:k<n):g0 (Zbn n F) k=F k:=by
 show (Zbn n F).getD k 0=_
 simp [Zbn,h]
theorem ZoD{n k:Nat}{F G:Nat->Int}(h:∀ i,i<n->G i=if i=k then G k else F i):(Zbn n F).set k (G k)=Zbn n G:=by
 refine List.ext_getElem (by simp [Zbn]) fun i h1 h2=>?_
 have hi:i<n:=by simpa [Zbn] using h2
 rw[List.getElem_set]
 have e1:(Zbn n G)[i]=G i:=by simp [Zbn]
 rw[e1,h i hi]
 by_cases e:i=k
 ·rw[if_pos e.symm,if_pos e]
 ·rw[if_neg (fun g=>e g.symm),if_neg e]
  simp [Zbn]
theorem ZfU{n:Nat}{F G:Nat->Int}(h:∀ i,i<n->F i=G i):Zbn n F=Zbn n G:=List.map_congr_left fun i hi=>h i (List.mem_range.1 hi)
open Classical in
noncomputable def ZU(sig:List TControl)(b:TBigraph):List Int:=if bigOK sig b then Zbn b.nodes.length (orb (Uh b b)) else []
noncomputable def Dk(sig:List TControl)(b:TBigraph):Bool:=dc (bigOK sig b)
theorem ZiE(a b:Int)(lvl:Nat)(S:Sto):Sem Proofs.Tryz.prog XO lvl [iI a,iI b] S (iI (min a b)) S:=by
 refine Zc Ze9 trivial ?_
 by_cases h:a<b
 ·rw[show min a b=a by omega]
  simp only[Uo,h,EVA,seval,Zd,men]
  try rfl
 ·rw[show min a b=b by omega]
  simp only[Uo,h,EVA,seval,Zd,men]
  try rfl
theorem ZmX{b:TBigraph}{L:List (List Int)}(hL:L=Uh b b){k:Nat}(hk:k<L.length):L[k].length=b.nodes.length :=
 (Zd4 (a:=b) (b:=b) (r:=b.nodes.length) (ns:=[]) (by simp) (by subst hL;exact List.getElem_mem hk)).1
theorem Zc8(sig:List TControl)(b:TBigraph)(hn:sig.length<=4294967296)(hbs:∀ y∈sig,ZC 4294967296 y)(hbb:Zw 4294967296 b)(fb:ZR b)(lvl:Nat)(S:Sto):Sem Proofs.Tryz.prog Xi lvl [.tr (.sl (sig.map Zj)),.ag ((Za b).map .tr)] S (.tu [.ow 1 (rI (ZU sig b)) true,iB (Dk sig b)]) S:=by
 have q:=US sig b hn hbs hbb fb
 simp only[Za,List.map_cons,List.map_nil] at q
 unfold ZU Dk
 refine Zc Zev (by simp [low,men,Zd]) ?_
 simp only[Zad,Za,EVA,seval,Zd,men]
 refine Zb q ?_
 by_cases h:bigOK sig b
 rotate_left
 ·rw[Zk h,if_neg h]
  simp only[EVA,seval,Zd,men]
  try rfl
 rw[Z5 h,if_pos h]
 have q2:=ZeT sig b 50000 h (by omega) (by omega)
 rw[ZiC h] at q2
 obtain⟨L,hL⟩:∃ L,L=Uh b b:=⟨_,rfl⟩
 have hLl:=Zcl (a:=b) (b:=b) rfl h.nodesL
 rw[<-hL] at q2 hLl ⊢
 simp only[cB,Za,List.map_cons,List.map_nil] at q2
 have nB:=h.nodesL
 simp only[EVA,seval,Zd,men]
 refine Zb q2 ?_
 simp only[List.length_map,EVA,seval,Zd,men]
 refine ZO (α:=Unit) b.nodes.length (fun j _=>[(6,.hd (lvl,352) [] 0 j none j),(8,iI j)]) (fun j _=>[(352,.ar 1 (rI (Zbn j (orb L))) true j 0)]) (fun _ _=>True) () (by simp only[EVA,seval,Zd,men]) (by (simp only[EVA,seval,Zd,men]) <;> rfl) trivial ?_
 intro j _ hj _
 simp only[List.length_map,EVA,seval,Zd,men]
 refine Zn (fun hlt=>?_) (fun hge=>?_)
 ·have hja:j<b.nodes.length:=by omega
  refine ZO (α:=Unit) L.length (fun k _=>[(9,iI (orb (L.take k) j)),(10,iI k)]) (fun _ _=>[]) (fun _ _=>True) () (by simp only[EVA,seval,Zd,men]) (by (simp only[List.take_zero,EVA,seval,Zd,men]) <;> rfl) trivial ?_
  intro k _ hk _
  simp only[List.length_map,EVA,seval,Zd,men]
  refine Zn (fun hlt2=>?_) (fun hge2=>?_)
  ·have hka:k<L.length:=by omega
   have ga:=Wh (c:=fun l:List Int=>[Tr.sl (rI l)]) hka
   have hkl:=ZmX hL hka
   have gi:=Jv (l:=L[k]) (i:=j) (by omega)
   simp only[ga,gi,hka,hja,hkl,List.length_map,EVA,seval,Zd,men]
   refine Zb (ZiE _ _) ?_
   simp only[EVA,seval,Zd,men]
   exact⟨by rw[Ze];omega,Zf () hka (by rw[Zkz hka];rfl) trivial⟩
  ·have hkn:k=L.length:=by omega
   subst hkn
   rw[List.take_length]
   exact⟨by rw[Wc],by omega,by rw[Ze];omega,Zf () hja (by rw[ZiD,Zdp];rfl) trivial⟩
 ·have:j=b.nodes.length:=by omega
  subst this
  simp only[Wc,List.length_map,EVA,seval,Zd,men]
  try rfl
theorem UV(sig:List TControl)(b:TBigraph)(hn:sig.length<=4294967296)(hbs:∀ y∈sig,ZC 4294967296 y)(hbb:Zw 4294967296 b)(_fb:ZR b)(lvl:Nat)(S:Sto):Sem Proofs.Tryz.prog Vm lvl [.tr (.sl (sig.map Zj)),.ag ((Za b).map .tr)] S (.tu [.ow 1 (rI (ZU sig b)) true,iB (Dk sig b)]) S:=by
 have q:=Yc sig b hn hbs hbb
 simp only[Za,List.map_cons,List.map_nil] at q
 unfold ZU Dk
 refine Zc Zew (by simp [low,men,Zd]) ?_
 simp only[Zae,Za,EVA,seval,Zd,men]
 refine Zb q ?_
 by_cases h:bigOK sig b
 rotate_left
 ·rw[Zk h,if_neg h]
  simp only[EVA,seval,Zd,men]
  try rfl
 rw[Z5 h,if_pos h]
 have q2:=Uw sig b h
 obtain⟨L,hL⟩:∃ L,L=Uh b b:=⟨_,rfl⟩
 have hLl:=Zcl (a:=b) (b:=b) rfl h.nodesL
 rw[<-hL] at q2 hLl ⊢
 simp only[cB,Za,List.map_cons,List.map_nil] at q2
 have nB:=h.nodesL
 simp only[List.length_map,EVA,seval,Zd,men]
 refine ZO (α:=Unit) b.nodes.length (fun j _=>[(6,.hd (lvl,512) [] 0 j none j),(20,iI j)]) (fun j _=>[(512,.ar 1 (rI (Zbn j (orb []))) true j 0)]) (fun _ _=>True) () (by simp only[EVA,seval,Zd,men]) (by (simp only[EVA,seval,Zd,men]) <;> rfl) trivial ?_
 intro j _ hj _
 simp only[List.length_map,Wc,EVA,seval,Zd,men]
 refine Zn (fun hlt=>?_) (fun hge=>?_)
 ·have hja:j<b.nodes.length:=by omega
  have l1:(rI (Zbn j (orb []))).length=j:=by rw[List.length_map,Wc]
  exact⟨by omega,by rw[Ze];omega,Zf () hja (by rw[ZiD,Zdp];rfl) trivial⟩
 have hj1:j=b.nodes.length:=by omega
 subst hj1
 obtain⟨n,hnn⟩:∃ n,n=b.nodes.length:=⟨_,rfl⟩
 rw[<-hnn] at nB ⊢
 refine Zb q2 ?_
 simp only[List.length_map,EVA,seval,Zd,men]
 refine ZO (α:=Unit) L.length (fun j _=>[(31,iI j)]) (fun j _=>[(512,.ar 1 (rI (Zbn n (orb (L.take j)))) true n 0)]) (fun _ _=>True) () (by simp only[EVA,seval,Zd,men]) (by (simp only[List.take_zero,EVA,seval,Zd,men]) <;> rfl) trivial ?_
 intro j _ hj _
 simp only[List.length_map,EVA,seval,Zd,men]
 refine Zn (fun hlt=>?_) (fun hge=>?_)
 ·have hja:j<L.length:=by omega
  have ga:=Wh (c:=fun l:List Int=>[Tr.sl (rI l)]) hja
  have hjl:=ZmX hL hja
  rw[<-hnn] at hjl
  obtain⟨G,hG⟩:∃ G:Nat->Nat->Int,G=fun k i=>if i<k then orb (L.take (j+1)) i else orb (L.take j) i:=⟨_,rfl⟩
  have hG0:Zbn n (orb (L.take j))=Zbn n (G 0):=ZfU fun i _=>by rw[hG];simp
  rw[hG0]
  simp only[ga,hja,hjl,List.length_map,EVA,seval,Zd,men]
  refine ZO (α:=Unit) n (fun k _=>[(37,iI k)]) (fun k _=>[(512,.ar 1 (rI (Zbn n (G k))) true n 0)]) (fun _ _=>True) () (by simp only[EVA,seval,Zd,men]) (by (simp only[EVA,seval,Zd,men]) <;> rfl) trivial ?_
  intro k _ hk _
  simp only[List.length_map,hjl,EVA,seval,Zd,men]
  refine Zn (fun hlt2=>?_) (fun hge2=>?_)
  ·have hka:k<n:=by omega
   have gi:=Jv (l:=L[j]) (i:=k) (by omega)
   have go:=Jv (l:=Zbn n (G k)) (i:=k) (by rw[Wc];exact hka)
   have hGk:G k k=orb (L.take j) k:=by rw[hG];simp
   have hGk2:G (k+1) k=min (orb (L.take j) k) (g0 L[j] k):=by rw[hG,<-Zkz hja];simp
   rw[ZoC hka,hGk] at go
   have sp:=Zoo (y:=Zbn n (G k)) (j:=k) (v:=min (orb (L.take j) k) (g0 L[j] k)) (by rw[Wc];exact hka)
   have hst:(Zbn n (G k)).set k (min (orb (L.take j) k) (g0 L[j] k))=Zbn n (G (k+1)):=by
    rw[<-hGk2]
    refine ZoD fun i hi=>?_
    by_cases e:i=k
    ·rw[if_pos e,e]
    ·rw[if_neg e,hG]
     show (if i<k+1 then _ else _)=(if i<k then _ else _)
     by_cases e2:i<k
     ·rw[if_pos e2,if_pos (by omega)]
     ·rw[if_neg e2,if_neg (by omega)]
   simp only[gi,go,hka,hjl,sp,hst,Wc,List.length_map,EVA,seval,Zd,men]
   exact⟨by rw[Ze];omega,Zf () hka rfl trivial⟩
  ·have hkn:k=n:=by omega
   subst hkn
   have hGn:Zbn k (G k)=Zbn k (orb (L.take (j+1))):=ZfU fun i hi=>by rw[hG];simp [hi]
   rw[hGn]
   exact⟨by rw[Ze];omega,Zf () hja rfl trivial⟩
 ·have:j=L.length:=by omega
  subst this
  rw[List.take_length]
  simp only[Wc,List.length_map,EVA,seval,Zd,men]
  try rfl
end Go.Fd

/-
  The annotated codes of the functions, printed by a program of mine (gen.py), and the check that they belong to the program.
-/
namespace Go.Fd
def YQ:F2 :=
 { nt:=58,res:=[.t 4 [0]],body:=(.sq (rg [oo 3 (.bt (.t 1)),om 4 (.k (.bool false))]) (.sq (rg [om 5 (i6 1048576)]) (.sq (rg [qM 12 0,qM 13 5,oo 14 (.ca .pure false (.f Jj) [.t 12,.t 13]),qM 5 14]) (.sq (.sq (rg [qM 15 5,oo 16 (.bi .lss 0 (.t 15) (i6 0))]) (.cd (.t 16) (.sq (rg [om 4 (.k (.bool true))]) (.rt)) (.sk))) (.sq (rg [qS 17 6 3,qM 18 5,oo 19 (.ca .pure false (.f ZY) [.t 17,.t 18]),qM 5 19]) (.sq (.sq (rg [qM 20 5,oo 21 (.bi .lss 0 (.t 20) (i6 0))]) (.cd (.t 21) (.sq (rg [om 4 (.k (.bool true))]) (.rt)) (.sk))) (.sq (.rg (some 0) [qM 23 0,oo 24 (.ca .pure false (.f Zs) [.t 23]),qS 25 6 3,oo 26 (.ca .pure false (.f Zl) [.t 25]),oo 27 (.ca .pure false (.f Ym) [.t 24,.t 26]),qM 22 27,qE 28 0 22,qE 29 1 22,qM 6 28,qM 7 29]) (.sq (rg [qM 30 0,oo 31 (.ca .pure false (.f Zs) [.t 30]),qM 8 31]) (.sq (rg [qS 32 6 3,oo 33 (.ca .pure false (.f Zl) [.t 32]),oo 9 (.al [.int .i64 0,.slice none 0 0,.slice none 0 0,.int .i64 0,.slice none 0 0,.slice none 0 0] []),on1 (.st 6 (.t 9) (.t 33))]) (.sq (rg [qM 35 8,qS 36 6 9,oo 37 (.ca .pure false (.f Yn) [.t 35,.t 36]),qM 34 37,qE 38 0 34,qE 39 1 34,qM 10 38,qM 11 39]) (.sq (.sq (rg [qM 40 10,qM 41 6,qB 42 .neq 40 41,qM 43 42,og 44 43 false (.mv (.t 11) none),og 45 43 false (.mv (.t 7) none),og 46 43 false (.bi .neq 2 (.t 44) (.t 45)),oo 47 (.pk (.t 43) (.k (.bool true)) (.t 46))]) (.cd (.t 47) (.sq (rg [om 4 (.k (.bool false))]) (.rt)) (.sk))) (.sq (.sq (rg [qM 48 8,qM 49 0,oo 50 (.ca .pure false (.f Zs) [.t 49]),oo 51 (.ca .pure false (.f Jk) [.t 48,.t 50]),oo 52 (.nt (.t 51))]) (.cd (.t 52) (.sq (rg [om 4 (.k (.bool false))]) (.rt)) (.sk))) (.sq (.sq (.rg (some 0) [qS 53 6 9,qS 54 6 3,oo 55 (.ca .pure false (.f Zl) [.t 54]),oo 56 (.ca .pure false (.f ZZ) [.t 53,.t 55]),oo 57 (.nt (.t 56))]) (.cd (.t 57) (.sq (rg [om 4 (.k (.bool false))]) (.rt)) (.sk))) (.sq (rg [om 4 (.k (.bool true))]) (.rt))))))))))))))) }
theorem XW:ZT Proofs.Tryz.prog Yk YQ=true:=by kernel_rfl
def Vw:F2 :=
 { nt:=119,res:=[.t 4 [0]],body:=(.sq (rg [oo 3 (.bt (.t 1)),om 4 (.k (.bool false))]) (.sq (rg [om 5 (i6 1048576)]) (.sq (rg [qM 17 0,qM 18 5,oo 19 (.ca .pure false (.f Jj) [.t 17,.t 18]),qM 5 19]) (.sq (.sq (rg [qM 20 5,oo 21 (.bi .lss 0 (.t 20) (i6 0))]) (.cd (.t 21) (.sq (rg [om 4 (.k (.bool true))]) (.rt)) (.sk))) (.sq (rg [qS 22 6 3,qM 23 5,oo 24 (.ca .pure false (.f ZY) [.t 22,.t 23]),qM 5 24]) (.sq (.sq (rg [qM 25 5,oo 26 (.bi .lss 0 (.t 25) (i6 0))]) (.cd (.t 26) (.sq (rg [om 4 (.k (.bool true))]) (.rt)) (.sk))) (.sq (.rg (some 0) [qM 28 0,oo 29 (.ca .pure false (.f Zs) [.t 28]),qS 30 6 3,oo 31 (.ca .pure false (.f Zl) [.t 30]),oo 32 (.ca .pure false (.f Va) [.t 29,.t 31]),qM 27 32,qE 33 0 27,qE 34 1 27,qM 6 33,qM 7 34]) (.sq (rg [qM 35 0,oo 36 (.ca .pure true (.f Zs) [.t 35]),qM 8 36]) (.sq (rg [qS 37 6 3,oo 38 (.ca .pure true (.f Zl) [.t 37]),oo 9 (.al [.int .i64 0,.slice none 0 0,.slice none 0 0,.int .i64 0,.slice none 0 0,.slice none 0 0] []),on1 (.st 6 (.t 9) (.t 38))]) (.sq (rg [qM 40 8,qS 41 6 9,oo 42 (.ca .pure true (.f J7) [.t 40,.t 41]),qM 39 42,qE 43 0 39,qE 44 1 39,qM 10 43,qM 11 44]) (.sq (.sq (rg [qM 45 10,qM 46 6,oo 47 (.ca .pure false (.f YM) [.t 45,.t 46]),oo 48 (.nt (.t 47)),qM 49 48,og 50 49 false (.mv (.t 11) none),og 51 49 false (.mv (.t 7) none),og 52 49 false (.bi .neq 2 (.t 50) (.t 51)),oo 53 (.pk (.t 49) (.k (.bool true)) (.t 52))]) (.cd (.t 53) (.sq (rg [om 4 (.k (.bool false))]) (.rt)) (.sk))) (.sq (.sq (rg [qM 54 8,qM 55 0,oo 56 (.ca .pure false (.f Zs) [.t 55]),oo 57 (.ca .pure false (.f Jk) [.t 54,.t 56]),oo 58 (.nt (.t 57))]) (.cd (.t 58) (.sq (rg [om 4 (.k (.bool false))]) (.rt)) (.sk))) (.sq (.sq (.rg (some 0) [qS 59 6 9,qS 60 6 3,oo 61 (.ca .pure false (.f Zl) [.t 60]),oo 62 (.ca .pure false (.f ZZ) [.t 59,.t 61]),oo 63 (.nt (.t 62))]) (.cd (.t 63) (.sq (rg [om 4 (.k (.bool false))]) (.rt)) (.sk))) (.sq (rg [om 12 (i6 1)]) (.sq (rg [qM 64 8,qM 65 12,oo 66 (.ca .any true (.f JI) [.t 64,.t 65]),qM 12 66]) (.sq (rg [qS 67 6 9,qM 68 12,oo 69 (.ca .any true (.f Ja) [.t 67,.t 68]),qM 12 69]) (.sq (.sq (rg [qM 70 12,oo 71 (.bi .lss 0 (.t 70) (i6 0)),qM 72 71,og 73 72 false (.mv (.t 10) none),og 74 72 false (.mv (.t 6) none),og 75 72 false (.ca .pure false (.f YM) [.t 73,.t 74]),og 76 72 false (.nt (.t 75)),oo 77 (.pk (.t 72) (.k (.bool true)) (.t 76)),qM 78 77,og 79 78 false (.mv (.t 11) none),og 80 78 false (.mv (.t 7) none),og 81 78 false (.bi .neq 2 (.t 79) (.t 80)),oo 82 (.pk (.t 78) (.k (.bool true)) (.t 81))]) (.cd (.t 82) (.sq (rg [om 4 (.k (.bool false))]) (.rt)) (.sk))) (.sq (rg [om 13 (i6 1)]) (.sq (rg [qM 83 10,qM 84 13,oo 85 (.ca .any true (.f Qy) [.t 83,.t 84]),qM 13 85]) (.sq (rg [om 14 (i6 1)]) (.sq (rg [qM 86 10,qM 87 14,oo 88 (.ca .pure false (.f Y1) [.t 86,.t 87]),qM 14 88]) (.sq (.sq (rg [qM 89 14,oo 90 (.bi .lss 0 (.t 89) (i6 0))]) (.cd (.t 90) (.sq (rg [om 4 (.k (.bool false))]) (.rt)) (.sk))) (.sq (.sq (rg [qM 91 14,qM 92 13,qB 93 .neq 91 92]) (.cd (.t 93) (.sq (rg [om 4 (.k (.bool false))]) (.rt)) (.sk))) (.sq (.rg (some 0) [qM 95 0,oo 96 (.ca .pure false (.f Zs) [.t 95]),qS 97 6 3,oo 98 (.ca .pure false (.f Zl) [.t 97]),oo 99 (.ca .pure false (.f J7) [.t 96,.t 98]),qM 94 99,qE 100 0 94,qE 101 1 94,qM 15 100,qM 16 101]) (.sq (.sq (rg [qM 102 15,qM 103 6,oo 104 (.ca .pure false (.f YM) [.t 102,.t 103]),oo 105 (.nt (.t 104)),qM 106 105,og 107 106 false (.mv (.t 16) none),og 108 106 false (.mv (.t 7) none),og 109 106 false (.bi .neq 2 (.t 107) (.t 108)),oo 110 (.pk (.t 106) (.k (.bool true)) (.t 109))]) (.cd (.t 110) (.sq (rg [om 4 (.k (.bool false))]) (.rt)) (.sk))) (.sq (rg [om 14 (i6 1)]) (.sq (rg [qM 111 10,qM 112 14,oo 113 (.ca .pure false (.f Y1) [.t 111,.t 112]),qM 14 113]) (.sq (.sq (rg [qM 114 14,oo 115 (.bi .lss 0 (.t 114) (i6 0))]) (.cd (.t 115) (.sq (rg [om 4 (.k (.bool false))]) (.rt)) (.sk))) (.sq (.sq (rg [qM 116 14,qM 117 13,qB 118 .neq 116 117]) (.cd (.t 118) (.sq (rg [om 4 (.k (.bool false))]) (.rt)) (.sk))) (.sq (rg [om 4 (.k (.bool true))]) (.rt))))))))))))))))))))))))))))))) }
theorem WW:ZT Proofs.Tryz.prog YZ Vw=true:=by kernel_rfl
def Xg:F2 :=
 { nt:=119,res:=[.t 4 [0]],body:=(.sq (rg [oo 3 (.bt (.t 1)),om 4 (.k (.bool false))]) (.sq (rg [om 5 (i6 1048576)]) (.sq (rg [qM 17 0,qM 18 5,oo 19 (.ca .pure false (.f Jj) [.t 17,.t 18]),qM 5 19]) (.sq (.sq (rg [qM 20 5,oo 21 (.bi .lss 0 (.t 20) (i6 0))]) (.cd (.t 21) (.sq (rg [om 4 (.k (.bool true))]) (.rt)) (.sk))) (.sq (rg [qS 22 6 3,qM 23 5,oo 24 (.ca .pure false (.f ZY) [.t 22,.t 23]),qM 5 24]) (.sq (.sq (rg [qM 25 5,oo 26 (.bi .lss 0 (.t 25) (i6 0))]) (.cd (.t 26) (.sq (rg [om 4 (.k (.bool true))]) (.rt)) (.sk))) (.sq (.rg (some 0) [qM 28 0,oo 29 (.ca .pure false (.f Zs) [.t 28]),qS 30 6 3,oo 31 (.ca .pure false (.f Zl) [.t 30]),oo 32 (.ca .pure false (.f Xi) [.t 29,.t 31]),qM 27 32,qE 33 0 27,qE 34 1 27,qM 6 33,qM 7 34]) (.sq (rg [qM 35 0,oo 36 (.ca .pure true (.f Zs) [.t 35]),qM 8 36]) (.sq (rg [qS 37 6 3,oo 38 (.ca .pure true (.f Zl) [.t 37]),oo 9 (.al [.int .i64 0,.slice none 0 0,.slice none 0 0,.int .i64 0,.slice none 0 0,.slice none 0 0] []),on1 (.st 6 (.t 9) (.t 38))]) (.sq (rg [qM 40 8,qS 41 6 9,oo 42 (.ca .pure true (.f Vm) [.t 40,.t 41]),qM 39 42,qE 43 0 39,qE 44 1 39,qM 10 43,qM 11 44]) (.sq (.sq (rg [qM 45 10,qM 46 6,oo 47 (.ca .pure false (.f Z2) [.t 45,.t 46]),oo 48 (.nt (.t 47)),qM 49 48,og 50 49 false (.mv (.t 11) none),og 51 49 false (.mv (.t 7) none),og 52 49 false (.bi .neq 2 (.t 50) (.t 51)),oo 53 (.pk (.t 49) (.k (.bool true)) (.t 52))]) (.cd (.t 53) (.sq (rg [om 4 (.k (.bool false))]) (.rt)) (.sk))) (.sq (.sq (rg [qM 54 8,qM 55 0,oo 56 (.ca .pure false (.f Zs) [.t 55]),oo 57 (.ca .pure false (.f Jk) [.t 54,.t 56]),oo 58 (.nt (.t 57))]) (.cd (.t 58) (.sq (rg [om 4 (.k (.bool false))]) (.rt)) (.sk))) (.sq (.sq (.rg (some 0) [qS 59 6 9,qS 60 6 3,oo 61 (.ca .pure false (.f Zl) [.t 60]),oo 62 (.ca .pure false (.f ZZ) [.t 59,.t 61]),oo 63 (.nt (.t 62))]) (.cd (.t 63) (.sq (rg [om 4 (.k (.bool false))]) (.rt)) (.sk))) (.sq (rg [om 12 (i6 1)]) (.sq (rg [qM 64 8,qM 65 12,oo 66 (.ca .any true (.f JI) [.t 64,.t 65]),qM 12 66]) (.sq (rg [qS 67 6 9,qM 68 12,oo 69 (.ca .any true (.f Ja) [.t 67,.t 68]),qM 12 69]) (.sq (.sq (rg [qM 70 12,oo 71 (.bi .lss 0 (.t 70) (i6 0)),qM 72 71,og 73 72 false (.mv (.t 10) none),og 74 72 false (.mv (.t 6) none),og 75 72 false (.ca .pure false (.f Z2) [.t 73,.t 74]),og 76 72 false (.nt (.t 75)),oo 77 (.pk (.t 72) (.k (.bool true)) (.t 76)),qM 78 77,og 79 78 false (.mv (.t 11) none),og 80 78 false (.mv (.t 7) none),og 81 78 false (.bi .neq 2 (.t 79) (.t 80)),oo 82 (.pk (.t 78) (.k (.bool true)) (.t 81))]) (.cd (.t 82) (.sq (rg [om 4 (.k (.bool false))]) (.rt)) (.sk))) (.sq (rg [om 13 (i6 1)]) (.sq (rg [qM 83 10,qM 84 13,oo 85 (.ca .any true (.f Jz) [.t 83,.t 84]),qM 13 85]) (.sq (rg [om 14 (i6 1)]) (.sq (rg [qM 86 10,qM 87 14,oo 88 (.ca .pure false (.f JA) [.t 86,.t 87]),qM 14 88]) (.sq (.sq (rg [qM 89 14,oo 90 (.bi .lss 0 (.t 89) (i6 0))]) (.cd (.t 90) (.sq (rg [om 4 (.k (.bool false))]) (.rt)) (.sk))) (.sq (.sq (rg [qM 91 14,qM 92 13,qB 93 .neq 91 92]) (.cd (.t 93) (.sq (rg [om 4 (.k (.bool false))]) (.rt)) (.sk))) (.sq (.rg (some 0) [qM 95 0,oo 96 (.ca .pure false (.f Zs) [.t 95]),qS 97 6 3,oo 98 (.ca .pure false (.f Zl) [.t 97]),oo 99 (.ca .pure false (.f Vm) [.t 96,.t 98]),qM 94 99,qE 100 0 94,qE 101 1 94,qM 15 100,qM 16 101]) (.sq (.sq (rg [qM 102 15,qM 103 6,oo 104 (.ca .pure false (.f Z2) [.t 102,.t 103]),oo 105 (.nt (.t 104)),qM 106 105,og 107 106 false (.mv (.t 16) none),og 108 106 false (.mv (.t 7) none),og 109 106 false (.bi .neq 2 (.t 107) (.t 108)),oo 110 (.pk (.t 106) (.k (.bool true)) (.t 109))]) (.cd (.t 110) (.sq (rg [om 4 (.k (.bool false))]) (.rt)) (.sk))) (.sq (rg [om 14 (i6 1)]) (.sq (rg [qM 111 10,qM 112 14,oo 113 (.ca .pure false (.f JA) [.t 111,.t 112]),qM 14 113]) (.sq (.sq (rg [qM 114 14,oo 115 (.bi .lss 0 (.t 114) (i6 0))]) (.cd (.t 115) (.sq (rg [om 4 (.k (.bool false))]) (.rt)) (.sk))) (.sq (.sq (rg [qM 116 14,qM 117 13,qB 118 .neq 116 117]) (.cd (.t 118) (.sq (rg [om 4 (.k (.bool false))]) (.rt)) (.sk))) (.sq (rg [om 4 (.k (.bool true))]) (.rt))))))))))))))))))))))))))))))) }
theorem DS:ZT Proofs.Tryz.prog Qg Xg=true:=by kernel_rfl
def YR:F2 :=
 { nt:=142,res:=[.t 6 [0]],body:=(.sq (rg [oo 4 (.bt (.t 1)),oo 5 (.bt (.t 2)),om 6 (.k (.bool false))]) (.sq (rg [om 7 (i6 1048576)]) (.sq (rg [qM 20 0,qM 21 7,oo 22 (.ca .pure false (.f Jj) [.t 20,.t 21]),qM 7 22]) (.sq (.sq (rg [qM 23 7,oo 24 (.bi .lss 0 (.t 23) (i6 0))]) (.cd (.t 24) (.sq (rg [om 6 (.k (.bool true))]) (.rt)) (.sk))) (.sq (rg [qS 25 6 4,qM 26 7,oo 27 (.ca .pure false (.f ZY) [.t 25,.t 26]),qM 7 27]) (.sq (.sq (rg [qM 28 7,oo 29 (.bi .lss 0 (.t 28) (i6 0))]) (.cd (.t 29) (.sq (rg [om 6 (.k (.bool true))]) (.rt)) (.sk))) (.sq (rg [qS 30 6 5,qM 31 7,oo 32 (.ca .pure false (.f ZY) [.t 30,.t 31]),qM 7 32]) (.sq (.sq (rg [qM 33 7,oo 34 (.bi .lss 0 (.t 33) (i6 0))]) (.cd (.t 34) (.sq (rg [om 6 (.k (.bool true))]) (.rt)) (.sk))) (.sq (.rg (some 0) [qM 36 0,oo 37 (.ca .pure false (.f Zs) [.t 36]),qS 38 6 4,oo 39 (.ca .pure false (.f Zl) [.t 38]),qS 40 6 5,oo 41 (.ca .pure false (.f Zl) [.t 40]),oo 42 (.ca .pure false (.f Yo) [.t 37,.t 39,.t 41]),qM 35 42,qE 43 0 35,qE 44 1 35,qM 8 43,qM 9 44]) (.sq (rg [qM 45 0,oo 46 (.ca .pure true (.f Zs) [.t 45]),qM 10 46]) (.sq (rg [qS 47 6 4,oo 48 (.ca .pure true (.f Zl) [.t 47]),oo 11 (.al [.int .i64 0,.slice none 0 0,.slice none 0 0,.int .i64 0,.slice none 0 0,.slice none 0 0] []),on1 (.st 6 (.t 11) (.t 48))]) (.sq (rg [qS 49 6 5,oo 50 (.ca .pure true (.f Zl) [.t 49]),oo 12 (.al [.int .i64 0,.slice none 0 0,.slice none 0 0,.int .i64 0,.slice none 0 0,.slice none 0 0] []),on1 (.st 6 (.t 12) (.t 50))]) (.sq (rg [qM 52 10,qS 53 6 11,qS 54 6 12,oo 55 (.ca .pure true (.f JN) [.t 52,.t 53,.t 54]),qM 51 55,qE 56 0 51,qE 57 1 51,qM 13 56,qM 14 57]) (.sq (.sq (rg [qM 58 13,qM 59 8,oo 60 (.ca .pure false (.f Z2) [.t 58,.t 59]),oo 61 (.nt (.t 60)),qM 62 61,og 63 62 false (.mv (.t 14) none),og 64 62 false (.mv (.t 9) none),og 65 62 false (.bi .neq 2 (.t 63) (.t 64)),oo 66 (.pk (.t 62) (.k (.bool true)) (.t 65))]) (.cd (.t 66) (.sq (rg [om 6 (.k (.bool false))]) (.rt)) (.sk))) (.sq (.sq (rg [qM 67 10,qM 68 0,oo 69 (.ca .pure false (.f Zs) [.t 68]),oo 70 (.ca .pure false (.f Jk) [.t 67,.t 69]),oo 71 (.nt (.t 70))]) (.cd (.t 71) (.sq (rg [om 6 (.k (.bool false))]) (.rt)) (.sk))) (.sq (.sq (.rg (some 0) [qS 72 6 11,qS 73 6 4,oo 74 (.ca .pure false (.f Zl) [.t 73]),oo 75 (.ca .pure false (.f ZZ) [.t 72,.t 74]),oo 76 (.nt (.t 75))]) (.cd (.t 76) (.sq (rg [om 6 (.k (.bool false))]) (.rt)) (.sk))) (.sq (.sq (.rg (some 0) [qS 77 6 12,qS 78 6 5,oo 79 (.ca .pure false (.f Zl) [.t 78]),oo 80 (.ca .pure false (.f ZZ) [.t 77,.t 79]),oo 81 (.nt (.t 80))]) (.cd (.t 81) (.sq (rg [om 6 (.k (.bool false))]) (.rt)) (.sk))) (.sq (rg [om 15 (i6 1)]) (.sq (rg [qM 82 10,qM 83 15,oo 84 (.ca .any true (.f JI) [.t 82,.t 83]),qM 15 84]) (.sq (rg [qS 85 6 11,qM 86 15,oo 87 (.ca .any true (.f Ja) [.t 85,.t 86]),qM 15 87]) (.sq (rg [qS 88 6 12,qM 89 15,oo 90 (.ca .any true (.f Ja) [.t 88,.t 89]),qM 15 90]) (.sq (.sq (rg [qM 91 15,oo 92 (.bi .lss 0 (.t 91) (i6 0)),qM 93 92,og 94 93 false (.mv (.t 13) none),og 95 93 false (.mv (.t 8) none),og 96 93 false (.ca .pure false (.f Z2) [.t 94,.t 95]),og 97 93 false (.nt (.t 96)),oo 98 (.pk (.t 93) (.k (.bool true)) (.t 97)),qM 99 98,og 100 99 false (.mv (.t 14) none),og 101 99 false (.mv (.t 9) none),og 102 99 false (.bi .neq 2 (.t 100) (.t 101)),oo 103 (.pk (.t 99) (.k (.bool true)) (.t 102))]) (.cd (.t 103) (.sq (rg [om 6 (.k (.bool false))]) (.rt)) (.sk))) (.sq (rg [om 16 (i6 1)]) (.sq (rg [qM 104 13,qM 105 16,oo 106 (.ca .any true (.f Jz) [.t 104,.t 105]),qM 16 106]) (.sq (rg [om 17 (i6 1)]) (.sq (rg [qM 107 13,qM 108 17,oo 109 (.ca .pure false (.f JA) [.t 107,.t 108]),qM 17 109]) (.sq (.sq (rg [qM 110 17,oo 111 (.bi .lss 0 (.t 110) (i6 0))]) (.cd (.t 111) (.sq (rg [om 6 (.k (.bool false))]) (.rt)) (.sk))) (.sq (.sq (rg [qM 112 17,qM 113 16,qB 114 .neq 112 113]) (.cd (.t 114) (.sq (rg [om 6 (.k (.bool false))]) (.rt)) (.sk))) (.sq (.rg (some 0) [qM 116 0,oo 117 (.ca .pure false (.f Zs) [.t 116]),qS 118 6 4,oo 119 (.ca .pure false (.f Zl) [.t 118]),qS 120 6 5,oo 121 (.ca .pure false (.f Zl) [.t 120]),oo 122 (.ca .pure false (.f JN) [.t 117,.t 119,.t 121]),qM 115 122,qE 123 0 115,qE 124 1 115,qM 18 123,qM 19 124]) (.sq (.sq (rg [qM 125 18,qM 126 8,oo 127 (.ca .pure false (.f Z2) [.t 125,.t 126]),oo 128 (.nt (.t 127)),qM 129 128,og 130 129 false (.mv (.t 19) none),og 131 129 false (.mv (.t 9) none),og 132 129 false (.bi .neq 2 (.t 130) (.t 131)),oo 133 (.pk (.t 129) (.k (.bool true)) (.t 132))]) (.cd (.t 133) (.sq (rg [om 6 (.k (.bool false))]) (.rt)) (.sk))) (.sq (rg [om 17 (i6 1)]) (.sq (rg [qM 134 13,qM 135 17,oo 136 (.ca .pure false (.f JA) [.t 134,.t 135]),qM 17 136]) (.sq (.sq (rg [qM 137 17,oo 138 (.bi .lss 0 (.t 137) (i6 0))]) (.cd (.t 138) (.sq (rg [om 6 (.k (.bool false))]) (.rt)) (.sk))) (.sq (.sq (rg [qM 139 17,qM 140 16,qB 141 .neq 139 140]) (.cd (.t 141) (.sq (rg [om 6 (.k (.bool false))]) (.rt)) (.sk))) (.sq (rg [om 6 (.k (.bool true))]) (.rt)))))))))))))))))))))))))))))))))))) }
theorem XX:ZT Proofs.Tryz.prog Yl YR=true:=by kernel_rfl
def Vx:F2 :=
 { nt:=76,res:=[.t 6 [0]],body:=(.sq (rg [oo 4 (.bt (.t 1)),oo 5 (.bt (.t 2)),om 6 (.k (.bool false))]) (.sq (rg [om 7 (i6 1048576)]) (.sq (rg [qM 15 0,qM 16 7,oo 17 (.ca .pure false (.f Jj) [.t 15,.t 16]),qM 7 17]) (.sq (.sq (rg [qM 18 7,oo 19 (.bi .lss 0 (.t 18) (i6 0))]) (.cd (.t 19) (.sq (rg [om 6 (.k (.bool true))]) (.rt)) (.sk))) (.sq (rg [qS 20 6 4,qM 21 7,oo 22 (.ca .pure false (.f ZY) [.t 20,.t 21]),qM 7 22]) (.sq (.sq (rg [qM 23 7,oo 24 (.bi .lss 0 (.t 23) (i6 0))]) (.cd (.t 24) (.sq (rg [om 6 (.k (.bool true))]) (.rt)) (.sk))) (.sq (rg [qS 25 6 5,qM 26 7,oo 27 (.ca .pure false (.f ZY) [.t 25,.t 26]),qM 7 27]) (.sq (.sq (rg [qM 28 7,oo 29 (.bi .lss 0 (.t 28) (i6 0))]) (.cd (.t 29) (.sq (rg [om 6 (.k (.bool true))]) (.rt)) (.sk))) (.sq (.rg (some 0) [qM 31 0,oo 32 (.ca .pure false (.f Zs) [.t 31]),qS 33 6 4,oo 34 (.ca .pure false (.f Zl) [.t 33]),qS 35 6 5,oo 36 (.ca .pure false (.f Zl) [.t 35]),oo 37 (.ca .pure false (.f Vb) [.t 32,.t 34,.t 36]),qM 30 37,qE 38 0 30,qE 39 1 30,qM 8 38,qM 9 39]) (.sq (rg [qM 40 0,oo 41 (.ca .pure false (.f Zs) [.t 40]),qM 10 41]) (.sq (rg [qS 42 6 4,oo 43 (.ca .pure false (.f Zl) [.t 42]),oo 11 (.al [.int .i64 0,.slice none 0 0,.slice none 0 0,.int .i64 0,.slice none 0 0,.slice none 0 0] []),on1 (.st 6 (.t 11) (.t 43))]) (.sq (rg [qS 44 6 5,oo 45 (.ca .pure false (.f Zl) [.t 44]),oo 12 (.al [.int .i64 0,.slice none 0 0,.slice none 0 0,.int .i64 0,.slice none 0 0,.slice none 0 0] []),on1 (.st 6 (.t 12) (.t 45))]) (.sq (rg [qM 47 10,qS 48 6 11,qS 49 6 12,oo 50 (.ca .pure false (.f Vc) [.t 47,.t 48,.t 49]),qM 46 50,qE 51 0 46,qE 52 1 46,qM 13 51,qM 14 52]) (.sq (.sq (rg [qM 53 13,qM 54 8,oo 55 (.bi .neq 2 (.t 53) (.t 54)),qM 56 55,og 57 56 false (.mv (.t 14) none),og 58 56 false (.mv (.t 9) none),og 59 56 false (.bi .neq 2 (.t 57) (.t 58)),oo 60 (.pk (.t 56) (.k (.bool true)) (.t 59))]) (.cd (.t 60) (.sq (rg [om 6 (.k (.bool false))]) (.rt)) (.sk))) (.sq (.sq (rg [qM 61 10,qM 62 0,oo 63 (.ca .pure false (.f Zs) [.t 62]),oo 64 (.ca .pure false (.f Jk) [.t 61,.t 63]),oo 65 (.nt (.t 64))]) (.cd (.t 65) (.sq (rg [om 6 (.k (.bool false))]) (.rt)) (.sk))) (.sq (.sq (.rg (some 0) [qS 66 6 11,qS 67 6 4,oo 68 (.ca .pure false (.f Zl) [.t 67]),oo 69 (.ca .pure false (.f ZZ) [.t 66,.t 68]),oo 70 (.nt (.t 69))]) (.cd (.t 70) (.sq (rg [om 6 (.k (.bool false))]) (.rt)) (.sk))) (.sq (.sq (.rg (some 0) [qS 71 6 12,qS 72 6 5,oo 73 (.ca .pure false (.f Zl) [.t 72]),oo 74 (.ca .pure false (.f ZZ) [.t 71,.t 73]),oo 75 (.nt (.t 74))]) (.cd (.t 75) (.sq (rg [om 6 (.k (.bool false))]) (.rt)) (.sk))) (.sq (rg [om 6 (.k (.bool true))]) (.rt))))))))))))))))))) }
theorem WX:ZT Proofs.Tryz.prog Y0 Vx=true:=by kernel_rfl
def WU:F2 :=
 { nt:=35,res:=[.t 4 [0]],body:=(.sq (rg [om 4 (i6 0)]) (.sq (.sq (rg [om 5 (i6 0)]) (.bl 0 (.lp [0,1,5] [] (.sq (.sq (rg [qM 6 5,qM 7 0,qN 8 7,qB 9 .lss 6 8]) (.cd (.t 9) (.sk) (.ex 0))) (.sq (.bl 1 (.sq (rg [qM 12 0,qM 13 5,qM 14 1,oo 15 (.ca .pure false (.f Yp) [.t 14]),qI 16 3 12 13,qF 17 0 16,on1 (.st 1 (.t 17) (.t 15))]) (.sq (rg [qM 18 1,oo 19 (.bi .add 0 (.t 18) (i6 1)),qM 1 19]) (.sq (rg [qM 20 0,qM 21 5,qM 22 1,qI 23 3 20 21,qF 24 1 23,on1 (.st 1 (.t 24) (.t 22))]) (.sq (rg [qM 25 1,oo 26 (.bi .add 0 (.t 25) (i6 1)),qM 1 26]) (.sq (rg [qM 27 0,qM 28 5,qM 29 1,qI 30 3 27 28,qF 31 2 30,on1 (.st 1 (.t 31) (.t 29))])
 (rg [qM 32 1,oo 33 (.bi .add 0 (.t 32) (i6 1)),qM 1 33])))))))
 (rg [qM 10 5,oo 11 (.bi .add 0 (.t 10) (i6 1)),qM 5 11])))))) (.sq (rg [qM 34 1,qM 4 34]) (.rt)))) }
theorem Zbo:ZT Proofs.Tryz.prog JI WU=true:=by kernel_rfl
def Ui:F2 :=
 { nt:=22,res:=[.t 4 [0]],body:=(.sq (rg [oo 2 (.bx (.t 0)),om 4 (i6 0)]) (.sq (rg [qF 5 1 2,qL 6 5,qM 7 1,oo 8 (.ca .any true (.f QH) [.t 6,.t 7]),qM 1 8]) (.sq (rg [qF 9 2 2,qL 10 9,qM 11 1,oo 12 (.ca .any true (.f Jz) [.t 10,.t 11]),qM 1 12]) (.sq (rg [qF 13 4 2,qL 14 13,qM 15 1,oo 16 (.ca .any true (.f VA) [.t 14,.t 15]),qM 1 16]) (.sq (rg [qF 17 5 2,qL 18 17,qM 19 1,oo 20 (.ca .any true (.f QI) [.t 18,.t 19]),qM 1 20]) (.sq (rg [qM 21 1,qM 4 21]) (.rt))))))) }
theorem Zcm:ZT Proofs.Tryz.prog Ja Ui=true:=by kernel_rfl
def Dz:F2 :=
 { nt:=19,res:=[.t 4 [0]],body:=(.sq (rg [om 4 (i6 0)]) (.sq (.sq (rg [om 5 (i6 0)]) (.bl 0 (.lp [0,1,5] [] (.sq (.sq (rg [qM 6 5,qM 7 0,qN 8 7,qB 9 .lss 6 8]) (.cd (.t 9) (.sk) (.ex 0))) (.sq (.bl 1 (rg [qM 12 0,qM 13 5,qI 14 1 12 13,qL 15 14,qM 16 1,oo 17 (.ca .any true (.f Jz) [.t 15,.t 16]),qM 1 17]))
 (rg [qM 10 5,oo 11 (.bi .add 0 (.t 10) (i6 1)),qM 5 11])))))) (.sq (rg [qM 18 1,qM 4 18]) (.rt)))) }
theorem ZdE:ZT Proofs.Tryz.prog Qy Dz=true:=by kernel_rfl
def DA:F2 :=
 { nt:=21,res:=[.t 4 [0]],body:=(.sq (rg [om 4 (i6 0)]) (.sq (.sq (rg [om 5 (i6 0)]) (.bl 0 (.lp [0,1,5] [] (.sq (.sq (rg [qM 6 5,qM 7 0,qN 8 7,qB 9 .lss 6 8]) (.cd (.t 9) (.sk) (.ex 0))) (.sq (.bl 1 (.sq (rg [qM 12 0,qM 13 5,qI 14 1 12 13,qL 15 14,qM 16 1,oo 17 (.ca .pure false (.f JA) [.t 15,.t 16]),qM 1 17]) (.sq (rg [qM 18 1,oo 19 (.bi .lss 0 (.t 18) (i6 0))]) (.cd (.t 19) (.sq (rg [om 4 (i6 (-1))]) (.rt)) (.sk)))))
 (rg [qM 10 5,oo 11 (.bi .add 0 (.t 10) (i6 1)),qM 5 11])))))) (.sq (rg [qM 20 1,qM 4 20]) (.rt)))) }
theorem ZdF:ZT Proofs.Tryz.prog Y1 DA=true:=by kernel_rfl
def Zar:F2 :=
 { nt:=19,res:=[.t 4 [0]],body:=(.sq (rg [om 4 (i6 0)]) (.sq (.sq (rg [om 5 (i6 0)]) (.bl 0 (.lp [0,1,5] [] (.sq (.sq (rg [qM 6 5,qM 7 0,qN 8 7,qB 9 .lss 6 8]) (.cd (.t 9) (.sk) (.ex 0))) (.sq (.bl 1 (.sq (rg [qM 12 0,qM 13 5,qM 14 1,qI 15 1 12 13,on1 (.st 1 (.t 15) (.t 14))])
 (rg [qM 16 1,oo 17 (.bi .add 0 (.t 16) (i6 1)),qM 1 17])))
 (rg [qM 10 5,oo 11 (.bi .add 0 (.t 10) (i6 1)),qM 5 11])))))) (.sq (rg [qM 18 1,qM 4 18]) (.rt)))) }
theorem ZeU:ZT Proofs.Tryz.prog Jz Zar=true:=by kernel_rfl
def Zas:F2 :=
 { nt:=21,res:=[.t 4 [0]],body:=(.sq (rg [om 4 (i6 0)]) (.sq (.sq (rg [om 5 (i6 0)]) (.bl 0 (.lp [0,1,5] [] (.sq (.sq (rg [qM 6 5,qM 7 0,qN 8 7,qB 9 .lss 6 8]) (.cd (.t 9) (.sk) (.ex 0))) (.sq (.bl 1 (.sq (.sq (rg [qM 12 0,qM 13 5,qI 14 1 12 13,qL 15 14,qM 16 1,qB 17 .neq 15 16]) (.cd (.t 17) (.sq (rg [om 4 (i6 (-1))]) (.rt)) (.sk)))
 (rg [qM 18 1,oo 19 (.bi .add 0 (.t 18) (i6 1)),qM 1 19])))
 (rg [qM 10 5,oo 11 (.bi .add 0 (.t 10) (i6 1)),qM 5 11])))))) (.sq (rg [qM 20 1,qM 4 20]) (.rt)))) }
theorem ZeV:ZT Proofs.Tryz.prog JA Zas=true:=by kernel_rfl
def Zat:F2 :=
 { nt:=20,res:=[.t 2 [0]],body:=(.sq (rg [om 2 (.k (.string ⟨#[]⟩))]) (.sq (.sq (rg [qM 4 0,oo 5 (.bi .leq 0 (.t 4) (i6 0))]) (.cd (.t 5) (.sq (rg [om 2 (.k (.string ⟨#[109,48]⟩))]) (.rt)) (.sk))) (.sq (rg [om 3 (.k (.string ⟨#[]⟩))]) (.sq (.bl 0 (.lp [0,3] [] (.sq (.sq (rg [qM 6 0,oo 7 (.bi .gtr 0 (.t 6) (i6 0))]) (.cd (.t 7) (.sk) (.ex 0))) (.bl 1 (.sq (rg [qM 8 0,oo 9 (.bi .rem 0 (.t 8) (i6 10)),oo 10 (.bi .add 0 (i6 48) (.t 9)),oo 11 (.cv (.int .u8) (.t 10)),oo 12 (.bs 1 1 [.int .u8 0] [(0,.t 11)]),oo 13 (.sb (.t 12)),qM 14 3,qB 15 .add 13 14,qM 3 15])
 (rg [qM 16 0,oo 17 (.bi .quo 0 (.t 16) (i6 10)),qM 0 17])))))) (.sq (rg [qM 18 3,oo 19 (.bi .add 0 (.k (.string ⟨#[109]⟩)) (.t 18)),qM 2 19]) (.rt)))))) }
theorem ZeW:ZT Proofs.Tryz.prog Yp Zat=true:=by kernel_rfl
def DB:F2 :=
 { nt:=34,res:=[.t 4 [0]],body:=(.sq (rg [om 4 (i6 0)]) (.sq (.sq (rg [om 5 (i6 0)]) (.bl 0 (.lp [0,1,5] [] (.sq (.sq (rg [qM 6 5,qM 7 0,qN 8 7,qB 9 .lss 6 8]) (.cd (.t 9) (.sk) (.ex 0))) (.sq (.bl 1 (.sq (rg [qM 12 0,qM 13 5,qM 14 1,qI 15 3 12 13,qF 16 0 15,on1 (.st 1 (.t 16) (.t 14))]) (.sq (rg [qM 17 1,oo 18 (.bi .add 0 (.t 17) (i6 1)),qM 1 18]) (.sq (rg [qM 19 0,qM 20 5,qM 21 1,qI 22 3 19 20,qF 23 1 22,on1 (.st 1 (.t 23) (.t 21))]) (.sq (rg [qM 24 1,oo 25 (.bi .add 0 (.t 24) (i6 1)),qM 1 25])
 (rg [qM 26 0,qM 27 5,qI 28 3 26 27,qF 29 2 28,qL 30 29,qM 31 1,oo 32 (.ca .any true (.f Jz) [.t 30,.t 31]),qM 1 32]))))))
 (rg [qM 10 5,oo 11 (.bi .add 0 (.t 10) (i6 1)),qM 5 11])))))) (.sq (rg [qM 33 1,qM 4 33]) (.rt)))) }
theorem ZdG:ZT Proofs.Tryz.prog QH DB=true:=by kernel_rfl
def Uj:F2 :=
 { nt:=20,res:=[.t 4 [0]],body:=(.sq (rg [om 4 (i6 0)]) (.sq (.sq (rg [om 5 (i6 0)]) (.bl 0 (.lp [0,1,5] [] (.sq (.sq (rg [qM 6 5,qM 7 0,qN 8 7,qB 9 .lss 6 8]) (.cd (.t 9) (.sk) (.ex 0))) (.sq (.bl 1 (.sq (rg [qM 12 0,qM 13 5,qM 14 1,oo 15 (.ca .pure false (.f Yp) [.t 14]),qI 16 1 12 13,on1 (.st 1 (.t 16) (.t 15))])
 (rg [qM 17 1,oo 18 (.bi .add 0 (.t 17) (i6 1)),qM 1 18])))
 (rg [qM 10 5,oo 11 (.bi .add 0 (.t 10) (i6 1)),qM 5 11])))))) (.sq (rg [qM 19 1,qM 4 19]) (.rt)))) }
theorem Zcn:ZT Proofs.Tryz.prog VA Uj=true:=by kernel_rfl
def DC:F2 :=
 { nt:=28,res:=[.t 4 [0]],body:=(.sq (rg [om 4 (i6 0)]) (.sq (.sq (rg [om 5 (i6 0)]) (.bl 0 (.lp [0,1,5] [] (.sq (.sq (rg [qM 6 5,qM 7 0,qN 8 7,qB 9 .lss 6 8]) (.cd (.t 9) (.sk) (.ex 0))) (.sq (.bl 1 (.sq (rg [qM 12 0,qM 13 5,qM 14 1,oo 15 (.ca .pure false (.f Yp) [.t 14]),qI 16 2 12 13,qF 17 0 16,on1 (.st 1 (.t 17) (.t 15))]) (.sq (rg [qM 18 1,oo 19 (.bi .add 0 (.t 18) (i6 1)),qM 1 19]) (.sq (rg [qM 20 0,qM 21 5,qM 22 1,qI 23 2 20 21,qF 24 1 23,on1 (.st 1 (.t 24) (.t 22))])
 (rg [qM 25 1,oo 26 (.bi .add 0 (.t 25) (i6 1)),qM 1 26])))))
 (rg [qM 10 5,oo 11 (.bi .add 0 (.t 10) (i6 1)),qM 5 11])))))) (.sq (rg [qM 27 1,qM 4 27]) (.rt)))) }
theorem ZdH:ZT Proofs.Tryz.prog QI DC=true:=by kernel_rfl
end Go.Fd

/-
  THE TEXT OF A MARK; THE MARKS OF NUMBERS AND TEXTS. Own work.
-/
namespace Go.Fd
set_option maxRecDepth 20000
abbrev Zjt(_:Int)(k:Int):Int:=k
abbrev WV(_:Int):Nat:=1
def mt(q:Nat)(o:ByteArray):ByteArray:=if q=0 then o else mt (q / 10) (⟨#[UInt8.ofNat (48+q % 10)]⟩++o)
 termination_by q
 decreasing_by omega
theorem ZuB{q:Nat}{o:ByteArray}(h:0<q):mt q o=mt (q / 10) (⟨#[UInt8.ofNat (48+q % 10)]⟩++o):=by
 rw[mt,if_neg (by omega)]
theorem Zrh{o:ByteArray}:mt 0 o=o:=by rw[mt,if_pos rfl]
def ZmY(k:Int):ByteArray:=if k<=0 then ⟨#[109,48]⟩ else ⟨#[109]⟩++mt k.toNat ⟨#[]⟩
theorem Zau(k:Int)(h:k<=4611686018427387904)(lvl:Nat)(S:Sto):Sem Proofs.Tryz.prog Yp lvl [iI k] S (iS (ZmY k)) S:=by
 refine Zc ZeW trivial ?_
 simp only[Zat,EVA,seval,Zd,men]
 unfold ZmY
 refine Zn (fun h0=>?_) (fun h0=>?_)
 ·rw[if_pos h0]
 ·rw[if_neg h0]
  obtain⟨K,hK⟩:∃ K:Nat,k=K:=⟨k.toNat,by omega⟩
  subst hK
  rw[Int.toNat_natCast]
  refine ZP (α:=Nat×ByteArray) K (fun j y=>⟨lvl,[(0,iI y.1),(3,iS y.2)],[],S⟩) (fun j y=>y.1+j<=K/\mt y.1 y.2=mt K ⟨#[]⟩/\y.1*10 ^ y.2.size<=K/\y.2.size<=19) (K,⟨#[]⟩) ⟨by simp only[EVA,seval,Zd,men],by simp only[EVA,seval,Zd,men]⟩ ⟨Nat.le_refl _,rfl,Nat.le_of_eq (Nat.mul_one K),(by decide:(0:Nat)<=19)⟩ ?_
  intro j y hj hA
  obtain⟨q,o⟩:=y
  obtain⟨h1,h2,h3,h4⟩:=hA
  simp only at h1 h2 h3 h4
  simp only[EVA,seval,Zd,men]
  refine Zn (fun hq=>?_) (fun hq=>?_)
  ·have hq0:0<q:=by omega
   have hby:byR [[Tr.v (Value.int IntKind.u8 (48+(q:Int) % 10))]]=some [UInt8.ofNat (48+q % 10)]:=by
    have e:(48+(q:Int) % 10).toNat=48+q % 10:=by omega
    simp only[cut,List.replicate_one,List.set_cons_zero,List.drop_zero,List.take_succ_cons,List.take_zero,byR,Option.map_some,e]
   have h5:o.size<19:=by
    apply Classical.byContradiction
    intro hc
    have e:o.size=19:=by omega
    rw[e] at h3
    have:1*10 ^ 19<=q*10 ^ 19:=Nat.mul_le_mul_right _ hq0
    omega
   have h6:q / 10*10 ^ (o.size+1)<=K:=by
    refine Nat.le_trans ?_ h3
    rw[Nat.pow_succ,Nat.mul_comm (10 ^ o.size) 10,<-Nat.mul_assoc]
    exact Nat.mul_le_mul_right _ (by omega)
   rw[hby]
   simp only[EVA,seval,Zd,men]
   have hs:(ByteArray.mk #[UInt8.ofNat (48+q % 10)]++o).size=o.size+1:=by
    rw[ByteArray.size_append,Nat.add_comm];rfl
   have e8:Wd .u8 (48+(q:Int) % 10):=by
    constructor
    ·show (0:Int)<=_;omega
    ·show _<=(255:Int);omega
   refine⟨by rw[Ze];omega,e8,?_,by rw[Ze];omega,Zf (q / 10,ByteArray.mk #[UInt8.ofNat (48+q % 10)]++o) (by omega) ?_ ⟨by simp only;omega,?_,?_,?_⟩⟩
   ·show 1+o.size<=4294967296
    omega
   ·rfl
   ·rw[<-h2,ZuB hq0]
   ·simp only[hs];exact h6
   ·simp only[hs];omega
  ·have:q=0:=by omega
   subst this
   rw[<-h2,Zrh]
   refine⟨?_,rfl⟩
   show 1+o.size<=4294967296
   omega
abbrev Zna(_:ByteArray)(k:Int):ByteArray:=ZmY k
abbrev Zg9(_:ByteArray):Nat:=1
end Go.Fd

/-
  WHAT THE MARKING FUNCTIONS DO (printed by lawgen.py). Own work.
-/
namespace Go.Fd
set_option maxRecDepth 20000
theorem Zav:MarkS Proofs.Tryz.prog Jz (fun n:Int=>[tv n]) Zjt WV (fun _=>True):=by
 intro a k lvl S id p es r0 kk hw ver st cap hid hv hst h0 hk hl hB
 have hne:id.1≠lvl:=by omega
 have hgp:∀ r,getp (Uz es p r) p=some r:=fun r=>Xv hv
 refine Zc ZeU trivial ?_
 simp only[Zar,EVA,seval,Zd,men]
 refine ZP (α:=Unit) a.length (fun j _=>⟨lvl,[(0,.hd id p 0 a.length cap st),(1,iI (kJ WV a k j)),(5,iI j)],[],ZK S id (.ar kk (Uz es p ((lJ Zjt WV a k j).map (fun n:Int=>[tv n]))) true hw ver)⟩) (fun _ _=>True) () ⟨by simp only[ZM hne,EVA,seval,Zd,men],by (simp only[Zac,ZcM,EVA,seval,Zd,men]) <;> rfl⟩ trivial ?_
 intro j _ hj _
 simp only[List.length_map,EVA,seval,Zd,men]
 refine Zn (fun hlt=>?_) (fun hge=>?_)
 ·have hja:j<a.length:=by omega
  obtain⟨R,hjR,hR,hR'⟩:=ZfC Zjt WV (fun n:Int=>[tv n]) (k:=k) hja
  have hge2:=ZhX WV (a:=a) (k:=k) (j:=j+1)
  rw[Vz WV hja] at hge2
  have hge3:=ZhY WV (a:=a) (k:=k) (j:=j)
  rw[hR]
  try simp only[WV] at hge2
  try simp only[ZD hne,JE hne,Ju,Yu,hst,hgp,V0 hjR,Qx hv hjR,Nat.zero_add,hja,ZM hne,List.length_map,tv,EVA,seval,Zd,men]
  refine⟨by rw[Ze];omega,⟨by rw[Ze];omega,Zf () hja ?_ trivial⟩⟩
  rw[Vz WV hja,hR']
  simp only[WV,Zjt,tv,Int.natCast_add,Int.natCast_one,Int.add_assoc]
  try rfl
 ·have:j=a.length:=by omega
  subst this
  rw[Zdf,ZfB]
  exact⟨rfl,rfl⟩
def Zju(x:TNode)(k:Int):TNode:={ control:=k,parent:=k+1,links:=mL Zjt WV x.links (k+1+1) }
def XE(x:TNode):Nat:=1+1+nL WV x.links
theorem Zk8:MarkS Proofs.Tryz.prog QH ZG Zju XE (Ds 4294967296):=by
 intro a k lvl S id p es r0 kk hw ver st cap hid hv hst h0 hk hl hB
 have hne:id.1≠lvl:=by omega
 have hgp:∀ r,getp (Uz es p r) p=some r:=fun r=>Xv hv
 refine Zc ZdG trivial ?_
 simp only[DB,EVA,seval,Zd,men]
 refine ZP (α:=Unit) a.length (fun j _=>⟨lvl,[(0,.hd id p 0 a.length cap st),(1,iI (kJ XE a k j)),(5,iI j)],[],ZK S id (.ar kk (Uz es p ((lJ Zju XE a k j).map ZG)) true hw ver)⟩) (fun _ _=>True) () ⟨by simp only[ZM hne,EVA,seval,Zd,men],by (simp only[Zac,ZcM,EVA,seval,Zd,men]) <;> rfl⟩ trivial ?_
 intro j _ hj _
 simp only[List.length_map,EVA,seval,Zd,men]
 refine Zn (fun hlt=>?_) (fun hge=>?_)
 ·have hja:j<a.length:=by omega
  obtain⟨R,hjR,hR,hR'⟩:=ZfC Zju XE ZG (k:=k) hja
  have hge2:=ZhX XE (a:=a) (k:=k) (j:=j+1)
  rw[Vz XE hja] at hge2
  have hge3:=ZhY XE (a:=a) (k:=k) (j:=j)
  rw[hR]
  try simp only[XE] at hge2
  have hb:=hB _ (List.getElem_mem hja)
  have b0:(a[j]).links.length<=4294967296:=hb
  try simp only[ZD hne,JE hne,Ju,Yu,hst,hgp,V0 hjR,Qx hv hjR,Nat.zero_add,hja,ZM hne,List.length_map,ZG,EVA,seval,Zd,men]
  refine⟨by rw[Ze];omega,⟨by rw[Ze];omega,?_⟩⟩
  simp only[Zcy]
  refine Zj9 Zav hid hv (by omega) (by omega) b0 (fun _ _=>trivial) hjR rfl (by simp only[List.length_map]) ?_
  simp only[List.set_cons_succ,List.set_cons_zero,ZD hne,JE hne,Ju,Yu,hst,hgp,V0 hjR,Qx hv hjR,Nat.zero_add,hja,ZM hne,List.length_map,ZG,EVA,seval,Zd,men]
  refine⟨by rw[Ze];omega,Zf () hja ?_ trivial⟩
  rw[Vz XE hja,hR']
  simp only[XE,Zju,ZG,Int.natCast_add,Int.natCast_one,Int.add_assoc]
  try rfl
 ·have:j=a.length:=by omega
  subst this
  rw[Zdf,ZfB]
  exact⟨rfl,rfl⟩
theorem ZiF:MarkS Proofs.Tryz.prog VA (fun n:ByteArray=>[ts n]) Zna Zg9 (fun x=>x.size<=4294967296):=by
 intro a k lvl S id p es r0 kk hw ver st cap hid hv hst h0 hk hl hB
 have hne:id.1≠lvl:=by omega
 have hgp:∀ r,getp (Uz es p r) p=some r:=fun r=>Xv hv
 refine Zc Zcn trivial ?_
 simp only[Uj,EVA,seval,Zd,men]
 refine ZP (α:=Unit) a.length (fun j _=>⟨lvl,[(0,.hd id p 0 a.length cap st),(1,iI (kJ Zg9 a k j)),(5,iI j)],[],ZK S id (.ar kk (Uz es p ((lJ Zna Zg9 a k j).map (fun n:ByteArray=>[ts n]))) true hw ver)⟩) (fun _ _=>True) () ⟨by simp only[ZM hne,EVA,seval,Zd,men],by (simp only[Zac,ZcM,EVA,seval,Zd,men]) <;> rfl⟩ trivial ?_
 intro j _ hj _
 simp only[List.length_map,EVA,seval,Zd,men]
 refine Zn (fun hlt=>?_) (fun hge=>?_)
 ·have hja:j<a.length:=by omega
  obtain⟨R,hjR,hR,hR'⟩:=ZfC Zna Zg9 (fun n:ByteArray=>[ts n]) (k:=k) hja
  have hge2:=ZhX Zg9 (a:=a) (k:=k) (j:=j+1)
  rw[Vz Zg9 hja] at hge2
  have hge3:=ZhY Zg9 (a:=a) (k:=k) (j:=j)
  rw[hR]
  try simp only[Zg9] at hge2
  try simp only[ZD hne,JE hne,Ju,Yu,hst,hgp,V0 hjR,Qx hv hjR,Nat.zero_add,hja,ZM hne,List.length_map,tv,EVA,seval,Zd,men]
  refine Zb (Zau (kJ Zg9 a k j) (by omega)) ?_
  simp only[ZD hne,JE hne,Ju,Yu,hst,hgp,V0 hjR,Qx hv hjR,Nat.zero_add,hja,ZM hne,List.length_map,tv,EVA,seval,Zd,men]
  refine⟨by rw[Ze];omega,⟨by rw[Ze];omega,Zf () hja ?_ trivial⟩⟩
  rw[Vz Zg9 hja,hR']
  simp only[Zg9,Zna,tv,Int.natCast_add,Int.natCast_one,Int.add_assoc]
  try rfl
 ·have:j=a.length:=by omega
  subst this
  rw[Zdf,ZfB]
  exact⟨rfl,rfl⟩
def Zjv(x:TWire)(k:Int):TWire:={ name:=ZmY (k),link:=k+1 }
def DT(x:TWire):Nat:=1+1
theorem Zk9:MarkS Proofs.Tryz.prog QI ZX Zjv DT (W7 4294967296):=by
 intro a k lvl S id p es r0 kk hw ver st cap hid hv hst h0 hk hl hB
 have hne:id.1≠lvl:=by omega
 have hgp:∀ r,getp (Uz es p r) p=some r:=fun r=>Xv hv
 refine Zc ZdH trivial ?_
 simp only[DC,EVA,seval,Zd,men]
 refine ZP (α:=Unit) a.length (fun j _=>⟨lvl,[(0,.hd id p 0 a.length cap st),(1,iI (kJ DT a k j)),(5,iI j)],[],ZK S id (.ar kk (Uz es p ((lJ Zjv DT a k j).map ZX)) true hw ver)⟩) (fun _ _=>True) () ⟨by simp only[ZM hne,EVA,seval,Zd,men],by (simp only[Zac,ZcM,EVA,seval,Zd,men]) <;> rfl⟩ trivial ?_
 intro j _ hj _
 simp only[List.length_map,EVA,seval,Zd,men]
 refine Zn (fun hlt=>?_) (fun hge=>?_)
 ·have hja:j<a.length:=by omega
  obtain⟨R,hjR,hR,hR'⟩:=ZfC Zjv DT ZX (k:=k) hja
  have hge2:=ZhX DT (a:=a) (k:=k) (j:=j+1)
  rw[Vz DT hja] at hge2
  have hge3:=ZhY DT (a:=a) (k:=k) (j:=j)
  rw[hR]
  try simp only[DT] at hge2
  have hb:=hB _ (List.getElem_mem hja)
  have b0:(a[j]).name.size<=4294967296:=hb
  try simp only[ZD hne,JE hne,Ju,Yu,hst,hgp,V0 hjR,Qx hv hjR,Nat.zero_add,hja,ZM hne,List.length_map,ZX,EVA,seval,Zd,men]
  refine Zb (Zau (kJ DT a k j) (by omega)) ?_
  simp only[ZD hne,JE hne,Ju,Yu,hst,hgp,V0 hjR,Qx hv hjR,Nat.zero_add,hja,ZM hne,List.length_map,ZX,EVA,seval,Zd,men]
  refine⟨by rw[Ze];omega,⟨by rw[Ze];omega,⟨by rw[Ze];omega,Zf () hja ?_ trivial⟩⟩⟩
  rw[Vz DT hja,hR']
  simp only[DT,Zjv,ZX,Int.natCast_add,Int.natCast_one,Int.add_assoc]
  try rfl
 ·have:j=a.length:=by omega
  subst this
  rw[Zdf,ZfB]
  exact⟨rfl,rfl⟩
def Zha(x:(List Int))(k:Int):(List Int):=mL Zjt WV x (k)
def Q4(x:(List Int)):Nat:=nL WV x
theorem Zla:MarkS Proofs.Tryz.prog Qy (fun l=>[Tr.sl (rI l)]) Zha Q4 (fun x=>x.length<=4294967296):=by
 intro a k lvl S id p es r0 kk hw ver st cap hid hv hst h0 hk hl hB
 have hne:id.1≠lvl:=by omega
 have hgp:∀ r,getp (Uz es p r) p=some r:=fun r=>Xv hv
 refine Zc ZdE trivial ?_
 simp only[Dz,EVA,seval,Zd,men]
 refine ZP (α:=Unit) a.length (fun j _=>⟨lvl,[(0,.hd id p 0 a.length cap st),(1,iI (kJ Q4 a k j)),(5,iI j)],[],ZK S id (.ar kk (Uz es p ((lJ Zha Q4 a k j).map (fun l=>[Tr.sl (rI l)]))) true hw ver)⟩) (fun _ _=>True) () ⟨by simp only[ZM hne,EVA,seval,Zd,men],by (simp only[Zac,ZcM,EVA,seval,Zd,men]) <;> rfl⟩ trivial ?_
 intro j _ hj _
 simp only[List.length_map,EVA,seval,Zd,men]
 refine Zn (fun hlt=>?_) (fun hge=>?_)
 ·have hja:j<a.length:=by omega
  obtain⟨R,hjR,hR,hR'⟩:=ZfC Zha Q4 (fun l=>[Tr.sl (rI l)]) (k:=k) hja
  have hge2:=ZhX Q4 (a:=a) (k:=k) (j:=j+1)
  rw[Vz Q4 hja] at hge2
  have hge3:=ZhY Q4 (a:=a) (k:=k) (j:=j)
  rw[hR]
  try simp only[Q4] at hge2
  have hb:=hB _ (List.getElem_mem hja)
  have b0:(a[j]).length<=4294967296:=hb
  try simp only[ZD hne,JE hne,Ju,Yu,hst,hgp,V0 hjR,Qx hv hjR,Nat.zero_add,hja,ZM hne,List.length_map,tv,EVA,seval,Zd,men]
  simp only[Zcy]
  refine Zj9 Zav hid hv (by omega) (by omega) b0 (fun _ _=>trivial) hjR rfl (by simp only[List.length_map]) ?_
  simp only[List.set_cons_succ,List.set_cons_zero,ZD hne,JE hne,Ju,Yu,hst,hgp,V0 hjR,Qx hv hjR,Nat.zero_add,hja,ZM hne,List.length_map,tv,EVA,seval,Zd,men]
  refine⟨by rw[Ze];omega,Zf () hja ?_ trivial⟩
  rw[Vz Q4 hja,hR']
  simp only[Q4,Zha,tv,Int.natCast_add,Int.natCast_one,Int.add_assoc]
  try rfl
 ·have:j=a.length:=by omega
  subst this
  rw[Zdf,ZfB]
  exact⟨rfl,rfl⟩
def Zd6(x:TControl)(k:Int):TControl:={ name:=ZmY (k),ports:=k+1,kind_:=k+1+1 }
def JU(x:TControl):Nat:=1+1+1
theorem Dl:MarkS Proofs.Tryz.prog JI Zj Zd6 JU (ZC 4294967296):=by
 intro a k lvl S id p es r0 kk hw ver st cap hid hv hst h0 hk hl hB
 have hne:id.1≠lvl:=by omega
 have hgp:∀ r,getp (Uz es p r) p=some r:=fun r=>Xv hv
 refine Zc Zbo trivial ?_
 simp only[WU,EVA,seval,Zd,men]
 refine ZP (α:=Unit) a.length (fun j _=>⟨lvl,[(0,.hd id p 0 a.length cap st),(1,iI (kJ JU a k j)),(5,iI j)],[],ZK S id (.ar kk (Uz es p ((lJ Zd6 JU a k j).map Zj)) true hw ver)⟩) (fun _ _=>True) () ⟨by simp only[ZM hne,EVA,seval,Zd,men],by (simp only[Zac,ZcM,EVA,seval,Zd,men]) <;> rfl⟩ trivial ?_
 intro j _ hj _
 simp only[List.length_map,EVA,seval,Zd,men]
 refine Zn (fun hlt=>?_) (fun hge=>?_)
 ·have hja:j<a.length:=by omega
  obtain⟨R,hjR,hR,hR'⟩:=ZfC Zd6 JU Zj (k:=k) hja
  have hge2:=ZhX JU (a:=a) (k:=k) (j:=j+1)
  rw[Vz JU hja] at hge2
  have hge3:=ZhY JU (a:=a) (k:=k) (j:=j)
  rw[hR]
  try simp only[JU] at hge2
  have hb:=hB _ (List.getElem_mem hja)
  have b0:(a[j]).name.size<=4294967296:=hb
  try simp only[ZD hne,JE hne,Ju,Yu,hst,hgp,V0 hjR,Qx hv hjR,Nat.zero_add,hja,ZM hne,List.length_map,Zj,EVA,seval,Zd,men]
  refine Zb (Zau (kJ JU a k j) (by omega)) ?_
  simp only[ZD hne,JE hne,Ju,Yu,hst,hgp,V0 hjR,Qx hv hjR,Nat.zero_add,hja,ZM hne,List.length_map,Zj,EVA,seval,Zd,men]
  refine⟨by rw[Ze];omega,⟨by rw[Ze];omega,⟨by rw[Ze];omega,⟨by rw[Ze];omega,Zf () hja ?_ trivial⟩⟩⟩⟩
  rw[Vz JU hja,hR']
  simp only[JU,Zd6,Zj,Int.natCast_add,Int.natCast_one,Int.add_assoc]
  try rfl
 ·have:j=a.length:=by omega
  subst this
  rw[Zdf,ZfB]
  exact⟨rfl,rfl⟩
end Go.Fd

/-
  The annotated codes of the functions, printed by a program of mine (gen.py), and the check that they belong to the program.
-/
namespace Go.Fd
def DD:F2 :=
 { nt:=30,res:=[.t 4 [0]],body:=(.sq (rg [oo 2 (.bt (.t 0)),om 4 (i6 0)]) (.sq (rg [qF 5 1 2,qL 6 5,qM 7 1,oo 8 (.ca .pure false (.f XI) [.t 6,.t 7]),qM 1 8]) (.sq (.sq (rg [qM 9 1,oo 10 (.bi .lss 0 (.t 9) (i6 0))]) (.cd (.t 10) (.sq (rg [om 4 (i6 (-1))]) (.rt)) (.sk))) (.sq (rg [qF 11 2 2,qL 12 11,qM 13 1,oo 14 (.ca .pure false (.f QA) [.t 12,.t 13]),qM 1 14]) (.sq (.sq (rg [qM 15 1,oo 16 (.bi .lss 0 (.t 15) (i6 0))]) (.cd (.t 16) (.sq (rg [om 4 (i6 (-1))]) (.rt)) (.sk))) (.sq (rg [qF 17 4 2,qL 18 17,qM 19 1,oo 20 (.ca .pure false (.f QB) [.t 18,.t 19]),qM 1 20]) (.sq (.sq (rg [qM 21 1,oo 22 (.bi .lss 0 (.t 21) (i6 0))]) (.cd (.t 22) (.sq (rg [om 4 (i6 (-1))]) (.rt)) (.sk))) (.sq (rg [qF 23 5 2,qL 24 23,qM 25 1,oo 26 (.ca .pure false (.f XJ) [.t 24,.t 25]),qM 1 26]) (.sq (.sq (rg [qM 27 1,oo 28 (.bi .lss 0 (.t 27) (i6 0))]) (.cd (.t 28) (.sq (rg [om 4 (i6 (-1))]) (.rt)) (.sk))) (.sq (rg [qM 29 1,qM 4 29]) (.rt))))))))))) }
theorem ZdI:ZT Proofs.Tryz.prog ZY DD=true:=by kernel_rfl
def UW:F2 :=
 { nt:=23,res:=[.t 2 [4]],body:=(.sq (rg [om 2 (.k (.slice none 0 0))]) (.sq (rg [qM 5 0,qN 6 5,oo 7 (.ms 3 [.string ⟨#[]⟩,.int .i64 0,.int .i64 0] (.t 6)),qM 3 7]) (.sq (.sq (rg [om 4 (i6 0)]) (.bl 0 (.lp [0,3,4] [224] (.sq (.sq (rg [qM 8 4,qM 9 0,qN 10 9,qB 11 .lss 8 10]) (.cd (.t 11) (.sk) (.ex 0))) (.sq (.bl 1 (rg [qM 14 3,qM 15 4,qM 16 0,qM 17 4,qI 18 3 16 17,qS 19 3 18,oo 20 (.ca .pure true (.f QC) [.t 19]),qI 21 3 14 15,on1 (.st 3 (.t 21) (.t 20))]))
 (rg [qM 12 4,oo 13 (.bi .add 0 (.t 12) (i6 1)),qM 4 13])))))) (.sq (rg [qM 22 3,qM 2 22]) (.rt))))) }
theorem Zc9:ZT Proofs.Tryz.prog Zs UW=true:=by kernel_rfl
def DE:F2 :=
 { nt:=27,res:=[.c 2 (some 6) [0,4,2,0,2,3]],body:=(.sq (rg [oo 1 (.bt (.t 0)),oo 2 (.al [.int .i64 0,.slice none 0 0,.slice none 0 0,.int .i64 0,.slice none 0 0,.slice none 0 0] [])]) (.sq (rg [oo 3 (.al [.int .i64 0,.slice none 0 0,.slice none 0 0,.int .i64 0,.slice none 0 0,.slice none 0 0] [])]) (.sq (rg [qF 4 0 1,qL 5 4,qF 6 0 3,on1 (.st 1 (.t 6) (.t 5))]) (.sq (rg [qF 7 1 1,qL 8 7,oo 9 (.ca .pure true (.f XK) [.t 8]),qF 10 1 3,on1 (.st 1 (.t 10) (.t 9))]) (.sq (rg [qF 11 2 1,qL 12 11,oo 13 (.ca .pure true (.f QD) [.t 12]),qF 14 2 3,on1 (.st 1 (.t 14) (.t 13))]) (.sq (rg [qF 15 3 1,qL 16 15,qF 17 3 3,on1 (.st 1 (.t 17) (.t 16))]) (.sq (rg [qF 18 4 1,qL 19 18,oo 20 (.ca .pure true (.f QE) [.t 19]),qF 21 4 3,on1 (.st 1 (.t 21) (.t 20))]) (.sq (rg [qF 22 5 1,qL 23 22,oo 24 (.ca .pure true (.f XL) [.t 23]),qF 25 5 3,on1 (.st 1 (.t 25) (.t 24))]) (.sq (rg [qS 26 6 3,on1 (.st 6 (.t 2) (.t 26))]) (.rt)))))))))) }
theorem ZdJ:ZT Proofs.Tryz.prog Zl DE=true:=by kernel_rfl
def DF:F2 :=
 { nt:=39,res:=[.t 4 [0]],body:=(.sq (rg [oo 2 (.bt (.t 0)),oo 3 (.bt (.t 1)),om 4 (.k (.bool false))]) (.sq (.sq (rg [qF 5 0 2,qL 6 5,qF 7 0 3,qL 8 7,qB 9 .neq 6 8]) (.cd (.t 9) (.sq (rg [om 4 (.k (.bool false))]) (.rt)) (.sk))) (.sq (.sq (rg [qF 10 1 2,qL 11 10,qF 12 1 3,qL 13 12,oo 14 (.ca .pure false (.f XM) [.t 11,.t 13]),oo 15 (.nt (.t 14))]) (.cd (.t 15) (.sq (rg [om 4 (.k (.bool false))]) (.rt)) (.sk))) (.sq (.sq (rg [qF 16 2 2,qL 17 16,qF 18 2 3,qL 19 18,oo 20 (.ca .pure false (.f Z2) [.t 17,.t 19]),oo 21 (.nt (.t 20))]) (.cd (.t 21) (.sq (rg [om 4 (.k (.bool false))]) (.rt)) (.sk))) (.sq (.sq (rg [qF 22 3 2,qL 23 22,qF 24 3 3,qL 25 24,qB 26 .neq 23 25]) (.cd (.t 26) (.sq (rg [om 4 (.k (.bool false))]) (.rt)) (.sk))) (.sq (.sq (rg [qF 27 4 2,qL 28 27,qF 29 4 3,qL 30 29,oo 31 (.ca .pure false (.f QG) [.t 28,.t 30]),oo 32 (.nt (.t 31))]) (.cd (.t 32) (.sq (rg [om 4 (.k (.bool false))]) (.rt)) (.sk))) (.sq (.sq (rg [qF 33 5 2,qL 34 33,qF 35 5 3,qL 36 35,oo 37 (.ca .pure false (.f XN) [.t 34,.t 36]),oo 38 (.nt (.t 37))]) (.cd (.t 38) (.sq (rg [om 4 (.k (.bool false))]) (.rt)) (.sk))) (.sq (rg [om 4 (.k (.bool true))]) (.rt))))))))) }
theorem ZdK:ZT Proofs.Tryz.prog ZZ DF=true:=by kernel_rfl
def Ux:F2 :=
 { nt:=27,res:=[.t 4 [0]],body:=(.sq (rg [om 4 (.k (.bool false))]) (.sq (.sq (rg [qM 6 0,qN 7 6,qM 8 1,qN 9 8,qB 10 .neq 7 9]) (.cd (.t 10) (.sq (rg [om 4 (.k (.bool false))]) (.rt)) (.sk))) (.sq (.sq (rg [om 5 (i6 0)]) (.bl 0 (.lp [0,1,5] [] (.sq (.sq (rg [qM 11 5,qM 12 0,qN 13 12,qB 14 .lss 11 13]) (.cd (.t 14) (.sk) (.ex 0))) (.sq (.bl 1 (.sq (.rg (some 0) [qM 17 0,qM 18 5,qI 19 1 17 18,qL 20 19,qM 21 1,qM 22 5,qI 23 1 21 22,qL 24 23,oo 25 (.ca .pure false (.f Z2) [.t 20,.t 24]),oo 26 (.nt (.t 25))]) (.cd (.t 26) (.sq (rg [om 4 (.k (.bool false))]) (.rt)) (.sk))))
 (rg [qM 15 5,oo 16 (.bi .add 0 (.t 15) (i6 1)),qM 5 16])))))) (.sq (rg [om 4 (.k (.bool true))]) (.rt))))) }
theorem Zfl:ZT Proofs.Tryz.prog YM Ux=true:=by kernel_rfl
def DG:F2 :=
 { nt:=13,res:=[.t 4 [0]],body:=(.sq (rg [oo 2 (.bt (.t 0)),om 4 (i6 0)]) (.sq (rg [qM 5 1,qF 6 0 2,qL 7 6,oo 8 (.lg (.t 7)),qB 9 .sub 5 8,qM 1 9]) (.sq (.sq (rg [qM 10 1,oo 11 (.bi .lss 0 (.t 10) (i6 0))]) (.cd (.t 11) (.sq (rg [om 4 (i6 (-1))]) (.rt)) (.sk))) (.sq (rg [qM 12 1,qM 4 12]) (.rt))))) }
theorem ZdL:ZT Proofs.Tryz.prog Qz DG=true:=by kernel_rfl
def DH:F2 :=
 { nt:=14,res:=[.c 2 (some 3) [0,0,0]],body:=(.sq (rg [oo 1 (.bt (.t 0)),oo 2 (.al [.string ⟨#[]⟩,.int .i64 0,.int .i64 0] [])]) (.sq (rg [oo 3 (.al [.string ⟨#[]⟩,.int .i64 0,.int .i64 0] [])]) (.sq (rg [qF 4 0 1,qL 5 4,qF 6 0 3,on1 (.st 1 (.t 6) (.t 5))]) (.sq (rg [qF 7 1 1,qL 8 7,qF 9 1 3,on1 (.st 1 (.t 9) (.t 8))]) (.sq (rg [qF 10 2 1,qL 11 10,qF 12 2 3,on1 (.st 1 (.t 12) (.t 11))]) (.sq (rg [qS 13 3 3,on1 (.st 3 (.t 2) (.t 13))]) (.rt))))))) }
theorem ZdM:ZT Proofs.Tryz.prog QC DH=true:=by kernel_rfl
def Za7:F2 :=
 { nt:=23,res:=[.t 2 [4]],body:=(.sq (rg [om 2 (.k (.slice none 0 0))]) (.sq (rg [qM 5 0,qN 6 5,oo 7 (.ms 3 [.int .i64 0,.int .i64 0,.slice none 0 0] (.t 6)),qM 3 7]) (.sq (.sq (rg [om 4 (i6 0)]) (.bl 0 (.lp [0,3,4] [224,640] (.sq (.sq (rg [qM 8 4,qM 9 0,qN 10 9,qB 11 .lss 8 10]) (.cd (.t 11) (.sk) (.ex 0))) (.sq (.bl 1 (rg [qM 14 3,qM 15 4,qM 16 0,qM 17 4,qI 18 3 16 17,qS 19 3 18,oo 20 (.ca .pure true (.f Wy) [.t 19]),qI 21 3 14 15,on1 (.st 3 (.t 21) (.t 20))]))
 (rg [qM 12 4,oo 13 (.bi .add 0 (.t 12) (i6 1)),qM 4 13])))))) (.sq (rg [qM 22 3,qM 2 22]) (.rt))))) }
theorem Zfm:ZT Proofs.Tryz.prog XK Za7=true:=by kernel_rfl
def Za8:F2 :=
 { nt:=23,res:=[.t 2 [3]],body:=(.sq (rg [om 2 (.k (.slice none 0 0))]) (.sq (rg [qM 5 0,qN 6 5,oo 7 (.ms 2 [.string ⟨#[]⟩,.int .i64 0] (.t 6)),qM 3 7]) (.sq (.sq (rg [om 4 (i6 0)]) (.bl 0 (.lp [0,3,4] [224] (.sq (.sq (rg [qM 8 4,qM 9 0,qN 10 9,qB 11 .lss 8 10]) (.cd (.t 11) (.sk) (.ex 0))) (.sq (.bl 1 (rg [qM 14 3,qM 15 4,qM 16 0,qM 17 4,qI 18 2 16 17,qS 19 2 18,oo 20 (.ca .pure true (.f Wz) [.t 19]),qI 21 2 14 15,on1 (.st 2 (.t 21) (.t 20))]))
 (rg [qM 12 4,oo 13 (.bi .add 0 (.t 12) (i6 1)),qM 4 13])))))) (.sq (rg [qM 22 3,qM 2 22]) (.rt))))) }
theorem Zfn:ZT Proofs.Tryz.prog XL Za8=true:=by kernel_rfl
def DI:F2 :=
 { nt:=20,res:=[.t 4 [0]],body:=(.sq (rg [oo 2 (.bt (.t 0)),oo 3 (.bt (.t 1)),om 4 (.k (.bool false))]) (.sq (.sq (rg [qF 5 0 2,qL 6 5,qF 7 0 3,qL 8 7,qB 9 .neq 6 8]) (.cd (.t 9) (.sq (rg [om 4 (.k (.bool false))]) (.rt)) (.sk))) (.sq (.sq (rg [qF 10 1 2,qL 11 10,qF 12 1 3,qL 13 12,qB 14 .neq 11 13]) (.cd (.t 14) (.sq (rg [om 4 (.k (.bool false))]) (.rt)) (.sk))) (.sq (.sq (rg [qF 15 2 2,qL 16 15,qF 17 2 3,qL 18 17,qB 19 .neq 16 18]) (.cd (.t 19) (.sq (rg [om 4 (.k (.bool false))]) (.rt)) (.sk))) (.sq (rg [om 4 (.k (.bool true))]) (.rt)))))) }
theorem ZdN:ZT Proofs.Tryz.prog QF DI=true:=by kernel_rfl
def Zco:F2 :=
 { nt:=12,res:=[.t 4 [0]],body:=(.sq (rg [oo 2 (.bt (.t 0)),om 4 (i6 0)]) (.sq (rg [qF 5 2 2,qL 6 5,qM 7 1,oo 8 (.ca .pure false (.f QA) [.t 6,.t 7]),qM 1 8]) (.sq (.sq (rg [qM 9 1,oo 10 (.bi .lss 0 (.t 9) (i6 0))]) (.cd (.t 10) (.sq (rg [om 4 (i6 (-1))]) (.rt)) (.sk))) (.sq (rg [qM 11 1,qM 4 11]) (.rt))))) }
theorem Zhb:ZT Proofs.Tryz.prog Wv Zco=true:=by kernel_rfl
def Zcp:F2 :=
 { nt:=13,res:=[.t 4 [0]],body:=(.sq (rg [oo 2 (.bt (.t 0)),om 4 (i6 0)]) (.sq (rg [qM 5 1,qF 6 0 2,qL 7 6,oo 8 (.lg (.t 7)),qB 9 .sub 5 8,qM 1 9]) (.sq (.sq (rg [qM 10 1,oo 11 (.bi .lss 0 (.t 10) (i6 0))]) (.cd (.t 11) (.sq (rg [om 4 (i6 (-1))]) (.rt)) (.sk))) (.sq (rg [qM 12 1,qM 4 12]) (.rt))))) }
theorem Zhc:ZT Proofs.Tryz.prog Ww Zcp=true:=by kernel_rfl
def Zcq:F2 :=
 { nt:=15,res:=[.c 2 (some 3) [0,0,2]],body:=(.sq (rg [oo 1 (.bt (.t 0)),oo 2 (.al [.int .i64 0,.int .i64 0,.slice none 0 0] [])]) (.sq (rg [oo 3 (.al [.int .i64 0,.int .i64 0,.slice none 0 0] [])]) (.sq (rg [qF 4 0 1,qL 5 4,qF 6 0 3,on1 (.st 1 (.t 6) (.t 5))]) (.sq (rg [qF 7 1 1,qL 8 7,qF 9 1 3,on1 (.st 1 (.t 9) (.t 8))]) (.sq (rg [qF 10 2 1,qL 11 10,oo 12 (.ca .pure true (.f QD) [.t 11]),qF 13 2 3,on1 (.st 1 (.t 13) (.t 12))]) (.sq (rg [qS 14 3 3,on1 (.st 3 (.t 2) (.t 14))]) (.rt))))))) }
theorem Zhd:ZT Proofs.Tryz.prog Wy Zcq=true:=by kernel_rfl
def Zcr:F2 :=
 { nt:=11,res:=[.c 2 (some 2) [0,0]],body:=(.sq (rg [oo 1 (.bt (.t 0)),oo 2 (.al [.string ⟨#[]⟩,.int .i64 0] [])]) (.sq (rg [oo 3 (.al [.string ⟨#[]⟩,.int .i64 0] [])]) (.sq (rg [qF 4 0 1,qL 5 4,qF 6 0 3,on1 (.st 1 (.t 6) (.t 5))]) (.sq (rg [qF 7 1 1,qL 8 7,qF 9 1 3,on1 (.st 1 (.t 9) (.t 8))]) (.sq (rg [qS 10 2 3,on1 (.st 2 (.t 2) (.t 10))]) (.rt)))))) }
theorem Zhe:ZT Proofs.Tryz.prog Wz Zcr=true:=by kernel_rfl
def Zcs:F2 :=
 { nt:=21,res:=[.t 4 [0]],body:=(.sq (rg [oo 2 (.bt (.t 0)),oo 3 (.bt (.t 1)),om 4 (.k (.bool false))]) (.sq (.sq (rg [qF 5 0 2,qL 6 5,qF 7 0 3,qL 8 7,qB 9 .neq 6 8]) (.cd (.t 9) (.sq (rg [om 4 (.k (.bool false))]) (.rt)) (.sk))) (.sq (.sq (rg [qF 10 1 2,qL 11 10,qF 12 1 3,qL 13 12,qB 14 .neq 11 13]) (.cd (.t 14) (.sq (rg [om 4 (.k (.bool false))]) (.rt)) (.sk))) (.sq (.sq (rg [qF 15 2 2,qL 16 15,qF 17 2 3,qL 18 17,oo 19 (.ca .pure false (.f Z2) [.t 16,.t 18]),oo 20 (.nt (.t 19))]) (.cd (.t 20) (.sq (rg [om 4 (.k (.bool false))]) (.rt)) (.sk))) (.sq (rg [om 4 (.k (.bool true))]) (.rt)))))) }
theorem Zhf:ZT Proofs.Tryz.prog WA Zcs=true:=by kernel_rfl
def Zct:F2 :=
 { nt:=15,res:=[.t 4 [0]],body:=(.sq (rg [oo 2 (.bt (.t 0)),oo 3 (.bt (.t 1)),om 4 (.k (.bool false))]) (.sq (.sq (rg [qF 5 0 2,qL 6 5,qF 7 0 3,qL 8 7,qB 9 .neq 6 8]) (.cd (.t 9) (.sq (rg [om 4 (.k (.bool false))]) (.rt)) (.sk))) (.sq (.sq (rg [qF 10 1 2,qL 11 10,qF 12 1 3,qL 13 12,qB 14 .neq 11 13]) (.cd (.t 14) (.sq (rg [om 4 (.k (.bool false))]) (.rt)) (.sk))) (.sq (rg [om 4 (.k (.bool true))]) (.rt))))) }
theorem Zhg:ZT Proofs.Tryz.prog WB Zct=true:=by kernel_rfl
end Go.Fd

/-
  MARKING STRUCTS; WHETHER MARKS ARE HELD (printed by lawgen.py). Own work.
-/
namespace Go.Fd
set_option maxRecDepth 20000
def Vt(x:TBigraph):Nat:=nL XE x.nodes+nL WV x.sites+nL Zg9 x.outer+nL DT x.inner
theorem ZeX(x:TBigraph)(k:Int)(lvl:Nat)(S:Sto)(i1 i2 i3 i4:Oid)(k1 h1 v1 k2 h2 v2 k3 h3 v3 k4 h4 v4:Nat)(c1 c2 c3 c4:Option Nat)(l1:i1.1<lvl)(l2:i2.1<lvl)(l3:i3.1<lvl)(l4:i4.1<lvl)(n2_1:i2≠i1)(n3_1:i3≠i1)(n3_2:i3≠i2)(n4_1:i4≠i1)(n4_2:i4≠i2)(n4_3:i4≠i3)(s1:S i1=some (.ar k1 (x.nodes.map ZG) true h1 v1))(s2:S i2=some (.ar k2 (rI x.sites) true h2 v2))(s3:S i3=some (.ar k3 (rS x.outer) true h3 v3))(s4:S i4=some (.ar k4 (x.inner.map ZX) true h4 v4))(h0:0<=k)(hk:k+Vt x<=4611686018427387904)(hb:Zw 4294967296 x) :
  Sem Proofs.Tryz.prog Ja lvl [.ag [iI x.roots,.hd i1 [] 0 x.nodes.length c1 h1,.hd i2 [] 0 x.sites.length c2 h2,iI x.edges,.hd i3 [] 0 x.outer.length c3 h3,.hd i4 [] 0 x.inner.length c4 h4],iI k] S (iI (k+Vt x)) (ZK (ZK (ZK (ZK S i1 (.ar k1 (((mL Zju XE x.nodes (k))).map ZG) true h1 v1)) i2 (.ar k2 (rI (mL Zjt WV x.sites (k+(nL XE x.nodes:Nat)))) true h2 v2)) i3 (.ar k3 (rS (mL Zna Zg9 x.outer (k+(nL XE x.nodes:Nat)+(nL WV x.sites:Nat)))) true h3 v3)) i4 (.ar k4 (((mL Zjv DT x.inner (k+(nL XE x.nodes:Nat)+(nL WV x.sites:Nat)+(nL Zg9 x.outer:Nat)))).map ZX) true h4 v4)):=by
 obtain⟨b0,b1,b2,b3,b4,b5,b6⟩:=hb
 have e1:i1.1≠lvl:=by omega
 have e2:i2.1≠lvl:=by omega
 have e3:i3.1≠lvl:=by omega
 have e4:i4.1≠lvl:=by omega
 simp only[Vt] at hk
 refine Zc Zcm trivial ?_
 simp only[Ui,ZM e1,ZM e2,ZM e3,ZM e4,EVA,seval,Zd,men]
 simp only[Zcy]
 refine ZbL Zk8 l1 s1 (by omega) (by omega) b0 b1 ?_
 simp only[ZM e1,ZM e2,ZM e3,ZM e4,EVA,seval,Zd,men]
 simp only[Zcy]
 refine ZbL Zav l2 (by rw[Zc4 n2_1];exact s2) (by omega) (by omega) b2 (fun _ _=>trivial) ?_
 simp only[ZM e1,ZM e2,ZM e3,ZM e4,EVA,seval,Zd,men]
 simp only[Zcy]
 refine ZbL ZiF l3 (by rw[Zc4 n3_2,Zc4 n3_1];exact s3) (by omega) (by omega) b3 b4 ?_
 simp only[ZM e1,ZM e2,ZM e3,ZM e4,EVA,seval,Zd,men]
 simp only[Zcy]
 refine ZbL Zk9 l4 (by rw[Zc4 n4_3,Zc4 n4_2,Zc4 n4_1];exact s4) (by omega) (by omega) b5 b6 ?_
 simp only[ZM e1,ZM e2,ZM e3,ZM e4,EVA,seval,Zd,men]
 simp only[Vt,Int.natCast_add,<-Int.add_assoc]
 try exact⟨rfl,rfl⟩
theorem Q5{x:TBigraph}{k:Int}{lvl a1 a2 a3 a4:Nat}{out:Sto}{k1 h1 v1 k2 h2 v2 k3 h3 v3 k4 h4 v4:Nat}{c1 c2 c3 c4:Option Nat}{env:List (Nat×IV)}{loc:List (Nat×Ob)}{d:Option Nat}{K:St->Prop}(n2_1:a2≠a1)(n3_1:a3≠a1)(n3_2:a3≠a2)(n4_1:a4≠a1)(n4_2:a4≠a2)(n4_3:a4≠a3)(s1:lkO a1 loc=some (.ar k1 (x.nodes.map ZG) true h1 v1))(s2:lkO a2 loc=some (.ar k2 (rI x.sites) true h2 v2))(s3:lkO a3 loc=some (.ar k3 (rS x.outer) true h3 v3))(s4:lkO a4 loc=some (.ar k4 (x.inner.map ZX) true h4 v4))(h0:0<=k)(hk:k+Vt x<=4611686018427387904)(hb:Zw 4294967296 x)
  (hK:K ⟨lvl,ptd d (iI (k+Vt x)) env,(ptO a4 (.ar k4 (((mL Zjv DT x.inner (k+(nL XE x.nodes:Nat)+(nL WV x.sites:Nat)+(nL Zg9 x.outer:Nat)))).map ZX) true h4 v4) (ptO a3 (.ar k3 (rS (mL Zna Zg9 x.outer (k+(nL XE x.nodes:Nat)+(nL WV x.sites:Nat)))) true h3 v3) (ptO a2 (.ar k2 (rI (mL Zjt WV x.sites (k+(nL XE x.nodes:Nat)))) true h2 v2) (ptO a1 (.ar k1 (((mL Zju XE x.nodes (k))).map ZG) true h1 v1) loc)))),out⟩) :
  kcy (Sem Proofs.Tryz.prog) Ja true lvl env loc out d K [.ag [iI x.roots,.hd (lvl,a1) [] 0 x.nodes.length c1 h1,.hd (lvl,a2) [] 0 x.sites.length c2 h2,iI x.edges,.hd (lvl,a3) [] 0 x.outer.length c3 h3,.hd (lvl,a4) [] 0 x.inner.length c4 h4],iI k]:=by
 refine YK (r:=iI (k+Vt x)) (ptO a4 (.ar k4 (((mL Zjv DT x.inner (k+(nL XE x.nodes:Nat)+(nL WV x.sites:Nat)+(nL Zg9 x.outer:Nat)))).map ZX) true h4 v4) (ptO a3 (.ar k3 (rS (mL Zna Zg9 x.outer (k+(nL XE x.nodes:Nat)+(nL WV x.sites:Nat)))) true h3 v3) (ptO a2 (.ar k2 (rI (mL Zjt WV x.sites (k+(nL XE x.nodes:Nat)))) true h2 v2) (ptO a1 (.ar k1 (((mL Zju XE x.nodes (k))).map ZG) true h1 v1) loc)))) out (fun _ _=>rfl) ?_ ⟨trivial,hK⟩
 rw[VN,VN,VN,VN]
 exact ZeX x k (lvl+1) _ (lvl,a1) (lvl,a2) (lvl,a3) (lvl,a4) k1 h1 v1 k2 h2 v2 k3 h3 v3 k4 h4 v4 c1 c2 c3 c4 (Nat.lt_succ_self _) (Nat.lt_succ_self _) (Nat.lt_succ_self _) (Nat.lt_succ_self _) (fun e=>n2_1 (congrArg Prod.snd e)) (fun e=>n3_1 (congrArg Prod.snd e)) (fun e=>n3_2 (congrArg Prod.snd e)) (fun e=>n4_1 (congrArg Prod.snd e)) (fun e=>n4_2 (congrArg Prod.snd e)) (fun e=>n4_3 (congrArg Prod.snd e)) (by rw[JV];exact s1) (by rw[JV];exact s2) (by rw[JV];exact s3) (by rw[JV];exact s4) h0 hk hb
theorem Zaw(a:List Int)(k:Int)(hl:a.length<=4294967296)(h0:0<=k)(hk:k+nL WV a<=4611686018427387904)(lvl:Nat)(S:Sto):Sem Proofs.Tryz.prog JA lvl [.tr (.sl (rI (mL Zjt WV a k))),iI k] S (iI (k+nL WV a)) S:=by
 refine Zc ZeV trivial ?_
 simp only[Zas,EVA,seval,Zd,men]
 refine ZP (α:=Unit) a.length (fun j _=>⟨lvl,[(0,.tr (.sl (rI (mL Zjt WV a k)))),(1,iI (kJ WV a k j)),(5,iI j)],[],S⟩) (fun _ _=>True) () ⟨by simp only[EVA,seval,Zd,men],by (simp only[Zac,EVA,seval,Zd,men]) <;> rfl⟩ trivial ?_
 intro j _ hj _
 simp only[List.length_map,Zg,EVA,seval,Zd,men]
 refine Zn (fun hlt=>?_) (fun hge=>?_)
 ·have hja:j<a.length:=by omega
  have ga:=Zpl (c:=(fun n:Int=>[tv n])) (m:=Zjt) (n:=WV) (k:=k) hja
  have hge2:=ZhX WV (a:=a) (k:=k) (j:=j+1)
  rw[Vz WV hja] at hge2
  have hge3:=ZhY WV (a:=a) (k:=k) (j:=j)
  try simp only[WV] at hge2
  simp only[ga,Zjt,Zna,Nat.zero_add,hja,ne_eq,not_true_eq_false,EVA,seval,Zd,men]
  refine⟨by rw[Ze];omega,⟨by rw[Ze];omega,Zf () hja ?_ trivial⟩⟩
  rw[Vz WV hja]
  simp only[WV,Int.natCast_add,Int.natCast_one,Int.add_assoc]
  try rfl
 ·have:j=a.length:=by omega
  subst this
  rw[Zdf]
theorem ZfV(a:List (List Int))(k:Int)(hl:a.length<=4294967296)(hB:∀ x∈a,(fun x=>x.length<=4294967296) x)(h0:0<=k)(hk:k+nL Q4 a<=4611686018427387904)(lvl:Nat)(S:Sto):Sem Proofs.Tryz.prog Y1 lvl [.tr (.sl (((mL Zha Q4 a k)).map (fun l=>[Tr.sl (rI l)]))),iI k] S (iI (k+nL Q4 a)) S:=by
 refine Zc ZdF trivial ?_
 simp only[DA,EVA,seval,Zd,men]
 refine ZP (α:=Unit) a.length (fun j _=>⟨lvl,[(0,.tr (.sl (((mL Zha Q4 a k)).map (fun l=>[Tr.sl (rI l)])))),(1,iI (kJ Q4 a k j)),(5,iI j)],[],S⟩) (fun _ _=>True) () ⟨by simp only[EVA,seval,Zd,men],by (simp only[Zac,EVA,seval,Zd,men]) <;> rfl⟩ trivial ?_
 intro j _ hj _
 simp only[List.length_map,Zg,EVA,seval,Zd,men]
 refine Zn (fun hlt=>?_) (fun hge=>?_)
 ·have hja:j<a.length:=by omega
  have ga:=Zpl (c:=(fun l=>[Tr.sl (rI l)])) (m:=Zha) (n:=Q4) (k:=k) hja
  have hge2:=ZhX Q4 (a:=a) (k:=k) (j:=j+1)
  rw[Vz Q4 hja] at hge2
  have hge3:=ZhY Q4 (a:=a) (k:=k) (j:=j)
  try simp only[Q4] at hge2
  have hb:=hB _ (List.getElem_mem hja)
  simp only[ga,Zha,Zjt,Zna,Nat.zero_add,hja,ne_eq,not_true_eq_false,EVA,seval,Zd,men]
  refine Zb (Zaw (a[j]) (kJ Q4 a k j) hb (by omega) (by omega)) ?_
  have hz0:¬ (kJ Q4 a k j+(nL WV (a[j]):Nat)<0):=by omega
  simp only[ga,Zha,Zjt,Zna,Nat.zero_add,hja,ne_eq,not_true_eq_false,hz0,EVA,seval,Zd,men]
  refine⟨by rw[Ze];omega,Zf () hja ?_ trivial⟩
  rw[Vz Q4 hja]
  simp only[Q4,Int.natCast_add,Int.natCast_one,Int.add_assoc]
  try rfl
 ·have:j=a.length:=by omega
  subst this
  rw[Zdf]
end Go.Fd

/-
  HOW MANY MARKS A THING TAKES, AGAINST ITS SIZE (printed by lawgen.py). Own work.
-/
namespace Go.Fd
theorem ZuC(x:TNode):Zq 256 (fun l=>Dt x l) (XE x):=ZbN (Zje (by omega) (by omega) (Zzf WV (fun _=>(by decide:1<=256)) x.links) ZnV) (by simp only[XE];omega)
theorem ZuD(x:TWire):Zq 256 (fun l=>Du x l) (DT x):=ZbN (Zje (by omega) (by omega) (Zo4 x.name.size) ZnV) (by simp only[DT];omega)
theorem Zcu(x:TBigraph):Zq 0 (fun l=>YL x l) (Vt x):=ZbN (Zje (by omega) (by omega) (Zrp (n:=XE) (fun y=>ZbN (ZuC y) (by omega)) x.nodes) (Zje (by omega) (by omega) (Zzf WV (fun _=>(by decide:1<=256)) x.sites) (Zje (by omega) (by omega) (Zrp (n:=Zg9) (fun y=>ZqH y.size) x.outer) (Zje (by omega) (by omega) (Zrp (n:=DT) (fun y=>ZbN (ZuD y) (by omega)) x.inner) ZnV)))) (by simp only[Vt];omega)
theorem ZeY(x:TControl):Zq 256 (fun l=>ZE x l) (JU x):=ZbN (Zje (by omega) (by omega) (Zo4 x.name.size) ZnV) (by simp only[JU];omega)
end Go.Fd

/-
  WHAT HOLDS OF THE HELPERS OF THE LAWS (printed by lawgen.py). Own work.
-/
namespace Go.Fd
set_option maxRecDepth 20000
theorem ZuE{n:Nat}{l:Int}(h:0<=l):szN n l<=l:=by unfold szN;split <;> omega
theorem Zpo{α:Type}{f:α->Int->Int}:∀(a:List α) (l:Int),(∀ x∈a,∀ l:Int,0<=l->l<=1048576->f x l<=l)->0<=l->l<=1048576->szF f a l<=l
 | [],l,_,_,_=>Int.le_refl l
 | x::r,l,hf,h0,h1=>by
  simp only[szF]
  have:=hf x (by simp) l h0 h1
  split
  ·omega
  ·have h2:=Zpo r (f x l) (fun y hy=>hf y (by simp [hy])) (by omega) (by omega)
   omega
theorem ZkA{α:Type}{f:α->Int->Int}(a:List α){l:Int}(hf:∀ x∈a,∀ l:Int,0<=l->l<=1048576->f x l<=l)(h0:0<=l)(h1:l<=1048576):szL f a l<=l:=by
 unfold szL
 split
 ·omega
 ·have:=Zpo a (l-a.length) hf (by omega) (by omega)
  omega
theorem Zbp{l m:Int}{g:Int->Int}(h0:0<=l)(h:m<=l)(hg:0<=m->g m<=m):ZbM m g<=l:=by
 unfold ZbM
 split
 ·omega
 ·have:=hg (by omega)
  omega
theorem ZoE:ZT Proofs.Tryz.prog QA sz0=true:=by kernel_rfl
theorem ZaP(a:List Int)(hl:a.length<=9223372036854775807)(l:Int)(h0:0<=l)(h1:l<=1048576):szN a.length l<=l/\∀ lvl S,Sem Proofs.Tryz.prog QA lvl [.tr (.sl (rI a)),iI l] S (iI (szN a.length l)) S:=by
 refine⟨ZuE h0,fun lvl S=>?_⟩
 have:=ZqC ZoE (rI a) l (by simpa using hl) h0 h1 lvl S
 simpa using this
theorem ZfW(x:TNode)(hb:Ds 9223372036854775807 x)(l:Int)(h0:0<=l)(h1:l<=1048576):Dt x l<=l/\∀ lvl S,Sem Proofs.Tryz.prog Wv lvl [.ag ((ZG x).map .tr),iI l] S (iI (Dt x l)) S:=by
 have b0:x.links.length<=9223372036854775807:=hb
 refine⟨?_,fun lvl S=>?_⟩
 ·unfold Dt
  have q0:=ZaP x.links b0 _ h0 h1
  refine Zbp h0 q0.1 (fun p0=>?_)
  have r0:_<=(1048576:Int):=Int.le_trans q0.1 h1
  exact Int.le_refl _
 ·refine Zc Zhb trivial ?_
  simp only[Zco,ZG,List.map_cons,List.map_nil,EVA,seval,Zd,men]
  unfold Dt
  have q0:=ZaP x.links b0 l h0 h1
  refine Zb q0.2 ?_
  simp only[EVA,seval,Zd,men]
  obtain⟨l1,hl1⟩:∃ m:Int,m=(szN x.links.length l):=⟨_,rfl⟩
  have u1:l1<=l:=by rw[hl1];exact q0.1
  rw[<-hl1]
  split
  ·rename_i hn;rw[ZbM,if_pos hn]
  rename_i hn0
  rw[ZbM,if_neg hn0]
theorem ZmZ:ZT Proofs.Tryz.prog XI (Zt3 3 (some 3) Wv)=true:=by kernel_rfl
theorem ZeZ(a:List TNode)(hl:a.length<=9223372036854775807)(hb:∀ y∈a,Ds 9223372036854775807 y)(l:Int)(h0:0<=l)(h1:l<=1048576):szL Dt a l<=l/\∀ lvl S,Sem Proofs.Tryz.prog XI lvl [.tr (.sl (a.map ZG)),iI l] S (iI (szL Dt a l)) S :=
 ⟨ZkA a (fun x hx l h0 h1=>(ZfW x (hb x hx) l h0 h1).1) h0 h1,fun lvl S=>Zgv ZmZ ZG Dt Zl2 a l hl h0 h1 (fun x hx l h0 h1=>ZfW x (hb x hx) l h0 h1) lvl S⟩
theorem ZfX(x:TWire)(hb:W7 9223372036854775807 x)(l:Int)(h0:0<=l)(h1:l<=1048576):Du x l<=l/\∀ lvl S,Sem Proofs.Tryz.prog Ww lvl [.ag ((ZX x).map .tr),iI l] S (iI (Du x l)) S:=by
 have b0:x.name.size<=9223372036854775807:=hb
 refine⟨?_,fun lvl S=>?_⟩
 ·unfold Du
  refine Zbp h0 (m:=l-x.name.size) (by omega) (fun p0=>?_)
  have r0:_<=(1048576:Int):=Int.le_trans (show l-x.name.size<=l by omega) h1
  exact Int.le_refl _
 ·refine Zc Zhc trivial ?_
  simp only[Zcp,ZX,List.map_cons,List.map_nil,EVA,seval,Zd,men]
  unfold Du
  refine⟨by rw[Ze];omega,?_⟩
  obtain⟨l1,hl1⟩:∃ m:Int,m=l-x.name.size:=⟨_,rfl⟩
  have u1:l1<=l:=by omega
  rw[<-hl1]
  split
  ·rename_i hn;rw[ZbM,if_pos hn]
  rename_i hn0
  rw[ZbM,if_neg hn0]
theorem Zm0:ZT Proofs.Tryz.prog XJ (Zt3 2 (some 2) Ww)=true:=by kernel_rfl
theorem Ze0(a:List TWire)(hl:a.length<=9223372036854775807)(hb:∀ y∈a,W7 9223372036854775807 y)(l:Int)(h0:0<=l)(h1:l<=1048576):szL Du a l<=l/\∀ lvl S,Sem Proofs.Tryz.prog XJ lvl [.tr (.sl (a.map ZX)),iI l] S (iI (szL Du a l)) S :=
 ⟨ZkA a (fun x hx l h0 h1=>(ZfX x (hb x hx) l h0 h1).1) h0 h1,fun lvl S=>Zgv Zm0 ZX Du Zl4 a l hl h0 h1 (fun x hx l h0 h1=>ZfX x (hb x hx) l h0 h1) lvl S⟩
theorem Zjw:ZT Proofs.Tryz.prog QB Zyy=true:=by kernel_rfl
theorem Zcv(a:List ByteArray)(hl:a.length<=9223372036854775807)(hb:∀ y∈a,y.size<=9223372036854775807)(l:Int)(h0:0<=l)(h1:l<=1048576):szL (fun x m=>m-x.size) a l<=l/\∀ lvl S,Sem Proofs.Tryz.prog QB lvl [tS a,iI l] S (iI (szL (fun x m=>m-x.size) a l)) S :=
 ⟨ZkA a (fun x _ l _ _=>by omega) h0 h1,fun lvl S=>ZnU Zjw a l hl h0 h1 hb lvl S⟩
theorem YH(x:TBigraph)(hb:Zw 9223372036854775807 x)(l:Int)(h0:0<=l)(h1:l<=1048576):YL x l<=l/\∀ lvl S,Sem Proofs.Tryz.prog ZY lvl [.ag ((Za x).map .tr),iI l] S (iI (YL x l)) S:=by
 obtain⟨b0,b1,b2,b3,b4,b5,b6⟩:=hb
 refine⟨?_,fun lvl S=>?_⟩
 ·unfold YL
  have q0:=ZeZ x.nodes b0 b1 _ h0 h1
  refine Zbp h0 q0.1 (fun p0=>?_)
  have r0:_<=(1048576:Int):=Int.le_trans q0.1 h1
  have q1:=ZaP x.sites b2 _ p0 r0
  refine Zbp p0 q1.1 (fun p1=>?_)
  have r1:_<=(1048576:Int):=Int.le_trans q1.1 r0
  have q2:=Zcv x.outer b3 b4 _ p1 r1
  refine Zbp p1 q2.1 (fun p2=>?_)
  have r2:_<=(1048576:Int):=Int.le_trans q2.1 r1
  have q3:=Ze0 x.inner b5 b6 _ p2 r2
  refine Zbp p2 q3.1 (fun p3=>?_)
  have r3:_<=(1048576:Int):=Int.le_trans q3.1 r2
  exact Int.le_refl _
 ·refine Zc ZdI trivial ?_
  simp only[DD,Za,List.map_cons,List.map_nil,EVA,seval,Zd,men]
  unfold YL
  have q0:=ZeZ x.nodes b0 b1 l h0 h1
  refine Zb q0.2 ?_
  simp only[EVA,seval,Zd,men]
  obtain⟨l1,hl1⟩:∃ m:Int,m=(szL Dt x.nodes l):=⟨_,rfl⟩
  have u1:l1<=l:=by rw[hl1];exact q0.1
  rw[<-hl1]
  split
  ·rename_i hn;rw[ZbM,if_pos hn]
  rename_i hn0
  rw[ZbM,if_neg hn0]
  have q1:=ZaP x.sites b2 l1 (show 0<=l1 by omega) (show l1<=1048576 by omega)
  refine Zb q1.2 ?_
  simp only[EVA,seval,Zd,men]
  obtain⟨l2,hl2⟩:∃ m:Int,m=(szN x.sites.length l1):=⟨_,rfl⟩
  have u2:l2<=l1:=by rw[hl2];exact q1.1
  rw[<-hl2]
  split
  ·rename_i hn;rw[ZbM,if_pos hn]
  rename_i hn1
  rw[ZbM,if_neg hn1]
  have q2:=Zcv x.outer b3 b4 l2 (show 0<=l2 by omega) (show l2<=1048576 by omega)
  refine Zb q2.2 ?_
  simp only[EVA,seval,Zd,men]
  obtain⟨l3,hl3⟩:∃ m:Int,m=(szL (fun x m=>m-x.size) x.outer l2):=⟨_,rfl⟩
  have u3:l3<=l2:=by rw[hl3];exact q2.1
  rw[<-hl3]
  split
  ·rename_i hn;rw[ZbM,if_pos hn]
  rename_i hn2
  rw[ZbM,if_neg hn2]
  have q3:=Ze0 x.inner b5 b6 l3 (show 0<=l3 by omega) (show l3<=1048576 by omega)
  refine Zb q3.2 ?_
  simp only[EVA,seval,Zd,men]
  obtain⟨l4,hl4⟩:∃ m:Int,m=(szL Du x.inner l3):=⟨_,rfl⟩
  have u4:l4<=l3:=by rw[hl4];exact q3.1
  rw[<-hl4]
  split
  ·rename_i hn;rw[ZbM,if_pos hn]
  rename_i hn3
  rw[ZbM,if_neg hn3]
theorem Zcw(x:TControl)(hb:ZC 9223372036854775807 x)(l:Int)(h0:0<=l)(h1:l<=1048576):ZE x l<=l/\∀ lvl S,Sem Proofs.Tryz.prog Qz lvl [.ag ((Zj x).map .tr),iI l] S (iI (ZE x l)) S:=by
 have b0:x.name.size<=9223372036854775807:=hb
 refine⟨?_,fun lvl S=>?_⟩
 ·unfold ZE
  refine Zbp h0 (m:=l-x.name.size) (by omega) (fun p0=>?_)
  have r0:_<=(1048576:Int):=Int.le_trans (show l-x.name.size<=l by omega) h1
  exact Int.le_refl _
 ·refine Zc ZdL trivial ?_
  simp only[DG,Zj,List.map_cons,List.map_nil,EVA,seval,Zd,men]
  unfold ZE
  refine⟨by rw[Ze];omega,?_⟩
  obtain⟨l1,hl1⟩:∃ m:Int,m=l-x.name.size:=⟨_,rfl⟩
  have u1:l1<=l:=by omega
  rw[<-hl1]
  split
  ·rename_i hn;rw[ZbM,if_pos hn]
  rename_i hn0
  rw[ZbM,if_neg hn0]
theorem ZiG:ZT Proofs.Tryz.prog Jj (Zt3 3 (some 3) Qz)=true:=by kernel_rfl
theorem VY(a:List TControl)(hl:a.length<=9223372036854775807)(hb:∀ y∈a,ZC 9223372036854775807 y)(l:Int)(h0:0<=l)(h1:l<=1048576):szL ZE a l<=l/\∀ lvl S,Sem Proofs.Tryz.prog Jj lvl [.tr (.sl (a.map Zj)),iI l] S (iI (szL ZE a l)) S :=
 ⟨ZkA a (fun x hx l h0 h1=>(Zcw x (hb x hx) l h0 h1).1) h0 h1,fun lvl S=>Zgv ZiG Zj ZE Zdg a l hl h0 h1 (fun x hx l h0 h1=>Zcw x (hb x hx) l h0 h1) lvl S⟩
end Go.Fd

/-
  WHAT HOLDS OF THE HELPERS OF THE LAWS: eq.. (printed by lawgen.py). Own work.
-/
namespace Go.Fd
set_option maxRecDepth 20000
theorem ZoF:ZT Proofs.Tryz.prog Z2 Zrn=true:=by kernel_rfl
theorem Vu(a b:(List Int))(ha:a.length<=9223372036854775807)(lvl:Nat)(S:Sto):Sem Proofs.Tryz.prog Z2 lvl [.tr (.sl (rI a)),.tr (.sl (rI b))] S (iB (decide (a=b))) S:=ZqD ZoF a b ha lvl S
theorem Zlb(x y:TNode)(hb:Ds 9223372036854775807 x)(lvl:Nat)(S:Sto):Sem Proofs.Tryz.prog WA lvl [.ag ((ZG x).map .tr),.ag ((ZG y).map .tr)] S (iB (decide (x=y))) S:=by
 have b0:x.links.length<=9223372036854775807:=hb
 refine Zc Zhf trivial ?_
 simp only[Zcs,ZG,List.map_cons,List.map_nil,EVA,seval,Zd,men]
 refine Zn (fun hne=>?_) (fun heq0=>?_)
 ·have:¬ x=y:=fun e=>(by rw[e] at hne;simp at hne)
  simp [this]
 refine Zn (fun hne=>?_) (fun heq1=>?_)
 ·have:¬ x=y:=fun e=>(by rw[e] at hne;simp at hne)
  simp [this]
 refine Zb (Vu x.links y.links b0) ?_
 simp only[Bool.not_eq_true',EVA,seval,Zd,men]
 refine Zn (fun hne=>?_) (fun heq2=>?_)
 ·have:¬ x=y:=fun e=>(by rw[e] at hne;simp at hne)
  simp [this]
 have:x=y:=by
  cases x;cases y;simp_all
 simp [this]
theorem Zm1:ZT Proofs.Tryz.prog XM (Zt4 3 (some 3) WA)=true:=by kernel_rfl
theorem Zjx(a b:(List TNode))(ha:a.length<=9223372036854775807)(ha2:∀ y∈a,Ds 9223372036854775807 y)(lvl:Nat)(S:Sto):Sem Proofs.Tryz.prog XM lvl [.tr (.sl (a.map ZG)),.tr (.sl (b.map ZG))] S (iB (decide (a=b))) S :=
 Zgw Zm1 ZG (fun _=>rfl) a b ha (fun x hx y _ lvl S=>Zlb x y (ha2 x hx) lvl S) lvl S
theorem Zlc(x y:TWire)(hb:W7 9223372036854775807 x)(lvl:Nat)(S:Sto):Sem Proofs.Tryz.prog WB lvl [.ag ((ZX x).map .tr),.ag ((ZX y).map .tr)] S (iB (decide (x=y))) S:=by
 have b0:x.name.size<=9223372036854775807:=hb
 refine Zc Zhg trivial ?_
 simp only[Zct,ZX,List.map_cons,List.map_nil,EVA,seval,Zd,men]
 refine Zn (fun hne=>?_) (fun heq0=>?_)
 ·have:¬ x=y:=fun e=>(by rw[e] at hne;simp at hne)
  simp [this]
 refine Zn (fun hne=>?_) (fun heq1=>?_)
 ·have:¬ x=y:=fun e=>(by rw[e] at hne;simp at hne)
  simp [this]
 have:x=y:=by
  cases x;cases y;simp_all
 simp [this]
theorem Zm2:ZT Proofs.Tryz.prog XN (Zt4 2 (some 2) WB)=true:=by kernel_rfl
theorem Zjy(a b:(List TWire))(ha:a.length<=9223372036854775807)(ha2:∀ y∈a,W7 9223372036854775807 y)(lvl:Nat)(S:Sto):Sem Proofs.Tryz.prog XN lvl [.tr (.sl (a.map ZX)),.tr (.sl (b.map ZX))] S (iB (decide (a=b))) S :=
 Zgw Zm2 ZX (fun _=>rfl) a b ha (fun x hx y _ lvl S=>Zlc x y (ha2 x hx) lvl S) lvl S
theorem Zjz:ZT Proofs.Tryz.prog QG Zrn=true:=by kernel_rfl
theorem Zhh(a b:(List ByteArray))(ha:a.length<=9223372036854775807)(lvl:Nat)(S:Sto):Sem Proofs.Tryz.prog QG lvl [.tr (.sl (rS a)),.tr (.sl (rS b))] S (iB (decide (a=b))) S:=ZqE Zjz a b ha lvl S
theorem YI(x y:TBigraph)(hb:Zw 9223372036854775807 x)(lvl:Nat)(S:Sto):Sem Proofs.Tryz.prog ZZ lvl [.ag ((Za x).map .tr),.ag ((Za y).map .tr)] S (iB (decide (x=y))) S:=by
 obtain⟨b0,b1,b2,b3,b4,b5,b6⟩:=hb
 refine Zc ZdK trivial ?_
 simp only[DF,Za,List.map_cons,List.map_nil,EVA,seval,Zd,men]
 refine Zn (fun hne=>?_) (fun heq0=>?_)
 ·have:¬ x=y:=fun e=>(by rw[e] at hne;simp at hne)
  simp [this]
 refine Zb (Zjx x.nodes y.nodes b0 b1) ?_
 simp only[Bool.not_eq_true',EVA,seval,Zd,men]
 refine Zn (fun hne=>?_) (fun heq1=>?_)
 ·have:¬ x=y:=fun e=>(by rw[e] at hne;simp at hne)
  simp [this]
 refine Zb (Vu x.sites y.sites b2) ?_
 simp only[Bool.not_eq_true',EVA,seval,Zd,men]
 refine Zn (fun hne=>?_) (fun heq2=>?_)
 ·have:¬ x=y:=fun e=>(by rw[e] at hne;simp at hne)
  simp [this]
 refine Zn (fun hne=>?_) (fun heq3=>?_)
 ·have:¬ x=y:=fun e=>(by rw[e] at hne;simp at hne)
  simp [this]
 refine Zb (Zhh x.outer y.outer b3) ?_
 simp only[Bool.not_eq_true',EVA,seval,Zd,men]
 refine Zn (fun hne=>?_) (fun heq4=>?_)
 ·have:¬ x=y:=fun e=>(by rw[e] at hne;simp at hne)
  simp [this]
 refine Zb (Zjy x.inner y.inner b5 b6) ?_
 simp only[Bool.not_eq_true',EVA,seval,Zd,men]
 refine Zn (fun hne=>?_) (fun heq5=>?_)
 ·have:¬ x=y:=fun e=>(by rw[e] at hne;simp at hne)
  simp [this]
 have:x=y:=by
  cases x;cases y;simp_all
 simp [this]
theorem Zhi(x y:TControl)(hb:ZC 9223372036854775807 x)(lvl:Nat)(S:Sto):Sem Proofs.Tryz.prog QF lvl [.ag ((Zj x).map .tr),.ag ((Zj y).map .tr)] S (iB (decide (x=y))) S:=by
 have b0:x.name.size<=9223372036854775807:=hb
 refine Zc ZdN trivial ?_
 simp only[DI,Zj,List.map_cons,List.map_nil,EVA,seval,Zd,men]
 refine Zn (fun hne=>?_) (fun heq0=>?_)
 ·have:¬ x=y:=fun e=>(by rw[e] at hne;simp at hne)
  simp [this]
 refine Zn (fun hne=>?_) (fun heq1=>?_)
 ·have:¬ x=y:=fun e=>(by rw[e] at hne;simp at hne)
  simp [this]
 refine Zn (fun hne=>?_) (fun heq2=>?_)
 ·have:¬ x=y:=fun e=>(by rw[e] at hne;simp at hne)
  simp [this]
 have:x=y:=by
  cases x;cases y;simp_all
 simp [this]
theorem ZiH:ZT Proofs.Tryz.prog Jk (Zt4 3 (some 3) QF)=true:=by kernel_rfl
theorem VZ(a b:(List TControl))(ha:a.length<=9223372036854775807)(ha2:∀ y∈a,ZC 9223372036854775807 y)(lvl:Nat)(S:Sto):Sem Proofs.Tryz.prog Jk lvl [.tr (.sl (a.map Zj)),.tr (.sl (b.map Zj))] S (iB (decide (a=b))) S :=
 Zgw ZiH Zj (fun _=>rfl) a b ha (fun x hx y _ lvl S=>Zhi x y (ha2 x hx) lvl S) lvl S
end Go.Fd

/-
  WHAT HOLDS OF THE HELPERS OF THE LAWS: to.. (printed by lawgen.py). Own work.
-/
namespace Go.Fd
set_option maxRecDepth 20000
theorem ZoG:ZT Proofs.Tryz.prog QD (Zro (.int .i64 0))=true:=by kernel_rfl
theorem ZfY(a:(List Int))(ha:a.length<=4294967296)(lvl:Nat)(S:Sto):Sem Proofs.Tryz.prog QD lvl [.tr (.sl (rI a))] S (.ow 1 (rI a) true) S:=ZqF ZoG a ha lvl S
theorem Zld(x:TNode)(hb:Ds 4294967296 x)(lvl:Nat)(S:Sto):Sem Proofs.Tryz.prog Wy lvl [.ag ((ZG x).map .tr)] S (ZnW x) S:=by
 have b0:x.links.length<=4294967296:=hb
 refine Zc Zhd (by simp [ZnW,low,men,Zd]) ?_
 simp only[Zcq,ZG,zfill,zobs,List.map_cons,List.map_nil,Xm,Xn,List.set_cons_zero,List.set_cons_succ,EVA,seval,Zd,men]
 refine Zb (ZfY x.links b0) ?_
 simp only[Xm,Xn,List.set_cons_zero,List.set_cons_succ,Prod.mk.injEq,EVA,seval,Zd,men]
 rfl
theorem ZjA(a:(List TNode))(ha:a.length<=4294967296)(hb:∀ y∈a,Ds 4294967296 y)(lvl:Nat)(S:Sto):Sem Proofs.Tryz.prog XK lvl [.tr (.sl (a.map ZG))] S (.ow 3 (a.map ZG) true) S:=by
 refine Zc Zfm trivial ?_
 simp only[Za7,List.length_map,bigN,Int.natCast_nonneg,EVA,seval,Zd,men]
 refine⟨by omega,?_⟩
 refine ZP (α:=Unit) a.length (fun j _=>⟨lvl,[(0,.tr (.sl (a.map ZG))),(3,.hd (lvl,224) [] 0 a.length none a.length),(4,iI j)],[(224,.ar 3 (YY ZG [tv 0,tv 0,.sl []] a j) true a.length (j*1))],S⟩) (fun _ _=>True) () ⟨by simp only[EVA,seval,Zd,men],by (simp only[Wu,EVA,seval,Zd,men]) <;> rfl⟩ trivial ?_
 intro j _ hj _
 simp only[List.length_map,EVA,seval,Zd,men]
 refine Zn (fun hlt=>?_) (fun hge=>?_)
 ·have hja:j<a.length:=by omega
  have ga:(a.map ZG)[j]? = some (ZG a[j]):=by simp [hja]
  have gz:(YY ZG [tv 0,tv 0,.sl []] a j)[j]? = some [tv 0,tv 0,.sl []]:=UI hja
  have hfl:(YY ZG [tv 0,tv 0,.sl []] a j).length=a.length:=Dc hj
  have hsem:=fun lvl S=>Zld a[j] (hb a[j] (List.getElem_mem hja)) lvl S
  simp only[ga,gz,Int.natCast_nonneg,Nat.le_refl,hja,ZG,ZnW,Nat.reduceLeDiff,EVA,↓reduceIte,Nat.reduceEqDiff,Nat.reduceMul,reduceCtorEq,Nat.reduceAdd,Nat.reduceSub,Nat.reduceLT,Int.reduceToNat,Int.reduceLE,Int.reduceLT,Zd,men]
  refine Zb hsem ?_
  simp only[ZnW,gz,Int.natCast_nonneg,Nat.le_refl,hja,hfl,Ys,List.getElem?_set_self,List.set_set,List.length_set,List.set_cons_zero,List.set_cons_succ,Prod.mk.injEq,ne_eq,not_false_eq_true,EVA,seval,Zd,men]
  refine⟨by rw[Ze];omega,Zf () hja ?_ trivial⟩
  have hse:=UJ (c:=ZG) (z:=[tv 0,tv 0,.sl []]) (e:=[tv a[j].control,tv a[j].parent,.sl (rI a[j].links)]) hja rfl
  rw[hse,show (j+1)*1=j*1+1 from by omega]
  rfl
 ·have:j=a.length:=by omega
  subst this
  rw[UH]
  simp
theorem Zle(x:TWire)(hb:W7 4294967296 x)(lvl:Nat)(S:Sto):Sem Proofs.Tryz.prog Wz lvl [.ag ((ZX x).map .tr)] S (ZnX x) S:=by
 have b0:x.name.size<=4294967296:=hb
 refine Zc Zhe (by simp [ZnX,low,men,Zd]) ?_
 simp only[Zcr,ZX,zfill,zobs,List.map_cons,List.map_nil,Xm,Xn,List.set_cons_zero,List.set_cons_succ,EVA,seval,Zd,men]
 rfl
theorem ZjB(a:(List TWire))(ha:a.length<=4294967296)(hb:∀ y∈a,W7 4294967296 y)(lvl:Nat)(S:Sto):Sem Proofs.Tryz.prog XL lvl [.tr (.sl (a.map ZX))] S (.ow 2 (a.map ZX) true) S:=by
 refine Zc Zfn trivial ?_
 simp only[Za8,List.length_map,bigN,Int.natCast_nonneg,EVA,seval,Zd,men]
 refine⟨by omega,?_⟩
 refine ZP (α:=Unit) a.length (fun j _=>⟨lvl,[(0,.tr (.sl (a.map ZX))),(3,.hd (lvl,224) [] 0 a.length none a.length),(4,iI j)],[(224,.ar 2 (YY ZX [ts ⟨#[]⟩,tv 0] a j) true a.length (j*0))],S⟩) (fun _ _=>True) () ⟨by simp only[EVA,seval,Zd,men],by (simp only[Wu,EVA,seval,Zd,men]) <;> rfl⟩ trivial ?_
 intro j _ hj _
 simp only[List.length_map,EVA,seval,Zd,men]
 refine Zn (fun hlt=>?_) (fun hge=>?_)
 ·have hja:j<a.length:=by omega
  have ga:(a.map ZX)[j]? = some (ZX a[j]):=by simp [hja]
  have gz:(YY ZX [ts ⟨#[]⟩,tv 0] a j)[j]? = some [ts ⟨#[]⟩,tv 0]:=UI hja
  have hfl:(YY ZX [ts ⟨#[]⟩,tv 0] a j).length=a.length:=Dc hj
  have hsem:=fun lvl S=>Zle a[j] (hb a[j] (List.getElem_mem hja)) lvl S
  simp only[ga,gz,Int.natCast_nonneg,Nat.le_refl,hja,ZX,ZnX,Nat.reduceLeDiff,EVA,↓reduceIte,Nat.reduceEqDiff,Nat.reduceMul,reduceCtorEq,Nat.reduceAdd,Nat.reduceSub,Nat.reduceLT,Int.reduceToNat,Int.reduceLE,Int.reduceLT,Zd,men]
  refine Zb hsem ?_
  simp only[ZnX,gz,Int.natCast_nonneg,Nat.le_refl,hja,hfl,Ys,List.getElem?_set_self,List.set_set,List.length_set,List.set_cons_zero,List.set_cons_succ,Prod.mk.injEq,ne_eq,not_false_eq_true,EVA,seval,Zd,men]
  refine⟨by rw[Ze];omega,Zf () hja ?_ trivial⟩
  have hse:=UJ (c:=ZX) (z:=[ts ⟨#[]⟩,tv 0]) (e:=[ts a[j].name,tv a[j].link]) hja rfl
  rw[hse,show (j+1)*0=j*0 from by omega]
  rfl
 ·have:j=a.length:=by omega
  subst this
  rw[UH]
  simp
theorem ZjC:ZT Proofs.Tryz.prog QE (Zro (.string ⟨#[]⟩))=true:=by kernel_rfl
theorem Zhj(a:(List ByteArray))(ha:a.length<=4294967296)(lvl:Nat)(S:Sto):Sem Proofs.Tryz.prog QE lvl [.tr (.sl (rS a))] S (.ow 1 (rS a) true) S:=ZqG ZjC a ha lvl S
theorem Zz(x:TBigraph)(hb:Zw 4294967296 x)(lvl:Nat)(S:Sto):Sem Proofs.Tryz.prog Zl lvl [.ag ((Za x).map .tr)] S (Zh x) S:=by
 obtain⟨b0,b1,b2,b3,b4,b5,b6⟩:=hb
 refine Zc ZdJ (by simp [Zh,low,men,Zd]) ?_
 simp only[DE,Za,zfill,zobs,List.map_cons,List.map_nil,Xm,Xn,List.set_cons_zero,List.set_cons_succ,EVA,seval,Zd,men]
 refine Zb (ZjA x.nodes b0 b1) ?_
 simp only[Xm,Xn,List.set_cons_zero,List.set_cons_succ,Prod.mk.injEq,EVA,seval,Zd,men]
 refine Zb (ZfY x.sites b2) ?_
 simp only[Xm,Xn,List.set_cons_zero,List.set_cons_succ,Prod.mk.injEq,EVA,seval,Zd,men]
 refine Zb (Zhj x.outer b3) ?_
 simp only[Xm,Xn,List.set_cons_zero,List.set_cons_succ,Prod.mk.injEq,EVA,seval,Zd,men]
 refine Zb (ZjB x.inner b5 b6) ?_
 simp only[Xm,Xn,List.set_cons_zero,List.set_cons_succ,Prod.mk.injEq,EVA,seval,Zd,men]
 rfl
theorem Zhk(x:TControl)(hb:ZC 4294967296 x)(lvl:Nat)(S:Sto):Sem Proofs.Tryz.prog QC lvl [.ag ((Zj x).map .tr)] S (Zd0 x) S:=by
 have b0:x.name.size<=4294967296:=hb
 refine Zc ZdM (by simp [Zd0,low,men,Zd]) ?_
 simp only[DH,Zj,zfill,zobs,List.map_cons,List.map_nil,Xm,Xn,List.set_cons_zero,List.set_cons_succ,EVA,seval,Zd,men]
 rfl
theorem ZI(a:(List TControl))(ha:a.length<=4294967296)(hb:∀ y∈a,ZC 4294967296 y)(lvl:Nat)(S:Sto):Sem Proofs.Tryz.prog Zs lvl [.tr (.sl (a.map Zj))] S (.ow 3 (a.map Zj) true) S:=by
 refine Zc Zc9 trivial ?_
 simp only[UW,List.length_map,bigN,Int.natCast_nonneg,EVA,seval,Zd,men]
 refine⟨by omega,?_⟩
 refine ZP (α:=Unit) a.length (fun j _=>⟨lvl,[(0,.tr (.sl (a.map Zj))),(3,.hd (lvl,224) [] 0 a.length none a.length),(4,iI j)],[(224,.ar 3 (YY Zj [ts ⟨#[]⟩,tv 0,tv 0] a j) true a.length (j*0))],S⟩) (fun _ _=>True) () ⟨by simp only[EVA,seval,Zd,men],by (simp only[Wu,EVA,seval,Zd,men]) <;> rfl⟩ trivial ?_
 intro j _ hj _
 simp only[List.length_map,EVA,seval,Zd,men]
 refine Zn (fun hlt=>?_) (fun hge=>?_)
 ·have hja:j<a.length:=by omega
  have ga:(a.map Zj)[j]? = some (Zj a[j]):=by simp [hja]
  have gz:(YY Zj [ts ⟨#[]⟩,tv 0,tv 0] a j)[j]? = some [ts ⟨#[]⟩,tv 0,tv 0]:=UI hja
  have hfl:(YY Zj [ts ⟨#[]⟩,tv 0,tv 0] a j).length=a.length:=Dc hj
  have hsem:=fun lvl S=>Zhk a[j] (hb a[j] (List.getElem_mem hja)) lvl S
  simp only[ga,gz,Int.natCast_nonneg,Nat.le_refl,hja,Zj,Zd0,Nat.reduceLeDiff,EVA,↓reduceIte,Nat.reduceEqDiff,Nat.reduceMul,reduceCtorEq,Nat.reduceAdd,Nat.reduceSub,Nat.reduceLT,Int.reduceToNat,Int.reduceLE,Int.reduceLT,Zd,men]
  refine Zb hsem ?_
  simp only[Zd0,gz,Int.natCast_nonneg,Nat.le_refl,hja,hfl,Ys,List.getElem?_set_self,List.set_set,List.length_set,List.set_cons_zero,List.set_cons_succ,Prod.mk.injEq,ne_eq,not_false_eq_true,EVA,seval,Zd,men]
  refine⟨by rw[Ze];omega,Zf () hja ?_ trivial⟩
  have hse:=UJ (c:=Zj) (z:=[ts ⟨#[]⟩,tv 0,tv 0]) (e:=[ts a[j].name,tv a[j].ports,tv a[j].kind_]) hja rfl
  rw[hse,show (j+1)*0=j*0 from by omega]
  rfl
 ·have:j=a.length:=by omega
  subst this
  rw[UH]
  simp
end Go.Fd

/-
  WHAT THE LAWS' ARGUMENTS READ AS (printed by lawgen.py). Own work.
-/
namespace Go.Fd
set_option maxRecDepth 20000
theorem ZyK:Wr Proofs.Tryz.prog 9 (fun n:ByteArray=>[ts n]) (fun n=>n.size<=9223372036854775807):=ZhP Proofs.Tryz.underlying9
theorem Zpp:Wr Proofs.Tryz.prog 3 (fun n:Int=>[tv n]) (Wd .i64):=ZlZ Proofs.Tryz.underlying3
theorem ZyL:Wr Proofs.Tryz.prog 60 Zj (fun x=>ZC 9223372036854775807 x/\ZhZ x):=ZdZ (W5 Proofs.Tryz.underlying60 (show Zde Proofs.Tryz.prog 0 [(0,9),(1,3),(2,3)] _ _ from (Jn (k:=1) (by kernel_rfl) (fun _=>rfl) ZyK (Jn (k:=1) (by kernel_rfl) (fun _=>rfl) Zpp (Jn (k:=1) (by kernel_rfl) (fun _=>rfl) Zpp ZaK))))) (fun p=>TControl.mk p.1 p.2.1 p.2.2.1) (fun _=>rfl) (fun x h=>⟨h.1,⟨h.2.1,h.2.2.1⟩⟩)
theorem Zm3:Wr Proofs.Tryz.prog 22 (fun l:List TControl=>[Tr.sl (l.map Zj)]) (fun l=>l.length<=9223372036854775807/\∀ x∈l,(fun x=>ZC 9223372036854775807 x/\ZhZ x) x):=Ws (k:=2) Proofs.Tryz.underlying22 (by kernel_rfl) (fun _=>rfl) ZyL
theorem ZuF:Wr Proofs.Tryz.prog 24 (fun l:List Int=>[Tr.sl (l.map (fun n:Int=>[tv n]))]) (fun l=>l.length<=9223372036854775807/\∀ x∈l,(Wd .i64) x):=Ws (k:=0) Proofs.Tryz.underlying24 (by kernel_rfl) (fun _=>rfl) Zpp
theorem ZyM:Wr Proofs.Tryz.prog 88 ZG (fun x=>Ds 9223372036854775807 x/\Zl3 x):=ZdZ (W5 Proofs.Tryz.underlying88 (show Zde Proofs.Tryz.prog 0 [(0,3),(1,3),(2,24)] _ _ from (Jn (k:=1) (by kernel_rfl) (fun _=>rfl) Zpp (Jn (k:=1) (by kernel_rfl) (fun _=>rfl) Zpp (Jn (k:=1) (by kernel_rfl) (fun _=>rfl) ZuF ZaK))))) (fun p=>TNode.mk p.1 p.2.1 p.2.2.1) (fun _=>rfl) (fun x h=>⟨h.2.2.1.1,⟨h.1,h.2.1,(fun y hy=>(h.2.2.1.2 y hy))⟩⟩)
theorem ZyN:Wr Proofs.Tryz.prog 23 (fun l:List TNode=>[Tr.sl (l.map ZG)]) (fun l=>l.length<=9223372036854775807/\∀ x∈l,(fun x=>Ds 9223372036854775807 x/\Zl3 x) x):=Ws (k:=2) Proofs.Tryz.underlying23 (by kernel_rfl) (fun _=>rfl) ZyM
theorem ZyO:Wr Proofs.Tryz.prog 25 (fun l:List ByteArray=>[Tr.sl (l.map (fun n:ByteArray=>[ts n]))]) (fun l=>l.length<=9223372036854775807/\∀ x∈l,(fun n=>n.size<=9223372036854775807) x):=Ws (k:=0) Proofs.Tryz.underlying25 (by kernel_rfl) (fun _=>rfl) ZyK
theorem ZyP:Wr Proofs.Tryz.prog 91 ZX (fun x=>W7 9223372036854775807 x/\Zl5 x):=ZdZ (W5 Proofs.Tryz.underlying91 (show Zde Proofs.Tryz.prog 0 [(0,9),(1,3)] _ _ from (Jn (k:=1) (by kernel_rfl) (fun _=>rfl) ZyK (Jn (k:=1) (by kernel_rfl) (fun _=>rfl) Zpp ZaK)))) (fun p=>TWire.mk p.1 p.2.1) (fun _=>rfl) (fun x h=>⟨h.1,h.2.1⟩)
theorem ZyQ:Wr Proofs.Tryz.prog 26 (fun l:List TWire=>[Tr.sl (l.map ZX)]) (fun l=>l.length<=9223372036854775807/\∀ x∈l,(fun x=>W7 9223372036854775807 x/\Zl5 x) x):=Ws (k:=1) Proofs.Tryz.underlying26 (by kernel_rfl) (fun _=>rfl) ZyP
theorem ZjD:Wr Proofs.Tryz.prog 28 Za (fun x=>Zw 9223372036854775807 x/\ZR x):=ZdZ (W5 Proofs.Tryz.underlying28 (show Zde Proofs.Tryz.prog 0 [(0,3),(1,23),(2,24),(3,3),(4,25),(5,26)] _ _ from (Jn (k:=1) (by kernel_rfl) (fun _=>rfl) Zpp (Jn (k:=1) (by kernel_rfl) (fun _=>rfl) ZyN (Jn (k:=1) (by kernel_rfl) (fun _=>rfl) ZuF (Jn (k:=1) (by kernel_rfl) (fun _=>rfl) Zpp (Jn (k:=1) (by kernel_rfl) (fun _=>rfl) ZyO (Jn (k:=1) (by kernel_rfl) (fun _=>rfl) ZyQ ZaK)))))))) (fun p=>TBigraph.mk p.1 p.2.1 p.2.2.1 p.2.2.2.1 p.2.2.2.2.1 p.2.2.2.2.2.1) (fun _=>rfl) (fun x h=>⟨⟨h.2.1.1,(fun y hy=>(h.2.1.2 y hy).1),h.2.2.1.1,h.2.2.2.2.1.1,(fun y hy=>(h.2.2.2.2.1.2 y hy)),h.2.2.2.2.2.1.1,(fun y hy=>(h.2.2.2.2.2.1.2 y hy).1)⟩,⟨h.1,(fun y hy=>(h.2.1.2 y hy).2),(fun y hy=>(h.2.2.1.2 y hy)),h.2.2.2.1,(fun y hy=>(h.2.2.2.2.2.1.2 y hy).2)⟩⟩)
end Go.Fd

/-
  HOW MANY MARKS SMALL THINGS TAKE. Own work.
-/
namespace Go.Fd
theorem ZkB:∀(l:List Int),nL WV l=l.length
 | []=>rfl
 | x::r=>by simp only[nL,List.length_cons,ZkB r,WV];omega
theorem ZuG{α:Type}{n:α->Nat}{B:Nat}:∀(l:List α),(∀ x∈l,n x<=B)->nL n l<=l.length*B
 | [],_=>Nat.zero_le _
 | x::r,h=>by
  have h1:=h x (by simp)
  have h2:=ZuG r (fun y hy=>h y (by simp [hy]))
  simp only[nL,List.length_cons,Nat.add_mul]
  omega
end Go.Fd

/-
  SymmetriesOf: BOTH SIDES. Own work.
-/
namespace Go.Fd
set_option maxRecDepth 20000
def ZdO(sig:List TControl)(b:TBigraph):Prop:=bigOK sig b/\(Uh b b).length<=24
open Classical in
noncomputable def Zx(sig:List TControl)(b:TBigraph):List (List Int):=if ZdO sig b then Uh b b else []
noncomputable def Q6(sig:List TControl)(b:TBigraph):Bool:=dc (ZdO sig b)
theorem Zax(sig:List TControl)(b:TBigraph)(hn:sig.length<=4294967296)(hbs:∀ y∈sig,ZC 4294967296 y)(hbb:Zw 4294967296 b)(fb:ZR b)(lvl:Nat)(S:Sto):Sem Proofs.Tryz.prog Va lvl [.tr (.sl (sig.map Zj)),.ag ((Za b).map .tr)] S (.tu [.ow 1 ((Zx sig b).map (fun l=>[Tr.sl (rI l)])) true,iB (Q6 sig b)]) S:=by
 have q:=US sig b hn hbs hbb fb
 simp only[Za,List.map_cons,List.map_nil] at q
 unfold Zx Q6
 refine Zc Zbc (by simp [low,men,Zd]) ?_
 simp only[WG,Za,EVA,seval,Zd,men]
 refine Zb q ?_
 by_cases h:bigOK sig b
 rotate_left
 ·rw[Zk h,Zk fun g:ZdO sig b=>h g.1,if_neg fun g:ZdO sig b=>h g.1]
  simp only[EVA,seval,Zd,men]
  try rfl
 rw[Z5 h]
 have q2:=ZeT sig b 25 h (by omega) (by omega)
 simp only[cB,Za,List.map_cons,List.map_nil] at q2
 simp only[EVA,seval,Zd,men]
 refine Zb q2 ?_
 by_cases hl:(Uh b b).length<=24
 ·have hso:ZdO sig b:=⟨h,hl⟩
  have e:(Uh b b).take 25=Uh b b:=List.take_of_length_le (by omega)
  have e2:¬ (24:Int)<(Uh b b).length:=by omega
  rw[e,Z5 hso,if_pos hso]
  simp only[e2,List.length_map,EVA,seval,Zd,men]
  try rfl
 ·have e2:(24:Int)<((Uh b b).take 25).length:=by rw[List.length_take];omega
  rw[Zk fun g:ZdO sig b=>hl g.2,if_neg fun g:ZdO sig b=>hl g.2]
  simp only[e2,List.length_map,EVA,seval,Zd,men]
  try rfl
theorem XF(sig:List TControl)(b:TBigraph)(hn:sig.length<=4294967296)(hbs:∀ y∈sig,ZC 4294967296 y)(hbb:Zw 4294967296 b)(_fb:ZR b)(lvl:Nat)(S:Sto):Sem Proofs.Tryz.prog J7 lvl [.tr (.sl (sig.map Zj)),.ag ((Za b).map .tr)] S (.tu [.ow 1 ((Zx sig b).map (fun l=>[Tr.sl (rI l)])) true,iB (Q6 sig b)]) S:=by
 have q:=Yc sig b hn hbs hbb
 simp only[Za,List.map_cons,List.map_nil] at q
 unfold Zx Q6
 refine Zc Zbd (by simp [low,men,Zd]) ?_
 simp only[WH,Za,EVA,seval,Zd,men]
 refine Zb q ?_
 by_cases h:bigOK sig b
 rotate_left
 ·rw[Zk h,Zk fun g:ZdO sig b=>h g.1,if_neg fun g:ZdO sig b=>h g.1]
  simp only[EVA,seval,Zd,men]
  try rfl
 rw[Z5 h]
 have q2:=Uw sig b h
 simp only[cB,Za,List.map_cons,List.map_nil] at q2
 simp only[EVA,seval,Zd,men]
 refine Zb q2 ?_
 by_cases hl:(Uh b b).length<=24
 ·have hso:ZdO sig b:=⟨h,hl⟩
  have e2:¬ (24:Int)<(Uh b b).length:=by omega
  rw[Z5 hso,if_pos hso]
  simp only[e2,List.length_map,EVA,seval,Zd,men]
  try rfl
 ·have e2:(24:Int)<(Uh b b).length:=by omega
  rw[Zk fun g:ZdO sig b=>hl g.2,if_neg fun g:ZdO sig b=>hl g.2]
  simp only[e2,List.length_map,EVA,seval,Zd,men]
  try rfl
end Go.Fd

/-
  EdgesOfTranslation, IsTranslation, FindTranslation, AreIsomorphic: BOTH SIDES. Own work.
-/
namespace Go.Fd
set_option maxRecDepth 20000
def ZiI(sig:List TControl)(a b:TBigraph):Prop:=bigOK sig a/\bigOK sig b
end Go.Fd

/-
  FindTranslation: BOTH SIDES. Own work.
-/
namespace Go.Fd
set_option maxRecDepth 20000
open Classical in
noncomputable def Zu(sig:List TControl)(a b:TBigraph):List Int:=if ZiI sig a b then (Uh a b).headD [] else []
open Classical in
noncomputable def Y6(sig:List TControl)(a b:TBigraph):Bool:=if ZiI sig a b then !(Uh a b).isEmpty else false
theorem UX(sig:List TControl)(a b:TBigraph)(hn:sig.length<=4294967296)(hbs:∀ y∈sig,ZC 4294967296 y)(hba:Zw 4294967296 a)(hbb:Zw 4294967296 b)(fa:ZR a)(fb:ZR b)(lvl:Nat)(S:Sto):Sem Proofs.Tryz.prog Yo lvl [.tr (.sl (sig.map Zj)),.ag ((Za a).map .tr),.ag ((Za b).map .tr)] S (.tu [tI (Zu sig a b),iB (Y6 sig a b)]) S:=by
 have q:=ZiB sig a b hn hbs hba hbb fa fb
 simp only[cB,Za,List.map_cons,List.map_nil] at q
 unfold Zu Y6
 refine Zc DM (by simp [low,men,Zd]) ?_
 simp only[Xc,Za,EVA,seval,Zd,men]
 refine Zb q ?_
 by_cases h:ZiI sig a b
 rotate_left
 ·rw[Zk (show ¬ (bigOK sig a/\bigOK sig b) from h),if_neg h,if_neg h]
  simp only[EVA,seval,Zd,men]
  try rfl
 rw[Z5 (show bigOK sig a/\bigOK sig b from h),if_pos h,if_pos h]
 have q2:=ZeR sig a b h.1 h.2
 simp only[cB,Za,List.map_cons,List.map_nil] at q2
 simp only[EVA,seval,Zd,men]
 refine Zb q2 ?_
 cases hT:Uh a b with
 | nil =>
  simp only[List.take_nil,List.length_nil,List.isEmpty_nil,List.map_nil,List.headD_nil,EVA,seval,Zd,men]
  try rfl
 | cons x r =>
  simp only[List.take_succ_cons,List.take_zero,List.length_cons,List.length_nil,List.isEmpty_cons,List.map_cons,List.map_nil,List.headD_cons,EVA,seval,Zd,men]
  try (first | rfl | (rw[if_neg (by decide)];trivial) | (rw[if_neg (by decide)];rfl) | simp)
theorem Qj(sig:List TControl)(a b:TBigraph)(hn:sig.length<=4294967296)(hbs:∀ y∈sig,ZC 4294967296 y)(hba:Zw 4294967296 a)(hbb:Zw 4294967296 b)(fa:ZR a)(fb:ZR b)(lvl:Nat)(S:Sto):Sem Proofs.Tryz.prog JN lvl [.tr (.sl (sig.map Zj)),.ag ((Za a).map .tr),.ag ((Za b).map .tr)] S (.tu [.ow 1 (rI (Zu sig a b)) true,iB (Y6 sig a b)]) S:=by
 have q:=ZfT sig a b hn hbs hba hbb fa fb
 simp only[cB,Za,List.map_cons,List.map_nil] at q
 unfold Zu Y6
 refine Zc DN (by simp [low,men,Zd]) ?_
 simp only[Xd,Za,EVA,seval,Zd,men]
 refine Zb q ?_
 by_cases h:ZiI sig a b
 rotate_left
 ·rw[Zk (show ¬ (bigOK sig a/\bigOK sig b) from h),if_neg h,if_neg h]
  simp only[EVA,seval,Zd,men]
  try rfl
 rw[Z5 (show bigOK sig a/\bigOK sig b from h),if_pos h,if_pos h]
 have q2:=X3 sig a b h.1 h.2
 simp only[cB,Za,List.map_cons,List.map_nil] at q2
 simp only[EVA,seval,Zd,men]
 refine Zb q2 ?_
 simp only[List.length_map,EVA,seval,Zd,men]
 try rfl
end Go.Fd

/-
  THE LEAN FORM, IN PLAIN TERMS. Own work.
-/
namespace Go.Fd
set_option maxRecDepth 20000
instance (b:TBigraph) (l:Int):Decidable (idle b l):=by unfold idle;infer_instance
abbrev VH(b:TBigraph):Nat->List Int:=Ze3 fun j=>¬ idle b (j:Int)
def Ze2(b:TBigraph):List Int:=VH b b.edges.toNat
def ZdP(b:TBigraph)(l:Int):Int:=if l<b.edges then ((VH b l.toNat).length:Int) else l-b.edges+((Ze2 b).length:Int)
def UY(b:TBigraph):TBigraph:=ZeJ b (ZdP b) ((Ze2 b).length:Int) b.outer
theorem ZjF{f:Nat->Prop}[DecidablePred f]:∀{n:Nat} {x:Int},x∈Ze3 f n->x<n
 | 0,x,h=>by simp [Ze3] at h
 | n+1,x,h=>by
  rw[Ze3] at h
  split at h
  ·rcases List.mem_append.1 h with h | h
   ·have:=ZjF h;omega
   ·rw[List.mem_singleton] at h;omega
  ·have:=ZjF h;omega
theorem ZkC{f:Nat->Prop}[DecidablePred f]{j:Nat}(hj:f j):∀{n:Nat},j<n->Zn1 (Ze3 f n) j=((Ze3 f j).length:Int)/\(j:Int)∈Ze3 f n
 | 0,h=>by omega
 | n+1,h=>by
  by_cases e:j=n
  ·subst e
   rw[Dj hj]
   have hno:(j:Int) ∉ Ze3 f j:=fun h=>by have:=ZjF h;omega
   have hm:(j:Int)∈Ze3 f j++[(j:Int)]:=by simp
   refine⟨?_,hm⟩
   unfold Zn1
   rw[if_pos hm,List.idxOf_append,if_neg hno]
   simp
  ·obtain⟨h1,h2⟩:=ZkC hj (show j<n by omega)
   by_cases hf:f n
   ·rw[Dj hf]
    have hm:(j:Int)∈Ze3 f n++[(n:Int)]:=List.mem_append_left _ h2
    refine⟨?_,hm⟩
    rw[<-h1]
    unfold Zn1
    rw[if_pos hm,if_pos h2,List.idxOf_append,if_pos h2]
   ·rw[ZgT hf]
    exact⟨h1,h2⟩
theorem Zm4{f:Nat->Prop}[DecidablePred f]{j:Nat}(hj:f j){n:Nat}(h:j<n):(Ze3 f j).length<(Ze3 f n).length:=by
 induction n with
 | zero=>omega
 | succ n ih =>
  by_cases e:j=n
  ·subst e
   rw[Dj hj]
   simp
  ·have:=ih (by omega)
   by_cases hf:f n
   ·rw[Dj hf]
    simp
    omega
   ·rw[ZgT hf]
    exact this
theorem Zm5{l:Int}{i:Nat}{ls:List Int}{k:Nat}(h:g0 ls k=l):∀{n:Nat},k<n->0<(Zd2 l i ls n).length
 | 0,h=>by omega
 | n+1,hk=>by
  by_cases e:k=n
  ·subst e
   rw[ZgV h]
   simp
  ·have:=Zm5 (i:=i) h (show k<n by omega)
   unfold Zd2
   split
   ·simp
   ·exact this
theorem ZiJ{b:TBigraph}{l:Int}{i:Nat}(hi:i<b.nodes.length)(hl:l∈b.nodes[i].links):∀{n:Nat},i<n->0<(Yf b l n).length
 | 0,h=>by omega
 | n+1,h=>by
  rw[Yf,List.length_append]
  by_cases e:i=n
  ·subst e
   obtain⟨k,hk,hkl⟩:=List.getElem_of_mem hl
   have:=Zm5 (l:=l) (i:=i) (ls:=Zap b i) (k:=k) (by rw[Wi hi];simp [hk,hkl]) (n:=(Zap b i).length) (by rw[Wi hi];exact hk)
   omega
  ·have:=ZiJ hi hl (show i<n by omega)
   omega
theorem ZkD{b:TBigraph}{i:Nat}(hi:i<b.inner.length):∀{n:Nat},i<n->0<(WQ b b.inner[i].link n).length
 | 0,h=>by omega
 | n+1,h=>by
  by_cases e:i=n
  ·subst e
   rw[ZeI (ZcX hi)]
   simp
  ·have:=ZkD hi (show i<n by omega)
   unfold WQ
   split
   ·simp
   ·exact this
theorem ZiK{b:TBigraph}{x:TNode}(hx:x∈b.nodes){l:Int}(hl:l∈x.links):¬ idle b l:=fun h=>by
 obtain⟨i,hi,rfl⟩:=List.getElem_of_mem hx
 have:=ZiJ hi hl hi
 have:=h.1
 unfold ports at this
 omega
theorem ZiL{b:TBigraph}{w:TWire}(hw:w∈b.inner):¬ idle b w.link:=fun h=>by
 obtain⟨i,hi,rfl⟩:=List.getElem_of_mem hw
 have:=ZkD hi hi
 have:=h.2
 unfold Zpc at this
 omega
theorem Zm6{sig:List TControl}{b:TBigraph}(h:bigOK sig b){F F':Int->Int}{e:Int}{o:List ByteArray}(hF:∀ l,Jx b l -> ¬ idle b l->F l=F' l):ZeJ b F e o=ZeJ b F' e o:=by
 unfold ZeJ
 congr 1
 ·refine List.map_congr_left fun x hx=>?_
  have hx2:=hx
  obtain⟨i,hi,rfl⟩:=List.getElem_of_mem hx
  have hn:=h.nodes i hi
  congr 1
  exact List.map_congr_left fun l hl=>hF l (hn.links l hl) (ZiK hx2 hl)
 ·refine List.map_congr_left fun w hw=>?_
  rw[hF _ (h.inner w hw) (ZiL hw)]
theorem Zhl{b:TBigraph}:(Ze2 b).length<=b.edges.toNat:=ZgS
def Zm7(b:TBigraph)(e:Int×ByteArray):Int×ByteArray:=if e.2=e0S then (Zn1 (Ze2 b) e.1,e.2) else e
theorem Zri{sig:List TControl}{b:TBigraph}(h:bigOK sig b):ZeJ b (ZqT b ((Ze2 b).length:Int) (Zim b.outer) (Zm7 b)) ((Ze2 b).length:Int) (Zim b.outer)=UY b:=by
 have hp:=Zoc h.outer
 have he:=h.edges
 rw[ZqY hp]
 refine Zm6 h fun l hl hu=>?_
 unfold ZqT Zm7 ZdP
 rcases ZfI hl with ⟨h0,h1⟩ | ⟨i,hi,rfl⟩
 ·rw[Zpf h1,if_pos rfl,if_pos h1]
  obtain⟨j,rfl⟩:∃ j:Nat,l=j:=⟨l.toNat,by omega⟩
  have:=(ZkC (f:=fun j=>¬ idle b (j:Int)) hu (show j<b.edges.toNat by omega)).1
  simp only[if_true,Int.toNat_natCast]
  exact this
 ·have hne:=Zod h.outer (List.getElem_mem hi)
  rw[Zpg hi]
  simp only[if_neg hne]
  rw[Zum hp hi,if_neg (by omega)]
  omega
theorem ZiM{b:TBigraph}(he:0<=b.edges){l:Int}(hl:Jx b l)(hu:¬ idle b l):Jx (UY b) (ZdP b l):=by
 unfold Jx at hl ⊢
 show 0<=ZdP b l/\ZdP b l<=((Ze2 b).length:Int)+b.outer.length-1
 unfold ZdP
 split
 ·rename_i h1
  obtain⟨j,rfl⟩:∃ j:Nat,l=j:=⟨l.toNat,by omega⟩
  have:(VH b j).length<(Ze2 b).length:=Zm4 (f:=fun j=>¬ idle b (j:Int)) hu (show j<b.edges.toNat by omega)
  rw[Int.toNat_natCast]
  omega
 ·omega
theorem ZoH{b:TBigraph}{p:Int}:Zif (UY b) p=Zif b p:=by
 unfold Zif UY ZeJ
 rw[List.getElem?_map]
 cases b.nodes[p.toNat]? <;> rfl
theorem lean_under{sig:List TControl}{b:TBigraph}{p Zba:Int}:Uu sig (UY b) p Zba↔Uu sig b p Zba:=by
 unfold Uu
 rw[ZoH]
 exact Iff.rfl
theorem ZoI{b:TBigraph}:inn (UY b)=inn b:=by
 unfold inn UY ZeJ
 rw[List.map_map]
 rfl
theorem Zhm{sig:List TControl}{b:TBigraph}(h:bigOK sig b):bigOK sig (UY b):=by
 have he:=h.edges
 have hu:=Zhl (b:=b)
 have hl:(UY b).nodes.length=b.nodes.length:=List.length_map ..
 refine⟨h.sg,h.roots,by rw[hl];exact h.nodesL,h.sitesL,?_,h.outer,by rw[ZoI];exact h.inn,fun i hi=>?_,fun p hp=>?_,fun w hw=>?_⟩
 ·show 0<=((Ze2 b).length:Int)/\((Ze2 b).length:Int)<=8
  omega
 ·have hi2:i<b.nodes.length:=by rw[<-hl];exact hi
  have q:=h.nodes i hi2
  have e:(UY b).nodes[i]=⟨b.nodes[i].control,b.nodes[i].parent,b.nodes[i].links.map (ZdP b)⟩:=by simp [UY,ZeJ]
  rw[e]
  refine⟨q.ctl,lean_under.2 q.par,by rw[<-q.ports];simp,fun l hl=>?_⟩
  obtain⟨m,hm,rfl⟩:=List.mem_map.1 hl
  exact ZiM he.1 (q.links m hm) (ZiK (List.getElem_mem hi2) hm)
 ·rw[hl]
  exact lean_under.2 (h.sites p hp)
 ·obtain⟨x,hx,rfl⟩:=List.mem_map.1 hw
  exact ZiM he.1 (h.inner x hx) (ZiL hx)
end Go.Fd

/-
  THE LEAN FORM AND AreLeanEqual: BOTH SIDES. Own work.
-/
namespace Go.Fd
set_option maxRecDepth 20000
theorem Zlf(b:TBigraph)(hu:(Ze2 b).length<=1000)(e:Int×ByteArray)(lvl:Nat)(S:Sto):Sem Proofs.Tryz.prog JT lvl [oE e,.ta [Tr.sl (rI (Ze2 b))]] S (oE (Zm7 b e)) S:=by
 refine Zc Zai (by simp [low,men,Zd]) ?_
 simp only[Xz,EVA,seval,Zd,men]
 unfold Zm7
 by_cases h:e.2=e0S
 ·rw[if_pos h]
  simp only[h,EVA,seval,Zd,men]
  refine Zb (Zia (Ze2 b) e.1 (by omega)) ?_
  simp only[h,EVA,seval,Zd,men]
  try rfl
 ·rw[if_neg h]
  simp only[h,EVA,seval,Zd,men]
  try rfl
theorem ZkE(sig:List TControl)(b:TBigraph)(h:bigOK sig b)(lvl:Nat)(S:Sto):Sem Proofs.Tryz.prog J8 lvl [cB b] S (Zh (UY b)) S:=by
 have he:=h.edges
 have hs:=h.small
 have hul:=Zhl (b:=b)
 refine Zc Zbg (by simp [Zh,low,men,Zd]) ?_
 simp only[WK,Za,List.length_map,EVA,seval,Zd,men]
 refine ZO (α:=Unit) b.edges.toNat (fun j _=>[(8,iI j)]) (fun j _=>[(96,.bx [.hd (lvl,160) [] 0 (VH b j).length none (VH b j).length]),(160,.ar 1 (rI (VH b j)) true (VH b j).length 0)]) (fun _ _=>True) () (by simp only[EVA,seval,Zd,men]) (by (simp only[EVA,seval,Zd,men]) <;> rfl) trivial ?_
 intro j _ hj _
 simp only[List.length_map,EVA,seval,Zd,men]
 refine Zn (fun hlt=>?_) (fun hge=>?_)
 ·have hja:j<b.edges.toNat:=by omega
  have hle:(VH b j).length<=j:=ZgS
  have q:=ZfH b (j:Nat) hs
  simp only[Za,List.map_cons,List.map_nil] at q
  refine Zb q ?_
  cases hc:dc (idle b (j:Nat))
  ·have hn:¬ idle b (j:Nat):=dc_not.1 hc
   have hmx:max (VH b j).length ((VH b j).length+1)=(VH b j).length+1:=by omega
   have e1:rI (VH b j)++[[Tr.v (Value.int IntKind.i64 (j:Int))]]=rI (VH b (j+1)):=by
    rw[VH,Dj (f:=fun j=>¬ idle b (j:Int)) hn,Zdp]
    rfl
   have e2:(VH b (j+1)).length=(VH b j).length+1:=by
    rw[VH,Dj (f:=fun j=>¬ idle b (j:Int)) hn,List.length_append,List.length_singleton]
   simp only[hmx,e1,List.length_map,EVA,seval,Zd,men]
   exact⟨by omega,by rw[Ze];omega,Zf () hja (by rw[e2];rfl) trivial⟩
  ·have hy:idle b (j:Nat):=dc_iff.1 hc
   have e1:VH b (j+1)=VH b j:=ZgT (f:=fun j=>¬ idle b (j:Int)) (fun g=>g hy)
   simp only[List.length_map,EVA,seval,Zd,men]
   exact⟨by rw[Ze];omega,Zf () hja (by rw[e1];rfl) trivial⟩
 ·have hj1:j=b.edges.toNat:=by omega
  subst hj1
  have q:=Zit b ((Ze2 b).length:Int) b.outer JT [[Tr.sl (rI (Ze2 b))]] (Zm7 b) he.1 (Zmt (by omega) (Zkj h)) (by omega) (by omega) (by have:=hs.outer;omega) (fun x hx l hl=>by
   obtain⟨k,hk,rfl⟩:=List.getElem_of_mem hx
   exact(h.nodes k hk).links l hl) h.inner (fun l hl lvl S=>Zlf b (by omega) (Zhs b l) lvl S)
  rw[Zri h] at q
  simp only[Za,List.map_cons,List.map_nil] at q
  have hu:rI (VH b b.edges.toNat)=rI (Ze2 b):=rfl
  have hu2:(VH b b.edges.toNat).length=(Ze2 b).length:=rfl
  rw[hu2]
  simp only[hu,List.length_map,EVA,seval,Zd,men]
  refine Zb q ?_
  simp only[Zh,List.length_map,EVA,seval,Zd,men]
  try rfl
def toJ(b:TBigraph)(j:Nat):List Int:=(List.range j).map fun i=>((VH b i).length:Int)
theorem Zhn{b:TBigraph}{j:Nat}:(toJ b j).length=j:=by simp [toJ]
theorem ZoJ{b:TBigraph}{j:Nat}:rI (toJ b j)++[[Tr.v (Value.int IntKind.i64 ((VH b j).length:Int))]]=rI (toJ b (j+1)):=by
 unfold toJ
 rw[List.range_succ,List.map_append,Zdp]
 rfl
theorem Zrj{b:TBigraph}{n j:Nat}(h:j<n):(rI (toJ b n))[j]? = some [tv ((VH b j).length:Int)]:=by
 simp [toJ,h]
theorem Zfo(b:TBigraph)(l:Int)(he:0<=b.edges/\b.edges<=8)(ho:b.outer.length<=1000)(hl:Jx b l)(lvl:Nat)(S:Sto):Sem Proofs.Tryz.prog YB lvl [cB b,iI l,tI (toJ b b.edges.toNat),iI ((Ze2 b).length:Int)] S (iI (ZdP b l)) S:=by
 have hul:=Zhl (b:=b)
 unfold Jx at hl
 refine Zc ZcP trivial ?_
 simp only[UO,Za,EVA,seval,Zd,men]
 refine Zn (fun hlt=>?_) (fun hge=>?_)
 ·obtain⟨j,rfl⟩:∃ j:Nat,l=j:=⟨l.toNat,by omega⟩
  have ga:=Zrj (b:=b) (n:=b.edges.toNat) (j:=j) (by omega)
  have hF:ZdP b j=((VH b j).length:Int):=by unfold ZdP;rw[if_pos hlt,Int.toNat_natCast]
  rw[hF]
  simp only[ga,EVA,seval,Zd,men]
  try rfl
 ·have hF:ZdP b l=l-b.edges+((Ze2 b).length:Int):=if_neg hge
  rw[hF]
  exact⟨by rw[Ze];omega,by rw[Ze];omega,rfl⟩
theorem Za9(sig:List TControl)(b:TBigraph)(h:bigOK sig b)(lvl:Nat)(S:Sto):Sem Proofs.Tryz.prog YA lvl [cB b] S (Zh (UY b)) S:=by
 have he:=h.edges
 have hs:=h.small
 have hul:=Zhl (b:=b)
 have hol:=hs.outer
 have hnl:=hs.nodes
 have hil:=hs.inner
 refine Zc ZcO (by simp [Zh,low,men,Zd]) ?_
 simp only[UN,Za,List.length_map,EVA,seval,Zd,men]
 refine ZO (α:=Unit) b.edges.toNat (fun j _=>[(3,.hd (lvl,320) [] 0 j none j),(4,iI ((VH b j).length:Int)),(5,iI j)]) (fun j _=>[(320,.ar 1 (rI (toJ b j)) true j 0)]) (fun _ _=>True) () (by simp only[EVA,seval,Zd,men]) (by (simp only[EVA,seval,Zd,men]) <;> rfl) trivial ?_
 intro j _ hj _
 simp only[List.length_map,EVA,seval,Zd,men]
 refine Zn (fun hlt=>?_) (fun hge=>?_)
 ·have hja:j<b.edges.toNat:=by omega
  have hle:(VH b j).length<=j:=ZgS
  have hmx:max j (j+1)=j+1:=by omega
  have htl:(rI (toJ b j)).length=j:=by rw[List.length_map,Zhn]
  have hts:=ZoJ (b:=b) (j:=j)
  have q:=ZkS b (j:Nat) hs
  simp only[Za,List.map_cons,List.map_nil] at q
  simp only[hmx,hts,Zhn,List.length_map,EVA,seval,Zd,men]
  refine⟨by omega,?_⟩
  refine Zb q ?_
  cases hc:dc (idle b (j:Nat))
  ·have hn:¬ idle b (j:Nat):=dc_not.1 hc
   have e2:(((VH b (j+1)).length:Nat):Int)=((VH b j).length:Int)+1:=by
    rw[VH,Dj (f:=fun j=>¬ idle b (j:Int)) hn,List.length_append,List.length_singleton]
    omega
   simp only[List.length_map,EVA,seval,Zd,men]
   exact⟨by rw[Ze];omega,by rw[Ze];omega,Zf () hja (by rw[e2];rfl) trivial⟩
  ·have hy:idle b (j:Nat):=dc_iff.1 hc
   have e1:VH b (j+1)=VH b j:=ZgT (f:=fun j=>¬ idle b (j:Int)) (fun g=>g hy)
   simp only[List.length_map,EVA,seval,Zd,men]
   exact⟨by rw[Ze];omega,Zf () hja (by rw[e1];rfl) trivial⟩
 have hj1:j=b.edges.toNat:=by omega
 subst hj1
 have hu2:(VH b b.edges.toNat).length=(Ze2 b).length:=rfl
 rw[hu2]
 have qo:=ZkW sig b h
 simp only[Za,List.map_cons,List.map_nil] at qo
 refine Zb qo ?_
 obtain⟨F,hF⟩:∃ F,F=ZdP b:=⟨_,rfl⟩
 have hB:UY b=ZeJ b F ((Ze2 b).length:Int) b.outer:=by rw[hF];rfl
 rw[hB]
 have qs:=fun l (hl:Jx b l)=>Zfo b l he (by omega) hl
 rw[<-hF] at qs
 simp only[cB,Za,List.map_cons,List.map_nil] at qs
 have hcut:cut (rI (toJ b b.edges.toNat)) 0 b.edges.toNat=rI (toJ b b.edges.toNat):=WR (by rw[List.length_map,Zhn])
 have htl:(rI (toJ b b.edges.toNat)).length=b.edges.toNat:=by rw[List.length_map,Zhn]
 simp only[Zh,Za,List.length_map,EVA,seval,Zd,men]
 refine ZO (α:=Unit) b.nodes.length (fun j _=>[(7,iI j)]) (fun j _=>[(896,.ar 3 ((YF F b.nodes j).map ZG) true b.nodes.length 0)]) (fun _ _=>True) () (by simp only[EVA,seval,Zd,men]) (by (simp only[EVA,seval,Zd,men]) <;> rfl) trivial ?_
 intro j _ hj _
 simp only[List.length_map,EVA,seval,Zd,men]
 refine Zn (fun hlt=>?_) (fun hge=>?_)
 ·have hja:j<b.nodes.length:=by omega
  have gp:=ZeM (F:=F) hja
  have ga:((YF F b.nodes j).map ZG)[j]? = some [Tr.v (.int .i64 b.nodes[j].control),Tr.v (.int .i64 b.nodes[j].parent),Tr.sl (rI b.nodes[j].links)]:=by rw[List.getElem?_map,gp];rfl
  have hkl:=hs.links _ (List.getElem_mem hja)
  have e0:(YF F b.nodes j).set j ⟨b.nodes[j].control,b.nodes[j].parent,YG F b.nodes[j].links 0⟩=YF F b.nodes j:=ZkV hja
  refine ZO (α:=Unit) b.nodes[j].links.length (fun k _=>[(8,iI k)]) (fun k _=>[(896,.ar 3 (((YF F b.nodes j).set j ⟨b.nodes[j].control,b.nodes[j].parent,YG F b.nodes[j].links k⟩).map ZG) true b.nodes.length 0)]) (fun _ _=>True) () (by simp only[EVA,seval,Zd,men]) (by (simp only[e0,EVA,seval,Zd,men]) <;> rfl) trivial ?_
  intro k _ hk _
  have gq:((YF F b.nodes j).set j ⟨b.nodes[j].control,b.nodes[j].parent,YG F b.nodes[j].links k⟩)[j]? = some ⟨b.nodes[j].control,b.nodes[j].parent,YG F b.nodes[j].links k⟩:=by
   rw[List.getElem?_set_self (by rw[Zce];exact hja)]
  have hgp:(((YF F b.nodes j).set j ⟨b.nodes[j].control,b.nodes[j].parent,YG F b.nodes[j].links k⟩).map ZG)[j]? = some [Tr.v (.int .i64 b.nodes[j].control),Tr.v (.int .i64 b.nodes[j].parent),Tr.sl (rI (YG F b.nodes[j].links k))]:=by rw[List.getElem?_map,gq];rfl
  simp only[hgp,hja,List.length_map,EVA,seval,Zd,men]
  refine Zn (fun hlt2=>?_) (fun hge2=>?_)
  ·have hpl:=ZeL (F:=F) (l:=b.nodes[j].links) (k:=k)
   have hka:k<b.nodes[j].links.length:=by omega
   have gk:(rI (YG F b.nodes[j].links k))[k]? = some [tv (g0 b.nodes[j].links k)]:=by rw[Jv (by omega),Zio hka]
   have hlk:Jx b (g0 b.nodes[j].links k):=(h.nodes j hja).links _ (show g0 b.nodes[j].links k∈b.nodes[j].links by simp [hka])
   have hsp:=Zpi (v:=F (g0 b.nodes[j].links k)) gq (k:=k) (by show k<(YG F b.nodes[j].links k).length;omega)
   have hst:((YF F b.nodes j).set j ⟨b.nodes[j].control,b.nodes[j].parent,YG F b.nodes[j].links k⟩).set j ⟨b.nodes[j].control,b.nodes[j].parent,(YG F b.nodes[j].links k).set k (F (g0 b.nodes[j].links k))⟩=(YF F b.nodes j).set j ⟨b.nodes[j].control,b.nodes[j].parent,YG F b.nodes[j].links (k+1)⟩:=by
    rw[List.set_set,Zip hka]
   rw[hst] at hsp
   simp only[hgp,gk,hja,hka,hpl,hcut,htl,Nat.zero_add,List.length_map,EVA,seval,Zd,men]
   refine Zb (qs _ hlk) ?_
   simp only[hgp,gk,hja,hka,hpl,hsp,Nat.zero_add,List.length_map,EVA,seval,Zd,men]
   exact⟨by rw[Ze];omega,Zf () hka rfl trivial⟩
  ·have:k=b.nodes[j].links.length:=by
    have hpl:=ZeL (F:=F) (l:=b.nodes[j].links) (k:=k)
    omega
   subst this
   have hst:(YF F b.nodes j).set j ⟨b.nodes[j].control,b.nodes[j].parent,YG F b.nodes[j].links b.nodes[j].links.length⟩=YF F b.nodes (j+1):=by
    rw[<-Ziq hja]
    congr 1
    simp [Zph,YG]
   rw[hst]
   exact⟨by rw[Ze];omega,Zf () hja rfl trivial⟩
 ·have:j=b.nodes.length:=by omega
  subst this
  have hpn:YF F b.nodes b.nodes.length=(ZeJ b F ((Ze2 b).length:Int) b.outer).nodes:=by simp [YF,ZeJ,Zph]
  rw[hpn]
  refine ZO (α:=Unit) b.inner.length (fun j _=>[(9,iI j)]) (fun j _=>[(899,.ar 2 ((Zaq F b.inner j).map ZX) true b.inner.length 0)]) (fun _ _=>True) () (by simp only[EVA,seval,Zd,men]) (by (simp only[EVA,seval,Zd,men]) <;> rfl) trivial ?_
  intro j _ hj _
  simp only[List.length_map,EVA,seval,Zd,men]
  refine Zn (fun hlt=>?_) (fun hge=>?_)
  ·have hja:j<b.inner.length:=by omega
   have gp:=Zir (F:=F) hja
   have ga:((Zaq F b.inner j).map ZX)[j]? = some [ts b.inner[j].name,tv b.inner[j].link]:=by rw[List.getElem?_map,gp];rfl
   have hsp:Ys ((Zaq F b.inner j).map ZX) [] j 1 (.v (.int .i64 (F b.inner[j].link)))=(Zaq F b.inner (j+1)).map ZX:=by
    simp only[Ys]
    rw[ga,<-Zis hja,List.map_set]
    rfl
   have hlk:=h.inner _ (List.getElem_mem hja)
   have hil:=hs.inner
   simp only[ga,hja,hcut,htl,Nat.zero_add,List.length_map,EVA,seval,Zd,men]
   refine Zb (qs _ hlk) ?_
   simp only[ga,hja,hsp,Nat.zero_add,List.length_map,EVA,seval,Zd,men]
   exact⟨by rw[Ze];omega,Zf () hja rfl trivial⟩
  ·have:j=b.inner.length:=by omega
   subst this
   have hpw:Zaq F b.inner b.inner.length=(ZeJ b F ((Ze2 b).length:Int) b.outer).inner:=by simp [Zaq,ZeJ,Zrs]
   rw[hpw]
   exact⟨by simp [ZeJ],by simp [ZeJ],rfl⟩
open Classical in
noncomputable def Q7(sig:List TControl)(a b:TBigraph):Bool:=if ZiI sig a b then !(Uh (UY a) (UY b)).isEmpty else false
noncomputable def Q8(sig:List TControl)(a b:TBigraph):Bool:=dc (ZiI sig a b)
theorem Zay(sig:List TControl)(a b:TBigraph)(hn:sig.length<=4294967296)(hbs:∀ y∈sig,ZC 4294967296 y)(hba:Zw 4294967296 a)(hbb:Zw 4294967296 b)(fa:ZR a)(fb:ZR b)(lvl:Nat)(S:Sto):Sem Proofs.Tryz.prog Vb lvl [.tr (.sl (sig.map Zj)),.ag ((Za a).map .tr),.ag ((Za b).map .tr)] S (.tu [iB (Q7 sig a b),iB (Q8 sig a b)]) S:=by
 have q:=ZiB sig a b hn hbs hba hbb fa fb
 simp only[cB,Za,List.map_cons,List.map_nil] at q
 unfold Q7 Q8
 refine Zc Zbe (by simp [low,men,Zd]) ?_
 simp only[WI,Za,EVA,seval,Zd,men]
 refine Zb q ?_
 by_cases h:ZiI sig a b
 rotate_left
 ·rw[Zk (show ¬ (bigOK sig a/\bigOK sig b) from h),Zk h,if_neg h]
  simp only[EVA,seval,Zd,men]
  try rfl
 rw[Z5 (show bigOK sig a/\bigOK sig b from h),Z5 h,if_pos h]
 have q1:=Za9 sig a h.1
 have q2:=Za9 sig b h.2
 have q3:=ZmS sig (UY a) (UY b) (Zhm h.1) (Zhm h.2)
 simp only[cB,Za,List.map_cons,List.map_nil] at q1 q2 q3
 simp only[EVA,seval,Zd,men]
 refine Zb q1 ?_
 simp only[Zh,List.length_map,EVA,seval,Zd,men]
 refine Zb q2 ?_
 simp only[Zh,List.length_map,EVA,seval,Zd,men]
 refine Zb q3 ?_
 simp only[EVA,seval,Zd,men]
 try rfl
theorem Zaz(sig:List TControl)(a b:TBigraph)(hn:sig.length<=4294967296)(hbs:∀ y∈sig,ZC 4294967296 y)(hba:Zw 4294967296 a)(hbb:Zw 4294967296 b)(fa:ZR a)(fb:ZR b)(lvl:Nat)(S:Sto):Sem Proofs.Tryz.prog Vc lvl [.tr (.sl (sig.map Zj)),.ag ((Za a).map .tr),.ag ((Za b).map .tr)] S (.tu [iB (Q7 sig a b),iB (Q8 sig a b)]) S:=by
 have q:=ZfT sig a b hn hbs hba hbb fa fb
 simp only[cB,Za,List.map_cons,List.map_nil] at q
 unfold Q7 Q8
 refine Zc Zbf (by simp [low,men,Zd]) ?_
 simp only[WJ,Za,EVA,seval,Zd,men]
 refine Zb q ?_
 by_cases h:ZiI sig a b
 rotate_left
 ·rw[Zk (show ¬ (bigOK sig a/\bigOK sig b) from h),Zk h,if_neg h]
  simp only[EVA,seval,Zd,men]
  try rfl
 rw[Z5 (show bigOK sig a/\bigOK sig b from h),Z5 h,if_pos h]
 have q1:=ZkE sig a h.1
 have q2:=ZkE sig b h.2
 have q3:=Zc7 sig (UY a) (UY b) (Zhm h.1) (Zhm h.2)
 simp only[cB,Za,List.map_cons,List.map_nil] at q1 q2 q3
 simp only[EVA,seval,Zd,men]
 refine Zb q1 ?_
 simp only[Zh,List.length_map,EVA,seval,Zd,men]
 refine Zb q2 ?_
 simp only[Zh,List.length_map,EVA,seval,Zd,men]
 refine Zb q3 ?_
 simp only[EVA,seval,Zd,men]
 try rfl
end Go.Fd
