/-
  TRANSLATIONS, THE REFERENCE: LISTS OF TIES, NODES THAT FIT, ENDS. Own work.
-/
import Derived.Test.YtidhoicihlnlaaaGreatDoorT06
import Derived.Shelf.GgSortFunc.InsertionK
import Derived.Shelf.SlSortCmp.WholeK
import Derived.Test.YtidhoicihlnlaaaGreatDoorProg
set_option linter.all false
namespace Go.Fd
set_option maxRecDepth 20000
theorem ZhX(a b:TBigraph)(es x y:List Int)(ha:0<=a.edges/\a.edges<=8)(hab:a.edges=b.edges)(hes:es.length=a.edges.toNat)(hl:x.length=y.length)(hxl:x.length<=1000)(hx:∀ v∈x,0<=v/\v<=1000)(hy:∀ v∈y,0<=v/\v<=1000)(lvl:Nat)(S:Sto) :
  Sem Proofs.Tryz.prog XG lvl [cB a,cB b,tI es,tI x,tI y] S (.tu [tI (Zb1 a.edges es x y x.length),iB (UN a.edges es x y).isSome]) S:=by
 refine Zc ZiW (by simp [low,men,Zf]) ?_
 simp only[Zdi,Zb,EVA,seval]
 refine Zv (α:=Unit) x.length (fun j _=>[(2,tI (Zb1 a.edges es x y j)),(12,iI j)]) (fun _ _=>[]) (fun j _=>∃ z,WB a.edges es x y j=some z) () (by simp only[EVA,seval]) (by (simp only[Zb1,EVA,seval]) <;> rfl) ⟨es,rfl⟩ ?_
 intro j _ hj ⟨z,hz⟩
 rw[Qb hz]
 simp only[List.length_map,EVA,seval]
 refine Zk (fun hlt=>?_) (fun hge=>?_)
 ·have hja:j<x.length:=by omega
  have hjy:j<y.length:=by omega
  have gx:=Jo hja
  have gy:=Jo hjy
  have q:=Zp1 a b z (g0 x j) (g0 y j) ha hab (by rw[XZ hz];exact hes) (hx _ (VX hja)) (hy _ (VX hjy))
  have hsucc:=Zey hz
  simp only[cB,Zb,List.map_cons,List.map_nil] at q
  simp only[gx,gy,EVA,seval,Zf,men]
  refine Za q ?_
  cases ht:ZgR a.edges z (g0 x j) (g0 y j) with
  | none =>
   rw[ht] at hsucc
   have e1:Zb1 a.edges es x y x.length=z:=by rw[ZhV hsucc (by omega),Qb hz]
   have e2:(UN a.edges es x y).isSome=false:=by unfold UN;rw[ZbR hsucc (by omega)];rfl
   rw[e1,e2]
   simp only[Option.isSome_none,EVA,seval]
   try rfl
  | some w =>
   rw[ht] at hsucc
   simp only[Option.isSome_some,Option.getD_some,EVA,seval]
   exact⟨by rw[Zd];omega,Ze () hja (by rw[Qb hsucc];rfl) ⟨w,hsucc⟩⟩
 ·have:j=x.length:=by omega
  subst this
  have e2:(UN a.edges es x y).isSome=true:=by unfold UN;rw[hz];rfl
  rw[e2,Qb hz]
theorem ZhY(p:Int)(ns:List Int)(h:p<ns.length)(lvl:Nat)(S:Sto):Sem Proofs.Tryz.prog Yj lvl [iI p,tI ns] S (iI (mvP ns p)) S:=by
 refine Zc Zdc trivial ?_
 unfold mvP
 by_cases h0:p<0
 ·rw[if_pos h0]
  simp only[W7,h0,EVA,seval]
  try rfl
 ·rw[if_neg h0]
  obtain⟨k,rfl⟩:=Int.eq_ofNat_of_zero_le (show 0<=p by omega)
  have hk:k<ns.length:=by omega
  have ga:=Jo hk
  simp only[W7,h0,ga,EVA,seval]
  try rfl
theorem Zn2(a b:TBigraph)(ns:List Int)(m:Nat)(hk:ns.length<a.nodes.length)(hn:ns.length<=100)(hm:m<b.nodes.length)(hp:(JV a ns.length).parent<ns.length)(lvl:Nat)(S:Sto) :
  Sem Proofs.Tryz.prog Uw lvl [cB a,cB b,tI ns,iI m] S (iB (dc (Zev a b ns m))) S:=by
 refine Zc ZiV trivial ?_
 have ga:=Xh (c:=ZK) hk
 have gb:=Xh (c:=ZK) hm
 have ea:=Jr hk
 have eb:=Jr hm
 rw[ea] at hp
 have key:Zev a b ns m↔(m:Int) ∉ ns/\a.nodes[ns.length].control=b.nodes[m].control/\mvP ns a.nodes[ns.length].parent=b.nodes[m].parent:=by
  unfold Zev
  rw[Int.toNat_natCast,ea,eb]
 rw[J3 key]
 generalize a.nodes[ns.length]=x at ga hp ⊢
 generalize b.nodes[m]=y at gb ⊢
 simp only[Zdh,Zb,ga,gb,ZK,List.length_map,EVA,seval,Zf,men]
 refine Za (Zbp ns m (by omega)) ?_
 by_cases h1:(m:Int)∈ns
 ·rw[Zg fun h=>h.1 h1]
  simp only[h1,decide_true,EVA,seval]
  try rfl
 by_cases h2:x.control=y.control
 ·have e2:(x.control=y.control)=True:=eq_true h2
  simp only[h1,decide_false,e2,EVA,seval,Zf,men]
  refine Za (ZhY x.parent ns hp) ?_
  by_cases h3:mvP ns x.parent=y.parent
  ·have e3:(mvP ns x.parent=y.parent)=True:=eq_true h3
   rw[Zy h3]
   simp only[e3,EVA,seval]
   try rfl
  ·have e3:(mvP ns x.parent=y.parent)=False:=eq_false h3
   rw[Zg h3]
   simp only[e3,EVA,seval]
   try rfl
 ·have e2:(x.control=y.control)=False:=eq_false h2
  rw[Zg fun h=>h2 h.2.1]
  simp only[h1,decide_false,e2,EVA,seval]
  try rfl
open Classical in
noncomputable def ZC8(a b:TBigraph)(ns es:List Int):List Int:=if a.sites.map (mvP ns)=b.sites then Zb1 a.edges es (lnk a) (lnk b) (lnk a).length else es
theorem Zm9{b:TBigraph}{j:Nat}(h:j<b.inner.length):rI ((lnk b).take j)++[[tv b.inner[j].link]]=rI ((lnk b).take (j+1)):=by
 rw[List.take_succ_eq_append_getElem (by simpa [lnk] using h)]
 simp [lnk]
theorem Zn3(a b:TBigraph)(ns es:List Int)(ha:0<=a.edges/\a.edges<=8)(hab:a.edges=b.edges)(hes:es.length=a.edges.toNat)(hs:a.sites.length=b.sites.length)(hs2:a.sites.length<=100)(hi:a.inner.length=b.inner.length)(hi2:a.inner.length<=100)(hp:∀ p∈a.sites,p<ns.length)
  (hx:∀ v∈lnk a,0<=v/\v<=1000) (hy:∀ v∈lnk b,0<=v/\v<=1000) (lvl:Nat) (S:Sto) :
  Sem Proofs.Tryz.prog Uv lvl [cB a,cB b,tI ns,tI es] S (.tu [tI (ZC8 a b ns es),iB (ZmX a b ns es).isSome]) S:=by
 have hla:(lnk a).length=a.inner.length:=by simp [lnk]
 have hlb:(lnk b).length=b.inner.length:=by simp [lnk]
 refine Zc ZiU (by simp [low,men,Zf]) ?_
 simp only[Zdg,Zb,EVA,seval]
 refine Zv (α:=Unit) a.sites.length (fun j _=>[(10,iI j)]) (fun _ _=>[]) (fun j _=>∀ i,i<j->mvP ns (g0 a.sites i)=g0 b.sites i) () (by simp only[EVA,seval]) (by (simp only[EVA,seval]) <;> rfl) (fun i hi=>absurd hi (Nat.not_lt_zero i)) ?_
 intro j _ hj hA
 simp only[List.length_map,EVA,seval]
 refine Zk (fun hlt=>?_) (fun hge=>?_)
 ·have hja:j<a.sites.length:=by omega
  have hjb:j<b.sites.length:=by omega
  have gx:=Jo hja
  have gy:=Jo hjb
  simp only[gx,EVA,seval,Zf,men]
  refine Za (ZhY (g0 a.sites j) ns (hp _ (VX hja))) ?_
  by_cases h:mvP ns (g0 a.sites j)=g0 b.sites j
  ·have e:(mvP ns (g0 a.sites j)=g0 b.sites j)=True:=eq_true h
   simp only[gy,e,EVA,seval]
   exact⟨by rw[Zd];omega,Ze () hja rfl (fun i hi=>by
    by_cases e:i=j
    ·subst e;exact h
    ·exact hA i (by omega))⟩
  ·have e:(mvP ns (g0 a.sites j)=g0 b.sites j)=False:=eq_false h
   have hne:¬ a.sites.map (mvP ns)=b.sites:=fun g=>h (by
    rw[<-g]
    show _=(a.sites.map (mvP ns)).getD j 0
    simp [hja])
   unfold ZC8 ZmX
   rw[if_neg hne,if_neg hne]
   simp only[gy,e,Option.isSome_none,EVA,seval]
   try rfl
 have hj1:j=a.sites.length:=by omega
 subst hj1
 have heq:a.sites.map (mvP ns)=b.sites:=List.ext_getElem (by rw[List.length_map];exact hs) fun i h1 h2=>by
  rw[List.length_map] at h1
  have:=hA i h1
  rw[List.getElem_map]
  simpa [h1,h2] using this
 unfold ZC8 ZmX
 rw[if_pos heq,if_pos heq]
 refine Zv (α:=Unit) a.inner.length (fun j _=>[(11,.hd (lvl,1120) [] 0 j none j),(12,.hd (lvl,1152) [] 0 j none j),(13,iI j)]) (fun j _=>[(1120,.ar 1 (rI ((lnk a).take j)) true j 0),(1152,.ar 1 (rI ((lnk b).take j)) true j 0)]) (fun _ _=>True) () (by simp only[EVA,seval]) (by (simp only[EVA,seval]) <;> rfl) trivial ?_
 intro j _ hj _
 simp only[List.length_map,EVA,seval,Zf,men]
 refine Zk (fun hlt=>?_) (fun hge=>?_)
 ·have hja:j<a.inner.length:=by omega
  have hjb:j<b.inner.length:=by omega
  have gx:=Xh (c:=Z3) hja
  have gy:=Xh (c:=Z3) hjb
  have l1:(rI ((lnk a).take j)).length=j:=by simp;omega
  have l2:(rI ((lnk b).take j)).length=j:=by simp;omega
  simp only[gx,gy,Z3,l1,l2,EVA,seval]
  exact⟨by omega,by omega,by rw[Zd];omega,Ze () hja (by rw[<-Zm9 hja,<-Zm9 hjb];rfl) trivial⟩
 ·have hj2:j=a.inner.length:=by omega
  subst hj2
  have q:=ZhX a b es (lnk a) (lnk b) ha hab hes (by omega) (by omega) hx hy
  simp only[cB,Zb,List.map_cons,List.map_nil] at q
  have t1:(lnk a).take a.inner.length=lnk a:=List.take_of_length_le (by omega)
  have t2:(lnk b).take a.inner.length=lnk b:=List.take_of_length_le (by omega)
  rw[t1,t2]
  have c1:cut (rI (lnk a)) 0 a.inner.length=rI (lnk a):=JA (by rw[List.length_map];omega)
  have c2:cut (rI (lnk b)) 0 a.inner.length=rI (lnk b):=JA (by rw[List.length_map];omega)
  simp only[hla,hlb,EVA,seval]
  refine⟨by omega,?_⟩
  refine Za q ?_
  simp only[hla,EVA,seval]
  try rfl
end Go.Fd

/-
  TRANSLATIONS, THE REFERENCE: WHAT IS LEFT; THE WHOLE. Own work.
-/
namespace Go.Fd
set_option maxRecDepth 20000
theorem ZaK(a b:List ByteArray)(ha:a.length<=4294967296)(hb:b.length<=4294967296)(lvl:Nat)(S:Sto):Sem Proofs.Tryz.prog YS lvl [.tr (.sl (rS a)),.tr (.sl (rS b))] S (iB (dc (a=b))) S:=by
 refine Zc Zc3 trivial ?_
 simp only[U1,EVA,seval]
 refine Zv (α:=Unit) (min a.length b.length) (fun j _=>[(5,iI j)]) (fun j _=>[]) (fun j _=>∀ k,k<j->∀(h1:k<a.length) (h2:k<b.length),a[k]=b[k]) () (by simp only[EVA,seval]) (by (simp only[EVA,seval]) <;> rfl) (fun k hk=>absurd hk (Nat.not_lt_zero k)) ?_
 intro j _ hj hA
 simp only[List.length_map,EVA,seval]
 by_cases hlt:j<min a.length b.length
 ·have hja:j<a.length:=by omega
  have hjb:j<b.length:=by omega
  have q1:(j:Int)<a.length:=by omega
  have q2:(j:Int)<b.length:=by omega
  have ga:=Xh (c:=fun s=>[ts s]) hja
  have gb:=Xh (c:=fun s=>[ts s]) hjb
  simp only[q1,q2,ga,gb,EVA,seval]
  by_cases hc:a[j]=b[j]
  ·simp only[hc,EVA,seval]
   exact⟨by rw[Zd];omega,Ze () hlt rfl (Zq1 hA fun _ _=>hc)⟩
  ·simp only[hc,EVA,seval]
   have:¬ a=b:=fun h=>hc (by subst h;rfl)
   rw[Zg this]
 ·have fin:((a.length:Int)=b.length)↔a=b:=⟨fun h=>List.ext_getElem (by omega) fun k h1 h2=>hA k (by omega) h1 h2,fun h=>by rw[h]⟩
  by_cases q1:(j:Int)<a.length
  ·have q2:¬ (j:Int)<b.length:=by omega
   simp only[q1,q2,seval]
   rw[<-Y1,J3 fin]
  ·simp only[q1,seval]
   rw[<-Y1,J3 fin]
theorem ZlO(a b:TBigraph)(ha:small a)(hb:small b)(lvl:Nat)(S:Sto):Sem Proofs.Tryz.prog WK lvl [cB a,cB b] S (iB (dc (XY a b))) S:=by
 refine Zc Zg0 trivial ?_
 have e1:∀{x y:Int},x=y->(x=y)=True:=fun h=>eq_true h
 by_cases h1:a.roots=b.roots
 rotate_left
 ·have e:=eq_false h1
  rw[Zg fun h:XY a b=>h1 h.1]
  simp only[Vw,Zb,e,EVA,seval]
  try rfl
 have e1:=eq_true h1
 by_cases h2:a.edges=b.edges
 rotate_left
 ·have e:=eq_false h2
  rw[Zg fun h:XY a b=>h2 h.2.1]
  simp only[Vw,Zb,e1,e,EVA,seval]
  try rfl
 have e2:=eq_true h2
 by_cases h3:a.nodes.length=b.nodes.length
 rotate_left
 ·have e:((a.nodes.length:Int)=b.nodes.length)=False:=eq_false (by omega)
  rw[Zg fun h:XY a b=>h3 h.2.2.1]
  simp only[Vw,Zb,e1,e2,e,List.length_map,EVA,seval]
  try rfl
 have e3:((a.nodes.length:Int)=b.nodes.length)=True:=eq_true (by omega)
 by_cases h4:a.sites.length=b.sites.length
 rotate_left
 ·have e:((a.sites.length:Int)=b.sites.length)=False:=eq_false (by omega)
  rw[Zg fun h:XY a b=>h4 h.2.2.2.1]
  simp only[Vw,Zb,e1,e2,e3,e,List.length_map,EVA,seval]
  try rfl
 have e4:((a.sites.length:Int)=b.sites.length)=True:=eq_true (by omega)
 have q1:=ZaK a.outer b.outer (by have:=ha.outer;omega) (by have:=hb.outer;omega)
 have q2:=ZcD a (by have:=ha.inner;omega)
 have q3:=ZcD b (by have:=hb.inner;omega)
 have q4:=ZaK (inn a) (inn b) (by rw[Zar];have:=ha.inner;omega) (by rw[Zar];have:=hb.inner;omega)
 simp only[Zb,List.map_cons,List.map_nil] at q2 q3
 simp only[Vw,Zb,e1,e2,e3,e4,List.length_map,EVA,seval,Zf,men]
 refine Za q1 ?_
 by_cases h5:a.outer=b.outer
 rotate_left
 ·rw[Zg fun h:XY a b=>h5 h.2.2.2.2.1,Zg h5]
  simp only[EVA,seval]
  try rfl
 rw[Zy h5]
 simp only[EVA,seval,Zf,men]
 refine Za q2 ?_
 simp only[EVA,seval,Zf,men]
 refine Za q3 ?_
 simp only[EVA,seval,Zf,men]
 refine Za q4 ?_
 rw[J3 (show XY a b↔inn a=inn b from ⟨fun h=>h.2.2.2.2.2,fun h=>⟨h1,h2,h3,h4,h5,h⟩⟩)]
 simp only[EVA,seval]
 try rfl
end Go.Fd

/-
  FOUNDATION 56: a function of the library that orders a row of structs by another function, in place, by the guide's contract. Own work.
-/
namespace Go.Fd
variable [Tabs]
open Go.Sort Go.Proofs Go.RowKit
section
variable {P:Program} {α:Type} [Inhabited α] {enc:α->List Value} {k:Nat}
abbrev Ztj(enc:α->List Value)(l:List α):Row:=l.map fun x=>(enc x).map .v
theorem ZdL{l:List α}{p:Pth}{es2:Row}(hp:p≠[]):getp (Ztj enc l) p≠some es2:=fun h=>by
 cases p with
 | nil=>exact hp rfl
 | cons cd q =>
  obtain⟨c,d⟩:=cd
  obtain⟨e,x,h1,h2,_⟩:=JW h
  obtain⟨n,_,rfl⟩:=List.mem_map.1 (List.mem_of_getElem? h1)
  obtain⟨v,_,hv⟩:=List.mem_map.1 (List.mem_of_getElem? h2)
  cases hv
theorem ZlP(hk:∀ x,(enc x).length=k){l:List α}:UnR k (Ztj enc l):=Za5 (fun x=>(enc x).map .v) (fun x=>by rw[List.length_map,hk]) l
theorem ZkJ{l:List α}:(flatK enc k l.toArray).size=l.length*k:=by simp [flatK]
theorem Zna(hk:∀ x,(enc x).length=k){l:List α}{i f:Nat}(hi:i<l.length)(hf:f<k):(flatK enc k l.toArray)[i*k+f]! = (enc l[i])[f]'(by rw[hk];exact hf):=by
 have h1:(i*k+f) / k=i:=by
  rw[Nat.mul_comm,Nat.mul_add_div (by omega),Nat.div_eq_of_lt hf,Nat.add_zero]
 have h2:(i*k+f) % k=f:=by
  rw[Nat.mul_comm,Nat.mul_add_mod,Nat.mod_eq_of_lt hf]
 have h3:i*k+f<l.length*k:=by
  have:(i+1)*k<=l.length*k:=Nat.mul_le_mul_right k hi
  rw[Nat.add_mul,Nat.one_mul] at this
  omega
 have hfl:f<(enc l[i]).length:=by rw[hk];exact hf
 simp [flatK,h3,h1,h2,hi,hfl]
theorem Zsf{F c:Array Value}{i:Nat}(h:i<F.size)(hc:i<c.size):(putCells id 0 F c)[i]? = some F[i]!:=by
 simp [putCells,hc,h]
theorem Zp2{F c:Array Value}:(putCells id 0 F c).size=c.size:=by simp [putCells]
theorem Zjs{f g:FuncId}{lvl:Nat}{S:Sto}{id:Oid}{xs ys:List α}{u:Bool}{hw ver:Nat}(hk:∀ x,(enc x).length=k)(hk0:0<k)(hc:UW P f)(hid:id.1<lvl)(hS:S id=some (.ar k (Ztj enc xs) u hw ver))
  (hsc:∀ x:α,∀ v∈enc x,Zaz v=true) (hl:ys.length=xs.length) (hpos:0<xs.length)
  (h1:∀(b cap:Nat) (w:World),HoldsK enc k w b 0 xs.toArray->b<w.heap.size->Calls P f #[.slice (some ⟨b,0,none⟩) xs.length cap,.func (.func g) #[] #[]] w fun e w' => e = .returned (.tuple #[])/\∃ n os,w'=sortWorldK enc k w b 0 n ys.toArray os) :
  Sem P f lvl [.hd id [] 0 xs.length none hw,.fn g []] S (.tu []) (ZN S id (.ar k (Ztj enc ys) u hw ver)):=by
 refine⟨trivial,hc,fun hlow G w vs hok hv _=>?_⟩
 simp only[VRs] at hv
 obtain⟨v,vr,rfl,hv,v2,vr2,rfl,hv2,rfl⟩:=hv
 simp only[VR] at hv hv2
 obtain⟨vs2,rfl,hvs2⟩:=hv2
 have hv20:vs2=[]:=hvs2
 subst hv20
 obtain⟨⟨a0,c0,hv0,hlc0⟩,k2,es2,u2,hw2,ver2,hs2,_,hrel⟩:=hv
 rw[hS] at hs2;cases hs2
 obtain⟨es3,k',a,c,hg3,hkk,hun,rfl,hlc,hcap,hcap2,hor⟩:=hrel rfl
 cases hg3
 have hk1:=hkk rfl
 subst hk1
 rcases hor with hz | ⟨hz,_⟩ | ⟨b,cc,hG,rfl,hoc⟩
 ·omega
 ·exact absurd rfl hz
 ·obtain⟨o1,o2,o3,o4,o5⟩:=hok.obs _ _ hS
  have hr:=o4 [] _ (.inl rfl) rfl
  unfold WF at hr
  rw[hG] at hr
  obtain⟨k3,cells,ty,g1,g2,g3,g4,g5,g6⟩:=hr
  have hk3:=g1 rfl
  subst hk3
  have hbs:b<w.heap.size:=by
   rcases Nat.lt_or_ge b w.heap.size with h | h
   ·exact h
   ·rw[Array.getElem?_eq_none h] at g3;cases g3
  have hH:HoldsK enc k3 w b 0 xs.toArray:=fun j hj=>by
   rw[ZkJ] at hj
   obtain⟨i,f,rfl,hf⟩:∃ i f,j=i*k3+f/\f<k3:=⟨j / k3,j % k3,by rw[Nat.mul_comm];exact(Nat.div_add_mod j k3).symm,Nat.mod_lt _ hk0⟩
   have hi:i<xs.length:=by
    rcases Nat.lt_or_ge i xs.length with h | h
    ·exact h
    ·have:=Nat.mul_le_mul_right k3 h
     omega
   have hfl:f<(enc xs[i]).length:=by rw[hk];exact hf
   obtain⟨x,hx1,hx2⟩:=g6 i ((enc xs[i]).map .v) f (.v (enc xs[i])[f]) (by simp [hi]) (by simp [hfl])
   simp only[YO] at hx2
   obtain⟨rfl,_⟩:=hx2
   refine⟨?_,by simp [World.frozen?,g3]⟩
   rw[Zna hk hi hf,cell_of_row w b (0+(i*k3+f)) cells ty (0,0) g3]
   simpa using hx1
  rw[Nat.zero_mul]
  refine(h1 b c w hH hbs).mono ?_
  rintro e w' ⟨rfl,n,os,rfl⟩
  have hsz:w.heap.size<=(sortWorldK enc k3 w b 0 n ys.toArray os).heap.size:=by simp [sortWorldK,putRowK,grow,putRow,mapBlock,Sort.ahead]
  have hheap:∀ b2,b2<w.heap.size->b2≠b->(sortWorldK enc k3 w b 0 n ys.toArray os).heap[b2]? = w.heap[b2]?:=fun b2 h2 hne=>by
   simp only[sortWorldK,putRowK,grow,putRow,mapBlock,Sort.ahead]
   rw[Array.getElem?_append_left (by simpa using h2),Array.getElem?_modify,if_neg (fun e=>hne e.symm)]
  have hrow:(sortWorldK enc k3 w b 0 n ys.toArray os).heap[b]? = some (.cells (putCells _root_.id 0 (flatK enc k3 ys.toArray) cells) ty (0,0)):=by
   simp only[sortWorldK,putRowK,grow,putRow,mapBlock,Sort.ahead]
   rw[Array.getElem?_append_left (by simpa using hbs),Array.getElem?_modify,if_pos rfl,g3]
   rfl
  have hown:∀ ob b2,ob=(.ar k3 (Ztj enc ys) u hw ver:Ob)->VB G id ob b2->b2=b:=fun ob b2 ho h=>by
   subst ho
   obtain⟨p,c2,hp,hq,hg⟩:=h
   by_cases hp0:p=[]
   ·subst hp0
    rw[hG] at hg
    cases hg
    rfl
   ·obtain⟨e2,he2⟩:=Option.isSome_iff_exists.1 hq
    exact absurd he2 (ZdL hp0)
  have hbown:VB G id (.ar k3 (Ztj enc xs) u hw ver) b:=⟨[],cc,.inl rfl,rfl,hG⟩
  have t:Trn G G S (ZN S id (.ar k3 (Ztj enc ys) u hw ver)) w (sortWorldK enc k3 w b 0 n ys.toArray os) (· = id) (fun _=>False):=by
   refine⟨fun _ _=>rfl,fun i ob hi _ hs=>⟨ob,by unfold ZN;rw[if_neg hi];exact hs,Wk.refl ob⟩,fun i ob hi hs=>⟨fun h=>h,ob,by unfold ZN at hs;rw[if_neg hi] at hs;exact hs,Wk.refl ob⟩,hsz,fun b2 h2 hn=>hheap b2 h2 fun e=>hn id _ rfl hS (e ▸ hbown),fun i ob b2 hi hs ho=>?_,fun i ob hi _ hs=>?_⟩
   ·subst hi
    unfold ZN at hs;rw[if_pos rfl] at hs;cases hs
    have:=hown _ b2 rfl ho
    subst this
    exact .inl ⟨i,_,.inl rfl,hS,hbown⟩
   ·subst hi
    rw[hS] at hs;cases hs
    refine⟨.ar k3 (Ztj enc ys) u hw ver,by unfold ZN;rw[if_pos rfl],rfl,Nat.le_refl _,Nat.le_refl _,fun p st _ hst=>⟨hst,fun es' he=>?_⟩⟩
    by_cases hp0:p=[]
    ·subst hp0
     exact⟨rfl,_,rfl,fun k' hkk _=>by rw[hkk rfl];exact ZlP hk⟩
    ·exact absurd he (ZdL hp0)
  refine⟨_,G,rfl,t.ok hok (fun i ob hi hs=>?_) (fun i ob j ob' b hi hj _ _ _ _=>hi.trans hj.symm) (fun i cells hi hs=>?_),by simp [impv,impvs,VR,VRs],fun i ob hs=>?_,t.frm (fun _ h=>h.elim) rfl rfl rfl⟩
  ·subst hi
   simp only[impv,impvs,Qp,ZN,if_true] at hs;cases hs
   refine⟨by rw[List.length_map] at *;omega,ZlP hk,o3,fun p es2 hp he=>?_,fun p p' b1 c1 c2 hp hp' g1 g2 g3 g4=>?_⟩
   ·by_cases hp0:p=[]
    ·subst hp0
     cases he
     unfold WF
     rw[hG]
     refine⟨k3,_,ty,fun _=>rfl,ZlP hk,hrow,by rw[Zp2];exact g4,by rw[List.length_map] at *;omega,fun i e f t hi hf=>?_⟩
     rw[List.getElem?_map] at hi
     obtain⟨y,hy,rfl⟩:=Option.map_eq_some_iff.1 hi
     obtain⟨hil,hyy⟩:=List.getElem?_eq_some_iff.1 hy
     rw[List.getElem?_map] at hf
     obtain⟨v,hv,rfl⟩:=Option.map_eq_some_iff.1 hf
     obtain⟨hfl,hvv⟩:=List.getElem?_eq_some_iff.1 hv
     have hfk:f<k3:=by rw[<-hk y];exact hfl
     have hlt:i*k3+f<ys.length*k3:=by
      have:(i+1)*k3<=ys.length*k3:=Nat.mul_le_mul_right k3 hil
      rw[Nat.add_mul,Nat.one_mul] at this
      omega
     have hlt2:i*k3+f<cells.size:=by
      rw[List.length_map] at g5
      rw[g4]
      have:ys.length*k3<=cc*k3:=Nat.mul_le_mul_right k3 (by omega)
      omega
     refine⟨v,?_,rfl,hsc y v (List.mem_of_getElem? hv)⟩
     rw[Zsf (by rw[ZkJ];exact hlt) hlt2,Zna hk hil hfk]
     subst hyy
     rw[hvv]
    ·exact absurd he (ZdL hp0)
   ·by_cases hp0:p=[]
    ·by_cases hp1:p'=[]
     ·rw[hp0,hp1]
     ·obtain⟨e2,he2⟩:=Option.isSome_iff_exists.1 g2
      exact absurd he2 (ZdL hp1)
    ·obtain⟨e2,he2⟩:=Option.isSome_iff_exists.1 g1
     exact absurd he2 (ZdL hp0)
  ·subst hi
   simp only[impv,impvs,Qp,ZN,if_true] at hs;cases hs
  ·simp only[ZN] at hs
   split at hs
   ·rename_i h;rw[h];exact hid
   ·exact hlow i ob hs
end
end Go.Fd

/-
  NUMBERS OF LIBRARY FUNCTIONS IN THIS PROGRAM, as the guide's shelf lays them (printed by lay.py out of the kit's own command).
-/
namespace Go.Proofs
open Go.Shelf
def Tryz.sortW_ren:Go.Shelf.Ren:=⟨fun | 6=>259 | 15=>146 | 14=>281 | 28=>191 | 29=>192 | 20=>296 | 21=>297 | 22=>298 | 23=>299 | 24=>300 | 25=>301 | 26=>302 | 27=>303 | 46=>308 | 47=>229 | 48=>230 | 49=>309 | 50=>310 | 57=>321 | n=>n,fun | 22=>54 | 24=>132 | 25=>270 | 3=>3 | 39=>181 | 0=>0 | 53=>216 | 55=>218 | 4=>4 | 46=>208 | 45=>207 | 50=>213 | 5=>5 | 9=>9 | 66=>243 | 70=>247 | 76=>278 | 77=>279 | n=>n,fun | n=>n⟩
theorem Tryz.sortW:Go.Proofs.SlLaysF0.n6 Tryz.prog Tryz.sortW_ren:={
  mixed:=by kernel_rfl,
  f6:=⟨"slices.SortFunc[[]loop.example/g01082/impl.Wire,loop.example/g01082/impl.Wire]",by decide,Tryz.func259.trans (congrArg some (by kernel_rfl))⟩,
  f14:=⟨"slices.pdqsortCmpFunc[loop.example/g01082/impl.Wire]",by decide,Tryz.func281.trans (congrArg some (by kernel_rfl))⟩,
  f15:=Tryz.func146.trans (congrArg some (by kernel_rfl)),
  f20:=⟨"slices.insertionSortCmpFunc[loop.example/g01082/impl.Wire]",by decide,Tryz.func296.trans (congrArg some (by kernel_rfl))⟩,
  f21:=⟨"slices.heapSortCmpFunc[loop.example/g01082/impl.Wire]",by decide,Tryz.func297.trans (congrArg some (by kernel_rfl))⟩,
  f22:=⟨"slices.breakPatternsCmpFunc[loop.example/g01082/impl.Wire]",by decide,Tryz.func298.trans (congrArg some (by kernel_rfl))⟩,
  f23:=⟨"slices.choosePivotCmpFunc[loop.example/g01082/impl.Wire]",by decide,Tryz.func299.trans (congrArg some (by kernel_rfl))⟩,
  f24:=⟨"slices.reverseRangeCmpFunc[loop.example/g01082/impl.Wire]",by decide,Tryz.func300.trans (congrArg some (by kernel_rfl))⟩,
  f25:=⟨"slices.partialInsertionSortCmpFunc[loop.example/g01082/impl.Wire]",by decide,Tryz.func301.trans (congrArg some (by kernel_rfl))⟩,
  f26:=⟨"slices.partitionEqualCmpFunc[loop.example/g01082/impl.Wire]",by decide,Tryz.func302.trans (congrArg some (by kernel_rfl))⟩,
  f27:=⟨"slices.partitionCmpFunc[loop.example/g01082/impl.Wire]",by decide,Tryz.func303.trans (congrArg some (by kernel_rfl))⟩,
  f28:=Tryz.func191.trans (congrArg some (by kernel_rfl)),
  f29:=Tryz.func192.trans (congrArg some (by kernel_rfl)),
  f46:=⟨"slices.siftDownCmpFunc[loop.example/g01082/impl.Wire]",by decide,Tryz.func308.trans (congrArg some (by kernel_rfl))⟩,
  f47:=Tryz.func229.trans (congrArg some (by kernel_rfl)),
  f48:=Tryz.func230.trans (congrArg some (by kernel_rfl)),
  f49:=⟨"slices.medianAdjacentCmpFunc[loop.example/g01082/impl.Wire]",by decide,Tryz.func309.trans (congrArg some (by kernel_rfl))⟩,
  f50:=⟨"slices.medianCmpFunc[loop.example/g01082/impl.Wire]",by decide,Tryz.func310.trans (congrArg some (by kernel_rfl))⟩,
  f57:=⟨"slices.order2CmpFunc[loop.example/g01082/impl.Wire]",by decide,Tryz.func321.trans (congrArg some (by kernel_rfl))⟩,
  t0:=Tryz.underlying0,
  a0:=Tryz.isAgg0,
  z0:=Tryz.sizeOf0,
  v0:=Tryz.zeroValue0,
  t3:=Tryz.underlying3,
  a3:=Tryz.isAgg3,
  z3:=Tryz.sizeOf3,
  v3:=Tryz.zeroValue3,
  t4:=Tryz.underlying4,
  a4:=Tryz.isAgg4,
  z4:=Tryz.sizeOf4,
  v4:=Tryz.zeroValue4,
  t5:=Tryz.underlying5,
  a5:=Tryz.isAgg5,
  z5:=Tryz.sizeOf5,
  v5:=Tryz.zeroValue5,
  t9:=Tryz.underlying9,
  a9:=Tryz.isAgg9,
  z9:=Tryz.sizeOf9,
  v9:=Tryz.zeroValue9,
  t22:=Tryz.underlying54,
  a22:=Tryz.isAgg54,
  z22:=Tryz.sizeOf54,
  v22:=Tryz.zeroValue54,
  t25:=Tryz.underlying270,
  a25:=Tryz.isAgg270,
  z25:=Tryz.sizeOf270,
  v25:=Tryz.zeroValue270,
  t39:=Tryz.underlying181,
  a39:=Tryz.isAgg181,
  z39:=Tryz.sizeOf181,
  v39:=Tryz.zeroValue181,
  t45:=Tryz.underlying207,
  a45:=Tryz.isAgg207,
  z45:=Tryz.sizeOf207,
  v45:=Tryz.zeroValue207,
  t46:=Tryz.underlying208,
  a46:=Tryz.isAgg208,
  z46:=Tryz.sizeOf208,
  v46:=Tryz.zeroValue208,
  t50:=Tryz.underlying213,
  a50:=Tryz.isAgg213,
  z50:=Tryz.sizeOf213,
  v50:=Tryz.zeroValue213,
  t53:=Tryz.underlying216,
  a53:=Tryz.isAgg216,
  z53:=Tryz.sizeOf216,
  v53:=Tryz.zeroValue216,
  t55:=Tryz.underlying218,
  a55:=Tryz.isAgg218,
  z55:=Tryz.sizeOf218,
  v55:=Tryz.zeroValue218,
  t66:=Tryz.underlying243,
  a66:=Tryz.isAgg243,
  z66:=Tryz.sizeOf243,
  v66:=Tryz.zeroValue243,
  t70:=Tryz.underlying247,
  a70:=Tryz.isAgg247,
  z70:=Tryz.sizeOf247,
  v70:=Tryz.zeroValue247,
  t76:=Tryz.underlying278,
  a76:=Tryz.isAgg278,
  z76:=Tryz.sizeOf278,
  v76:=Tryz.zeroValue278,
  t77:=Tryz.underlying279,
  a77:=Tryz.isAgg279,
  z77:=Tryz.sizeOf279,
  v77:=Tryz.zeroValue279 }
end Go.Proofs

/-
  ONE BIGRAPH UNDER ANOTHER, THE REFERENCE'S SIDE. Own work.
-/
namespace Go.Fd
set_option maxRecDepth 20000
theorem Ztk{sig:List TControl}{b:TBigraph}(h:bigOK sig b){ps:List Int}(hp:(ps.length:Int)=b.roots){p:Int}(h1:-b.roots<=p)(h2:p<b.nodes.length):(-4294967296<=p/\p<=4294967296)/\(p<0->(-1-p).toNat<ps.length):=by
 have hr:=h.roots
 have hn:=h.small.nodes
 exact⟨by omega,fun h3=>by omega⟩
theorem Znb{sig:List TControl}{b:TBigraph}(h:bigOK sig b){ps ls:List Int}(hp:(ps.length:Int)=b.roots)(hl:(ls.length:Int)=b.edges+b.outer.length):∀ x∈b.nodes,x.links.length<=4294967290/\((-4294967296<=x.parent/\x.parent<=4294967296)/\(x.parent<0->(-1-x.parent).toNat<ps.length))/\∀ l∈x.links,0<=l/\l<ls.length:=fun x hx=>by
 have hl2:=h.small.links _ hx
 have hb:=Dr h hx
 obtain⟨k,hk,rfl⟩:=List.getElem_of_mem hx
 refine⟨by omega,Ztk h hp (Jq h.roots.1 (h.nodes k hk).par) hb.1,fun l hl3=>?_⟩
 have:=hb.2 l hl3
 omega
theorem Znc{sig:List TControl}{b:TBigraph}(h:bigOK sig b){ps:List Int}(hp:(ps.length:Int)=b.roots):∀ p∈b.sites,(-4294967296<=p/\p<=4294967296)/\(p<0->(-1-p).toNat<ps.length):=fun p hq=>Ztk h hp (Jq h.roots.1 (h.sites p hq)) (Wr h hq)
theorem Zp3{sig:List TControl}{b:TBigraph}(h:bigOK sig b){ls:List Int}(hl:(ls.length:Int)=b.edges+b.outer.length):∀ w∈b.inner,0<=w.link/\w.link<ls.length:=fun w hw=>by
 have:=h.inner w hw
 unfold ZQ at this
 omega
theorem Znd{sig:List TControl}{b:TBigraph}(h:bigOK sig b){n:Nat}(hn:b.roots=n){ls:List Int}:b.nodes.map (Zgx 0 (JI 0 n) ls)=b.nodes.map (ZlJ fun l=>g0 ls l.toNat):=List.map_congr_left fun x hx=>by
 obtain⟨k,hk,rfl⟩:=List.getElem_of_mem hx
 unfold Zgx ZlJ
 rw[Zjf hn (Jq h.roots.1 (h.nodes k hk).par)]
theorem Zne{sig:List TControl}{b:TBigraph}(h:bigOK sig b){n:Nat}(hn:b.roots=n):b.sites.map (Zes 0 (JI 0 n))=b.sites:=by
 have:b.sites.map (Zes 0 (JI 0 n))=b.sites.map id:=List.map_congr_left fun p hp=>Zjf hn (Jq h.roots.1 (h.sites p hp))
 rw[this,List.map_id]
theorem ZDL{l:List TNode}:UnR 3 (l.map ZK)=True:=eq_true (Za5 ZK (fun _=>rfl) l)
abbrev Zsg(b:TBigraph)(u:Bool):IV:=.ag [iI b.roots,.ow 3 (b.nodes.map ZK) u,.ow 1 (rI b.sites) true,iI b.edges,.ow 1 (rS b.outer) true,.ow 2 (b.inner.map Z3) true]
theorem ZlQ(sig:List TControl)(a b:TBigraph)(o:List ByteArray)(above below:List Int)(ha:bigOK sig a)(hb:bigOK sig b)(hf:(a.sites.length:Int)=b.roots)(hA:above.length=a.outer.length)(hB:below.length=b.outer.length)(ho:o.length<=4294967290)(L R:List Int)(hL:∀ n:Nat,a.edges=n->UT 0 n++above=L)(hR:∀ n:Nat,b.edges=n->UT a.edges n++below=R)
  (lvl:Nat) (S:Sto):Sem Proofs.Tryz.prog WP lvl [.ag ((Zb a).map .tr),.ag ((Zb b).map .tr),.tr (.sl (rS o)),tI above,tI below] S (Zsg (ZmW a b o L R) false) S:=by
 have ra:=ha.roots;have rb:=hb.roots
 have ea:=ha.edges;have eb:=hb.edges
 have sa:=ha.small;have sb:=hb.small
 have a1:=sa.nodes;have a2:=sa.sites;have a3:=sa.inner;have a4:=sa.outer
 have b1:=sb.nodes;have b2:=sb.sites;have b3:=sb.inner;have b4:=sb.outer
 obtain⟨n,hn⟩:∃ n:Nat,a.roots=n:=⟨a.roots.toNat,by omega⟩
 obtain⟨m,hm⟩:∃ m:Nat,a.edges=m:=⟨a.edges.toNat,by omega⟩
 obtain⟨k,hk⟩:∃ k:Nat,b.edges=k:=⟨b.edges.toNat,by omega⟩
 have hLL:=hL m hm
 have hRR:=hR k hk
 have lenL:(L.length:Int)=a.edges+a.outer.length:=by rw[<-hLL,List.length_append,fromN_len,hA];omega
 have lenR:(R.length:Int)=b.edges+b.outer.length:=by rw[<-hRR,List.length_append,fromN_len,hB];omega
 have w1:rI (UT 0 m)++rI above=rI L:=by rw[<-Y7,hLL]
 have w2:m+above.length=L.length:=by rw[<-hLL,List.length_append,fromN_len]
 have w3:rI (UT (m:Int) k)++rI below=rI R:=by rw[<-Y7,<-hm,hRR]
 have w4:k+below.length=R.length:=by rw[<-hRR,List.length_append,fromN_len]
 have w5:max m L.length=L.length:=by omega
 have w6:max k R.length=R.length:=by omega
 have c1:cut (rI L) 0 L.length=rI L:=JA (by rw[List.length_map])
 have c2:cut (rI R) 0 R.length=rI R:=JA (by rw[List.length_map])
 refine Zc Zha (by simp [low,men,Zf]) ?_
 simp only[Zcj,Zb,hn,EVA,seval,Zf,men]
 refine Za (Zat 0 n (by omega) (by omega)) ?_
 simp only[hm,EVA,seval,Zf,men]
 refine Za (UJ 0 m (by omega) (by omega)) ?_
 simp only[Zbt,Zbu,hk,w1,w2,w5,fromN_len,List.length_map,EVA,seval,Zf,men]
 refine⟨by omega,Za (UJ m k (by omega) (by omega)) ?_⟩
 simp only[Zbt,Zbu,w3,w4,w6,fromN_len,List.length_map,EVA,seval,Zf,men]
 refine⟨by omega,?_⟩
 have q1:=Wg a 0 (JI 0 n) (by omega) (by omega) (Znc ha (by rw[rootsN_len];omega))
 rw[Zne ha hn] at q1
 simp only[Zb,hn,hm,List.map_cons,List.map_nil] at q1
 refine Za q1 ?_
 simp only[c1,List.length_map,EVA,seval,Zf,men]
 have q2:=UK a 0 (JI 0 n) L (by omega) (by omega) (Znb ha (by rw[rootsN_len];omega) lenL)
 rw[Znd ha hn] at q2
 simp only[Zb,hn,hm,List.map_cons,List.map_nil] at q2
 refine Za q2 ?_
 simp only[c2,List.length_map,EVA,seval,Zf,men]
 have q3:=UK b a.nodes.length a.sites R (by omega) (by omega) (Znb hb hf lenR)
 simp only[Zb,hk,List.map_cons,List.map_nil] at q3
 refine Za q3 ?_
 simp only[ZDL,List.length_map,EVA,seval,Zf,men]
 refine⟨by omega,?_⟩
 have q4:=Wg b a.nodes.length a.sites (by omega) (by omega) (Znc hb hf)
 simp only[Zb,hk,List.map_cons,List.map_nil] at q4
 refine Za q4 ?_
 simp only[ZpB,ZpC,c2,List.length_map,EVA,seval,Zf,men]
 refine⟨by rw[Zd];omega,by omega,?_⟩
 have q5:=Zau b R (by omega) (Zp3 hb lenR)
 simp only[Zb,hk,List.map_cons,List.map_nil] at q5
 refine Za q5 ?_
 simp only[List.length_append,List.length_map,EVA,seval]
 simp only[Zsg,ZmW,Zby,List.map_append,List.nil_append,hn,hm,hk]
 rfl
theorem Zp4{sig:List TControl}{a b:TBigraph}(ha:bigOK sig a)(hb:bigOK sig b){roots:Int}{ss:List Int}{o:List ByteArray}{FL FR mv:Int->Int}(hs:ss.length<=4)(ho:o.length<=100)(hos:∀ y∈o,y.size<=4294967290):Zr 4294967290 (Zby a b roots ss o FL FR mv):=by
 have sa:=ha.small;have sb:=hb.small
 have a1:=sa.nodes;have a2:=sa.sites;have a3:=sa.inner
 have b1:=sb.nodes;have b2:=sb.sites;have b3:=sb.inner
 refine⟨by simp only[Zby,List.length_map,List.length_append];omega,fun y hy=>?_,by simp only[Zby,List.length_map,List.length_append];omega,by show o.length<=_;omega,hos,by simp only[Zby,List.length_map];omega,fun y hy=>?_⟩
 ·rcases List.mem_append.1 hy with hy | hy
  ·obtain⟨x,hx,rfl⟩:=List.mem_map.1 hy
   have:=sa.links x hx
   simp only[Zj9,ZlJ,List.length_map]
   omega
  ·obtain⟨x,hx,rfl⟩:=List.mem_map.1 hy
   have:=sb.links x hx
   simp only[Zj9,List.length_map]
   omega
 ·obtain⟨w,hw,rfl⟩:=List.mem_map.1 hy
  have hn:w.name∈inn b:=List.mem_map.2 ⟨w,hw,rfl⟩
  have:=Ys hb.inn hn
  simp only[ZeR,ZbP]
  omega
def sm(n:Int):Prop:=-1000<=n/\n<=1000
theorem ZdM{n:Int}(h:sm n):X3 .i64 n:=by
 unfold sm at h
 rw[Zd];omega
theorem Zp5{sig:List TControl}{a b:TBigraph}(ha:bigOK sig a)(hb:bigOK sig b)(fa:ZB a)(fb:ZB b){roots:Int}{ss:List Int}{o:List ByteArray}{FL FR mv:Int->Int}(hr:sm roots)(hs:∀ p∈ss,sm p)(hL:∀ l,ZQ a l->sm (FL l))(hR:∀ l,ZQ b l->sm (FR l))(hm:∀ p,-b.roots<=p->p<b.nodes.length->sm (mv p)):ZB (Zby a b roots ss o FL FR mv):=by
 have ea:=ha.edges;have eb:=hb.edges
 refine⟨ZdM hr,fun y hy=>?_,fun p hp=>?_,by show X3 .i64 (a.edges+b.edges);rw[Zd];omega,fun y hy=>?_⟩
 ·rcases List.mem_append.1 hy with hy | hy
  ·obtain⟨x,hx,rfl⟩:=List.mem_map.1 hy
   have hq:=fa.2.1 x hx
   obtain⟨i,hi,hie⟩:=List.getElem_of_mem hx
   refine⟨hq.1,hq.2.1,fun l hl=>?_⟩
   obtain⟨l0,hl0,rfl⟩:=List.mem_map.1 hl
   exact ZdM (hL l0 ((ha.nodes i hi).links l0 (by rw[hie];exact hl0)))
  ·obtain⟨x,hx,rfl⟩:=List.mem_map.1 hy
   have hq:=fb.2.1 x hx
   have hbp:=Dr hb hx
   obtain⟨i,hi,hie⟩:=List.getElem_of_mem hx
   refine⟨hq.1,ZdM (hm _ (Jq hb.roots.1 (by rw[<-hie];exact(hb.nodes i hi).par)) hbp.1),fun l hl=>?_⟩
   obtain⟨l0,hl0,rfl⟩:=List.mem_map.1 hl
   exact ZdM (hR l0 ((hb.nodes i hi).links l0 (by rw[hie];exact hl0)))
 ·rcases List.mem_append.1 hp with hp | hp
  ·exact ZdM (hs p hp)
  ·obtain⟨x,hx,rfl⟩:=List.mem_map.1 hp
   exact ZdM (hm _ (Jq hb.roots.1 (hb.sites x hx)) (Wr hb hx))
 ·obtain⟨w,hw,rfl⟩:=List.mem_map.1 hy
  exact ZdM (hR _ (hb.inner w hw))
theorem ZyK{sig:List TControl}{a b:TBigraph}(ha:bigOK sig a)(hb:bigOK sig b)(hf:(a.sites.length:Int)=b.roots){p:Int}(h1:-b.roots<=p)(h2:p<b.nodes.length):sm (Zes a.nodes.length a.sites p):=by
 have a1:=ha.small.nodes;have b1:=hb.small.nodes
 have ra:=ha.roots
 unfold Zes sm
 split
 ·rename_i h
  have hl:(-1-p).toNat<a.sites.length:=by omega
  have hg:g0 a.sites (-1-p).toNat=a.sites[(-1-p).toNat]:=by simp [hl]
  have hm:=List.getElem_mem hl
  have:=Jq ra.1 (ha.sites _ hm)
  have:=Wr ha hm
  rw[hg];omega
 ·omega
theorem Zu9{sig:List TControl}{a:TBigraph}(ha:bigOK sig a){e:Int}(he:0<=e/\e<=100){o:List ByteArray}(ho:o.length<=100){l:Int}(hl:ZQ a l):sm (g0 (ZmU a e o) l.toNat):=by
 have ea:=ha.edges
 unfold ZmU sm
 rcases Yd hl with ⟨h0,h1⟩ | ⟨i,hi,rfl⟩
 ·rw[Zcr h0 h1];omega
 ·rw[Zcs ea.1 hi]
  have:=Zgy (l:=o) (s:=a.outer[i])
  have:=Ze7 (l:=o) (s:=a.outer[i])
  omega
theorem Zp6{sig:List TControl}{a b:TBigraph}(ha:bigOK sig a)(hb:bigOK sig b){g:ByteArray->Int}(hg:∀ x∈b.outer,sm (g x)){l:Int}(hl:ZQ b l):sm (g0 (ZpN a b g) l.toNat):=by
 have ea:=ha.edges;have eb:=hb.edges
 unfold ZpN
 rcases Yd hl with ⟨h0,h1⟩ | ⟨i,hi,rfl⟩
 ·rw[Zcr h0 h1]
  unfold sm
  omega
 ·rw[Zcs eb.1 hi]
  exact hg _ (List.getElem_mem hi)
end Go.Fd

/-
  ONE BIGRAPH UNDER ANOTHER, THE PROGRAM'S SIDE: joined. Own work.
-/
namespace Go.Fd
set_option maxRecDepth 20000
theorem ZkK(e:Int×ByteArray)(lvl:Nat)(S:Sto):Sem Proofs.Tryz.prog V8 lvl [oE e] S (oE e) S:=by
 refine Zc Zgn (by simp [low,men,Zf]) ?_
 simp only[Zbn,EVA,seval]
theorem ZkL(a:TBigraph)(e:Int×ByteArray)(nf:FuncId)(cs:List (List Tr))(nm:ByteArray->Int×ByteArray)(h1:-4294967296<=e.1/\e.1<=4294967296)(h2:0<=a.edges/\a.edges<=4294967296)(hN:e.2≠e0S->∀ lvl S,Sem Proofs.Tryz.prog nf lvl (iS e.2::cs.map IV.ta) S (oE (nm e.2)) S)
  (lvl:Nat) (S:Sto) (id:Oid) (hid:id.1<lvl) (sN:S id=some (.bx [.fn nf (cs.map IV.ta)])):Sem Proofs.Tryz.prog Yc lvl [oE e,.ta (Zb a),.ab id 0] S (oE (Zfn a nm e)) S:=by
 have hne:id.1≠lvl:=by omega
 refine Zc Zgo (by simp [low,men,Zf]) ?_
 simp only[Zbo,Zb,ZS hne,sN,EVA,seval,Zf,men]
 unfold Zfn
 by_cases h:e.2=e0S
 ·rw[if_pos h]
  have h':e.2 = { data:=#[] }:=h
  simp only[h',EVA,seval]
  rw[Zd];omega
 ·rw[if_neg h]
  have h':¬ e.2 = { data:=#[] }:=h
  simp only[h',ZaJ,Yn,EVA,seval]
  refine Za (hN h) ?_
  simp only[EVA,seval]
def Ztl(n:Int)(pl:Int->Int)(p:Int):Int:=if 0<=p then p+n else pl p
theorem ZkM(a:TBigraph)(p:Int)(pf:FuncId)(cs:List (List Tr))(pl:Int->Int)(hn:a.nodes.length<=4294967296)(hp:-4294967296<=p/\p<=4294967296)(hP:p<0->∀ lvl S,Sem Proofs.Tryz.prog pf lvl (iI p::cs.map IV.ta) S (iI (pl p)) S)(lvl:Nat)(S:Sto):Sem Proofs.Tryz.prog Wo lvl [.ag ((Zb a).map .tr),iI p,.fn pf (cs.map IV.ta)] S (iI (Ztl a.nodes.length pl p)) S:=by
 refine Zc Zkl trivial ?_
 simp only[Ze3,Zb,List.length_map,EVA,seval,Zf,men]
 unfold Ztl
 by_cases h:0<=p
 ·rw[if_pos h]
  simp only[h,EVA,seval]
  rw[Zd];omega
 ·rw[if_neg h]
  simp only[h,ZaJ,Yn,EVA,seval]
  refine Za (hP (by omega)) ?_
  simp only[EVA,seval]
theorem Zp7{id:Oid}:∀{l:List (List Tr)},scrs id (l.map IV.ta)=l.map IV.ta
 | []=>rfl
 | x::r=>by
  simp only[List.map_cons,scrs,scr]
  rw[Zp7]
theorem Zn4(sig:List TControl)(a b:TBigraph)(ha:bigOK sig a)(hb:bigOK sig b)(roots:Int)(ss:List Int)(hss:ss.length<=1000)(o:List ByteArray)(ho:o.length<=1000)(pf:FuncId)(ps:List (List Tr))(pl:Int->Int)(nf:FuncId)(ns:List (List Tr))(nm:ByteArray->Int×ByteArray)
  (hP:∀ p,-b.roots<=p->p<0->∀ lvl S,Sem Proofs.Tryz.prog pf lvl (iI p::ps.map IV.ta) S (iI (pl p)) S) (hN:∀ x∈b.outer,∀ lvl S,Sem Proofs.Tryz.prog nf lvl (iS x::ns.map IV.ta) S (oE (nm x)) S)
  (lvl:Nat) (S:Sto):Sem Proofs.Tryz.prog VN lvl [.ag ((Zb a).map .tr),.ag ((Zb b).map .tr),iI roots,tI ss,.tr (.sl (rS o)),.fn pf (ps.map IV.ta),.fn nf (ns.map IV.ta)] S
   (.ag [iI roots,.ow 3 ((Zby a b roots ss (VG o) (ZdB a (a.edges+b.edges) (VG o) fun x=>x) (ZdB b (a.edges+b.edges) (VG o) (Zfn a nm)) (Ztl a.nodes.length pl)).nodes.map ZK) (decide (b.nodes.length=0)),.ow 1 (rI (ss++b.sites.map (Ztl a.nodes.length pl))) true,iI (a.edges+b.edges),.ow 1 (rS (VG o)) true,.tr (.sl ((b.inner.map (ZbP (ZdB b (a.edges+b.edges) (VG o) (Zfn a nm)))).map Z3))]) S:=by
 have ra:=ha.roots;have rb:=hb.roots
 have ea:=ha.edges;have eb:=hb.edges
 have sa:=ha.small;have sb:=hb.small
 have a1:=sa.nodes;have a2:=sa.sites;have a3:=sa.inner;have a4:=sa.outer
 have b1:=sb.nodes;have b2:=sb.sites;have b3:=sb.inner;have b4:=sb.outer
 have lnA:∀ x∈a.nodes,∀ l∈x.links,ZQ a l:=fun x hx l hl=>by
  obtain⟨k,hk,rfl⟩:=List.getElem_of_mem hx
  exact(ha.nodes k hk).links l hl
 have lnB:∀ x∈b.nodes,∀ l∈x.links,ZQ b l:=fun x hx l hl=>by
  obtain⟨k,hk,rfl⟩:=List.getElem_of_mem hx
  exact(hb.nodes k hk).links l hl
 obtain⟨FL,hFL⟩:∃ F,F=ZdB a (a.edges+b.edges) (VG o) fun x=>x:=⟨_,rfl⟩
 obtain⟨FR,hFR⟩:∃ F,F=ZdB b (a.edges+b.edges) (VG o) (Zfn a nm):=⟨_,rfl⟩
 obtain⟨mv,hmv⟩:∃ F,F=Ztl a.nodes.length pl:=⟨_,rfl⟩
 have q1:=U8 a (a.edges+b.edges) o V8 [] (fun x=>x) ea.1 (Q7 (by omega) (XX ha)) (by omega) (by omega) (by omega) lnA ha.inner (fun l _ lvl S=>ZkK (ZfJ a l) lvl S)
 have hR:∀ loc:List (Nat×Ob),lkO 416 loc=some (.bx [.fn nf (ns.map IV.ta)])->∀ l' S',Zf (Zh7 (Zu lvl loc S) S' l') [.ag ((Zb b).map .tr),iI (a.edges+b.edges),.tr (.sl (rS o)),.fn Yc [.ta (Zb a),.ab (lvl,416) 0]]->Sem Proofs.Tryz.prog Zx l' [.ag ((Zb b).map .tr),iI (a.edges+b.edges),.tr (.sl (rS o)),.fn Yc [.ta (Zb a),.ab (lvl,416) 0]] S' (Zh (Dw b FR (a.edges+b.edges) (VG o))) S':=fun loc h1 l' S' hs=>by
  have hc:Zf (Znx (Zu lvl loc S) S' l') [.ta (Zb a),.ab (lvl,416) 0]:=by
   have h2:=(Zkz hs).2.2.2.1
   simp only[men] at h2
   exact h2
  rw[hFR]
  exact ZdE b (a.edges+b.edges) o Yc _ (Zu lvl loc S) (Zfn a nm) eb.1 (Q7 (by omega) (XX hb)) (by omega) (by omega) (by omega) lnB hb.inner (fun l hl l'' S'' hs2=>by
   have hz:=hs2.2.1
   simp only[men] at hz
   refine ZkL a (ZfJ b l) nf ns nm (Zr6 eb hl) (by omega) (fun hne=>hN _ ?_) l'' S'' (lvl,416) hz.1 (hz.2 _ (by rw[J5];exact h1))
   rcases Yd hl with ⟨g0,g1⟩ | ⟨i,hi,rfl⟩
   ·rw[ZhN g1] at hne
    exact absurd rfl hne
   ·rw[ZhO hi]
    exact List.getElem_mem hi) l' S' hc
 rw[<-hFL] at q1
 rw[<-hFL,<-hFR,<-hmv]
 simp only[Zb,Zh,Dw,List.map_cons,List.map_nil] at q1 hR
 obtain⟨N1,hN1⟩:∃ l,l=a.nodes.map (fun x=>({ control:=x.control,parent:=x.parent,links:=List.map FL x.links }:TNode)):=⟨_,rfl⟩
 obtain⟨B1,hB1⟩:∃ l,l=b.nodes.map (fun x=>({ control:=x.control,parent:=x.parent,links:=List.map FR x.links }:TNode)):=⟨_,rfl⟩
 obtain⟨B2,hB2⟩:∃ l,l=b.nodes.map (fun x=>({ control:=x.control,parent:=mv x.parent,links:=List.map FR x.links }:TNode)):=⟨_,rfl⟩
 have lN1:N1.length=a.nodes.length:=by rw[hN1,List.length_map]
 have lB1:B1.length=b.nodes.length:=by rw[hB1,List.length_map]
 have lB2:B2.length=b.nodes.length:=by rw[hB2,List.length_map]
 simp only[<-hN1] at q1
 have hW1:b.inner.map (fun w=>({ name:=w.name,link:=FR w.link }:TWire))=b.inner.map (ZbP FR):=rfl
 simp only[<-hB1,hW1] at hR
 refine Zc Zi2 (by simp [low,men,Zf]) ?_
 simp only[Zds,Zb,EVA,seval,Zf,men]
 refine⟨by rw[Zd];omega,?_⟩
 refine Za q1 ?_
 simp only[lN1,List.length_map,EVA,seval]
 refine ZcV (hR _ rfl) ?_
 simp only[EVA,seval,Zf,men]
 refine Za (Wf ss (by omega)) ?_
 simp only[lB1,List.length_map,EVA,seval]
 refine Zv (α:=Unit) b.nodes.length (fun j _=>[(51,iI j)]) (fun j _=>[(576,.bx [iI roots,.hd (lvl,992) [] 0 (a.nodes.length+j) none (a.nodes.length+j),.hd (lvl,1312) [] 0 ss.length none ss.length,iI (a.edges+b.edges),.hd (lvl,994) [] 0 (VG o).length none (VG o).length,.tr (.sl ((b.inner.map (ZbP FR)).map Z3))]),(992,.ar 3 ((N1++B2.take j).map ZK) (decide (j=0)) (a.nodes.length+j) 0)]) (fun _ _=>True) () (by simp only[YV,EVA,seval]) (by simp only[hN1,EVA,seval];simp) trivial ?_
 intro j _ hj _
 simp only[List.length_map,EVA,seval]
 refine Zk (fun hlt=>?_) (fun hge=>?_)
 ·have hja:j<b.nodes.length:=by omega
  have ga:(B1.map ZK)[j]? = some [tv b.nodes[j].control,tv b.nodes[j].parent,Tr.sl (rI (b.nodes[j].links.map FR))]:=by
   rw[hB1,List.getElem?_map,List.getElem?_map,List.getElem?_eq_getElem hja]
   rfl
  have hx:=List.getElem_mem hja
  have hbp:=Dr hb hx
  have hge:=Jq rb.1 (hb.nodes j hja).par
  simp only[ga,ZaJ,Yn,EVA,seval,Zf,men]
  have q3:=ZkM a b.nodes[j].parent pf ps pl (by omega) (by omega) (fun h=>hP _ hge h)
  rw[<-hmv] at q3
  simp only[Zb,List.map_cons,List.map_nil] at q3
  refine Za q3 ?_
  have hs:(N1++B2.take j).map ZK++[[tv b.nodes[j].control,tv (mv b.nodes[j].parent),Tr.sl (rI (b.nodes[j].links.map FR))]]=(N1++B2.take (j+1)).map ZK:=by
   have hj2:j<B2.length:=by omega
   rw[List.take_succ_eq_append_getElem hj2,<-List.append_assoc,List.map_append (l₂:=[B2[j]])]
   simp [hB2,ZK]
  have hl:(N1++B2.take j).length=a.nodes.length+j:=by rw[List.length_append,List.length_take];omega
  simp only[hs,hl,Bool.and_false,Zp7,Yn,List.length_map,EVA,seval]
  exact⟨by omega,by rw[Zd];omega,Ze () hja rfl trivial⟩
 ·have:j=b.nodes.length:=by omega
  subst this
  rw[show B2.take b.nodes.length=B2 from by rw[<-lB2,List.take_length]]
  refine Zv (α:=Unit) b.sites.length (fun j _=>[(71,iI j)]) (fun j _=>[(576,.bx [iI roots,.hd (lvl,992) [] 0 (a.nodes.length+b.nodes.length) none (a.nodes.length+b.nodes.length),.hd (lvl,1312) [] 0 (ss.length+j) none (ss.length+j),iI (a.edges+b.edges),.hd (lvl,994) [] 0 (VG o).length none (VG o).length,.tr (.sl ((b.inner.map (ZbP FR)).map Z3))]),(1312,.ar 1 (rI (ss++(b.sites.take j).map mv)) true (ss.length+j) 0)]) (fun _ _=>True) () (by simp only[YV,EVA,seval]) (by simp only[EVA,seval];simp) trivial ?_
  intro j _ hj _
  simp only[List.length_map,EVA,seval]
  refine Zk (fun hlt=>?_) (fun hge=>?_)
  ·have hja:j<b.sites.length:=by omega
   have ga:=Jo hja
   have e0:g0 b.sites j=b.sites[j]:=by simp [hja]
   have hx:=List.getElem_mem hja
   have hbp:=Wr hb hx
   have hge:=Jq rb.1 (hb.sites _ hx)
   rw[<-e0] at hbp hge
   simp only[ga,ZaJ,Yn,EVA,seval,Zf,men]
   have q3:=ZkM a (g0 b.sites j) pf ps pl (by omega) (by omega) (fun h=>hP _ hge h)
   rw[<-hmv] at q3
   simp only[Zb,List.map_cons,List.map_nil] at q3
   refine Za q3 ?_
   have hs:rI (ss++(b.sites.take j).map mv)++[[tv (mv (g0 b.sites j))]]=rI (ss++(b.sites.take (j+1)).map mv):=by
    rw[List.take_succ_eq_append_getElem hja,List.map_append,<-List.append_assoc,Y7 (ss++_),e0]
    rfl
   have hl:(ss++(b.sites.take j).map mv).length=ss.length+j:=by rw[List.length_append,List.length_map,List.length_take];omega
   simp only[hs,hl,Yn,List.length_map,EVA,seval]
   exact⟨by omega,by rw[Zd];omega,Ze () hja rfl trivial⟩
  ·have:j=b.sites.length:=by omega
   subst this
   rw[List.take_length]
   exact⟨by rw[List.length_append];omega,by rw[List.length_append,List.length_map],by rw[hN1,hB2];rfl⟩
abbrev ZC9(b:TBigraph)(u:Bool):IV:=.ag [iI b.roots,.ow 3 (b.nodes.map ZK) u,.ow 1 (rI b.sites) true,iI b.edges,.ow 1 (rS b.outer) true,.tr (.sl (b.inner.map Z3))]
theorem ZgK(sig:List TControl)(a b X:TBigraph)(ha:bigOK sig a)(hb:bigOK sig b)(roots:Int)(ss:List Int)(hss:ss.length<=1000)(o:List ByteArray)(ho:o.length<=1000)(pf:FuncId)(ps:List (List Tr))(pl:Int->Int)(nf:FuncId)(ns:List (List Tr))(nm:ByteArray->Int×ByteArray)
  (hP:∀ p,-b.roots<=p->p<0->∀ lvl S,Sem Proofs.Tryz.prog pf lvl (iI p::ps.map IV.ta) S (iI (pl p)) S) (hN:∀ x∈b.outer,∀ lvl S,Sem Proofs.Tryz.prog nf lvl (iS x::ns.map IV.ta) S (oE (nm x)) S)
  (hX:Zby a b roots ss (VG o) (ZdB a (a.edges+b.edges) (VG o) fun x=>x) (ZdB b (a.edges+b.edges) (VG o) (Zfn a nm)) (Ztl a.nodes.length pl)=X)
  (lvl:Nat) (S:Sto):Sem Proofs.Tryz.prog VN lvl [.ag ((Zb a).map .tr),.ag ((Zb b).map .tr),iI roots,tI ss,.tr (.sl (rS o)),.fn pf (ps.map IV.ta),.fn nf (ns.map IV.ta)] S (ZC9 X (decide (b.nodes.length=0))) S:=by
 subst hX
 exact Zn4 sig a b ha hb roots ss hss o ho pf ps pl nf ns nm hP hN lvl S
end Go.Fd

/-
  A BIGRAPH AFTER ANOTHER: BOTH SIDES. Own work.
-/
namespace Go.Fd
set_option maxRecDepth 20000
theorem Zva{a:TBigraph}:Ztl a.nodes.length (fun p=>g0 a.sites (-1-p).toNat)=Zzh a:=rfl
theorem Zp8{sig:List TControl}{a b:TBigraph}(ha:bigOK sig a)(hb:bigOK sig b){o:List ByteArray}(ho:o.length<=100):(∀ l,ZQ a l->sm (g0 (ZmU a (a.edges+b.edges) o) l.toNat)):=fun l hl=>by
 have ea:=ha.edges;have eb:=hb.edges
 exact Zu9 ha (by omega) ho hl
theorem ZDa:ZE Proofs.Tryz.prog Jf ZC4=true:=by kernel_rfl
theorem ZhZ(a b:List ByteArray)(ha:a.length<=4294967296)(lvl:Nat)(S:Sto):Sem Proofs.Tryz.prog Jf lvl [.tr (.sl (rS a)),.tr (.sl (rS b))] S (iB (dc (a=b))) S:=by
 have h:=ZuN ZDa ZuM a b (by omega) lvl S
 have e:∀ i:Decidable (a=b),@decide (a=b) i=dc (a=b):=fun i=>(@Y1 _ i).symm
 rw[e] at h
 exact h
end Go.Fd

/-
  A BIGRAPH NESTED IN ANOTHER: BOTH SIDES. Own work.
-/
namespace Go.Fd
set_option maxRecDepth 20000
theorem ZdN(a:TBigraph)(p:Int)(hp:-4294967296<=p/\p<0)(hl:(-1-p).toNat<a.sites.length)(lvl:Nat)(S:Sto):Sem Proofs.Tryz.prog J1 lvl [iI p,.ta (Zb a)] S (iI (g0 a.sites (-1-p).toNat)) S:=by
 obtain⟨k,hk⟩:∃ k:Nat,-1-p=k:=⟨(-1-p).toNat,by omega⟩
 rw[hk] at hl ⊢
 rw[Int.toNat_natCast] at hl ⊢
 have ga:=Jo hl
 refine Zc Zbl trivial ?_
 simp only[Wz,Zb,hk,ga,EVA,↓reduceIte,Nat.reduceEqDiff,reduceCtorEq,Nat.reduceAdd,Nat.reduceLeDiff,Nat.reduceLT]
 rw[Zd];omega
theorem Zh0(s:ByteArray)(lvl:Nat)(S:Sto):Sem Proofs.Tryz.prog YZ lvl [iS s] S (oE (0,s)) S:=by
 refine Zc Zi3 (by simp [low,men,Zf]) ?_
 simp only[Zdt,EVA,↓reduceIte,Nat.reduceEqDiff,Nat.reduceMul,reduceCtorEq,Nat.reduceAdd,Nat.reduceLeDiff,Nat.reduceLT]
theorem Zp9(n:Nat)(hn:n<=4294967296)(lvl:Nat)(S:Sto):Sem Proofs.Tryz.prog JT lvl [.cs [],iI n] S (.ow 1 [] true) S:=by
 refine Zc UH trivial ?_
 simp only[VT,EVA,↓reduceIte,Nat.reduceEqDiff,Nat.reduceMul,reduceCtorEq,Nat.reduceAdd,Nat.reduceLeDiff,Nat.reduceLT,Int.reduceLE]
 rw[if_neg (by omega)]
 refine⟨by rw[Zd];omega,by rw[Zd];omega,?_⟩
 split
 ·exact⟨fun e he=>by (cases he),by omega,by omega,by omega⟩
 ·trivial
theorem ZkN{α:Type}{ls:List (List α)}{j:Nat}(h:j<ls.length):(ls.take (j+1)).flatten=(ls.take j).flatten++ls[j]:=by
 rw[List.take_succ_eq_append_getElem h,List.flatten_append]
 simp
theorem Zfb{α:Type}{ls:List (List α)}{j:Nat}:((ls.take j).flatten).length<=ls.flatten.length:=by
 have h:=congrArg (fun l=>l.flatten.length) (List.take_append_drop j ls)
 simp only[List.flatten_append,List.length_append] at h
 omega
abbrev eSS(l:List ByteArray):List Tr:=[Tr.sl (rS l)]
theorem ZgL(ls:List (List ByteArray))(hl:ls.length<=4294967296)(ht:ls.flatten.length<=4294967296)(lvl:Nat)(S:Sto):Sem Proofs.Tryz.prog Z9 lvl [.tr (.sl (ls.map eSS))] S (.ow 1 (rS ls.flatten) true) S:=by
 refine Zc WV trivial ?_
 simp only[Vq,List.length_map,EVA,↓reduceIte,Nat.reduceEqDiff,reduceCtorEq,Nat.reduceLeDiff,Nat.reduceLT]
 refine Zv (α:=Unit) ls.length (fun j _=>[(3,iI ((ls.take j).flatten).length),(11,iI j)]) (fun _ _=>[]) (fun _ _=>True) () (by simp only[EVA,↓reduceIte,Nat.reduceEqDiff,reduceCtorEq]) (by (simp only[EVA,↓reduceIte,Nat.reduceEqDiff,reduceCtorEq,Nat.reduceLT]) <;> rfl) trivial ?_
 intro j _ hj _
 simp only[EVA,↓reduceIte,Nat.reduceEqDiff,reduceCtorEq,Nat.reduceLT]
 refine Zk (fun hlt=>?_) (fun hge=>?_)
 ·have hja:j<ls.length:=by omega
  have ga:=Xh (c:=eSS) hja
  have h1:=ZkN (ls:=ls) hja
  have h2:=Zfb (ls:=ls) (j:=j+1)
  rw[h1,List.length_append] at h2
  simp only[ga,List.length_map,EVA,↓reduceIte,Nat.reduceEqDiff,reduceCtorEq,Nat.reduceLT]
  refine⟨by rw[Zd];omega,?_⟩
  rw[if_neg (by omega)]
  exact⟨by rw[Zd];omega,Ze () hja (by rw[h1,List.length_append];rfl) trivial⟩
 ·have:j=ls.length:=by omega
  subst this
  rw[List.take_length]
  refine Zpa (Zp9 _ ht _ _) ?_
  simp only[List.length_map,EVA,↓reduceIte,Nat.reduceEqDiff,Nat.reduceMul,reduceCtorEq,Nat.reduceAdd,Nat.reduceLT]
  refine Zv (α:=Unit) ls.length (fun j _=>[(6,.hd (lvl,768) [] 0 ((ls.take j).flatten).length none ((ls.take j).flatten).length),(27,iI j)]) (fun j _=>[(768,.ar 1 (rS (ls.take j).flatten) true ((ls.take j).flatten).length 0)]) (fun _ _=>True) () (by simp only[EVA,↓reduceIte,Nat.reduceEqDiff,reduceCtorEq]) (by (simp only[EVA,↓reduceIte,Nat.reduceEqDiff,reduceCtorEq,Nat.reduceLT]) <;> rfl) trivial ?_
  intro j _ hj _
  simp only[List.length_map,EVA,↓reduceIte,Nat.reduceEqDiff,reduceCtorEq,Nat.reduceLT]
  refine Zk (fun hlt2=>?_) (fun hge2=>?_)
  ·have hja:j<ls.length:=by omega
   have ga:=Xh (c:=eSS) hja
   have h1:=ZkN (ls:=ls) hja
   have h2:=Zfb (ls:=ls) (j:=j+1)
   rw[h1,List.length_append] at h2
   simp only[ga,ZpB,ZpC,List.length_map,EVA,↓reduceIte,Nat.reduceEqDiff,Nat.reduceLT]
   exact⟨by omega,by rw[Zd];omega,Ze () hja (by rw[h1,List.length_append,Zgr,Nat.max_eq_right (Nat.le_add_right _ _)];rfl) trivial⟩
  ·have:j=ls.length:=by omega
   subst this
   rw[List.take_length]
theorem WC{a b:TBigraph}:(YM a b).length<=a.outer.length+b.outer.length:=Nat.le_trans ZbQ (by rw[List.length_append];omega)
def ZDb(sig:List TControl)(a b:TBigraph):Prop:=bigOK sig a/\bigOK sig b/\a.inner.length=0/\(a.sites.length:Int)=b.roots
def ZdO(sig:List TControl)(a b:TBigraph):Prop:=ZDb sig a b/\bigOK sig (DP a b)
theorem Zqa{sig:List TControl}{a b:TBigraph}(ha:bigOK sig a)(hb:bigOK sig b):Zr 4294967290 (DP a b):=by
 have a4:=ha.small.outer;have b4:=hb.small.outer
 have hl:=WC (a:=a) (b:=b)
 refine Zp4 ha hb (by simp) (by omega) fun y hy=>?_
 rcases List.mem_append.1 (setS_mem.1 hy) with hy | hy
 ·have:=Ys ha.outer hy;omega
 ·have:=Ys hb.outer hy;omega
theorem Zqb{sig:List TControl}{a b:TBigraph}(ha:bigOK sig a)(hb:bigOK sig b)(hf:(a.sites.length:Int)=b.roots)(fa:ZB a)(fb:ZB b):ZB (DP a b):=by
 have a4:=ha.small.outer;have b4:=hb.small.outer
 have ea:=ha.edges;have eb:=hb.edges
 have ra:=ha.roots
 have hl:=WC (a:=a) (b:=b)
 refine Zp5 ha hb fa fb (by unfold sm;omega) (by simp) (fun l hl2=>Zp8 ha hb (by omega) l hl2) (fun l hl2=>Zp6 ha hb (fun x hx=>?_) hl2) fun p h1 h2=>ZyK ha hb hf h1 h2
 have:=Zgy (l:=YM a b) (s:=x)
 have:=Ze7 (l:=YM a b) (s:=x)
 unfold sm
 omega
open Classical in
noncomputable def UO(sig:List TControl)(a b:TBigraph):TBigraph:=if ZdO sig a b then DP a b else J7
noncomputable def UP(sig:List TControl)(a b:TBigraph):Bool:=dc (ZdO sig a b)
theorem Zn5(sig:List TControl)(a b:TBigraph)(ha:bigOK sig a)(hb:bigOK sig b)(hf:(a.sites.length:Int)=b.roots)(lvl:Nat)(S:Sto):Sem Proofs.Tryz.prog Ux lvl [.ag ((Zb a).map .tr),.ag ((Zb b).map .tr)] S (Zsg (DP a b) false) S:=by
 have ea:=ha.edges;have eb:=hb.edges
 have sa:=ha.small;have sb:=hb.small
 have a4:=sa.outer;have b4:=sb.outer
 have hol:=WC (a:=a) (b:=b)
 refine Zc ZiX (by simp [low,men,Zf]) ?_
 simp only[Zdm,Zb,ZpB,ZpC,Nat.zero_max,List.length_map,EVA,↓reduceIte,Nat.reduceEqDiff,Nat.reduceMul,reduceCtorEq,Nat.reduceAdd,Nat.reduceLeDiff,Nat.reduceLT,Zf,men]
 rw[show cut (rS a.outer++rS b.outer) 0 (a.outer.length+b.outer.length)=rS (a.outer++b.outer) from by
  rw[<-Zgr]
  exact JA (by simp [rS])]
 refine⟨by omega,by omega,by simp [rS],Za (U9 (a.outer++b.outer) (by rw[List.length_append];omega)) ?_⟩
 rw[show VG (a.outer++b.outer)=YM a b from rfl]
 simp only[EVA,↓reduceIte,Nat.reduceEqDiff,Nat.reduceMul,reduceCtorEq,Nat.reduceAdd,Nat.reduceLT,Zf,men]
 refine⟨by rw[Zd];omega,?_⟩
 refine Za (UM a.outer (a.edges+b.edges) (YM a b) (by omega) (by omega) (by omega)) ?_
 simp only[EVA,↓reduceIte,Nat.reduceEqDiff,Nat.reduceMul,reduceCtorEq,Nat.reduceLT,Zf,men]
 refine Za (UM b.outer (a.edges+b.edges) (YM a b) (by omega) (by omega) (by omega)) ?_
 simp only[EVA,↓reduceIte,Nat.reduceEqDiff,Nat.reduceMul,reduceCtorEq,Nat.reduceLT,Zf,men]
 have q:=ZlQ sig a b (YM a b) (a.outer.map fun x=>a.edges+b.edges+ixS (YM a b) x) (b.outer.map fun x=>a.edges+b.edges+ixS (YM a b) x) ha hb hf (by simp) (by simp) (by omega) (ZmU a (a.edges+b.edges) (YM a b)) (ZpN a b fun x=>a.edges+b.edges+ixS (YM a b) x) (fun n hn=>ZpP hn) (fun n hn=>ZpQ hn)
 rw[show ZmW a b (YM a b) (ZmU a (a.edges+b.edges) (YM a b)) (ZpN a b fun x=>a.edges+b.edges+ixS (YM a b) x)=DP a b from rfl] at q
 simp only[Zb,Zsg,List.map_cons,List.map_nil] at q
 refine Za q ?_
 simp only[List.length_map,EVA,↓reduceIte,Nat.reduceEqDiff,Nat.reduceMul,reduceCtorEq,Nat.reduceAdd,Nat.reduceLT]
theorem Zbz(sig:List TControl)(a b:TBigraph)(hn:sig.length<=4294967296)(hbs:∀ y∈sig,Zq 4294967296 y)(hba:Zr 4294967296 a)(hbb:Zr 4294967296 b)(fa:ZB a)(fb:ZB b)(lvl:Nat)(S:Sto):Sem Proofs.Tryz.prog VL lvl [.tr (.sl (sig.map Zj)),.ag ((Zb a).map .tr),.ag ((Zb b).map .tr)] S (.tu [Zh (UO sig a b),iB (UP sig a b)]) S:=by
 refine Zc ZcA (by simp [Zh,low,men,Zf]) ?_
 simp only[UE,Zb,EVA,↓reduceIte,Nat.reduceEqDiff,Nat.reduceMul,reduceCtorEq,Nat.reduceAdd,Nat.reduceLeDiff,Nat.reduceLT,Zf,men]
 have i1:=Jz sig a hn hbs hba
 have i2:=Jz sig b hn hbs hbb
 simp only[Zb,List.map_cons,List.map_nil] at i1 i2
 refine Za i1 ?_
 unfold UO UP
 cases h1:dc (bigOK sig a)
 ·have hno:¬ ZdO sig a b:=fun g=>dc_not.1 h1 g.1.1
  rw[if_neg hno,Zg hno]
  simp only[EVA,↓reduceIte,Nat.reduceEqDiff,Nat.reduceMul,reduceCtorEq,Nat.reduceAdd,Nat.reduceLT]
  rfl
 have hA:=dc_iff.1 h1
 simp only[EVA,↓reduceIte,Nat.reduceEqDiff,Nat.reduceMul,reduceCtorEq,Nat.reduceAdd,Nat.reduceLT,Zf,men]
 refine Za i2 ?_
 cases h2:dc (bigOK sig b)
 ·have hno:¬ ZdO sig a b:=fun g=>dc_not.1 h2 g.1.2.1
  rw[if_neg hno,Zg hno]
  simp only[EVA,↓reduceIte,Nat.reduceEqDiff,Nat.reduceMul,reduceCtorEq,Nat.reduceAdd,Nat.reduceLT]
  rfl
 have hB:=dc_iff.1 h2
 have sa:=hA.small;have sb:=hB.small
 have a2:=sa.sites;have a3:=sa.inner;have a4:=sa.outer;have b4:=sb.outer
 have ra:=hA.roots;have rb:=hB.roots
 simp only[List.length_map,EVA,↓reduceIte,Nat.reduceEqDiff,Nat.reduceMul,reduceCtorEq,Nat.reduceAdd,Nat.reduceLT,Zf,men]
 by_cases h3:(0:Int)<a.inner.length
 ·have hno:¬ ZdO sig a b:=fun g=>by have:=g.1.2.2.1;omega
  rw[if_neg hno,Zg hno]
  simp only[h3,EVA,↓reduceIte]
  rfl
 by_cases h4:(a.sites.length:Int)=b.roots
 ·simp only[h3,h4,EVA,↓reduceIte]
  have hfl:[a.outer,b.outer].flatten=a.outer++b.outer:=by simp
  have hc:=ZgL [a.outer,b.outer] (by simp) (by rw[hfl,List.length_append];omega)
  rw[hfl] at hc
  refine⟨by simp,by simp,Za hc ?_⟩
  simp only[EVA,↓reduceIte,Nat.reduceEqDiff,Nat.reduceMul,reduceCtorEq,Nat.reduceLT,Zf,men]
  have qj:=ZgK sig a b (DP a b) hA hB a.roots [] (by simp) (a.outer++b.outer) (by rw[List.length_append];omega) J1 [Zb a] (fun p=>g0 a.sites (-1-p).toNat) YZ [] (fun s=>(0,s)) (fun p h1 h2 lvl S=>ZdN a p (by omega) (by omega) lvl S) (fun x _ lvl S=>Zh0 x lvl S) (by rw[Zva];exact Zu2 hA hB)
  simp only[Zb,ZC9,List.map_cons,List.map_nil] at qj
  refine Za qj ?_
  simp only[EVA,↓reduceIte,Nat.reduceEqDiff,Nat.reduceMul,reduceCtorEq,Nat.reduceLT,Zf,men]
  have qv:=ZdF sig (DP a b) hn hbs (Zqa hA hB) (Zqb hA hB h4 fa fb)
  simp only[Zb,List.map_cons,List.map_nil] at qv
  refine Za qv ?_
  cases h6:dc (bigOK sig (DP a b))
  ·have hno:¬ ZdO sig a b:=fun g=>dc_not.1 h6 g.2
   rw[if_neg hno,Zg hno,if_neg (dc_not.1 h6)]
   simp only[Zh,EVA,↓reduceIte,Nat.reduceEqDiff,Nat.reduceMul,reduceCtorEq,Nat.reduceAdd,Nat.reduceLT]
   rfl
  ·have hyes:ZdO sig a b:=⟨⟨hA,hB,by omega,h4⟩,dc_iff.1 h6⟩
   rw[if_pos hyes,Zy hyes,if_pos (dc_iff.1 h6)]
   simp only[Zh,List.length_map,EVA,↓reduceIte,Nat.reduceEqDiff,Nat.reduceMul,reduceCtorEq,Nat.reduceAdd,Nat.reduceLT]
 ·have hno:¬ ZdO sig a b:=fun g=>h4 g.1.2.2.2
  rw[if_neg hno,Zg hno]
  simp only[h3,h4,EVA,↓reduceIte]
  rfl
end Go.Fd

/-
  BIGRAPHS SIDE BY SIDE: IN PLAIN TERMS, AND THE REFERENCE'S SIDE. Own work.
-/
namespace Go.Fd
set_option maxRecDepth 20000
def wlt(x y:TWire):Prop:=ltS x.name y.name
open Classical in
noncomputable def Zou:List TWire->TWire->List TWire
 | [],w=>[w]
 | x::r,w=>if wlt x w then x::Zou r w else w::x::r
theorem Zqc{w:TWire}:∀{O:List TWire} {k:Nat},k<=O.length->(∀ y∈O.take k,wlt y w)->(∀ h:k<O.length,¬ wlt O[k] w)->Zou O w=O.take k++([w]++O.drop k)
 | [],0,_,_,_=>rfl
 | [],k+1,h,_,_=>by simp at h
 | x::r,0,_,_,h2=>by
  have:¬ wlt x w:=h2 (by simp)
  rw[Zou,if_neg this]
  rfl
 | x::r,k+1,h,h1,h2=>by
  have:wlt x w:=h1 x (by simp)
  rw[Zou,if_pos this,Zqc (k:=k) (by simpa using h) (fun y hy=>h1 y (by simp [hy])) (fun h3=>by
   have:=h2 (by simpa using h3)
   simpa using this)]
  simp
theorem insW_perm{w:TWire}:∀{O:List TWire},(Zou O w).Perm (w::O)
 | []=>List.Perm.refl _
 | x::r=>by
  rw[Zou]
  split
  ·exact(List.Perm.cons x insW_perm).trans (List.Perm.swap w x r)
  ·exact List.Perm.refl _
theorem Zqd{w:TWire}:∀{O:List TWire},O.Pairwise wlt->(∀ x∈O,x.name≠w.name)->(Zou O w).Pairwise wlt
 | [],_,_=>List.pairwise_singleton ..
 | x::r,h,hn=>by
  have hc:=List.pairwise_cons.1 h
  rw[Zou]
  split
  ·rename_i hlt
   refine List.pairwise_cons.2 ⟨fun y hy=>?_,Zqd hc.2 fun z hz=>hn z (by simp [hz])⟩
   rcases List.mem_cons.1 (insW_perm.mem_iff.1 hy) with rfl | hy
   ·exact hlt
   ·exact hc.1 y hy
  ·rename_i hlt
   have hwx:wlt w x:=by
    rcases ordsS.tri x.name w.name with q | q | q
    ·exact absurd q hlt
    ·exact absurd q (hn x (by simp))
    ·exact q
   refine List.pairwise_cons.2 ⟨fun y hy=>?_,h⟩
   rcases List.mem_cons.1 hy with rfl | hy
   ·exact hwx
   ·exact ordsS.tr _ _ _ hwx (hc.1 y hy)
noncomputable def Ds(a b:List TWire):List TWire:=b.foldl Zou a
theorem wjoin_perm:∀{b a:List TWire},(Ds a b).Perm (a++b)
 | [],a=>by simp [Ds]
 | w::r,a=>by
  have h:=wjoin_perm (b:=r) (a:=Zou a w)
  refine h.trans ?_
  refine(insW_perm.append_right r).trans ?_
  exact List.perm_middle.symm
theorem ZdP{a b:List TWire}:(Ds a b).length=a.length+b.length:=by rw[wjoin_perm.length_eq,List.length_append]
theorem Zn6{a b:List TWire}{j:Nat}(h:j<b.length):Ds a (b.take (j+1))=Zou (Ds a (b.take j)) b[j]:=by
 unfold Ds
 rw[List.take_succ_eq_append_getElem h,List.foldl_append]
 rfl
theorem Znf:∀{b a:List TWire},a.Pairwise wlt->b.Pairwise wlt->(∀ x∈a,∀ y∈b,x.name≠y.name)->(Ds a b).Pairwise wlt
 | [],a,ha,_,_=>ha
 | w::r,a,ha,hb,hd=>by
  have hc:=List.pairwise_cons.1 hb
  refine Znf (b:=r) (a:=Zou a w) (Zqd ha fun x hx=>hd x hx w (by simp)) hc.2 fun x hx y hy=>?_
  rcases List.mem_cons.1 (insW_perm.mem_iff.1 hx) with rfl | hx
  ·intro e
   have:=hc.1 y hy
   unfold wlt at this
   rw[e] at this
   exact ordsS.irr _ this
  ·exact hd x hx y (by simp [hy])
theorem ZDc{l:List TWire}{j:Nat}:cut (l.map Z3) 0 (j-0)=(l.take j).map Z3:=by simp [cut,List.map_take]
theorem ZyL{l:List TWire}{j:Nat}:cut (l.map Z3) j (l.length-j)=(l.drop j).map Z3:=by
 simp only[cut,<-List.map_drop]
 rw[List.take_of_length_le (by rw[List.length_map,List.length_drop];omega)]
theorem Ztm{a b:List TWire}{x:TWire}:a.map Z3++[[Tr.v (Value.string x.name),Tr.v (Value.int .i64 x.link)]]++b.map Z3=(a++([x]++b)).map Z3:=by simp [Z3]
theorem ZlR(a b:List TWire)(hl:a.length+b.length<=4294967290)(lvl:Nat)(S:Sto):Sem Proofs.Tryz.prog WQ lvl [.tr (.sl (a.map Z3)),.tr (.sl (b.map Z3))] S (.ow 2 ((Ds a b).map Z3) true) S:=by
 refine Zc Zhg (by simp [low,men]) ?_
 simp only[Zcp,ZyA,ZyB,Nat.zero_max,List.length_map,EVA,seval]
 refine⟨by omega,?_⟩
 refine Zv (α:=Unit) b.length (fun j _=>[(5,.hd (lvl,160) [] 0 (Ds a (b.take j)).length none (Ds a (b.take j)).length),(6,iI j)]) (fun j _=>[(160,.ar 2 ((Ds a (b.take j)).map Z3) true (Ds a (b.take j)).length 0)]) (fun _ _=>True) () (by simp only[EVA,seval]) (by simp only[List.take_zero,Ds,List.foldl_nil]; (simp only[EVA,seval]) <;> rfl) trivial ?_
 intro j _ hj _
 simp only[List.length_map,EVA,seval]
 refine Zk (fun hlt=>?_) (fun hge=>?_)
 ·have hja:j<b.length:=by omega
  have ga:=Xh (c:=Z3) hja
  obtain⟨O,hO⟩:∃ O,O=Ds a (b.take j):=⟨_,rfl⟩
  have hOl:O.length=a.length+j:=by rw[hO,ZdP,List.length_take];omega
  have hsucc:=Zn6 (a:=a) hja
  rw[<-hO] at hsucc
  rw[<-hO]
  refine Zv (α:=Unit) O.length (fun k _=>[(7,iI k)]) (fun _ _=>[]) (fun k _=>∀ y∈O.take k,wlt y b[j]) () (by simp only[EVA,seval]) (by (simp only[EVA,seval]) <;> rfl) (by simp) ?_
  intro k _ hk hK
  have hput:=Zqc (w:=b[j]) hk hK
  have hpl:(O.take k++([b[j]]++O.drop k)).length=O.length+1:=by
   simp only[List.length_append,List.length_take,List.length_drop,List.length_cons,List.length_nil]
   omega
  have hm:min k O.length=k:=by omega
  have hq1:k+1+(O.length-k)=O.length+1:=by omega
  have hq2:max (max (max 0 k) (k+1)) (O.length+1)=O.length+1:=by omega
  have hq3:k+(O.length-k)=O.length:=by omega
  have hfit:X3 .i64 ((j:Int)+1):=by rw[Zd];omega
  simp only[List.length_map,EVA,seval]
  refine Zk (fun hlt2=>?_) (fun hge2=>?_)
  ·have hka:k<O.length:=by omega
   have gk:=Xh (c:=Z3) hka
   simp only[ga,gk,Z3,hka,hm,hq1,hq2,hq3,ZDc,ZyL,ZyA,ZyB,List.length_append,List.length_take,List.length_drop,List.length_map,EVA,seval]
   refine Zk (fun h1=>?_) (fun h1=>?_)
   ·exact⟨by rw[Zd];omega,Ze () hka rfl fun y hy=>by
     rw[List.take_succ_eq_append_getElem hka] at hy
     rcases List.mem_append.1 hy with hy | hy
     ·exact hK y hy
     ·rw[List.mem_singleton.1 hy];exact h1⟩
   ·have hp:=hput fun _=>h1
    exact⟨by omega,by omega,by omega,by omega,by omega,by omega,by omega,by omega,hfit,Ze () hja (by rw[hsucc,hp,hpl,<-Ztm];rfl) trivial⟩
  ·have:k=O.length:=by omega
   subst this
   simp only[ga,Z3,hq1,hq2,hq3,ZyL,ZyA,ZyB,List.length_append,List.length_drop,List.length_map,EVA,seval]
   have hp:=hput fun h=>absurd h (by omega)
   rw[List.take_length] at hp hpl
   exact⟨by omega,by omega,by omega,by omega,by omega,hfit,Ze () hja (by rw[hsucc,hp,hpl,<-Ztm];rfl) trivial⟩
 ·have:j=b.length:=by omega
  subst this
  rw[List.take_length]
def Zvb(J:TBigraph)(w:List TWire):TBigraph:=⟨J.roots,J.nodes,J.sites,J.edges,J.outer,w⟩
def ZlS(a:TBigraph)(p:Int):Int:=if 0<=p then p+a.nodes.length else p-a.roots
noncomputable def Zn7(a b:TBigraph):List Int:=ZmU a (a.edges+b.edges) (YM a b)
noncomputable def Zqe(a b:TBigraph):List Int:=ZpN a b fun x=>a.edges+b.edges+ixS (YM a b) x
noncomputable def ZvH(a b:TBigraph):TBigraph:=Zby a b (a.roots+b.roots) a.sites (YM a b) (fun l=>g0 (Zn7 a b) l.toNat) (fun l=>g0 (Zqe a b) l.toNat) (ZlS a)
noncomputable def Zd1(a b:TBigraph):TBigraph:=Zvb (ZvH a b) (Ds (a.inner.map (ZbP fun l=>g0 (Zn7 a b) l.toNat)) (b.inner.map (ZbP fun l=>g0 (Zqe a b) l.toNat)))
theorem ZlT{r:Int}{n:Nat}{k:Nat}(h:k<n):g0 (JI r n) k = -1-r-(k:Int):=by
 show (JI r n).getD k 0=_
 rw[List.getD_eq_getElem?_getD,JI,List.getElem?_map,List.getElem?_range h]
 simp
theorem Zng{a b:TBigraph}{n:Nat}(hn:b.roots=n){p:Int}(h:-b.roots<=p):Zes a.nodes.length (JI a.roots n) p=ZlS a p:=by
 unfold Zes ZlS
 by_cases h0:0<=p
 ·rw[if_neg (by omega),if_pos h0]
 ·rw[if_pos (by omega),if_neg h0,ZlT (by omega)]
  omega
theorem Zqf{sig:List TControl}{a b:TBigraph}(h:bigOK sig b){n:Nat}(hn:b.roots=n){ls:List Int}:b.nodes.map (Zgx a.nodes.length (JI a.roots n) ls)=b.nodes.map (fun x=>({ control:=x.control,parent:=ZlS a x.parent,links:=x.links.map fun l=>g0 ls l.toNat }:TNode)):=List.map_congr_left fun x hx=>by
 obtain⟨k,hk,rfl⟩:=List.getElem_of_mem hx
 unfold Zgx
 rw[Zng hn (Jq h.roots.1 (h.nodes k hk).par)]
theorem Zqg{sig:List TControl}{a b:TBigraph}(h:bigOK sig b){n:Nat}(hn:b.roots=n):b.sites.map (Zes a.nodes.length (JI a.roots n))=b.sites.map (ZlS a):=List.map_congr_left fun p hp=>Zng hn (Jq h.roots.1 (h.sites p hp))
theorem Zn8(sig:List TControl)(a b:TBigraph)(ha:bigOK sig a)(hb:bigOK sig b)(lvl:Nat)(S:Sto):Sem Proofs.Tryz.prog Uy lvl [.ag ((Zb a).map .tr),.ag ((Zb b).map .tr)] S (Zsg (Zd1 a b) false) S:=by
 have ra:=ha.roots;have rb:=hb.roots
 have ea:=ha.edges;have eb:=hb.edges
 have sa:=ha.small;have sb:=hb.small
 have a1:=sa.nodes;have a2:=sa.sites;have a3:=sa.inner;have a4:=sa.outer
 have b1:=sb.nodes;have b2:=sb.sites;have b3:=sb.inner;have b4:=sb.outer
 have hol:=WC (a:=a) (b:=b)
 obtain⟨n,hn⟩:∃ n:Nat,a.roots=n:=⟨a.roots.toNat,by omega⟩
 obtain⟨n2,hn2⟩:∃ n:Nat,b.roots=n:=⟨b.roots.toNat,by omega⟩
 obtain⟨m,hm⟩:∃ m:Nat,a.edges=m:=⟨a.edges.toNat,by omega⟩
 obtain⟨k,hk⟩:∃ k:Nat,b.edges=k:=⟨b.edges.toNat,by omega⟩
 obtain⟨L,hL⟩:∃ L,L=Zn7 a b:=⟨_,rfl⟩
 obtain⟨R,hR⟩:∃ R,R=Zqe a b:=⟨_,rfl⟩
 have lenL:(L.length:Int)=a.edges+a.outer.length:=by rw[hL];exact ZmV ea.1
 have lenR:(R.length:Int)=b.edges+b.outer.length:=by rw[hR];exact ZmV eb.1
 have w1:rI (UT 0 m)++rI (a.outer.map fun x=>(m:Int)+k+ixS (YM a b) x)=rI L:=by rw[<-Y7,hL,Zn7,<-ZpP hm,hm,hk]
 have w2:m+a.outer.length=L.length:=by omega
 have w3:rI (UT (m:Int) k)++rI (b.outer.map fun x=>(m:Int)+k+ixS (YM a b) x)=rI R:=by rw[<-Y7,hR,Zqe,<-ZpQ hk,hm,hk]
 have w4:k+b.outer.length=R.length:=by omega
 have w5:max m L.length=L.length:=by omega
 have w6:max k R.length=R.length:=by omega
 have c1:cut (rI L) 0 L.length=rI L:=JA (by rw[List.length_map])
 have c2:cut (rI R) 0 R.length=rI R:=JA (by rw[List.length_map])
 refine Zc ZiY (by simp [low,men,Zf]) ?_
 simp only[Zdn,Zb,ZpB,ZpC,hn,hn2,hm,hk,Nat.zero_max,List.length_map,EVA,seval,Zf,men]
 rw[show cut (rS a.outer++rS b.outer) 0 (a.outer.length+b.outer.length)=rS (a.outer++b.outer) from by
  rw[<-Zgr]
  exact JA (by simp [rS])]
 refine⟨by omega,by omega,by simp [rS],Za (U9 (a.outer++b.outer) (by rw[List.length_append];omega)) ?_⟩
 rw[show VG (a.outer++b.outer)=YM a b from rfl]
 simp only[List.length_map,EVA,seval,Zf,men]
 have c0:cut (rS (YM a b)) 0 (YM a b).length=rS (YM a b):=JA (by rw[List.length_map])
 refine⟨by rw[Zd];omega,Za (UJ 0 m (by omega) (by omega)) ?_⟩
 simp only[c0,fromN_len,List.length_map,EVA,seval,Zf,men]
 refine Za (UM a.outer (m+k) (YM a b) (by omega) (by omega) (by omega)) ?_
 simp only[Zbt,Zbu,w1,w2,w5,fromN_len,List.length_map,EVA,seval,Zf,men]
 refine⟨by omega,Za (UJ m k (by omega) (by omega)) ?_⟩
 simp only[c0,fromN_len,List.length_map,EVA,seval,Zf,men]
 refine Za (UM b.outer (m+k) (YM a b) (by omega) (by omega) (by omega)) ?_
 simp only[Zbt,Zbu,w3,w4,w6,fromN_len,List.length_map,EVA,seval,Zf,men]
 refine⟨by omega,Za (Zat 0 n (by omega) (by omega)) ?_⟩
 simp only[EVA,seval,Zf,men]
 refine Za (Zat n n2 (by omega) (by omega)) ?_
 simp only[c1,List.length_map,EVA,seval,Zf,men]
 refine⟨by rw[Zd];omega,?_⟩
 have q2:=UK a 0 (JI 0 n) L (by omega) (by omega) (Znb ha (by rw[rootsN_len];omega) lenL)
 rw[Znd ha hn] at q2
 simp only[Zb,hn,hm,List.map_cons,List.map_nil] at q2
 refine Za q2 ?_
 simp only[c2,List.length_map,EVA,seval,Zf,men]
 have q3:=UK b a.nodes.length (JI a.roots n2) R (by omega) (by omega) (Znb hb (by rw[rootsN_len];omega) lenR)
 rw[Zqf hb hn2] at q3
 simp only[Zb,hn,hn2,hk,List.map_cons,List.map_nil] at q3
 refine Za q3 ?_
 simp only[ZDL,List.length_map,EVA,seval,Zf,men]
 refine⟨by omega,?_⟩
 have q4:=Wg a 0 (JI 0 n) (by omega) (by omega) (Znc ha (by rw[rootsN_len];omega))
 rw[Zne ha hn] at q4
 simp only[Zb,hn,hm,List.map_cons,List.map_nil] at q4
 refine Za q4 ?_
 simp only[List.length_map,EVA,seval,Zf,men]
 have q5:=Wg b a.nodes.length (JI a.roots n2) (by omega) (by omega) (Znc hb (by rw[rootsN_len];omega))
 rw[Zqg hb hn2] at q5
 simp only[Zb,hn,hn2,hk,List.map_cons,List.map_nil] at q5
 refine Za q5 ?_
 simp only[Zbt,Zbu,c1,List.length_map,EVA,seval,Zf,men]
 refine⟨by omega,?_⟩
 have q6:=Zau a L (by omega) (Zp3 ha lenL)
 simp only[Zb,hn,hm,List.map_cons,List.map_nil] at q6
 refine Za q6 ?_
 simp only[c2,List.length_map,EVA,seval,Zf,men]
 have q7:=Zau b R (by omega) (Zp3 hb lenR)
 simp only[Zb,hn2,hk,List.map_cons,List.map_nil] at q7
 refine Za q7 ?_
 simp only[EVA,seval,Zf,men]
 have q8:=ZlR (a.inner.map (Zkx L)) (b.inner.map (Zkx R)) (by rw[List.length_map,List.length_map];omega)
 refine Za q8 ?_
 simp only[ZdP,List.length_append,List.length_map,EVA,seval]
 simp only[Zsg,Zd1,ZvH,Zvb,Zby,<-hL,<-hR,List.map_append,hn,hn2,hm,hk]
 rfl
end Go.Fd

/-
  SORTING WIRES BY NAME: THE LIBRARY'S CONTRACT AT THIS PROGRAM. Own work.
-/
namespace Go.Proofs
open Go.Shelf Go.RowKit Go.Lib Go.Sort
instance:Inhabited Go.Fd.TWire:=⟨⟨⟨#[]⟩,0⟩⟩
def ZyM(w:Go.Fd.TWire):List Value:=[.string w.name,.int .i64 w.link]
def Zsh(x y:Go.Fd.TWire):Int:=if Op.bytesLess x.name.data.toList y.name.data.toList then -1 else 1
set_option maxHeartbeats 1000000 in
theorem ZDd(x y:Go.Fd.TWire)(W:World):Calls Tryz.prog 260 #[.agg #[.string x.name,.int .i64 x.link],.agg #[.string y.name,.int .i64 y.link]] W fun e w' => e = .returned (.int .i64 (Zsh x y))/\∃ q os',w'=grow (W.drewN q) os':=by
 have hr:Zsh x y=if Op.bytesLess x.name.toList y.name.toList then -1 else 1:=by
  unfold Zsh
  rw[ByteArray.toList_eq,ByteArray.toList_eq]
 generalize Zsh x y=r at hr ⊢
 go_enter Tryz.func260,Tryz.ntmps260
 go_wp2
 ·rename_i h
  rw[h] at hr
  have hr:r = -1:=hr
  subst hr
  go_ret
  exact⟨rfl,0,_,by rw[alloc_eq_grow,alloc_eq_grow,grow_grow];rfl⟩
 ·rename_i h
  rw[h] at hr
  have hr:r=1:=hr
  subst hr
  go_ret
  exact⟨rfl,0,_,by rw[alloc_eq_grow,alloc_eq_grow,grow_grow];rfl⟩
theorem Znh(x y:Go.Fd.TWire):ltOf Zsh x y=Op.bytesLess x.name.data.toList y.name.data.toList:=by
 unfold ltOf Zsh
 cases Op.bytesLess x.name.data.toList y.name.data.toList <;> rfl
theorem ZE2:SWO (ltOf Zsh) where
 irrefl x:=by rw[Znh];exact Go.Fd.bl_irr _
 trans x y z h1 h2:=by
  rw[Znh] at *
  exact Go.Fd.ordsS.tr _ _ _ h1 h2
 ntrans x y z h1 h2:=by
  rw[Znh] at *
  have:=Go.Fd.ltS_tr z.name y.name x.name
  have k:¬ Go.Fd.ltS x.name z.name:=Go.Fd.ltS_tr z.name y.name x.name (by unfold Go.Fd.ltS;rw[h2];decide) (by unfold Go.Fd.ltS;rw[h1];decide)
  unfold Go.Fd.ltS at k
  simpa using k
theorem Zsi(blk off size:Nat)(w:World):CmpLays Tryz.prog 260 #[] ZyM 2 Zsh blk off size w :=
 fun _ _ _ _ x y=>ZDd x y _
end Go.Proofs
namespace Go.Fd
open Go.Sort Go.Proofs
theorem ZDM:∀{x y:List TWire},x.Pairwise wlt->y.Pairwise wlt->x.Perm y->x=y
 | [],y,_,_,h=>(List.Perm.nil_eq h)
 | a::r,[],_,_,h=>by simp at h
 | a::r,b::t,hx,hy,h=>by
  have hcx:=List.pairwise_cons.1 hx
  have hcy:=List.pairwise_cons.1 hy
  have hab:a=b:=by
   have h1:a∈b::t:=h.mem_iff.1 (by simp)
   have h2:b∈a::r:=h.mem_iff.2 (by simp)
   rcases List.mem_cons.1 h1 with e | h1
   ·exact e
   ·rcases List.mem_cons.1 h2 with e | h2
    ·exact e.symm
    ·exact absurd (hcx.1 b h2) (ordsS.asym _ _ (hcy.1 a h1))
  subst hab
  rw[ZDM hcx.2 hcy.2 h.cons_inv]
theorem ZE3{x y:List TWire}(hy:y.Pairwise wlt)(hp:x.Perm y)(hx:∀ i j (hi:i<x.length) (hj:j<x.length),i<j -> ¬ wlt x[j] x[i]):x.Pairwise wlt:=by
 have hnd:x.Nodup:=hp.nodup_iff.2 (hy.imp fun {a b} h e=>by subst e;exact ordsS.irr _ h)
 refine List.pairwise_iff_getElem.2 fun i j hi hj hij=>?_
 rcases ordsS.tri (x[i]).name (x[j]).name with q | q | q
 ·exact q
 ·have h1:x[i]∈y:=hp.mem_iff.1 (List.getElem_mem hi)
  have h2:x[j]∈y:=hp.mem_iff.1 (List.getElem_mem hj)
  obtain⟨a,ha,ea⟩:=List.getElem_of_mem h1
  obtain⟨b,hb,eb⟩:=List.getElem_of_mem h2
  have hpg:=List.pairwise_iff_getElem.1 hy
  have hab:a=b:=by
   rcases Nat.lt_trichotomy a b with g | g | g
   ·have:=hpg a b ha hb g
    unfold wlt at this
    rw[ea,eb,q] at this
    exact absurd this (ordsS.irr _)
   ·exact g
   ·have:=hpg b a hb ha g
    unfold wlt at this
    rw[ea,eb,q] at this
    exact absurd this (ordsS.irr _)
  subst hab
  have e:x[i]=x[j]:=ea.symm.trans eb
  have:=List.pairwise_iff_getElem.1 hnd i j hi hj hij
  exact absurd e this
 ·exact absurd q (hx i j hi hj hij)
theorem Zqh(lvl:Nat)(S:Sto)(id:Oid)(hw:Nat)(hid:id.1<lvl):Sem Tryz.prog Z2 lvl [.hd id [] 0 0 none hw,iI 0,iI 0,.fn Jl []] S (.tu []) S:=by
 have hne:id.1≠lvl:=by omega
 refine Zc VV trivial ?_
 simp only[JM,EVA,seval,Zf,men]
 refine⟨by rw[Zd];omega,?_⟩
 refine Jp (α:=Unit) 0 (fun _ _=>⟨lvl,[(0,.hd id [] 0 0 none hw),(1,iI 0),(2,iI 0),(3,.fn Jl []),(8,iI 1)],[],S⟩) (fun _ _=>True) () ⟨by simp only[YN hne,EVA,seval,Zf,men],by (simp only[EVA,seval,Zf,men]) <;> rfl⟩ trivial ?_
 intro _ _ _ _
 simp only[EVA,seval,Zf,men]
theorem Zqi(r:Int)(lvl:Nat)(S:Sto)(id:Oid)(hw:Nat)(hid:id.1<lvl):Sem Tryz.prog ZI lvl [.hd id [] 0 0 none hw,iI 0,iI 0,iI r,.fn Jl []] S (.tu []) S:=by
 have hne:id.1≠lvl:=by omega
 refine Zc XV trivial ?_
 simp only[YC,EVA,seval,Zf,men]
 refine Jp (α:=Unit) 0 (fun _ _=>⟨lvl,[(0,.hd id [] 0 0 none hw),(1,iI 0),(2,iI 0),(3,iI r),(4,.fn Jl []),(10,iB true),(11,iB true)],[],S⟩) (fun _ _=>True) () ⟨by simp only[YN hne,EVA,seval,Zf,men],by (simp only[EVA,seval,Zf,men]) <;> rfl⟩ trivial ?_
 intro _ _ _ _
 simp only[EVA,seval,Zf,men]
 refine⟨by rw[Zd];omega,?_⟩
 simp only[Znw]
 refine Xs [] S (fun _ _=>rfl) (Zqh (lvl+1) (Zu lvl [] S) id hw (by omega)) ?_
 simp only[YN hne,EVA,seval,Zf,men]
theorem Zn9(lvl:Nat)(S:Sto)(id:Oid)(u:Bool)(hw ver:Nat)(hid:id.1<lvl)(hS:S id=some (.ar 2 [] u hw ver)):Sem Tryz.prog ZM lvl [.hd id [] 0 0 none hw,.fn Jl []] S (.tu []) (ZN S id (.ar 2 [] u hw ver)):=by
 rw[Qs hS]
 have hne:id.1≠lvl:=by omega
 obtain⟨r,hr⟩:=ZlE (v:=0) (by omega) (by omega)
 refine Zc Ql trivial ?_
 simp only[JY,EVA,seval,Zf,men]
 refine⟨⟨by decide,by decide⟩,Za hr ?_⟩
 simp only[EVA,seval,Zf,men]
 refine Xs [] S (fun _ _=>rfl) (Zqi r (lvl+1) (Zu lvl [] S) id hw (by omega)) ?_
 simp only[YN hne,EVA,seval,Zf,men]
theorem Zqj(l ys:List TWire)(hp:ys.Perm l)(hs:ys.Pairwise wlt)(hl:l.length<=4294967296)(lvl:Nat)(S:Sto)(id:Oid)(u:Bool)(hw ver:Nat)(hid:id.1<lvl)(hS:S id=some (.ar 2 (l.map Z3) u hw ver)) :
  Sem Tryz.prog ZM lvl [.hd id [] 0 l.length none hw,.fn Jl []] S (.tu []) (ZN S id (.ar 2 (ys.map Z3) u hw ver)):=by
 by_cases h0:l=[]
 ·subst h0
  have hy:ys=[]:=List.length_eq_zero_iff.1 (by simpa using hp.length_eq)
  subst hy
  exact Zn9 lvl S id u hw ver hid hS
 ·have hpos:0<l.length:=List.length_pos_iff.2 h0
  refine Zjs (enc:=ZyM) (k:=2) (fun _=>rfl) (by decide) (Zdy (by kernel_rfl)) hid hS (fun x v hv=>by simp [ZyM] at hv;rcases hv with rfl | rfl <;> rfl) hp.length_eq hpos fun b cap w hH hb=>?_
  have hcon:=AnyQ.slices_SortFunc Tryz.sortW 2 Tryz.isAgg132 Tryz.sizeOf132 ZyM (fun _=>rfl) (fun x v hv=>by simp [ZyM] at hv;rcases hv with rfl | rfl <;> rfl) Zsh ZE2 260 #[] b 0 cap l.toArray w (enters_of Tryz.func260 (by kernel_rfl) rfl) (Zsi b 0 _ w) hH hb (by simp;omega)
  have hsz:l.toArray.size=l.length:=by simp
  rw[hsz] at hcon
  refine Calls.mono hcon ?_
  rintro e w' ⟨rfl,d',n,os,hperm,hsort,rfl⟩
  refine⟨rfl,n,os,?_⟩
  have hds:d'.size=l.length:=by rw[hperm.1,hsz]
  have hd:d'.toList=ys:=by
   have h1:d'.toList.Perm l:=by
    have:=hperm.2.2
    rw[show d'.extract 0 l.length=d' from by rw[<-hds];exact Array.extract_size,show l.toArray.extract 0 l.length=l.toArray from by rw[<-hsz];exact Array.extract_size] at this
    simpa using this
   refine ZDM (ZE3 hs (h1.trans hp.symm) fun i j hi hj hij hlt=>?_) hs (h1.trans hp.symm)
   have hjj:j<d'.size:=by simpa using hj
   have hii:i<d'.size:=by simpa using hi
   have:=hsort i j (Nat.zero_le _) hij (by omega)
   rw[Znh] at this
   have h2:d'[j]! = d'.toList[j]:=by simp [hjj]
   have h3:d'[i]! = d'.toList[i]:=by simp [hii]
   rw[h2,h3] at this
   unfold wlt ltS at hlt
   rw[this] at hlt
   cases hlt
  rw[<-hd]
end Go.Fd

/-
  BIGRAPHS SIDE BY SIDE, THE PROGRAM'S SIDE. Own work.
-/
namespace Go.Fd
set_option maxRecDepth 20000
theorem Zqk:ZE Proofs.Tryz.prog ZY (Zpg 1 none)=true:=by kernel_rfl
theorem Ztn:ZE Proofs.Tryz.prog ZC (Zs6 ZY)=true:=by kernel_rfl
theorem Zfp(b:List ByteArray)(s:ByteArray)(hb:b.length<=4294967296)(lvl:Nat)(S:Sto):Sem Proofs.Tryz.prog Yy lvl [iS s,.ta [Tr.sl (rS b)]] S (iB (dc (s∈b))) S:=by
 refine Zc ZcB trivial ?_
 simp only[UF,EVA,↓reduceIte,Nat.reduceEqDiff,reduceCtorEq,Nat.reduceAdd,Nat.reduceLeDiff,Nat.reduceLT,Zf,men]
 refine Za (Zav b s hb) ?_
 simp only[EVA,↓reduceIte,Nat.reduceEqDiff,Nat.reduceMul,reduceCtorEq,Nat.reduceLT]
theorem Zhm(a b:List ByteArray)(ha:a.length<=4294967296)(hb:b.length<=4294967296)(lvl:Nat)(S:Sto):Sem Proofs.Tryz.prog Q1 lvl [.tr (.sl (rS a)),.tr (.sl (rS b))] S (iB (!dc (∀ x∈a,x ∉ b))) S:=by
 have q:=ZfH (P:=Proofs.Tryz.prog) Ztn Zqk (t:=fun n:ByteArray=>ts n) (f:=fun s=>dc (s∈b)) (fe:=Yy) (cs:=[[Tr.sl (rS b)]]) a (by omega) (fun x _ lvl S=>Zfp b x hb lvl S)
 have e:a.any (fun s=>dc (s∈b)) = !dc (∀ x∈a,x ∉ b):=by
  cases h:dc (∀ x∈a,x ∉ b)
  ·have h1:=dc_not.1 h
   have:∃ x∈a,x∈b:=Classical.byContradiction fun g=>h1 fun x hx hb=>g ⟨x,hx,hb⟩
   obtain⟨x,hx,hxb⟩:=this
   simp only[Bool.not_false,List.any_eq_true]
   exact⟨x,hx,Zy hxb⟩
  ·have h1:=dc_iff.1 h
   simp only[Bool.not_true,List.any_eq_false]
   intro x hx
   rw[Zg (h1 x hx)]
   decide
 rw[e] at q
 refine Zc Zei trivial ?_
 simp only[DI,EVA,↓reduceIte,Nat.reduceEqDiff,reduceCtorEq,Nat.reduceAdd,Nat.reduceLeDiff,Nat.reduceLT,Zf,men]
 refine Za q ?_
 simp only[EVA,↓reduceIte,Nat.reduceEqDiff,Nat.reduceMul,reduceCtorEq,Nat.reduceLT]
theorem Zhn(a:TBigraph)(p:Int)(hp:-4294967296<=p/\p<=4294967296)(ha:0<=a.roots/\a.roots<=4)(lvl:Nat)(S:Sto):Sem Proofs.Tryz.prog Vd lvl [iI p,.ta (Zb a)] S (iI (p-a.roots)) S:=by
 refine Zc Zej trivial ?_
 simp only[DJ,Zb,EVA,↓reduceIte,Nat.reduceEqDiff,reduceCtorEq,Nat.reduceAdd,Nat.reduceLeDiff,Nat.reduceLT]
 rw[Zd];omega
theorem Zho(e:Int×ByteArray)(lvl:Nat)(S:Sto):Sem Proofs.Tryz.prog Ve lvl [oE e] S (oE e) S:=by
 refine Zc Zek (by simp [low,men,Zf]) ?_
 simp only[DK,EVA,↓reduceIte,Nat.reduceEqDiff,Nat.reduceMul,reduceCtorEq,Nat.reduceAdd,Nat.reduceLeDiff,Nat.reduceLT]
theorem ZDN{b:TBigraph}{F:Int->Int}:(b.inner.map (ZbP F)).map TWire.name=inn b:=by simp [inn,ZbP]
theorem Zni{sig:List TControl}{b:TBigraph}(h:bigOK sig b){F:Int->Int}:(b.inner.map (ZbP F)).Pairwise wlt:=by
 have hp:=Zje h.inn
 unfold inn at hp
 rw[List.pairwise_map] at hp ⊢
 exact hp
theorem ZyN{sig:List TControl}{a b:TBigraph}(ha:bigOK sig a)(hb:bigOK sig b)(hd:∀ x∈inn a,x ∉ inn b){F F':Int->Int}:(Ds (a.inner.map (ZbP F)) (b.inner.map (ZbP F'))).Pairwise wlt :=
 Znf (Zni ha) (Zni hb) fun x hx y hy e=>by
  refine hd x.name ?_ ?_
  ·rw[<-ZDN (F:=F)];exact List.mem_map.2 ⟨x,hx,rfl⟩
  ·rw[<-ZDN (F:=F'),e];exact List.mem_map.2 ⟨y,hy,rfl⟩
theorem Zsj{a:TBigraph}:Ztl a.nodes.length (fun p=>p-a.roots)=ZlS a:=rfl
theorem Zvc{sig:List TControl}{a b:TBigraph}(ha:bigOK sig a)(hb:bigOK sig b) :
  Zby a b (a.roots+b.roots) a.sites (YM a b) (ZdB a (a.edges+b.edges) (YM a b) fun x=>x) (ZdB b (a.edges+b.edges) (YM a b) (Zfn a fun s=>(0,s))) (ZlS a)=ZvH a b :=
 ZgH ha hb (fun l hl=>ZyH ha hl) (fun l hl=>ZDK hb (fun i hi=>if_neg (ZbN hb.outer (List.getElem_mem hi))) hl) fun p _=>rfl
theorem Zvd{sig:List TControl}{a b:TBigraph}(ha:bigOK sig a):a.inner.map (ZbP (ZdB a (a.edges+b.edges) (YM a b) fun x=>x))=a.inner.map (ZbP fun l=>g0 (Zn7 a b) l.toNat):=List.map_congr_left fun w hw=>by
 unfold ZbP
 rw[ZyH ha (ha.inner w hw)]
 rfl
theorem ZkO(sig:List TControl)(a b:TBigraph)(ha:bigOK sig a)(hb:bigOK sig b)(hd:∀ x∈inn a,x ∉ inn b)(lvl:Nat)(S:Sto):Sem Proofs.Tryz.prog Wc lvl [.ag ((Zb a).map .tr),.ag ((Zb b).map .tr)] S (Zsg (Zd1 a b) (decide (b.nodes.length=0))) S:=by
 have ra:=ha.roots;have rb:=hb.roots
 have ea:=ha.edges;have eb:=hb.edges
 have sa:=ha.small;have sb:=hb.small
 have a1:=sa.nodes;have a2:=sa.sites;have a3:=sa.inner;have a4:=sa.outer
 have b1:=sb.nodes;have b2:=sb.sites;have b3:=sb.inner;have b4:=sb.outer
 have hol:=WC (a:=a) (b:=b)
 have lnA:∀ x∈a.nodes,∀ l∈x.links,ZQ a l:=fun x hx l hl=>by
  obtain⟨k,hk,rfl⟩:=List.getElem_of_mem hx
  exact(ha.nodes k hk).links l hl
 have hfl:[a.outer,b.outer].flatten=a.outer++b.outer:=by simp
 have hc:=ZgL [a.outer,b.outer] (by simp) (by rw[hfl,List.length_append];omega)
 rw[hfl] at hc
 have qj:=ZgK sig a b (ZvH a b) ha hb (a.roots+b.roots) a.sites (by omega) (a.outer++b.outer) (by rw[List.length_append];omega) Vd [Zb a] (fun p=>p-a.roots) YZ [] (fun s=>(0,s)) (fun p h1 h2 lvl S=>Zhn a p (by omega) ra lvl S) (fun x _ lvl S=>Zh0 x lvl S) (by rw[Zsj];exact Zvc ha hb)
 have qr:=U8 a (a.edges+b.edges) (a.outer++b.outer) Ve [] (fun x=>x) ea.1 (Q7 (by omega) (XX ha)) (by omega) (by omega) (by rw[List.length_append];omega) lnA ha.inner (fun l _ lvl S=>Zho (ZfJ a l) lvl S)
 refine Zc Zgg (by simp [low,men,Zf]) ?_
 simp only[Zbh,Zb,EVA,↓reduceIte,Nat.reduceEqDiff,Nat.reduceMul,reduceCtorEq,Nat.reduceAdd,Nat.reduceLeDiff,Nat.reduceLT,Zf,men]
 refine⟨by simp,by simp,Za hc ?_⟩
 simp only[EVA,↓reduceIte,Nat.reduceEqDiff,Nat.reduceMul,reduceCtorEq,Nat.reduceAdd,Nat.reduceLT,Zf,men]
 simp only[Zb,ZC9,List.map_cons,List.map_nil] at qj
 refine⟨by rw[Zd];omega,Za qj ?_⟩
 simp only[List.length_map,EVA,↓reduceIte,Nat.reduceEqDiff,Nat.reduceMul,reduceCtorEq,Nat.reduceAdd,Nat.reduceLT,Zf,men]
 rw[show VG (a.outer++b.outer)=YM a b from rfl] at qr
 have hA1:a.inner.map (fun w=>({ name:=w.name,link:=ZdB a (a.edges+b.edges) (YM a b) (fun x=>x) w.link }:TWire))=a.inner.map (ZbP fun l=>g0 (Zn7 a b) l.toNat):=Zvd ha
 simp only[Zb,Zh,Dw,List.map_cons,List.map_nil] at qr
 simp only[hA1] at qr
 obtain⟨A1,hA⟩:∃ l,l=a.inner.map (ZbP fun l=>g0 (Zn7 a b) l.toNat):=⟨_,rfl⟩
 obtain⟨B1,hB⟩:∃ l,l=(ZvH a b).inner:=⟨_,rfl⟩
 have hBb:B1=b.inner.map (ZbP fun l=>g0 (Zqe a b) l.toNat):=hB
 have lA:A1.length=a.inner.length:=by rw[hA,List.length_map]
 have lB:B1.length=b.inner.length:=by rw[hBb,List.length_map]
 have hpw:(Ds A1 B1).Pairwise wlt:=by rw[hA,hBb];exact ZyN ha hb hd
 have hmx:max a.inner.length (a.inner.length+b.inner.length)=a.inner.length+b.inner.length:=by omega
 have hpi:(Zd1 a b).inner=Ds A1 B1:=by rw[hA,hBb];rfl
 rw[<-hA] at qr
 rw[<-hB]
 refine Za qr ?_
 simp only[ZyA,ZyB,lA,lB,hmx,List.length_map,EVA,↓reduceIte,Nat.reduceEqDiff,Nat.reduceMul,reduceCtorEq,Nat.reduceAdd,Nat.reduceLT]
 rw[<-List.map_append]
 refine⟨by omega,?_⟩
 have hab:(A1++B1).length=a.inner.length+b.inner.length:=by rw[List.length_append];omega
 have s1:=fun S' hS=>Zqj (A1++B1) (Ds A1 B1) wjoin_perm hpw (by omega) (lvl+1) S' (lvl,963) true (a.inner.length+b.inner.length) 0 (Nat.lt_succ_self _) hS
 rw[hab] at s1
 refine Zbr 963 _ (s1 _ ?_) ?_
 ·rw[J5];rfl
 simp only[ZdP,lA,lB,List.length_map,EVA,↓reduceIte,Nat.reduceEqDiff,Nat.reduceMul,reduceCtorEq,Nat.reduceAdd,Nat.reduceLT]
 simp only[Zsg,hpi]
 rfl
theorem Zql{sig:List TControl}{a b:TBigraph}(ha:bigOK sig a)(hb:bigOK sig b):∀ l,ZQ b l->sm (g0 (Zqe a b) l.toNat):=fun l hl=>by
 have ea:=ha.edges;have eb:=hb.edges
 have a4:=ha.small.outer;have b4:=hb.small.outer
 have hol:=WC (a:=a) (b:=b)
 refine Zp6 ha hb (fun x hx=>?_) hl
 have:=Zgy (l:=YM a b) (s:=x)
 have:=Ze7 (l:=YM a b) (s:=x)
 unfold sm
 omega
theorem Zqm{sig:List TControl}{a b:TBigraph}(ha:bigOK sig a)(hb:bigOK sig b):∀ l,ZQ a l->sm (g0 (Zn7 a b) l.toNat):=fun l hl=>by
 have a4:=ha.small.outer;have b4:=hb.small.outer
 have hol:=WC (a:=a) (b:=b)
 exact Zp8 ha hb (by omega) l hl
theorem ZlU{a b:TBigraph}{w:TWire}(h:w∈(Zd1 a b).inner):w∈a.inner.map (ZbP fun l=>g0 (Zn7 a b) l.toNat)\/w∈b.inner.map (ZbP fun l=>g0 (Zqe a b) l.toNat):=List.mem_append.1 (wjoin_perm.mem_iff.1 h)
theorem Znj{sig:List TControl}{a b:TBigraph}(ha:bigOK sig a)(hb:bigOK sig b):Zr 4294967290 (Zd1 a b):=by
 have sa:=ha.small;have sb:=hb.small
 have a2:=sa.sites;have a3:=sa.inner;have b3:=sb.inner;have a4:=sa.outer;have b4:=sb.outer
 have hol:=WC (a:=a) (b:=b)
 obtain⟨b1,b2,b3',b4',b5,b6,b7⟩:=Zp4 (roots:=a.roots+b.roots) (ss:=a.sites) (o:=YM a b) (FL:=fun l=>g0 (Zn7 a b) l.toNat) (FR:=fun l=>g0 (Zqe a b) l.toNat) (mv:=ZlS a) ha hb (by omega) (by omega) fun y hy=>by
  rcases List.mem_append.1 (setS_mem.1 hy) with hy | hy
  ·have:=Ys ha.outer hy;omega
  ·have:=Ys hb.outer hy;omega
 refine⟨b1,b2,b3',b4',b5,?_,fun w hw=>?_⟩
 ·show (Ds _ _).length<=_
  rw[ZdP,List.length_map,List.length_map]
  omega
 ·rcases ZlU hw with h | h
  ·obtain⟨x,hx,rfl⟩:=List.mem_map.1 h
   have:=Ys ha.inn (List.mem_map.2 ⟨x,hx,rfl⟩)
   simp only[ZeR,ZbP]
   omega
  ·obtain⟨x,hx,rfl⟩:=List.mem_map.1 h
   have:=Ys hb.inn (List.mem_map.2 ⟨x,hx,rfl⟩)
   simp only[ZeR,ZbP]
   omega
theorem ZyO{sig:List TControl}{a b:TBigraph}(ha:bigOK sig a)(hb:bigOK sig b){p:Int}(h1:-b.roots<=p)(h2:p<b.nodes.length):sm (ZlS a p):=by
 have a1:=ha.small.nodes;have b1:=hb.small.nodes
 have ra:=ha.roots;have rb:=hb.roots
 unfold ZlS sm
 split <;> omega
theorem Zve{sig:List TControl}{a:TBigraph}(ha:bigOK sig a):∀ p∈a.sites,sm p:=fun p hp=>by
 have h1:=Jq ha.roots.1 (ha.sites p hp)
 have h2:=Wr ha hp
 have ra:=ha.roots
 have a1:=ha.small.nodes
 unfold sm
 omega
theorem Zto{sig:List TControl}{a b:TBigraph}(ha:bigOK sig a)(hb:bigOK sig b)(fa:ZB a)(fb:ZB b):ZB (Zd1 a b):=by
 have ra:=ha.roots;have rb:=hb.roots
 obtain⟨f1,f2,f3,f4,f5⟩:=Zp5 (roots:=a.roots+b.roots) (ss:=a.sites) (o:=YM a b) (FL:=fun l=>g0 (Zn7 a b) l.toNat) (FR:=fun l=>g0 (Zqe a b) l.toNat) (mv:=ZlS a) ha hb fa fb (by unfold sm;omega) (Zve ha) (Zqm ha hb) (Zql ha hb) fun p h1 h2=>ZyO ha hb h1 h2
 refine⟨f1,f2,f3,f4,fun w hw=>?_⟩
 rcases ZlU hw with h | h
 ·obtain⟨x,hx,rfl⟩:=List.mem_map.1 h
  exact ZdM (Zqm ha hb _ (ha.inner x hx))
 ·obtain⟨x,hx,rfl⟩:=List.mem_map.1 h
  exact ZdM (Zql ha hb _ (hb.inner x hx))
def UQ(sig:List TControl)(a b:TBigraph):Prop:=bigOK sig a/\bigOK sig b/\(∀ x∈inn a,x ∉ inn b)/\bigOK sig (Zd1 a b)
open Classical in
noncomputable def YE(sig:List TControl)(a b:TBigraph):TBigraph:=if UQ sig a b then Zd1 a b else J7
noncomputable def YF(sig:List TControl)(a b:TBigraph):Bool:=dc (UQ sig a b)
theorem Xd(sig:List TControl)(a b:TBigraph)(hn:sig.length<=4294967296)(hbs:∀ y∈sig,Zq 4294967296 y)(hba:Zr 4294967296 a)(hbb:Zr 4294967296 b)(fa:ZB a)(fb:ZB b)(lvl:Nat)(S:Sto):Sem Proofs.Tryz.prog JO lvl [.tr (.sl (sig.map Zj)),.ag ((Zb a).map .tr),.ag ((Zb b).map .tr)] S (.tu [Zh (YE sig a b),iB (YF sig a b)]) S:=by
 refine Zc ZaS (by simp [Zh,low,men,Zf]) ?_
 simp only[X6,Zb,EVA,↓reduceIte,Nat.reduceEqDiff,Nat.reduceMul,reduceCtorEq,Nat.reduceAdd,Nat.reduceLeDiff,Nat.reduceLT,Zf,men]
 have i1:=Jz sig a hn hbs hba
 have i2:=Jz sig b hn hbs hbb
 simp only[Zb,List.map_cons,List.map_nil] at i1 i2
 refine Za i1 ?_
 unfold YE YF
 cases h1:dc (bigOK sig a)
 ·have hno:¬ UQ sig a b:=fun g=>dc_not.1 h1 g.1
  rw[if_neg hno,Zg hno]
  simp only[EVA,↓reduceIte,Nat.reduceEqDiff,Nat.reduceMul,reduceCtorEq,Nat.reduceAdd,Nat.reduceLT]
  rfl
 have hA:=dc_iff.1 h1
 simp only[EVA,↓reduceIte,Nat.reduceEqDiff,Nat.reduceMul,reduceCtorEq,Nat.reduceAdd,Nat.reduceLT,Zf,men]
 refine Za i2 ?_
 cases h2:dc (bigOK sig b)
 ·have hno:¬ UQ sig a b:=fun g=>dc_not.1 h2 g.2.1
  rw[if_neg hno,Zg hno]
  simp only[EVA,↓reduceIte,Nat.reduceEqDiff,Nat.reduceMul,reduceCtorEq,Nat.reduceAdd,Nat.reduceLT]
  rfl
 have hB:=dc_iff.1 h2
 have sa:=hA.small;have sb:=hB.small
 have a3:=sa.inner;have b3:=sb.inner
 simp only[EVA,↓reduceIte,Nat.reduceEqDiff,Nat.reduceMul,reduceCtorEq,Nat.reduceAdd,Nat.reduceLT,Zf,men]
 have n1:=QG a (by omega)
 have n2:=QG b (by omega)
 simp only[Zb,List.map_cons,List.map_nil] at n1 n2
 refine Za n1 ?_
 simp only[EVA,↓reduceIte,Nat.reduceEqDiff,Nat.reduceMul,reduceCtorEq,Nat.reduceAdd,Nat.reduceLT,Zf,men]
 refine Za n2 ?_
 simp only[EVA,↓reduceIte,Nat.reduceEqDiff,Nat.reduceMul,reduceCtorEq,Nat.reduceLT,Zf,men]
 refine Za (Zhm (inn a) (inn b) (by rw[Zar];omega) (by rw[Zar];omega)) ?_
 cases h3:dc (∀ x∈inn a,x ∉ inn b)
 ·have hno:¬ UQ sig a b:=fun g=>dc_not.1 h3 g.2.2.1
  rw[if_neg hno,Zg hno]
  simp only[EVA,↓reduceIte,Nat.reduceEqDiff,Nat.reduceMul,reduceCtorEq,Nat.reduceAdd,Nat.reduceLT]
  rfl
 have hD:=dc_iff.1 h3
 simp only[EVA,↓reduceIte,Nat.reduceEqDiff,Nat.reduceMul,reduceCtorEq,Nat.reduceAdd,Nat.reduceLT,Zf,men]
 have qc:=ZkO sig a b hA hB hD
 simp only[Zb,Zsg,List.map_cons,List.map_nil] at qc
 refine Za qc ?_
 simp only[EVA,↓reduceIte,Nat.reduceEqDiff,Nat.reduceMul,reduceCtorEq,Nat.reduceLT,Zf,men]
 have qv:=ZdF sig (Zd1 a b) hn hbs (Znj hA hB) (Zto hA hB fa fb)
 simp only[Zb,List.map_cons,List.map_nil] at qv
 refine Za qv ?_
 cases h6:dc (bigOK sig (Zd1 a b))
 ·have hno:¬ UQ sig a b:=fun g=>dc_not.1 h6 g.2.2.2
  rw[if_neg hno,Zg hno,if_neg (dc_not.1 h6)]
  simp only[Zh,EVA,↓reduceIte,Nat.reduceEqDiff,Nat.reduceMul,reduceCtorEq,Nat.reduceAdd,Nat.reduceLT]
  rfl
 ·have hyes:UQ sig a b:=⟨hA,hB,hD,dc_iff.1 h6⟩
  rw[if_pos hyes,Zy hyes,if_pos (dc_iff.1 h6)]
  simp only[Zh,List.length_map,EVA,↓reduceIte,Nat.reduceEqDiff,Nat.reduceMul,reduceCtorEq,Nat.reduceAdd,Nat.reduceLT]
end Go.Fd

/-
  BIGRAPHS SIDE BY SIDE: THE REFERENCE'S ANSWERS; JUXTAPOSITION (printed by mkpar.py). Own work.
-/
namespace Go.Fd
set_option maxRecDepth 20000
end Go.Fd

/-
  THE MERGED PRODUCT, IN PLAIN TERMS. Own work.
-/
namespace Go.Fd
set_option maxRecDepth 20000
def Zk7(p:Int):Int:=max (-1) p
def Ztp(x:TNode):TNode:=⟨x.control,Zk7 x.parent,x.links⟩
def ZlV(b:TBigraph):TBigraph:=⟨1,b.nodes.map Ztp,b.sites.map Zk7,b.edges,b.outer,b.inner⟩
def Zqn(b:TBigraph):Prop:=0<=b.roots/\(∀ x∈b.nodes,-b.roots<=x.parent)/\∀ p∈b.sites,-b.roots<=p
theorem ZbS{sig:List TControl}{b:TBigraph}{p below:Int}(h:-b.roots<=p):Ua sig (ZlV b) (Zk7 p) below↔Ua sig b p below:=by
 unfold Ua Zk7
 by_cases h0:0<=p
 ·rw[show max (-1) p=p by omega]
  have e:Zhi (ZlV b) p=Zhi b p:=by
   unfold Zhi ZlV
   rw[List.getElem?_map]
   cases b.nodes[p.toNat]? <;> rfl
  rw[e]
  constructor
  ·rintro(q | q)
   ·omega
   ·exact .inr q
  ·rintro(q | q)
   ·omega
   ·exact .inr q
 ·have e:max (-1) p = -1:=by omega
  rw[e]
  constructor
  ·intro _
   exact .inl ⟨by omega,h⟩
  ·intro _
   refine .inl ⟨by omega,?_⟩
   show -(1:Int) <= -1
   omega
theorem Zqo{sig:List TControl}{b:TBigraph}(h:Zqn b):bigOK sig (ZlV b)/\b.roots<=4↔bigOK sig b:=by
 obtain⟨h0,h1,h2⟩:=h
 have hl:(ZlV b).nodes.length=b.nodes.length:=List.length_map ..
 have hs:(ZlV b).sites.length=b.sites.length:=List.length_map ..
 constructor
 ·rintro⟨g,hr⟩
  refine⟨g.sg,⟨h0,hr⟩,by rw[<-hl];exact g.nodesL,by rw[<-hs];exact g.sitesL,g.edges,g.outer,g.inn,fun i hi=>?_,fun p hp=>?_,g.inner⟩
  ·have q:=g.nodes i (by rw[hl];exact hi)
   have e:(ZlV b).nodes[i]'(by rw[hl];exact hi)=Ztp b.nodes[i]:=by simp [ZlV]
   rw[e] at q
   exact⟨q.ctl,(ZbS (h1 _ (List.getElem_mem hi))).1 q.par,q.ports,q.links⟩
  ·have q:=g.sites (Zk7 p) (List.mem_map.2 ⟨p,hp,rfl⟩)
   rw[hl] at q
   exact(ZbS (h2 p hp)).1 q
 ·intro g
  refine⟨⟨g.sg,by show (0:Int)<=1/\(1:Int)<=4;omega,by rw[hl];exact g.nodesL,by rw[hs];exact g.sitesL,g.edges,g.outer,g.inn,fun i hi=>?_,fun p hp=>?_,g.inner⟩,g.roots.2⟩
  ·have hi2:i<b.nodes.length:=by rw[<-hl];exact hi
   have q:=g.nodes i hi2
   have e:(ZlV b).nodes[i]=Ztp b.nodes[i]:=by simp [ZlV]
   rw[e]
   exact⟨q.ctl,(ZbS (h1 _ (List.getElem_mem hi2))).2 q.par,q.ports,q.links⟩
  ·obtain⟨p0,hp0,rfl⟩:=List.mem_map.1 hp
   rw[hl]
   exact(ZbS (h2 p0 hp0)).2 (g.sites p0 hp0)
theorem ZeA{sig:List TControl}{a b:TBigraph}(ha:bigOK sig a)(hb:bigOK sig b):Zqn (Zd1 a b):=by
 have ra:=ha.roots;have rb:=hb.roots
 have hbes:∀ p,-b.roots<=p -> -(a.roots+b.roots)<=ZlS a p:=fun p hp=>by
  unfold ZlS
  split <;> omega
 refine⟨?_,fun x hx=>?_,fun p hp=>?_⟩
 ·show 0<=a.roots+b.roots
  omega
 ·show -(a.roots+b.roots)<=x.parent
  rcases List.mem_append.1 hx with hx | hx
  ·obtain⟨y,hy,rfl⟩:=List.mem_map.1 hx
   obtain⟨k,hk,rfl⟩:=List.getElem_of_mem hy
   have:=Jq ra.1 (ha.nodes k hk).par
   show _<=(a.nodes[k]).parent
   omega
  ·obtain⟨y,hy,rfl⟩:=List.mem_map.1 hx
   obtain⟨k,hk,rfl⟩:=List.getElem_of_mem hy
   exact hbes _ (Jq rb.1 (hb.nodes k hk).par)
 ·show -(a.roots+b.roots)<=p
  rcases List.mem_append.1 hp with hp | hp
  ·have:=Jq ra.1 (ha.sites p hp)
   omega
  ·obtain⟨y,hy,rfl⟩:=List.mem_map.1 hp
   exact hbes _ (Jq rb.1 (hb.sites y hy))
theorem Znk{b:TBigraph}{n:Nat}(hn:b.roots=n){p:Int}(h:-b.roots<=p):Zes 0 (List.replicate n (-1)) p=Zk7 p:=by
 unfold Zes Zk7
 by_cases h0:0<=p
 ·rw[if_neg (by omega)]
  omega
 ·rw[if_pos (by omega)]
  have hk:(-1-p).toNat<n:=by omega
  show (List.replicate n (-1:Int)).getD _ 0=_
  rw[List.getD_eq_getElem?_getD,List.getElem?_replicate,if_pos hk]
  show (-1:Int)=_
  omega
noncomputable def Zh1(a b:TBigraph):TBigraph:=ZlV (Zd1 a b)
open Classical in
noncomputable def VY(sig:List TControl)(a b:TBigraph):TBigraph:=if UQ sig a b then Zh1 a b else J7
noncomputable def VZ(sig:List TControl)(a b:TBigraph):Bool:=dc (UQ sig a b)
end Go.Fd

/-
  SMALL WORDS FOR MARKS. Own work.
-/
namespace Go.Fd
theorem X7{α:Type}{c:α->List Tr}{m:α->Int->α}{n:α->Nat}{a:List α}{k:Int}:cut ((mL m n a k).map c) 0 a.length=(mL m n a k).map c:=by
 simp only[cut,List.drop_zero]
 exact List.take_of_length_le (by rw[List.length_map,Jn];exact Nat.le_refl _)
theorem Js{α:Type}{c:α->List Tr}{a:List α}:cut (a.map c) 0 a.length=a.map c:=by
 simp only[cut,List.drop_zero]
 exact List.take_of_length_le (by rw[List.length_map];exact Nat.le_refl _)
end Go.Fd

/-
  THE MERGED PRODUCT, BOTH SIDES. Own work.
-/
namespace Go.Fd
set_option maxRecDepth 20000
def prt{α:Type}(f:α->α)(l:List α)(j:Nat):List α:=(l.take j).map f++l.drop j
theorem Zvf{α:Type}{f:α->α}{l:List α}:prt f l 0=l:=by simp [prt]
theorem Zvg{α:Type}{f:α->α}{l:List α}:prt f l l.length=l.map f:=by simp [prt]
theorem Zvh{α:Type}{f:α->α}{l:List α}{j:Nat}:(prt f l j).length=l.length:=by simp [prt];omega
theorem Zqp{α:Type}{f:α->α}{l:List α}{j:Nat}(h:j<l.length):(prt f l j)[j]? = some l[j]:=by
 have:((l.take j).map f).length=j:=by rw[List.length_map,List.length_take];omega
 rw[prt,List.getElem?_append_right (by omega),this,List.getElem?_drop]
 simp [h]
theorem Zqq{α:Type}{f:α->α}{l:List α}{j:Nat}(h:j<l.length):(prt f l j).set j (f l[j])=prt f l (j+1):=by
 have hl:((l.take j).map f).length=j:=by rw[List.length_map,List.length_take];omega
 unfold prt
 rw[List.set_append_right _ _ (by omega),hl,Nat.sub_self,List.drop_eq_getElem_cons h,List.set_cons_zero,List.take_succ_eq_append_getElem h,List.map_append,List.append_assoc]
 rfl
theorem ZlW{l:List TNode}{j:Nat}(h:j<l.length):((prt Ztp l j).map ZK)[j]? = some [tv l[j].control,tv l[j].parent,Tr.sl (rI l[j].links)]:=by rw[List.getElem?_map,Zqp h];rfl
theorem Zqr{l:List TNode}{j:Nat}(h:j<l.length):Vs ((prt Ztp l j).map ZK) [] j 1 (Tr.v (.int .i64 (max (-1) l[j].parent)))=(prt Ztp l (j+1)).map ZK:=by
 rw[Zjj (ZlW h),<-Zqq h,List.map_set]
 rfl
theorem Zsk{l:List Int}{j:Nat}(h:j<l.length):(rI (prt Zk7 l j))[j]? = some [tv l[j]]:=by
 show ((prt Zk7 l j).map _)[j]? = _
 rw[List.getElem?_map,Zqp h]
 rfl
theorem Zsl{l:List Int}{j:Nat}(h:j<l.length):Vs (rI (prt Zk7 l j)) [] j 0 (Tr.v (.int .i64 (max (-1) l[j])))=rI (prt Zk7 l (j+1)):=by
 rw[ZpE (by rw[Zvh];exact h),show max (-1) l[j]=Zk7 l[j] from rfl,Zqq h]
theorem ZgM(b:TBigraph)(hb:Zr 4294967290 b)(lvl:Nat)(S:Sto):Sem Proofs.Tryz.prog J0 lvl [.ag ((Zb b).map .tr)] S (Zh (ZlV b)) S:=by
 refine Zc UR (by simp [Zh,low,men,Zf]) ?_
 simp only[Qd,Zb,EVA,seval,Zf,men]
 have q:=Wq b hb
 simp only[Zb,List.map_cons,List.map_nil] at q
 obtain⟨b1,b2,b3,b4,b5,b6,b7⟩:=hb
 refine Za q ?_
 simp only[Zh,List.length_map,EVA,seval]
 refine Zv (α:=Unit) b.nodes.length (fun j _=>[(14,iI j)]) (fun j _=>[(288,.ar 3 ((prt Ztp b.nodes j).map ZK) true b.nodes.length 0)]) (fun _ _=>True) () (by simp only[EVA,seval]) (by (simp only[Zvf,EVA,seval]) <;> rfl) trivial ?_
 intro j _ hj _
 simp only[EVA,seval]
 refine Zk (fun hlt=>?_) (fun hge=>?_)
 ·have hja:j<b.nodes.length:=by omega
  have ga:=ZlW hja
  have hst:=Zqr hja
  simp only[ga,hst,hja,List.length_map,EVA,seval]
  exact⟨by rw[Zd];omega,Ze () hja rfl trivial⟩
 ·have:j=b.nodes.length:=by omega
  subst this
  rw[Zvg]
  refine Zv (α:=Unit) b.sites.length (fun j _=>[(31,iI j)]) (fun j _=>[(289,.ar 1 (rI (prt Zk7 b.sites j)) true b.sites.length 0)]) (fun _ _=>True) () (by simp only[EVA,seval]) (by (simp only[Zvf,EVA,seval]) <;> rfl) trivial ?_
  intro j _ hj _
  simp only[List.length_map,EVA,seval]
  refine Zk (fun hlt=>?_) (fun hge=>?_)
  ·have hja:j<b.sites.length:=by omega
   have ga:=Zsk hja
   have hst:=Zsl hja
   simp only[ga,hst,hja,EVA,seval]
   exact⟨by rw[Zd];omega,Ze () hja rfl trivial⟩
  ·have:j=b.sites.length:=by omega
   subst this
   rw[Zvg]
   simp only[List.length_map,EVA,seval]
   try rfl
structure easy (b:TBigraph):Prop where
 root:Zqn b
 bd:Zr 4294967290 b
 r4:b.roots<=4294967290
 edges:0<=b.edges/\b.edges<=4294967290
 par:∀ x∈b.nodes,x.parent<b.nodes.length/\∀ l∈x.links,0<=l
 site:∀ p∈b.sites,p<b.nodes.length
 link:∀ w∈b.inner,0<=w.link
theorem Zqs{n:Nat}:rI (List.replicate n (-1))++[[tv (-1)]]=rI (List.replicate (n+1) (-1)):=by
 rw[List.replicate_succ',Y7]
 rfl
theorem Zqt(b:TBigraph)(h:easy b)(lvl:Nat)(S:Sto):Sem Proofs.Tryz.prog Dh lvl [.ag ((Zb b).map .tr)] S (Zh (ZlV b)) S:=by
 obtain⟨E,hE⟩:∃ E:Nat,b.edges=E:=⟨b.edges.toNat,by have:=h.edges;omega⟩
 obtain⟨R,hR⟩:∃ R:Nat,b.roots=R:=⟨b.roots.toNat,by have:=h.root.1;omega⟩
 have hr4:=h.r4;have he4:=h.edges
 have hbd:=h.bd
 obtain⟨b1,b2,b3,b4,b5,b6,b7⟩:=h.bd
 refine Zc Zkh (by simp [Zh,low,men,Zf]) ?_
 simp only[Ze0,Zb,EVA,seval,Zf,men]
 have q:=ZgG b E hE hbd (by omega) h.par h.site h.link
 simp only[Zb,List.map_cons,List.map_nil] at q
 refine Za q ?_
 simp only[Zh,List.length_map,EVA,seval]
 refine Zv (α:=Unit) R (fun j _=>[(4,.hd (lvl,288) [] 0 j none j),(5,iI j)]) (fun j _=>[(288,.ar 1 (rI (List.replicate j (-1))) true j 0)]) (fun _ _=>True) () (by simp only[EVA,seval]) (by (simp only[EVA,seval]) <;> rfl) trivial ?_
 intro j _ hj _
 simp only[hR,List.length_map,EVA,seval]
 refine Zk (fun hlt=>?_) (fun hge=>?_)
 ·have hja:j<R:=by omega
  simp only[Zqs,seval]
  exact⟨by omega,by rw[Zd];omega,Ze () hja rfl trivial⟩
 ·have:j=R:=by omega
  subst this
  have hlr:(List.replicate j (-1:Int)).length=j:=List.length_replicate
  have hcr:cut (rI (List.replicate j (-1))) 0 j=rI (List.replicate j (-1)):=JA (by rw[List.length_map,hlr])
  have hroot:=h.root
  have hpar:∀ p,-b.roots<=p->p<4294967296->(-4294967296<=p/\p<=4294967296)/\(p<0->(-1-p).toNat<(List.replicate j (-1:Int)).length):=fun p h1 h2=>⟨by omega,fun h3=>by rw[hlr];omega⟩
  refine Zv (α:=Unit) b.nodes.length (fun j _=>[(6,iI j)]) (fun j _=>[(256,.ar 3 ((prt Ztp b.nodes j).map ZK) true b.nodes.length 0)]) (fun _ _=>True) () (by simp only[EVA,seval]) (by (simp only[Zvf,EVA,seval]) <;> rfl) trivial ?_
  intro i _ hi _
  simp only[List.length_map,EVA,seval,Zf,men]
  refine Zk (fun hlt=>?_) (fun hge=>?_)
  ·have hia:i<b.nodes.length:=by omega
   have ga:=ZlW hia
   have hst:=Zqr hia
   have hx:=List.getElem_mem hia
   have hp1:=hroot.2.1 _ hx
   have hp2:=(h.par _ hx).1
   obtain⟨g1,g2⟩:=hpar _ hp1 (by omega)
   have e:=Znk hR hp1
   simp only[ga,hcr,hia,List.length_map,EVA,seval,Zf,men]
   refine Za (Zbw b.nodes[i].parent 0 (List.replicate j (-1)) g1 (by omega) g2) ?_
   rw[e]
   unfold Zk7
   simp only[ga,hst,hia,EVA,seval]
   exact⟨by rw[Zd];omega,Ze () hia rfl trivial⟩
  ·have:i=b.nodes.length:=by omega
   subst this
   rw[Zvg]
   have qs:=Wg b 0 (List.replicate j (-1)) (by omega) (by omega) fun p hp=>by
    have:=h.site p hp
    exact hpar p (hroot.2.2 p hp) (by omega)
   rw[show b.sites.map (Zes 0 (List.replicate j (-1)))=b.sites.map Zk7 from List.map_congr_left fun p hp=>Znk hR (hroot.2.2 p hp)] at qs
   simp only[Zb,hR,List.map_cons,List.map_nil] at qs
   simp only[hcr,seval]
   refine Za qs ?_
   simp only[ZlV,List.length_map,EVA,seval]
   try rfl
theorem Zqu{sig:List TControl}{a b:TBigraph}(ha:bigOK sig a)(hb:bigOK sig b){l:Int}(hl:ZQ a l):0<=g0 (Zn7 a b) l.toNat:=by
 have ea:=ha.edges;have eb:=hb.edges
 unfold Zn7 ZmU
 rcases Yd hl with ⟨h0,h1⟩ | ⟨i,hi,rfl⟩
 ·rw[Zcr h0 h1];omega
 ·rw[Zcs ea.1 hi]
  have:a.outer[i]∈YM a b:=setS_mem.2 (List.mem_append.2 (.inl (List.getElem_mem hi)))
  have:=ixS_nn.2 this
  omega
theorem Zqv{sig:List TControl}{a b:TBigraph}(ha:bigOK sig a)(hb:bigOK sig b){l:Int}(hl:ZQ b l):0<=g0 (Zqe a b) l.toNat:=by
 have ea:=ha.edges;have eb:=hb.edges
 unfold Zqe ZpN
 rcases Yd hl with ⟨h0,h1⟩ | ⟨i,hi,rfl⟩
 ·rw[Zcr h0 h1];omega
 ·rw[Zcs eb.1 hi]
  have:b.outer[i]∈YM a b:=setS_mem.2 (List.mem_append.2 (.inr (List.getElem_mem hi)))
  have:=ixS_nn.2 this
  omega
theorem Zsm{sig:List TControl}{a b:TBigraph}(ha:bigOK sig a)(hb:bigOK sig b):easy (Zd1 a b):=by
 have ra:=ha.roots;have rb:=hb.roots
 have ea:=ha.edges;have eb:=hb.edges
 have a1:=ha.small.nodes;have b1:=hb.small.nodes
 have hlen:(Zd1 a b).nodes.length=a.nodes.length+b.nodes.length:=by
  simp [Zd1,Zvb,ZvH,Zby]
 have hbes:∀ p:Int,p<b.nodes.length->ZlS a p<(a.nodes.length+b.nodes.length:Nat):=fun p hp=>by
  unfold ZlS
  split <;> omega
 refine⟨ZeA ha hb,Znj ha hb,by show a.roots+b.roots<=_;omega,by show 0<=a.edges+b.edges/\a.edges+b.edges<=_;omega,fun x hx=>?_,fun p hp=>?_,fun w hw=>?_⟩
 ·rw[hlen]
  rcases List.mem_append.1 hx with hx | hx
  ·obtain⟨y,hy,rfl⟩:=List.mem_map.1 hx
   obtain⟨k,hk,rfl⟩:=List.getElem_of_mem hy
   have h1:=(Dr ha hy).1
   refine⟨by show (a.nodes[k]).parent<_;omega,fun l hl=>?_⟩
   obtain⟨l0,hl0,rfl⟩:=List.mem_map.1 hl
   exact Zqu ha hb ((ha.nodes k hk).links l0 hl0)
  ·obtain⟨y,hy,rfl⟩:=List.mem_map.1 hx
   obtain⟨k,hk,rfl⟩:=List.getElem_of_mem hy
   have h1:=(Dr hb hy).1
   refine⟨hbes _ h1,fun l hl=>?_⟩
   obtain⟨l0,hl0,rfl⟩:=List.mem_map.1 hl
   exact Zqv ha hb ((hb.nodes k hk).links l0 hl0)
 ·rw[hlen]
  rcases List.mem_append.1 hp with hp | hp
  ·have:=Wr ha hp
   omega
  ·obtain⟨y,hy,rfl⟩:=List.mem_map.1 hp
   exact hbes _ (Wr hb hy)
 ·rcases ZlU hw with h | h
  ·obtain⟨x,hx,rfl⟩:=List.mem_map.1 h
   exact Zqu ha hb (ha.inner x hx)
  ·obtain⟨x,hx,rfl⟩:=List.mem_map.1 h
   exact Zqv ha hb (hb.inner x hx)
theorem WD(sig:List TControl)(a b:TBigraph)(hn:sig.length<=4294967296)(hbs:∀ y∈sig,Zq 4294967296 y)(hba:Zr 4294967296 a)(hbb:Zr 4294967296 b)(fa:ZB a)(fb:ZB b)(lvl:Nat)(S:Sto):Sem Proofs.Tryz.prog Yw lvl [.tr (.sl (sig.map Zj)),.ag ((Zb a).map .tr),.ag ((Zb b).map .tr)] S (.tu [Zh (VY sig a b),iB (VZ sig a b)]) S:=by
 refine Zc Zcz (by simp [Zh,low,men,Zf]) ?_
 simp only[UD,Zb,EVA,seval,Zf,men]
 have q:=Xd sig a b hn hbs hba hbb fa fb
 unfold YE YF at q
 simp only[Zb,List.map_cons,List.map_nil] at q
 unfold VY VZ
 by_cases hq:UQ sig a b
 ·rw[if_pos hq,Zy hq] at q
  rw[if_pos hq,Zy hq]
  refine Za q ?_
  have qm:=ZgM (Zd1 a b) (Znj hq.1 hq.2.1)
  simp only[Zb,List.map_cons,List.map_nil] at qm
  simp only[Zh,Js,List.length_map,EVA,seval,Zf,men]
  refine Za qm ?_
  simp only[Zh,List.length_map,EVA,seval]
  try rfl
 ·rw[if_neg hq,Zg hq] at q
  rw[if_neg hq,Zg hq]
  refine Za q ?_
  simp only[Zh,List.length_map,EVA,seval]
  try rfl
end Go.Fd

/-
  TERMS, IN PLAIN TERMS. Own work.
-/
namespace Go.Fd
set_option maxRecDepth 20000
def Zq4:TBigraph:=⟨1,[],[],0,[],[]⟩
def Zq5:TBigraph:=⟨1,[],[-1],0,[],[]⟩
abbrev Xi:=TBigraph×List Int
def JB(k:Int):Nat:=if k=4\/k=5 then 2 else if k=3\/k=6\/k=7 then 1 else 0
structure stepOK (sig:List TControl) (s:TTermStep):Prop where
 kind:0<=s.kind_/\s.kind_<=7
 ctl0:s.kind_≠3->s.control=0
 site0:s.kind_≠2->s.site=0
 nms:∀ n∈s.names,ZcC n
 site:s.kind_=2->0<=s.site/\s.site<=3
 ctl:s.kind_=3->0<=s.control/\s.control<=(sig.length:Int)-1
 ports:s.kind_=3->(s.names.length:Int)=Vi sig s.control
 one:s.kind_=6\/s.kind_=7->s.names.length=1
 non:s.kind_≠3->s.kind_≠6->s.kind_≠7->s.names.length=0
noncomputable def ZdQ(s:TTermStep):TBigraph:=⟨1,[⟨s.control,-1,s.names.map fun n=>ixS (VG s.names) n⟩],[],0,VG s.names,[]⟩
noncomputable def Zfq(s:TTermStep):TBigraph:=⟨1,[⟨s.control,-1,s.names.map fun n=>ixS (VG s.names) n⟩],[0],0,VG s.names,[]⟩
def X8(sig:List TControl)(s:TTermStep)(x:TBigraph):Prop:=x.roots=1/\(QF sig s.control=2->x.nodes=[]/\x.sites=[])/\bigOK sig (DP (Zfq s) x)
noncomputable def adN(b:TBigraph)(n:ByteArray):List ByteArray:=VG (b.outer++[n])
noncomputable def ZjJ(b:TBigraph)(n:ByteArray):TBigraph:=Dw b (ZdB b b.edges (adN b n) fun x=>x) b.edges (adN b n)
def Dt(sig:List TControl)(b:TBigraph)(n:ByteArray):Prop:=bigOK sig b/\n ∉ b.outer/\bigOK sig (ZjJ b n)
open Classical in
noncomputable def mkR(sig:List TControl)(s:TTermStep)(xs:List Xi):Option Xi :=
 if s.kind_=0 then some (J7,[])
 else if s.kind_=1 then some (Zq4,[])
 else if s.kind_=2 then some (Zq5,[s.site])
 else match xs with
 | [x] =>
  if s.kind_=3 then (if X8 sig s x.1 then some (DP (Zfq s) x.1,x.2) else none)
  else if s.kind_=6 then (if Q6 sig x.1 (gS s.names 0) then some (XW x.1 (gS s.names 0),x.2) else none)
  else (if Dt sig x.1 (gS s.names 0) then some (ZjJ x.1 (gS s.names 0),x.2) else none)
 | [x,y]=>if UQ sig x.1 y.1 then some (if s.kind_=4 then Zh1 x.1 y.1 else Zd1 x.1 y.1,x.2++y.2) else none
 | _=>none
structure partOK (sig:List TControl) (x:Xi):Prop where
 big:bigOK sig x.1
 inn:x.1.inner=[]
 len:x.2.length=x.1.sites.length
 num:∀ k∈x.2,0<=k/\k<=3
abbrev Stk:=List Xi×Nat
open Classical in
noncomputable def stT(sig:List TControl)(z:Stk)(s:TTermStep):Option Stk :=
 if stepOK sig s/\JB s.kind_<=z.1.length then
  match mkR sig s (z.1.drop (z.1.length-JB s.kind_)) with
  | some x=>some (z.1.take (z.1.length-JB s.kind_)++[x],max z.2 (z.1.length-JB s.kind_+1))
  | none=>none
 else none
noncomputable def ZfK(sig:List TControl)(t:List TTermStep):Option Stk:=t.foldlM (stT sig) ([],0)
theorem Zqw{sig:List TControl}:ZfK sig []=some ([],0):=rfl
theorem ZgN{sig:List TControl}{t:List TTermStep}{j:Nat}(h:j<t.length):ZfK sig (t.take (j+1))=(ZfK sig (t.take j)).bind fun z=>stT sig z t[j]:=by
 unfold ZfK
 rw[List.take_succ_eq_append_getElem h,List.foldlM_append]
 cases List.foldlM (stT sig) (([],0):Stk) (t.take j) with
 | none=>rfl
 | some z =>
  show List.foldlM (stT sig) z [t[j]]=_
  simp
theorem ZkP{sig:List TControl}{t:List TTermStep}{j:Nat}(h:ZfK sig (t.take j)=none):ZfK sig t=none:=by
 have e:t=t.take j++t.drop j:=(List.take_append_drop j t).symm
 rw[e]
 unfold ZfK at *
 rw[List.foldlM_append,h]
 rfl
theorem Znl{sig:List TControl}{z:Stk}{s:TTermStep}{x:Xi}(h:stepOK sig s)(hn:JB s.kind_<=z.1.length)(hx:mkR sig s (z.1.drop (z.1.length-JB s.kind_))=some x):stT sig z s=some (z.1.take (z.1.length-JB s.kind_)++[x],max z.2 (z.1.length-JB s.kind_+1)):=by
 unfold stT
 rw[if_pos ⟨h,hn⟩,hx]
theorem Zjt{sig:List TControl}{z:Stk}{s:TTermStep}(h:¬ (stepOK sig s/\JB s.kind_<=z.1.length)):stT sig z s=none:=by
 unfold stT
 rw[if_neg h]
theorem Znm{sig:List TControl}{z:Stk}{s:TTermStep}(hx:mkR sig s (z.1.drop (z.1.length-JB s.kind_))=none):stT sig z s=none:=by
 unfold stT
 split
 ·rw[hx]
 ·rfl
theorem Zoa{l:List ByteArray}(hp:l.Pairwise ltS)(hn:∀ n∈l,ZcC n)(hl:l.length<=16):VW l:=by
 refine⟨fun i h=>⟨hn _ (List.getElem_mem h),fun h0=>?_⟩,hl⟩
 exact List.pairwise_iff_getElem.1 hp (i-1) i (by omega) h (by omega)
theorem Zqx{sig:List TControl}(h:Vh sig){x:TControl}(hx:x∈sig):ZrT x:=by
 obtain⟨i,hi,rfl⟩:=List.getElem_of_mem hx
 exact(h.1 i hi).1
theorem Zju{sig:List TControl}(h:Vh sig){c:Int}:Vi sig c<=3:=by
 unfold Vi
 cases hc:sig[c.toNat]? with
 | none=>simp
 | some x =>
  have hx:x∈sig:=List.mem_of_getElem? hc
  have:=(Zqx h hx).2.1
  simp only[Option.map_some,Option.getD_some]
  omega
theorem ZkQ{sig:List TControl}{s:TTermStep}(hs:Vh sig)(h:stepOK sig s)(h3:s.kind_=3):VW (VG s.names):=by
 refine Zoa Zjl (fun n hn=>h.nms n (setS_mem.1 hn)) ?_
 have h1:=ZbQ (l:=s.names)
 have h2:=h.ports h3
 have h4:=Zju hs (c:=s.control)
 omega
theorem ZkR{sig:List TControl}{s:TTermStep}(h:stepOK sig s)(h3:s.kind_=3){b:TBigraph}(hr:b.roots=1)(he:b.edges=0)(ho:b.outer=VG s.names):nodeOK sig b ⟨s.control,-1,s.names.map fun n=>ixS (VG s.names) n⟩ 0:=by
 refine⟨h.ctl h3,.inl ⟨by show (-1:Int)<0;omega,by show -b.roots <= -1;omega⟩,by rw[<-h.ports h3,List.length_map],fun l hl=>?_⟩
 obtain⟨n,hn,rfl⟩:=List.mem_map.1 hl
 have hm:=setS_mem.2 hn
 have h1:=ixS_nn.2 hm
 have h2:=ZmR hm
 unfold ZQ
 rw[he,ho]
 omega
theorem Zvi{sig:List TControl}{s:TTermStep}(hs:Vh sig)(h:stepOK sig s)(h3:s.kind_=3):bigOK sig (ZdQ s):=by
 refine⟨hs,by show (0:Int)<=1/\(1:Int)<=4;omega,by show 1<=8;omega,by show 0<=4;omega,by show (0:Int)<=0/\(0:Int)<=8;omega,ZkQ hs h h3,?_,fun i hi=>?_,fun p hp=>?_,fun w hw=>?_⟩
 ·exact⟨fun i hi=>by simp [inn,ZdQ] at hi,by simp [inn,ZdQ]⟩
 ·have hi2:i<1:=hi
  have:i=0:=by omega
  subst this
  exact ZkR h h3 rfl rfl rfl
 ·simp [ZdQ] at hp
 ·simp [ZdQ] at hw
theorem Zqy{sig:List TControl}{s:TTermStep}(hs:Vh sig)(h:stepOK sig s)(h3:s.kind_=3)(hk:¬ QF sig s.control=2):bigOK sig (Zfq s):=by
 refine⟨hs,by show (0:Int)<=1/\(1:Int)<=4;omega,by show 1<=8;omega,by show 1<=4;omega,by show (0:Int)<=0/\(0:Int)<=8;omega,ZkQ hs h h3,?_,fun i hi=>?_,fun p hp=>?_,fun w hw=>?_⟩
 ·exact⟨fun i hi=>by simp [inn,Zfq] at hi,by simp [inn,Zfq]⟩
 ·have hi2:i<1:=hi
  have:i=0:=by omega
  subst this
  exact ZkR h h3 rfl rfl rfl
 ·have hp2:p=0:=by simpa [Zfq] using hp
  subst hp2
  refine .inr ⟨by omega,by show (0:Int)<((1:Nat):Int);omega,?_⟩
  show ¬ QF sig (Zhi (Zfq s) 0)=2
  have e:Zhi (Zfq s) 0=s.control:=rfl
  rw[e]
  exact hk
 ·simp [Zfq] at hw
theorem Zjv{sig:List TControl}(hs:Vh sig){b:TBigraph}(hr:0<=b.roots/\b.roots<=4)(hn:b.nodes=[])(he:b.edges=0)(ho:b.outer=[])(hi:b.inner=[])(hp:∀ p∈b.sites,p<0/\-b.roots<=p)(hl:b.sites.length<=4):bigOK sig b:=by
 refine⟨hs,hr,by rw[hn];simp,hl,by rw[he];omega,?_,?_,fun i h=>by rw[hn] at h;simp at h,fun p h=>.inl (hp p h),fun w h=>by rw[hi] at h;simp at h⟩
 ·rw[ho];exact⟨fun i h=>by simp at h,by simp⟩
 ·unfold inn
  rw[hi];exact⟨fun i h=>by simp at h,by simp⟩
theorem Zqz{sig:List TControl}(hs:Vh sig):bigOK sig J7:=Zjv hs (by show (0:Int)<=0/\(0:Int)<=4;omega) rfl rfl rfl rfl (fun p hp=>by simp [J7] at hp) (by simp [J7])
theorem Zvj{sig:List TControl}(hs:Vh sig):bigOK sig Zq4:=Zjv hs (by show (0:Int)<=1/\(1:Int)<=4;omega) rfl rfl rfl rfl (fun p hp=>by simp [Zq4] at hp) (by simp [Zq4])
theorem Zvk{sig:List TControl}(hs:Vh sig):bigOK sig Zq5:=Zjv hs (by show (0:Int)<=1/\(1:Int)<=4;omega) rfl rfl rfl rfl (fun p hp=>by
 have:p = -1:=by simpa [Zq5] using hp
 subst this
 exact⟨by omega,by show -(1:Int) <= -1;omega⟩) (by simp [Zq5])
theorem ZqA{a b:TBigraph}(ha:a.inner=[])(hb:b.inner=[]):(Zd1 a b).inner=[]:=by
 show Ds (a.inner.map _) (b.inner.map _)=[]
 rw[ha,hb]
 rfl
theorem Zvl{s:TTermStep}{x:TBigraph}(hr:x.roots=1)(hn:x.nodes=[])(hs:x.sites=[])(hi:x.inner=[]):Zh1 (ZdQ s) x=DP (Zfq s) x:=by
 obtain⟨r,ns,ss,e,o,i⟩:=x
 simp only at hr hn hs hi
 subst hr hn hs hi
 rfl
theorem ZyP{sig:List TControl}(hs:Vh sig){s:TTermStep}(h:stepOK sig s){xs:List Xi}(hx:∀ x∈xs,partOK sig x){y:Xi}(hy:mkR sig s xs=some y):partOK sig y:=by
 unfold mkR at hy
 split at hy
 ·cases hy;exact⟨Zqz hs,rfl,rfl,fun k hk=>by simp at hk⟩
 split at hy
 ·cases hy;exact⟨Zvj hs,rfl,rfl,fun k hk=>by simp at hk⟩
 split at hy
 ·rename_i h2
  cases hy
  refine⟨Zvk hs,rfl,rfl,fun k hk=>?_⟩
  have:k=s.site:=by simpa using hk
  subst this
  exact h.site h2
 split at hy
 ·rename_i x
  have hx0:=hx x (by simp)
  split at hy
  ·split at hy
   ·rename_i hA
    cases hy
    refine⟨hA.2.2,?_,?_,hx0.num⟩
    ·show (x.1.inner.map _)=[]
     rw[hx0.inn]
     rfl
    ·rw[hx0.len]
     show _=([]++x.1.sites.map _).length
     simp
   ·cases hy
  split at hy
  ·split at hy
   ·rename_i hA
    cases hy
    refine⟨hA.2.2,?_,?_,hx0.num⟩
    ·show (x.1.inner.map _)=[]
     rw[hx0.inn]
     rfl
    ·exact hx0.len
   ·cases hy
  ·split at hy
   ·rename_i hA
    cases hy
    refine⟨hA.2.2,?_,?_,hx0.num⟩
    ·show (x.1.inner.map _)=[]
     rw[hx0.inn]
     rfl
    ·exact hx0.len
   ·cases hy
 ·rename_i x z
  have hx0:=hx x (by simp)
  have hx1:=hx z (by simp)
  split at hy
  ·rename_i hA
   cases hy
   have hlen:(x.2++z.2).length=(Zd1 x.1 z.1).sites.length:=by
    show _=(x.1.sites++z.1.sites.map _).length
    simp only[List.length_append,List.length_map,hx0.len,hx1.len]
   have hnum:∀ k∈x.2++z.2,0<=k/\k<=3:=fun k hk=>by
    rcases List.mem_append.1 hk with hk | hk
    ·exact hx0.num k hk
    ·exact hx1.num k hk
   split
   ·refine⟨((Zqo (ZeA hA.1 hA.2.1)).2 hA.2.2.2).1,ZqA hx0.inn hx1.inn,?_,hnum⟩
    rw[hlen]
    show _=((Zd1 x.1 z.1).sites.map Zk7).length
    rw[List.length_map]
   ·exact⟨hA.2.2.2,ZqA hx0.inn hx1.inn,hlen,hnum⟩
  ·cases hy
 ·cases hy
theorem ZyQ{sig:List TControl}(hs:Vh sig){s:TTermStep}{z z':Stk}(hx:∀ x∈z.1,partOK sig x)(h:stT sig z s=some z'):(∀ x∈z'.1,partOK sig x)/\z'.1.length<=z.1.length+1/\z'.2<=max z.2 (z.1.length+1)/\z'.1.length<=z'.2:=by
 unfold stT at h
 split at h
 ·rename_i hA
  split at h
  ·rename_i y hy
   cases h
   refine⟨fun x hx2=>?_,?_,?_,?_⟩
   ·rcases List.mem_append.1 hx2 with q | q
    ·exact hx x (List.mem_of_mem_take q)
    ·rw[List.mem_singleton.1 q]
     exact ZyP hs hA.1 (fun x hx3=>hx x (List.mem_of_mem_drop hx3)) hy
   ·simp only[List.length_append,List.length_take,List.length_cons,List.length_nil]
    omega
   ·show max z.2 _<=_
    omega
   ·simp only[List.length_append,List.length_take,List.length_cons,List.length_nil]
    omega
  ·cases h
 ·cases h
theorem ZeB{sig:List TControl}(hs:Vh sig){t:List TTermStep}:∀{j:Nat} {z:Stk},j<=t.length->ZfK sig (t.take j)=some z->(∀ x∈z.1,partOK sig x)/\z.1.length<=j/\z.2<=j/\z.1.length<=z.2
 | 0,z,_,h=>by
  rw[List.take_zero,Zqw] at h
  cases h
  exact⟨fun x hx=>by simp at hx,Nat.le_refl _,Nat.le_refl _,Nat.le_refl _⟩
 | j+1,z,hj,h=>by
  rw[ZgN (by omega)] at h
  cases hp:ZfK sig (t.take j) with
  | none=>rw[hp] at h;cases h
  | some z0 =>
   rw[hp] at h
   obtain⟨a1,a2,a3,a4⟩:=ZeB hs (j:=j) (by omega) hp
   obtain⟨b1,b2,b3,b4⟩:=ZyQ hs a1 h
   exact⟨b1,by omega,by omega,b4⟩
def Zhp(l v ini:List Int):Nat->List Int
 | 0=>ini
 | j+1=>(Zhp l v ini j).set (g0 l j).toNat (g0 v j)
theorem X1{l v ini:List Int}:∀{j:Nat},(Zhp l v ini j).length=ini.length
 | 0=>rfl
 | j+1=>by rw[Zhp,List.length_set,X1]
theorem Znn{l v ini:List Int}(hv:l.length<=v.length):∀{j:Nat},j<=l.length->∀ p∈Zhp l v ini j,p∈ini\/p∈v
 | 0,_,p,hp=>.inl hp
 | j+1,hj,p,hp=>by
  rw[Zhp] at hp
  rcases List.mem_or_eq_of_mem_set hp with q | q
  ·exact Znn hv (by omega) p q
  ·right
   have hjv:j<v.length:=by omega
   have:g0 v j=v[j]:=by simp [hjv]
   rw[q,this]
   exact List.getElem_mem hjv
theorem ZkS{l v a b:List Int}(hl:a.length=b.length):∀{j:Nat},j<=l.length->∀ i:Nat,i<a.length->(∃ k,k<j/\(g0 l k).toNat=i)->(Zhp l v a j)[i]? = (Zhp l v b j)[i]?
 | 0,_,i,_,h=>by obtain⟨k,hk,_⟩:=h;omega
 | j+1,hj,i,hi,h=>by
  have la:=X1 (l:=l) (v:=v) (ini:=a) (j:=j)
  have lb:=X1 (l:=l) (v:=v) (ini:=b) (j:=j)
  rw[Zhp,Zhp,List.getElem?_set,List.getElem?_set,la,lb,hl]
  by_cases e:(g0 l j).toNat=i
  ·rw[if_pos e,if_pos e]
  ·rw[if_neg e,if_neg e]
   obtain⟨k,hk,hke⟩:=h
   refine ZkS hl (by omega) i hi ⟨k,?_,hke⟩
   by_cases q:k=j
   ·subst q;exact absurd hke e
   ·omega
theorem Zsn{l v a b:List Int}{n:Nat}(ho:Q8 n l)(ha:a.length=n)(hb:b.length=n):Zhp l v a n=Zhp l v b n:=by
 refine List.ext_getElem? fun i=>?_
 by_cases hi:i<n
 ·refine ZkS (by omega) (by rw[ho.1];omega) i (by omega) ?_
  obtain⟨k,hk,e⟩:=List.getElem_of_mem (ho.2 i hi)
  refine⟨k,by rw[<-ho.1];exact hk,?_⟩
  have:g0 l k=l[k]:=by simp [hk]
  rw[this,e]
  omega
 ·rw[List.getElem?_eq_none (by rw[X1];omega),List.getElem?_eq_none (by rw[X1];omega)]
def Zno(x:Xi):TBigraph:=⟨x.1.roots,x.1.nodes,Zhp x.2 x.1.sites x.1.sites x.2.length,x.1.edges,x.1.outer,x.1.inner⟩
theorem ZqB{sig:List TControl}{x:Xi}(h:partOK sig x):bigOK sig (Zno x):=by
 have g:=h.big
 have hl:(Zno x).sites.length=x.1.sites.length:=X1
 refine⟨g.sg,g.roots,g.nodesL,by rw[hl];exact g.sitesL,g.edges,g.outer,g.inn,fun i hi=>⟨(g.nodes i hi).ctl,(g.nodes i hi).par,(g.nodes i hi).ports,(g.nodes i hi).links⟩,fun p hp=>?_,g.inner⟩
 rcases Znn (by rw[h.len];exact Nat.le_refl _) (Nat.le_refl _) p hp with q | q
 ·exact g.sites p q
 ·exact g.sites p q
open Classical in
noncomputable def ZeC(sig:List TControl)(t:List TTermStep):Option TBigraph :=
 if Vh sig/\t.length<=60 then
  match ZfK sig t with
  | some ([x],_)=>if Q8 x.2.length x.2 then some (Zno x) else none
  | _=>none
 else none
theorem ZfL{sig:List TControl}{t:List TTermStep}{b:TBigraph}(h:ZeC sig t=some b):bigOK sig b:=by
 unfold ZeC at h
 split at h
 ·rename_i hA
  split at h
  ·rename_i x m hr
   have:=(ZeB hA.1 (j:=t.length) (Nat.le_refl _) (by rw[List.take_length];exact hr)).1 x (by simp)
   split at h
   ·cases h;exact ZqB this
   ·cases h
  ·cases h
 ·cases h
end Go.Fd

/-
  ONE MORE NAME, BOTH SIDES. Own work.
-/
namespace Go.Fd
set_option maxRecDepth 20000
theorem Zjw{b:TBigraph}{s:ByteArray}:(adN b s).length<=b.outer.length+1:=Nat.le_trans ZbQ (by simp)
theorem Zso{sig:List TControl}{b:TBigraph}{s:ByteArray}(h:bigOK sig b){l:Int}(hl:ZQ b l):0<=ZdB b b.edges (adN b s) (fun x=>x) l/\ZdB b b.edges (adN b s) (fun x=>x) l<=100:=by
 have he:=h.edges
 have h4:=h.small.outer
 have ho:=Zjw (b:=b) (s:=s)
 rw[ZyH h hl]
 unfold ZmU
 rcases Yd hl with ⟨h0,h1⟩ | ⟨i,hi,rfl⟩
 ·rw[Zcr h0 h1];omega
 ·rw[Zcs he.1 hi]
  have x2:=Ze7 (l:=adN b s) (s:=b.outer[i])
  have x4:0<=ixS (adN b s) b.outer[i]:=ixS_nn.2 (setS_mem.2 (by simp))
  omega
theorem ZyR{sig:List TControl}{b:TBigraph}{s:ByteArray}(h:bigOK sig (ZjJ b s)):ZcC s:=by
 have hm:s∈(ZjJ b s).outer:=setS_mem.2 (by simp)
 obtain⟨i,hi,e⟩:=List.getElem_of_mem hm
 have:=(h.outer.1 i hi).1
 rwa [e] at this
theorem ZyS{sig:List TControl}{b:TBigraph}{s:ByteArray}(h:bigOK sig b)(hs:s.size<=4294967290):Zr 4294967290 (ZjJ b s) :=
 ZlK h (Q7 (by omega) (XX h)) (Nat.le_trans Zjw (by have:=h.outer.2;omega)) fun y hy=>by
  rcases List.mem_append.1 (setS_mem.1 hy) with hy | hy
  ·have:=Ys h.outer hy
   omega
  ·rw[List.mem_singleton.1 hy];exact hs
theorem ZqC{sig:List TControl}{b:TBigraph}{s:ByteArray}(h:bigOK sig b)(hs:s.size<=4294967296):Zr 4294967296 (ZjJ b s) :=
 Zr7 h (Nat.le_trans Zjw (by have:=h.outer.2;omega)) fun y hy=>by
  rcases List.mem_append.1 (setS_mem.1 hy) with hy | hy
  ·have:=Ys h.outer hy
   omega
  ·rw[List.mem_singleton.1 hy];exact hs
theorem ZqD{sig:List TControl}{b:TBigraph}{s:ByteArray}(h:bigOK sig b)(hf:ZB b):ZB (ZjJ b s) :=
 ZpG h hf (fun l hl=>Zso h hl) (by have:=h.edges;rw[Zd];omega)
theorem Zvm{sig:List TControl}{b:TBigraph}{s:ByteArray}(h:bigOK sig b):Dw b (Zq3 b b.outer (adN b s)) b.edges (adN b s)=ZjJ b s:=by
 refine ZhP h fun l hl=>?_
 have he:=h.edges
 rw[ZyH h hl]
 unfold ZmU
 rcases Yd hl with ⟨h0,h1⟩ | ⟨i,hi,rfl⟩
 ·rw[Zcr h0 h1,Zq3,if_neg (by omega)]
 ·rw[Zcs he.1 hi,Zq3,if_pos (by omega),show b.edges+(i:Int)-b.edges=i by omega,Int.toNat_natCast,show gS b.outer i=b.outer[i] from US hi]
theorem Zsp(e:Int×ByteArray)(lvl:Nat)(S:Sto):Sem Proofs.Tryz.prog W5 lvl [oE e] S (oE e) S:=by
 refine Zc ZlA (by simp [low,men,Zf]) ?_
 simp only[Zgh,EVA,seval]
noncomputable def Zzi(sig:List TControl)(b:TBigraph)(s:ByteArray):TBigraph:=@ite _ (Dt sig b s) (Classical.propDecidable _) (ZjJ b s) J7
theorem ZlX(sig:List TControl)(b:TBigraph)(s:ByteArray)(hn:sig.length<=4294967296)(hbs:∀ y∈sig,Zq 4294967296 y)(hb:Zr 4294967296 b)(hs:s.size<=4294967296)(hf:ZB b)(lvl:Nat)(S:Sto):Sem Proofs.Tryz.prog WM lvl [.tr (.sl (sig.map Zj)),.ag ((Zb b).map .tr),iS s] S (.tu [Zh (Zzi sig b s),iB (dc (Dt sig b s))]) S:=by
 refine Zc Zg5 (by simp [Zh,low,men,Zf]) ?_
 simp only[Zcf,Zb,EVA,seval,Zf,men]
 refine Za (Jz sig b hn hbs hb) ?_
 unfold Zzi
 cases h1:dc (bigOK sig b)
 ·have hno:¬ Dt sig b s:=fun g=>dc_not.1 h1 g.1
  rw[if_neg hno,Zg hno]
  simp only[EVA,seval]
  rfl
 have hG:=dc_iff.1 h1
 have hE:=hG.edges
 have h4:=hG.small.outer
 simp only[EVA,seval,Zf,men]
 refine Za (DM s (by omega)) ?_
 cases h3:dc (ZcC s)
 ·have hno:¬ Dt sig b s:=fun g=>dc_not.1 h3 (ZyR g.2.2)
  rw[if_neg hno,Zg hno]
  simp only[EVA,seval]
  rfl
 have hnm:=dc_iff.1 h3
 simp only[EVA,seval,Zf,men]
 refine Za (Zav b.outer s (by have:=hb.2.2.2.1;omega)) ?_
 cases h5:dc (s∈b.outer)
 ·have hM:=dc_not.1 h5
  simp only[EVA,seval,Zf,men]
  refine Za (ZbO b.outer (by omega)) ?_
  simp only[List.length_map,EVA,seval,Zf,men]
  have q:=U8 b b.edges (b.outer++[s]) W5 [] (fun x=>x) hE.1 (Q7 (by omega) (XX hG)) (by omega) (by omega) (by rw[List.length_append];simp only[List.length_cons,List.length_nil];omega) (fun x hx l hl=>by
   obtain⟨i,hi,rfl⟩:=List.getElem_of_mem hx
   exact(hG.nodes i hi).links l hl) hG.inner (fun l hl lvl S=>Zsp (ZfJ b l) lvl S)
  rw[show VG (b.outer++[s])=adN b s from rfl,show Dw b (ZdB b b.edges (adN b s) fun x=>x) b.edges (adN b s)=ZjJ b s from rfl] at q
  rw[show cut (rS b.outer++[[Tr.v (Value.string s)]]) 0 (b.outer.length+1)=rS (b.outer++[s]) from by
   rw[JA (by simp [rS])]
   simp [rS]]
  simp only[Zb,List.map_cons,List.map_nil] at q
  refine⟨by omega,by simp [rS],Za q ?_⟩
  simp only[Zh,EVA,seval,Zf,men]
  have qv:=ZdF sig (ZjJ b s) hn hbs (ZyS hG (by have:=hnm.2.2;omega)) (ZqD hG hf)
  simp only[Zb,List.map_cons,List.map_nil] at qv
  refine Za qv ?_
  cases h6:dc (bigOK sig (ZjJ b s))
  ·have hno:¬ Dt sig b s:=fun g=>dc_not.1 h6 g.2.2
   rw[if_neg hno,Zg hno,if_neg (dc_not.1 h6)]
   simp only[Zh,EVA,seval]
   rfl
  ·have hyes:Dt sig b s:=⟨hG,hM,dc_iff.1 h6⟩
   rw[if_pos hyes,Zy hyes,if_pos (dc_iff.1 h6)]
   simp only[Zh,List.length_map,EVA,seval]
 ·have hno:¬ Dt sig b s:=fun g=>g.2.1 (dc_iff.1 h5)
  rw[if_neg hno,Zg hno]
  simp only[EVA,seval]
  rfl
theorem Zfr(sig:List TControl)(b:TBigraph)(s:ByteArray)(hn:sig.length<=4294967296)(hbs:∀ y∈sig,Zq 4294967296 y)(hb:Zr 4294967296 b)(hs:s.size<=4294967296)(hf:ZB b)(lvl:Nat)(S:Sto):Sem Proofs.Tryz.prog WO lvl [.tr (.sl (sig.map Zj)),.ag ((Zb b).map .tr),iS s] S (.tu [@ite IV (Dt sig b s) (Classical.propDecidable _) (.ag ((Zb (ZjJ b s)).map .tr)) (Zh J7),iB (dc (Dt sig b s))]) S:=by
 refine Zc Zg9 (by split <;> simp [Zh,Zb,low,men,Zf]) ?_
 simp only[Zci,Zb,EVA,seval,Zf,men]
 have q:=We sig b hn hbs hb hf
 simp only[Zb,List.map_cons,List.map_nil] at q
 refine Za q ?_
 cases h1:dc (bigOK sig b)
 ·have hno:¬ Dt sig b s:=fun g=>dc_not.1 h1 g.1
  rw[if_neg hno,Zg hno]
  simp only[EVA,seval]
  rfl
 have hG:=dc_iff.1 h1
 have hE:=hG.edges
 have h4:=hG.small.outer
 simp only[EVA,seval,Zf,men]
 refine Za (Zas b.outer s (by omega)) ?_
 by_cases hM:s∈b.outer
 ·have hno:¬ Dt sig b s:=fun g=>g.2.1 hM
  rw[if_neg hno,Zg hno]
  have e:=ixS_nn.2 hM
  simp only[e,EVA,seval]
  rfl
 have e:=ZmQ hM
 have hol:=Zjw (b:=b) (s:=s)
 simp only[e,ZpB,ZpC,Nat.zero_max,List.length_map,EVA,seval,Zf,men]
 rw[show cut (rS b.outer++[[Tr.v (Value.string s)]]) 0 (b.outer.length+1)=rS (b.outer++[s]) from by
  rw[JA (by simp [rS])]
  simp [rS]]
 refine⟨by omega,by omega,by simp [rS],Za (U9 (b.outer++[s]) (by rw[List.length_append];simp only[List.length_cons,List.length_nil];omega)) ?_⟩
 rw[show VG (b.outer++[s])=adN b s from rfl]
 simp only[EVA,seval,Zf,men]
 have qR:=ZkC sig b hG b.outer (adN b s) rfl (by omega)
 rw[Zvm hG] at qR
 simp only[Zb,List.map_cons,List.map_nil] at qR
 refine Za qR ?_
 simp only[Zh,EVA,seval,Zf,men]
 by_cases hq:bigOK sig (ZjJ b s)
 ·have qG:=Ze8 sig (ZjJ b s) hn hbs (ZqC hG hs) (ZqD hG hf) hq
  simp only[Zb,List.map_cons,List.map_nil] at qG
  have hyes:Dt sig b s:=⟨hG,hM,hq⟩
  rw[if_pos hyes,Zy hyes]
  refine Za qG ?_
  simp only[EVA,seval]
 ·have qG:=Ze9 sig (ZjJ b s) hn hbs (ZqC hG hs) (ZqD hG hf) hq
  simp only[Zb,List.map_cons,List.map_nil] at qG
  have hno:¬ Dt sig b s:=fun g=>hq g.2.2
  rw[if_neg hno,Zg hno]
  refine Za qG ?_
  simp only[Zh,List.length_map,EVA,seval]
  try rfl
end Go.Fd

/-
  STEPS OF TERMS: WHICH ARE RIGHT, BOTH SIDES. Own work.
-/
namespace Go.Fd
set_option maxRecDepth 20000
theorem ZkT(s:ByteArray)(hs:s.size<=4294967296)(lvl:Nat)(S:Sto):Sem Proofs.Tryz.prog V4 lvl [iS s] S (iB (!dc (ZcC s))) S:=by
 refine Zc Zgd trivial ?_
 simp only[Zbc,EVA,seval,Zf,men]
 refine Za (DM s (by omega)) ?_
 simp only[EVA,seval,Zf,men]
theorem Zfc{fe:FuncId}(ns:List ByteArray)(hl:ns.length<=4294967296)(hf:∀ n∈ns,∀(lvl:Nat) (S:Sto),Sem Proofs.Tryz.prog fe lvl [iS n] S (iB (!dc (ZcC n))) S)(lvl:Nat)(S:Sto):Sem Proofs.Tryz.prog ZC lvl [.tr (.sl (rS ns)),.fn fe []] S (iB (!dc (∀ n∈ns,ZcC n))) S:=by
 have q:=ZfH (P:=Proofs.Tryz.prog) Ztn Zqk (t:=fun n:ByteArray=>ts n) (f:=fun s=>!dc (ZcC s)) (fe:=fe) (cs:=[]) ns (by omega) (fun x hx lvl S=>hf x hx lvl S)
 have e:(ns.any fun s=>!dc (ZcC s)) = !dc (∀ n∈ns,ZcC n):=by
  cases h:dc (∀ n∈ns,ZcC n)
  ·have h1:=dc_not.1 h
   have:∃ n∈ns,¬ ZcC n:=Classical.byContradiction fun g=>h1 fun x hx=>Classical.byContradiction fun k=>g ⟨x,hx,k⟩
   obtain⟨n,hn,hb⟩:=this
   simp only[Bool.not_false,List.any_eq_true]
   exact⟨n,hn,by rw[Zg hb];rfl⟩
  ·have h1:=dc_iff.1 h
   simp only[Bool.not_true,List.any_eq_false]
   intro n hn
   rw[Zy (h1 n hn)]
   decide
 rw[e] at q
 exact q lvl S
def plB(a b d:Bool)(c t:Int)(n:Nat):Bool:=(a || decide (c=0))&&(b || decide (t=0))&&(d || decide ((n:Int)=0))
set_option maxHeartbeats 2000000 in
theorem Zaw(k c t:Int)(ns:List ByteArray)(a b d:Bool)(lvl:Nat)(S:Sto):Sem Proofs.Tryz.prog ZO lvl [.ag [iI k,iI c,iI t,.tr (.sl (rS ns))],iB a,iB b,iB d] S (iB (plB a b d c t ns.length)) S:=by
 refine Zc Zak trivial ?_
 by_cases hc:c=0 <;> by_cases ht:t=0 <;> by_cases hn:(ns.length:Int)=0 <;> cases a <;> cases b <;> cases d <;> (simp only[XP,hc,ht,hn,List.length_map,EVA,seval,Zf,men]) <;> simp [plB,hc,ht,hn] <;> exact fun e=>hn (by simp [e])
def ZlY(k:Int):Int:=if k=0\/k=1\/k=2 then 0 else if k=3\/k=6\/k=7 then 1 else if k=4\/k=5 then 2 else -1
theorem ZkU(k c t:Int)(ns:List ByteArray)(lvl:Nat)(S:Sto):Sem Proofs.Tryz.prog Jt lvl [.ag [iI k,iI c,iI t,.tr (.sl (rS ns))]] S (iI (ZlY k)) S:=by
 refine Zc Za8 trivial ?_
 by_cases h0:k=0
 ·subst h0; (simp only[ZD,EVA,seval,Zf,men]) <;> rfl
 by_cases h1:k=1
 ·subst h1; (simp only[ZD,EVA,seval,Zf,men]) <;> rfl
 by_cases h2:k=2
 ·subst h2; (simp only[ZD,EVA,seval,Zf,men]) <;> rfl
 by_cases h3:k=3
 ·subst h3; (simp only[ZD,EVA,seval,Zf,men]) <;> rfl
 by_cases h4:k=4
 ·subst h4; (simp only[ZD,EVA,seval,Zf,men]) <;> rfl
 by_cases h5:k=5
 ·subst h5; (simp only[ZD,EVA,seval,Zf,men]) <;> rfl
 by_cases h6:k=6
 ·subst h6; (simp only[ZD,EVA,seval,Zf,men]) <;> rfl
 by_cases h7:k=7
 ·subst h7; (simp only[ZD,EVA,seval,Zf,men]) <;> rfl
 simp only[ZD,h0,h1,h2,h3,h4,h5,h6,h7,EVA,seval,Zf,men]
 simp [ZlY,h0,h1,h2,h3,h4,h5,h6,h7]
theorem Zsq{sig:List TControl}{s:TTermStep}(h:stepOK sig s):ZlY s.kind_=JB s.kind_:=by
 have hk:=h.kind
 unfold ZlY JB
 by_cases h0:s.kind_=0
 ·simp [h0]
 by_cases h1:s.kind_=1
 ·simp [h1]
 by_cases h2:s.kind_=2
 ·simp [h2]
 by_cases h3:s.kind_=3
 ·simp [h3]
 by_cases h4:s.kind_=4
 ·simp [h4]
 by_cases h5:s.kind_=5
 ·simp [h5]
 by_cases h6:s.kind_=6
 ·simp [h6]
 have h7:s.kind_=7:=by omega
 simp [h7]
theorem Zob(sig:List TControl)(s:TTermStep)(hn:sig.length<=4294967296)(hb:Zz 4294967296 s)(lvl:Nat)(S:Sto):Sem Proofs.Tryz.prog Uo lvl [.tr (.sl (sig.map Zj)),.ag ((Zi s).map .tr)] S (iB (dc (stepOK sig s))) S:=by
 obtain⟨k,c,t,ns⟩:=s
 obtain⟨b1,b2⟩:=hb
 simp only at b1 b2
 have q:=Zfc (fe:=V4) ns b1 fun n hn lvl S=>ZkT n (b2 n hn) lvl S
 refine Zc ZiM trivial ?_
 simp only[Zc7,Zi,EVA,seval,Zf,men]
 refine Za q ?_
 cases hA:dc (∀ n∈ns,ZcC n)
 ·rw[Zg fun g:stepOK sig ⟨k,c,t,ns⟩=>dc_not.1 hA g.nms]
  simp only[EVA,seval,Zf,men]
 have hnm:=dc_iff.1 hA
 by_cases h2:k=2
 ·subst h2
  simp only[EVA,seval,Zf,men]
  refine Za (Zaw 2 c t ns false true false) ?_
  cases hP:plB false true false c t ns.length
  ·have hno:¬ stepOK sig ⟨2,c,t,ns⟩:=fun g=>by
    have e1:c=0:=g.ctl0 (by simp)
    have e2:ns.length=0:=g.non (by simp) (by simp) (by simp)
    rw[show plB false true false c t ns.length=true by simp [plB,e1,e2]] at hP
    cases hP
   rw[Zg hno]
   simp only[EVA,seval,Zf,men]
  ·simp only[plB,Bool.and_eq_true,Bool.or_eq_true,decide_eq_true_eq,Bool.false_eq_true,false_or,true_or,and_true] at hP
   simp only[EVA,seval,Zf,men]
   refine Za (Y2 t 0 3) ?_
   cases hW:inB t 0 3
   ·rw[Zg fun g:stepOK sig ⟨2,c,t,ns⟩=>inB_not.1 hW (g.site rfl)]
    simp only[EVA,seval,Zf,men]
   ·have hyes:stepOK sig ⟨2,c,t,ns⟩:=⟨by simp,fun _=>hP.1,fun g=>absurd rfl g,hnm,fun _=>inB_iff.1 hW,fun g=>by simp at g,fun g=>by simp at g,fun g=>by simp at g,fun _ _ _=>by have:=hP.2;simp only;omega⟩
    rw[Zy hyes]
    simp only[EVA,seval,Zf,men]
 by_cases h3:k=3
 ·subst h3
  simp only[EVA,seval,Zf,men]
  refine Za (Zaw 3 c t ns true false true) ?_
  cases hP:plB true false true c t ns.length
  ·have hno:¬ stepOK sig ⟨3,c,t,ns⟩:=fun g=>by
    have e1:t=0:=g.site0 (by simp)
    rw[show plB true false true c t ns.length=true by simp [plB,e1]] at hP
    cases hP
   rw[Zg hno]
   simp only[EVA,seval,Zf,men]
  ·simp only[plB,Bool.and_eq_true,Bool.or_eq_true,decide_eq_true_eq,Bool.false_eq_true,false_or,true_or,and_true,true_and] at hP
   simp only[List.length_map,EVA,seval,Zf,men]
   refine⟨by rw[Zd];omega,Za (Y2 c 0 ((sig.length:Int)-1)) ?_⟩
   cases hW:inB c 0 ((sig.length:Int)-1)
   ·rw[Zg fun g:stepOK sig ⟨3,c,t,ns⟩=>inB_not.1 hW (g.ctl rfl)]
    simp only[EVA,seval,Zf,men]
   ·have hw:=inB_iff.1 hW
    obtain⟨m,hm⟩:∃ m:Nat,c=m:=⟨c.toNat,by omega⟩
    have hms:m<sig.length:=by omega
    have gs:=Xh (c:=Zj) hms
    have e:Vi sig c=sig[m].ports:=by simp [Vi,hm,hms]
    simp only[hm,gs,Zj,List.length_map,EVA,seval,Zf,men]
    by_cases hp:(ns.length:Int)=sig[m].ports
    ·have hyes:stepOK sig ⟨3,c,t,ns⟩:=⟨by simp,fun g=>absurd rfl g,fun _=>hP,hnm,fun g=>by simp at g,fun _=>hw,fun _=>by rw[e];exact hp,fun g=>by simp at g,fun g=>absurd rfl g⟩
     rw[<-hm,Zy hyes]
     simp [hp]
    ·have hno:¬ stepOK sig ⟨3,c,t,ns⟩:=fun g=>hp (by rw[<-e];exact g.ports rfl)
     rw[<-hm,Zg hno]
     simp [hp]
 by_cases h67:k=6\/k=7
 ·have key:Sem Proofs.Tryz.prog ZO lvl [] S (iB true) S->True:=fun _=>trivial
  have hl:plB false false true c t ns.length=true↔c=0/\t=0:=by simp [plB]
  rcases h67 with rfl | rfl
  all_goals
   simp only[EVA,seval,Zf,men]
   refine Za (Zaw _ c t ns false false true) ?_
   cases hP:plB false false true c t ns.length
   ·rw[Zg fun g:stepOK sig ⟨_,c,t,ns⟩=>by
     rw[hl.2 ⟨g.ctl0 (by simp),g.site0 (by simp)⟩] at hP
     cases hP]
    simp only[EVA,seval,Zf,men]
   ·have hP:=hl.1 hP
    simp only[List.length_map,EVA,seval,Zf,men]
    by_cases hp:(ns.length:Int)=1
    ·rw[Zy (show stepOK sig ⟨_,c,t,ns⟩ from ⟨by simp,fun _=>hP.1,fun _=>hP.2,hnm,fun g=>by simp at g,fun g=>by simp at g,fun g=>by simp at g,fun _=>by simp only;omega,fun g1 g2 g3=>by simp at g2 g3⟩)]
     simp [hp]
    ·rw[Zg fun g:stepOK sig ⟨_,c,t,ns⟩=>hp (by have:=g.one (by simp);simp only at this;omega)]
     simp [hp]
 have h6:¬ k=6:=fun e=>h67 (.inl e)
 have h7:¬ k=7:=fun e=>h67 (.inr e)
 simp only[h2,h3,h6,h7,EVA,seval,Zf,men]
 refine Za (ZkU k c t ns) ?_
 have hl:plB false false false c t ns.length=true↔c=0/\t=0/\ns.length=0:=by
  simp [plB]
  constructor
  ·rintro⟨⟨a,b⟩,d⟩;exact⟨a,b,by omega⟩
  ·rintro⟨a,b,d⟩;exact⟨⟨a,b⟩,by omega⟩
 by_cases hk:k=0\/k=1\/k=4\/k=5
 ·have hnd:(0:Int)<=ZlY k:=by rcases hk with rfl | rfl | rfl | rfl <;> decide
  simp only[hnd,EVA,seval,Zf,men]
  refine Za (Zaw k c t ns false false false) ?_
  cases hP:plB false false false c t ns.length
  ·rw[Zg fun g:stepOK sig ⟨k,c,t,ns⟩=>by
    rw[hl.2 ⟨g.ctl0 h3,g.site0 h2,g.non h3 h6 h7⟩] at hP
    cases hP]
   simp only[EVA,seval,Zf,men]
  ·have hP:=hl.1 hP
   rw[Zy (show stepOK sig ⟨k,c,t,ns⟩ from ⟨by simp only;omega,fun _=>hP.1,fun _=>hP.2.1,hnm,fun g=>absurd g h2,fun g=>absurd g h3,fun g=>absurd g h3,fun g=>g.elim (fun e=>absurd e h6) (fun e=>absurd e h7),fun _ _ _=>hP.2.2⟩)]
   simp only[EVA,seval,Zf,men]
 ·have hnd:¬ (0:Int)<=ZlY k:=by
   unfold ZlY
   rw[if_neg (by omega),if_neg (by omega),if_neg (by omega)]
   decide
  rw[Zg fun g:stepOK sig ⟨k,c,t,ns⟩=>by have:=g.kind;simp only at this;omega]
  simp only[hnd,EVA,seval,Zf,men]
theorem ZlZ(l:List ByteArray)(hl:l.length<=4294967296)(hb:∀ y∈l,y.size<=4294967296)(lvl:Nat)(S:Sto):Sem Proofs.Tryz.prog QK lvl [.tr (.sl (rS l))] S (iB (dc (∀ n∈l,ZcC n))) S:=by
 refine Zc Zg4 trivial ?_
 simp only[Zce,List.length_map,EVA,seval,Zf,men]
 refine Zv (α:=Unit) l.length (fun j _=>[(3,iI j)]) (fun _ _=>[]) (fun j _=>∀ n∈l.take j,ZcC n) () (by simp only[EVA,seval,Zf,men]) (by (simp only[EVA,seval,Zf,men]) <;> rfl) (by simp) ?_
 intro j _ hj hA
 simp only[List.length_map,EVA,seval,Zf,men]
 refine Zk (fun hlt=>?_) (fun hge=>?_)
 ·have hja:j<l.length:=by omega
  have ga:=ZfI (e0:=e0S) (c:=fun n:ByteArray=>[ts n]) hja
  rw[US hja] at ga
  simp only[ga,hja,List.length_map,EVA,seval,Zf,men]
  refine Za (Zem l[j] (by have:=hb _ (List.getElem_mem hja);omega)) ?_
  cases hm:dc (ZcC l[j])
  ·rw[Zg fun g:∀ n∈l,ZcC n=>dc_not.1 hm (g _ (List.getElem_mem hja))]
   simp only[EVA,seval,Zf,men]
  ·have hm:=dc_iff.1 hm
   simp only[EVA,seval,Zf,men]
   exact⟨by rw[Zd];omega,Ze () hja rfl (by
    intro x hx
    rw[List.take_succ_eq_append_getElem hja] at hx
    rcases List.mem_append.1 hx with hx | hx
    ·exact hA x hx
    ·rw[List.mem_singleton.1 hx];exact hm)⟩
 ·have:j=l.length:=by omega
  subst this
  rw[List.take_length] at hA
  rw[Zy hA]
theorem Zl0(k:Int)(lvl:Nat)(S:Sto):Sem Proofs.Tryz.prog Vm lvl [iI k] S (iI (JB k:Nat)) S:=by
 refine Zc ZgY trivial ?_
 by_cases h4:k=4
 ·subst h4; (simp only[YL,EVA,seval,Zf,men]) <;> rfl
 by_cases h5:k=5
 ·subst h5; (simp only[YL,EVA,seval,Zf,men]) <;> rfl
 by_cases h3:k=3
 ·subst h3; (simp only[YL,EVA,seval,Zf,men]) <;> rfl
 by_cases h6:k=6
 ·subst h6; (simp only[YL,EVA,seval,Zf,men]) <;> rfl
 by_cases h7:k=7
 ·subst h7; (simp only[YL,EVA,seval,Zf,men]) <;> rfl
 simp only[YL,h3,h4,h5,h6,h7,EVA,seval,Zf,men]
 simp [JB,h3,h4,h5,h6,h7]
end Go.Fd

/-
  A NODE AROUND A BIGRAPH, THE PROGRAM'S SIDE. Own work.
-/
namespace Go.Fd
set_option maxRecDepth 20000
theorem Zh2{n:Int}(h:-4294967296<=n/\n<=4294967296):X3 .i64 n:=by rw[Zd];omega
theorem WE{sig:List TControl}{b:TBigraph}(h:bigOK sig b):ZB b:=by
 have hr:=h.roots;have he:=h.edges;have hn:=h.nodesL;have ho:=h.outer.2;have hs:=h.sg.2.2
 have hl:∀ l,ZQ b l->X3 .i64 l:=fun l hl=>by
  unfold ZQ at hl
  exact Zh2 (by omega)
 refine⟨Zh2 (by omega),fun x hx=>?_,fun p hp=>?_,Zh2 (by omega),fun w hw=>hl _ (h.inner w hw)⟩
 ·obtain⟨i,hi,rfl⟩:=List.getElem_of_mem hx
  have q:=h.nodes i hi
  have q1:=q.ctl
  have q2:=Jq hr.1 q.par
  have q3:=(Dr h hx).1
  exact⟨Zh2 (by omega),Zh2 (by omega),fun l hl2=>hl l (q.links l hl2)⟩
 ·have q2:=Jq hr.1 (h.sites p hp)
  have q3:=Wr h hp
  exact Zh2 (by omega)
theorem DQ{sig:List TControl}{b:TBigraph}(h:bigOK sig b):Zr 4294967296 b:=Q7 (by omega) (XX h)
theorem ZkV(s:ByteArray)(hs:s.size<=4294967296)(lvl:Nat)(S:Sto):Sem Proofs.Tryz.prog V7 lvl [iS s] S (iB (!dc (ZcC s))) S:=by
 refine Zc Zgm trivial ?_
 simp only[Zbm,EVA,↓reduceIte,Nat.reduceEqDiff,reduceCtorEq,Nat.reduceLeDiff,Nat.reduceLT,Zf,men]
 refine Za (DM s (by omega)) ?_
 simp only[EVA,↓reduceIte,Nat.reduceEqDiff,Nat.reduceMul,reduceCtorEq,Nat.reduceLT]
theorem Zh3(sig:List TControl)(s:TTermStep)(hn:sig.length<=4294967296)(hbs:∀ y∈sig,Zq 4294967296 y)(hb:Zz 4294967296 s)(hs:Vh sig)(h:stepOK sig s)(h3:s.kind_=3)(lvl:Nat)(S:Sto):Sem Proofs.Tryz.prog XL lvl [.tr (.sl (sig.map Zj)),iI s.control,.tr (.sl (rS s.names))] S (.tu [Zh (ZdQ s),iB true]) S:=by
 obtain⟨k,c,t,ns⟩:=s
 obtain⟨b1,b2⟩:=hb
 simp only at b1 b2 h3
 have hw:=h.ctl h3
 have hp:=h.ports h3
 have hnm:=h.nms
 simp only at hw hp hnm
 have hpl:=Zju hs (c:=c)
 obtain⟨m,hm⟩:∃ m:Nat,c=m:=⟨c.toNat,by omega⟩
 have hms:m<sig.length:=by omega
 have gs:=Xh (c:=Zj) hms
 have e:Vi sig c=sig[m].ports:=by simp [Vi,hm,hms]
 have hpp:(ns.length:Int)=sig[m].ports:=by rw[<-e];exact hp
 have q:=Zfc (fe:=V7) ns b1 fun n hn lvl S=>ZkV n (b2 n hn) lvl S
 rw[Zy hnm] at q
 refine Zc Zi1 (by simp [Zh,low,men,Zf]) ?_
 simp only[Zdr,EVA,↓reduceIte,Nat.reduceEqDiff,Nat.reduceMul,reduceCtorEq,Nat.reduceAdd,Nat.reduceLeDiff,Nat.reduceLT,Zf,men]
 refine Za (Qm sig (by omega) fun y hy=>Nat.le_trans (hbs y hy) (by omega)) ?_
 rw[Zy hs]
 simp only[List.length_map,EVA,↓reduceIte,Nat.reduceEqDiff,Nat.reduceMul,reduceCtorEq,Nat.reduceLT,Zf,men]
 refine⟨by rw[Zd];omega,Za (Y2 c 0 ((sig.length:Int)-1)) ?_⟩
 rw[inB_iff.2 hw]
 simp only[hm,gs,hpp,Zj,List.length_map,EVA,↓reduceIte,Nat.reduceEqDiff,Nat.reduceMul,reduceCtorEq,Nat.reduceAdd,Nat.reduceLT,Zf,men]
 refine Za q ?_
 simp only[EVA,↓reduceIte,Nat.reduceEqDiff,Nat.reduceMul,reduceCtorEq,Nat.reduceLT,Zf,men]
 refine Za (Zbv ns (by omega)) ?_
 simp only[List.length_map,EVA,↓reduceIte,Nat.reduceEqDiff,Nat.reduceMul,reduceCtorEq,Nat.reduceAdd,Nat.reduceLeDiff,Nat.reduceLT]
 obtain⟨o,ho⟩:∃ o,o=VG ns:=⟨_,rfl⟩
 rw[<-ho]
 obtain⟨L,hL⟩:∃ L,L=ns.map fun n=>ixS o n:=⟨_,rfl⟩
 have lL:L.length=ns.length:=by rw[hL,List.length_map]
 have hol:o.length<=ns.length:=by rw[ho];exact ZbQ
 refine Zv (α:=Unit) ns.length (fun j _=>[(45,iI j)]) (fun j _=>[(288,.bx [iI m,iI (-1),.hd (lvl,1344) [] 0 j none j]),(1344,.ar 1 (rI (L.take j)) true j 0)]) (fun _ _=>True) () (by simp only[EVA,↓reduceIte,Nat.reduceEqDiff,reduceCtorEq]) (by (simp only[EVA,↓reduceIte,Nat.reduceEqDiff,reduceCtorEq,Nat.reduceLT]) <;> rfl) trivial ?_
 intro j _ hj _
 simp only[List.length_map,EVA,↓reduceIte,Nat.reduceEqDiff,Nat.reduceMul,reduceCtorEq,Nat.reduceAdd,Nat.reduceLeDiff,Nat.reduceLT]
 refine Zk (fun hlt=>?_) (fun hge=>?_)
 ·have hja:j<ns.length:=by omega
  have ga:=ZfI (e0:=e0S) (c:=fun n:ByteArray=>[ts n]) hja
  rw[US hja] at ga
  have hl2:(L.take j).length=j:=by rw[List.length_take];omega
  have hco:cut (rS o) 0 o.length=rS o:=JA (by rw[List.length_map])
  have hsu:rI (L.take j)++[[tv (ixS o ns[j])]]=rI (L.take (j+1)):=by
   rw[List.take_succ_eq_append_getElem (by omega),Y7]
   simp [hL]
  simp only[ga,hco,List.length_map,EVA,↓reduceIte,Nat.reduceEqDiff,Nat.reduceLT,Zf,men]
  refine Za (ZhR o ns[j] (by omega)) ?_
  simp only[hl2,hsu,List.length_map,EVA,↓reduceIte,Nat.reduceEqDiff,Nat.reduceMul,Nat.reduceAdd,Nat.reduceLeDiff,Nat.reduceLT]
  exact⟨by omega,by rw[Zd];omega,Ze () hja rfl trivial⟩
 ·have:j=ns.length:=by omega
  subst this
  rw[<-lL,List.take_length]
  simp only[EVA]
  simp only[Zh,ZdQ,<-ho,<-hL]
  try rfl
theorem ZqE(sig:List TControl)(s:TTermStep)(hn:sig.length<=4294967296)(hbs:∀ y∈sig,Zq 4294967296 y)(hb:Zz 4294967296 s)(hs:Vh sig)(h:stepOK sig s)(h3:s.kind_=3)(hk:¬ QF sig s.control=2)(lvl:Nat)(S:Sto):Sem Proofs.Tryz.prog Di lvl [.tr (.sl (sig.map Zj)),iI s.control,.tr (.sl (rS s.names))] S (.tu [Zh (Zfq s),iB true]) S:=by
 have hw:=h.ctl h3
 obtain⟨m,hm⟩:∃ m:Nat,s.control=m:=⟨s.control.toNat,by omega⟩
 have hms:m<sig.length:=by omega
 have gs:=Xh (c:=Zj) hms
 have e:QF sig s.control=sig[m].kind_:=by simp [QF,hm,hms]
 rw[e] at hk
 have q:=Zh3 sig s hn hbs hb hs h h3
 refine Zc Zki (by simp [Zh,low,men,Zf]) ?_
 simp only[Ze1,EVA,↓reduceIte,Nat.reduceEqDiff,Nat.reduceMul,reduceCtorEq,Nat.reduceAdd,Nat.reduceLeDiff,Nat.reduceLT,Zf,men]
 refine Za q ?_
 simp only[Zh,ZdQ,hm,gs,hk,Zj,List.length_map,EVA,↓reduceIte,Nat.reduceEqDiff,Nat.reduceMul,reduceCtorEq,Nat.reduceAdd,Nat.reduceLeDiff,Nat.reduceLT]
 simp only[Zfq,hm]
 try rfl
theorem Zoc(sig:List TControl)(s:TTermStep)(hn:sig.length<=4294967296)(hbs:∀ y∈sig,Zq 4294967296 y)(hb:Zz 4294967296 s)(hs:Vh sig)(h:stepOK sig s)(h3:s.kind_=3)(lvl:Nat)(S:Sto):Sem Proofs.Tryz.prog Uz lvl [.tr (.sl (sig.map Zj)),iI s.control,.tr (.sl (rS s.names))] S (.tu [Zh (ZdQ s),iB true]) S:=by
 have q:=Zh3 sig s hn hbs hb hs h h3
 refine Zc ZiZ (by simp [Zh,low,men,Zf]) ?_
 simp only[Zdo,EVA,↓reduceIte,Nat.reduceEqDiff,Nat.reduceMul,reduceCtorEq,Nat.reduceAdd,Nat.reduceLeDiff,Nat.reduceLT,Zf,men]
 refine Za q ?_
 simp only[Zh,List.length_map,EVA,↓reduceIte,Nat.reduceEqDiff,Nat.reduceMul,reduceCtorEq,Nat.reduceAdd,Nat.reduceLT]
noncomputable def Zsr(sig:List TControl)(s:TTermStep)(x:TBigraph):TBigraph:=@ite _ (X8 sig s x) (Classical.propDecidable _) (DP (Zfq s) x) J7
theorem Zod(sig:List TControl)(s:TTermStep)(x:TBigraph)(hn:sig.length<=4294967296)(hbs:∀ y∈sig,Zq 4294967296 y)(hb:Zz 4294967296 s)(h:stepOK sig s)(h3:s.kind_=3)(hx:bigOK sig x)(hi:x.inner=[])(lvl:Nat)(S:Sto):Sem Proofs.Tryz.prog Uu lvl [.tr (.sl (sig.map Zj)),.ag ((Zi s).map .tr),.ag ((Zb x).map .tr)] S (.tu [Zh (Zsr sig s x),iB (dc (X8 sig s x))]) S:=by
 have hs:=hx.sg
 have hw:=h.ctl h3
 obtain⟨m,hm⟩:∃ m:Nat,s.control=m:=⟨s.control.toNat,by omega⟩
 have hms:m<sig.length:=by omega
 have gs:=Xh (c:=Zj) hms
 have e:QF sig s.control=sig[m].kind_:=by simp [QF,hm,hms]
 have x1:=hx.small.nodes;have x2:=hx.small.sites
 refine Zc ZiT (by simp [Zh,low,men,Zf]) ?_
 simp only[Zdf,Zi,Zb,EVA,↓reduceIte,Nat.reduceEqDiff,Nat.reduceMul,reduceCtorEq,Nat.reduceAdd,Nat.reduceLeDiff,Nat.reduceLT]
 unfold Zsr
 by_cases hr:x.roots=1
 ·by_cases hk:sig[m].kind_=2
  ·by_cases hz:(x.nodes.length:Int)+x.sites.length=0
   ·have z1:x.nodes=[]:=List.length_eq_zero_iff.1 (by omega)
    have z2:x.sites=[]:=List.length_eq_zero_iff.1 (by omega)
    have hA:=Zvi hs h h3
    have e1:=Zvl (s:=s) hr z1 z2 hi
    have e2:=Zqo (ZeA hA hx) (sig:=sig)
    have hpr:(Zd1 (ZdQ s) x).roots<=4:=by show (1:Int)+x.roots<=4;omega
    have hpa:UQ sig (ZdQ s) x↔X8 sig s x:=by
     constructor
     ·rintro⟨_,_,_,g⟩
      exact⟨hr,fun _=>⟨z1,z2⟩,by rw[<-e1];exact(e2.2 g).1⟩
     ·rintro⟨_,_,g⟩
      rw[<-e1] at g
      exact⟨hA,hx,fun n hn=>by simp [inn,ZdQ] at hn,e2.1 ⟨g,hpr⟩⟩
    have qa:=Zoc sig s hn hbs hb hs h h3
    simp only[hm] at qa
    simp only[hr,hk,hm,gs,z1,z2,Zj,EVA,↓reduceIte,Nat.reduceEqDiff,Nat.reduceMul,reduceCtorEq,Nat.reduceAdd,Nat.reduceLT,Zf,men]
    refine⟨by rw[Zd];omega,?_⟩
    rw[if_neg (by decide)]
    refine Za qa ?_
    simp only[Zh,List.length_map,EVA,↓reduceIte,Nat.reduceEqDiff,Nat.reduceMul,reduceCtorEq,Nat.reduceAdd,Nat.reduceLT,Zf,men]
    have qm:=WD sig (ZdQ s) x hn hbs (DQ hA) (DQ hx) (WE hA) (WE hx)
    unfold VY VZ at qm
    rw[J3 hpa] at qm
    simp only[Zb,hr,z1,z2,List.map_cons,List.map_nil] at qm
    simp only[Js]
    refine Za qm ?_
    by_cases g:X8 sig s x
    ·rw[if_pos g,if_pos (hpa.2 g),e1]
     simp only[Zh,List.length_map,EVA,↓reduceIte,Nat.reduceEqDiff,Nat.reduceMul,reduceCtorEq,Nat.reduceAdd,Nat.reduceLT]
    ·rw[if_neg g,if_neg (fun k=>g (hpa.1 k))]
     simp only[Zh,List.length_map,EVA,↓reduceIte,Nat.reduceEqDiff,Nat.reduceMul,reduceCtorEq,Nat.reduceAdd,Nat.reduceLT]
     try rfl
   ·have hno:¬ X8 sig s x:=fun g=>by
     obtain⟨z1,z2⟩:=g.2.1 (e.trans hk)
     rw[z1,z2] at hz
     simp at hz
    have hz2:(0:Int)<(x.nodes.length:Int)+x.sites.length:=by omega
    rw[if_neg hno,Zg hno]
    simp only[hr,hk,hm,gs,hz2,Zj,List.length_map,EVA,↓reduceIte,Nat.reduceEqDiff,Nat.reduceMul,reduceCtorEq,Nat.reduceAdd,Nat.reduceLT]
    refine⟨by rw[Zd];omega,?_⟩
    rfl
  ·have hk2:¬ QF sig s.control=2:=by rw[e];exact hk
   have hT:=Zqy hs h h3 hk2
   have hne:ZdO sig (Zfq s) x↔X8 sig s x:=by
    constructor
    ·rintro⟨_,g⟩
     exact⟨hr,fun k=>absurd k hk2,g⟩
    ·rintro⟨_,_,g⟩
     exact⟨⟨hT,hx,rfl,by rw[hr];rfl⟩,g⟩
   have qa:=ZqE sig s hn hbs hb hs h h3 hk2
   simp only[hm] at qa
   simp only[hr,hk,hm,gs,Zj,EVA,↓reduceIte,Nat.reduceEqDiff,reduceCtorEq,Nat.reduceAdd,Nat.reduceLT,Zf,men]
   refine Za qa ?_
   simp only[Zh,List.length_map,EVA,↓reduceIte,Nat.reduceEqDiff,Nat.reduceMul,reduceCtorEq,Nat.reduceAdd,Nat.reduceLT,Zf,men]
   have qm:=Zbz sig (Zfq s) x hn hbs (DQ hT) (DQ hx) (WE hT) (WE hx)
   unfold UO UP at qm
   rw[J3 hne] at qm
   simp only[Zb,hr,List.map_cons,List.map_nil] at qm
   simp only[Js]
   refine Za qm ?_
   by_cases g:X8 sig s x
   ·rw[if_pos g,if_pos (hne.2 g)]
    simp only[Zh,List.length_map,EVA,↓reduceIte,Nat.reduceEqDiff,Nat.reduceMul,reduceCtorEq,Nat.reduceAdd,Nat.reduceLT]
   ·rw[if_neg g,if_neg (fun k=>g (hne.1 k))]
    simp only[Zh,List.length_map,EVA,↓reduceIte,Nat.reduceEqDiff,Nat.reduceMul,reduceCtorEq,Nat.reduceAdd,Nat.reduceLT]
    try rfl
 ·have hno:¬ X8 sig s x:=fun g=>hr g.1
  rw[if_neg hno,Zg hno]
  simp only[hr,EVA,↓reduceIte]
  rfl
end Go.Fd

/-
  WHAT STEPS MAKE, THE PROGRAM'S SIDE: made, stacked. Own work.
-/
namespace Go.Fd
set_option maxRecDepth 20000
def ptC(x:Xi):List Tr:=Zb x.1++[Tr.sl (rI x.2)]
theorem Zss(s:TTermStep)(lvl:Nat)(S:Sto):Sem Proofs.Tryz.prog Zaf lvl [.ag ((Zi s).map .tr)] S (.ag ((ptC (if s.kind_=1 then (Zq4,[]) else if s.kind_=2 then (Zq5,[s.site]) else (J7,[]))).map .tr)) S:=by
 obtain⟨k,c,t,ns⟩:=s
 refine Zc Zlz (by simp [low,men,Zf,ptC,Zb]) ?_
 by_cases h1:k=1
 ·subst h1
  simp only[Zal,Zi,EVA,seval]
  rfl
 ·by_cases h2:k=2
  ·subst h2
   simp only[Zal,Zi,EVA,seval]
   rfl
  ·rw[if_neg h1,if_neg h2]
   simp only[Zal,Zi,h1,h2,EVA,seval]
   rfl
noncomputable def Zl1(sig:List TControl)(s:TTermStep)(xs:List Xi):TBigraph:=((mkR sig s xs).map Prod.fst).getD J7
def Z7(xs:List Xi):List Int:=(xs.map Prod.snd).flatten
theorem ZqF{sig:List TControl}{s:TTermStep}{xs:List Xi}(h2:¬ s.kind_=2){y:Xi}(h:mkR sig s xs=some y)(hl:xs.length=JB s.kind_):y.2=Z7 xs:=by
 unfold mkR at h
 split at h
 ·rename_i h0
  rw[h0] at hl
  have:xs=[]:=List.length_eq_zero_iff.1 hl
  subst this
  cases h;rfl
 split at h
 ·rename_i h0
  rw[h0] at hl
  have:xs=[]:=List.length_eq_zero_iff.1 hl
  subst this
  cases h;rfl
 split at h
 ·split at h
  ·split at h
   ·cases h;simp [Z7]
   ·cases h
  split at h
  ·split at h
   ·cases h;simp [Z7]
   ·cases h
  ·split at h
   ·cases h;simp [Z7]
   ·cases h
 ·split at h
  ·cases h;simp [Z7]
  ·cases h
 ·cases h
theorem Wh{xs:List Xi}{j:Nat}(h:j<xs.length):Z7 (xs.take (j+1))=Z7 (xs.take j)++(xs[j]).2:=by
 unfold Z7
 rw[List.take_succ_eq_append_getElem h,List.map_append,List.flatten_append]
 simp
theorem DR{sig:List TControl}{xs:List Xi}(hx:∀ x∈xs,partOK sig x):∀{j:Nat},j<=xs.length->(Z7 (xs.take j)).length<=4*j
 | 0,_=>by simp [Z7]
 | j+1,hj=>by
  have hp:=hx _ (List.getElem_mem (show j<xs.length by omega))
  have h1:=hp.len
  have h2:=hp.big.sitesL
  rw[Wh (by omega),List.length_append]
  have:=DR hx (j:=j) (by omega)
  omega
theorem Ztq{xs:List Xi}(h:xs.length=2):∃ x y,xs=[x,y] :=
 match xs,h with
 | [x,y],_=>⟨x,y,rfl⟩
theorem ZkW{xs:List Xi}(h:xs.length=1):∃ x,xs=[x] :=
 match xs,h with
 | [x],_=>⟨x,rfl⟩
theorem Zl2{xs:List ByteArray}(h:xs.length=1):∃ x,xs=[x] :=
 match xs,h with
 | [x],_=>⟨x,rfl⟩
noncomputable def Zoe(sig:List TControl)(s:TTermStep)(xs:List Xi):Xi:=(mkR sig s xs).getD (J7,Z7 xs)
theorem gS0{n:ByteArray}{l:List ByteArray}(h:l=[n]):gS l 0=n:=by subst h;rfl
theorem Znp{sig:List TControl}{s:TTermStep}{xs:List Xi}(h:s.kind_=0\/s.kind_=1\/s.kind_=2):mkR sig s xs=some (if s.kind_=1 then (Zq4,[]) else if s.kind_=2 then (Zq5,[s.site]) else (J7,[])):=by
 unfold mkR
 rcases h with h | h | h <;> simp [h]
open Classical in
theorem Du{sig:List TControl}{s:TTermStep}{x:Xi}(h:s.kind_=3\/s.kind_=6\/s.kind_=7):mkR sig s [x]=if s.kind_=3 then (if X8 sig s x.1 then some (DP (Zfq s) x.1,x.2) else none) else if s.kind_=6 then (if Q6 sig x.1 (gS s.names 0) then some (XW x.1 (gS s.names 0),x.2) else none) else (if Dt sig x.1 (gS s.names 0) then some (ZjJ x.1 (gS s.names 0),x.2) else none):=by
 unfold mkR
 rw[if_neg (by omega),if_neg (by omega),if_neg (by omega)]
open Classical in
theorem ZeD{sig:List TControl}{s:TTermStep}{x y:Xi}(h:s.kind_=4\/s.kind_=5):mkR sig s [x,y]=if UQ sig x.1 y.1 then some (if s.kind_=4 then Zh1 x.1 y.1 else Zd1 x.1 y.1,x.2++y.2) else none:=by
 unfold mkR
 rw[if_neg (by omega),if_neg (by omega),if_neg (by omega)]
theorem Zst(sig:List TControl)(s:TTermStep)(xs:List Xi)(hn:sig.length<=4294967296)(hbs:∀ y∈sig,Zq 4294967296 y)(hb:Zz 4294967296 s)(h:stepOK sig s)(hl:xs.length=JB s.kind_)(hx:∀ x∈xs,partOK sig x)(lvl:Nat)(S:Sto):Sem Proofs.Tryz.prog Zae lvl [.tr (.sl (sig.map Zj)),.ag ((Zi s).map .tr),.tr (.sl (xs.map ptC))] S (.tu [.ag ((ptC (Zoe sig s xs)).map .tr),iB (mkR sig s xs).isSome]) S:=by
 obtain⟨k,c,t,ns⟩:=s
 have hkind:=h.kind
 simp only at hkind hl
 refine Zc Zly (by simp [low,men,Zf,ptC,Zb]) ?_
 by_cases h012:k=0\/k=1\/k=2
 ·have q:=Zss ⟨k,c,t,ns⟩
  have e:=Znp (sig:=sig) (s:=⟨k,c,t,ns⟩) (xs:=xs) h012
  have h3:¬ k=3:=by omega
  have h4:¬ k=4:=by omega
  have h5:¬ k=5:=by omega
  have h6:¬ k=6:=by omega
  have h7:¬ k=7:=by omega
  unfold Zoe
  rw[e]
  simp only[Q3,Zi,h3,h4,h5,h6,h7,EVA,seval,Zf,men]
  refine Za q ?_
  obtain⟨Q,hQ⟩:∃ Q:Xi,Q=(if k=1 then (Zq4,[]) else if k=2 then (Zq5,[t]) else (J7,[])):=⟨_,rfl⟩
  simp only[<-hQ,ptC,Zb]
  simp only[EVA,seval]
  try rfl
 ·
  have hso:=fun y=>ZqF (sig:=sig) (s:=⟨k,c,t,ns⟩) (xs:=xs) (y:=y) (by simp only;omega)
  obtain⟨V,hV⟩:∃ V,V=Zl1 sig ⟨k,c,t,ns⟩ xs:=⟨_,rfl⟩
  obtain⟨ok,hok⟩:∃ ok,ok=(mkR sig ⟨k,c,t,ns⟩ xs).isSome:=⟨_,rfl⟩
  have hP:Zoe sig ⟨k,c,t,ns⟩ xs=(V,Z7 xs):=by
   rw[hV]
   unfold Zoe Zl1
   cases hm:mkR sig ⟨k,c,t,ns⟩ xs with
   | none=>rfl
   | some y =>
    have:=hso y hm hl
    simp only[Option.map_some,Option.getD_some]
    rw[<-this]
  rw[hP,<-hok]
  have hcase:(k=3/\∃ x,xs=[x])\/(k=4/\∃ x y,xs=[x,y])\/(k=5/\∃ x y,xs=[x,y])\/(k=6/\∃ x,xs=[x])\/(k=7/\∃ x,xs=[x]):=by
   have:k=3\/k=4\/k=5\/k=6\/k=7:=by omega
   rcases this with rfl | rfl | rfl | rfl | rfl
   ·exact .inl ⟨rfl,ZkW hl⟩
   ·exact .inr (.inl ⟨rfl,Ztq hl⟩)
   ·exact .inr (.inr (.inl ⟨rfl,Ztq hl⟩))
   ·exact .inr (.inr (.inr (.inl ⟨rfl,ZkW hl⟩)))
   ·exact .inr (.inr (.inr (.inr ⟨rfl,ZkW hl⟩)))
  have hlen:xs.length<=2:=by
   rw[hl]
   unfold JB
   split
   ·omega
   ·split <;> omega
  rcases hcase with ⟨rfl,x,hxs⟩ | ⟨rfl,x,y,hxs⟩ | ⟨rfl,x,y,hxs⟩ | ⟨rfl,x,hxs⟩ | ⟨rfl,x,hxs⟩
  ·have hpx:=hx x (by rw[hxs];simp)
   have g0:(xs.map ptC)[0]? = some (ptC x):=by rw[hxs];rfl
   have q:=Zod sig ⟨3,c,t,ns⟩ x.1 hn hbs hb h rfl hpx.big hpx.inn
   have e1:Zsr sig ⟨3,c,t,ns⟩ x.1=V:=by
    rw[hV,Zl1,hxs,Du (.inl rfl),if_pos rfl]
    unfold Zsr
    by_cases g:X8 sig ⟨3,c,t,ns⟩ x.1
    ·rw[if_pos g,if_pos g];rfl
    ·rw[if_neg g,if_neg g];rfl
   have e2:dc (X8 sig ⟨3,c,t,ns⟩ x.1)=ok:=by
    rw[hok,hxs,Du (.inl rfl),if_pos rfl]
    by_cases g:X8 sig ⟨3,c,t,ns⟩ x.1
    ·rw[if_pos g,Zy g];rfl
    ·rw[if_neg g,Zg g];rfl
   rw[e1,e2] at q
   simp only[Q3,Zi,g0,ptC,Zb,EVA,seval,Zf,men]
   simp only[Zi,Zb,List.map_cons,List.map_nil] at q
   refine Za q ?_
   clear q e1 e2 g0
   simp only[Zh,List.length_map,EVA,seval]
   refine Zv (α:=Unit) xs.length (fun j _=>[(96,iI j)]) (fun j _=>[(256,.bx [iI V.roots,.tr (.sl (V.nodes.map ZK)),.tr (.sl (rI V.sites)),iI V.edges,.tr (.sl (rS V.outer)),.tr (.sl (V.inner.map Z3)),.hd (lvl,384) [] 0 (Z7 (xs.take j)).length none (Z7 (xs.take j)).length]),(384,.ar 1 (rI (Z7 (xs.take j))) true (Z7 (xs.take j)).length 0)]) (fun _ _=>True) () (by simp only[EVA,seval]) (by (simp only[EVA,seval]) <;> rfl) trivial ?_
   intro j _ hj _
   simp only[List.length_map,EVA,seval]
   refine Zk (fun hlt=>?_) (fun hge=>?_)
   ·have hja:j<xs.length:=by omega
    have ga:=Xh (c:=ptC) hja
    have hsl:=Wh hja
    have hle:=DR hx (j:=j+1) hja
    rw[hsl,List.length_append] at hle
    simp only[ga,ptC,Zb,Zbt,Zbu,List.length_map,EVA,seval]
    refine⟨by omega,by rw[Zd];omega,Ze () hja (by rw[hsl,List.length_append,Y7,Nat.max_eq_right (Nat.le_add_right _ _)];rfl) trivial⟩
   ·have:j=xs.length:=by omega
    subst this
    rw[List.take_length]
    rw[show cut (rI (Z7 xs)) 0 (Z7 xs).length=rI (Z7 xs) from Js]
  ·have hpx:=hx x (by rw[hxs];simp)
   have hpy:=hx y (by rw[hxs];simp)
   have g0:(xs.map ptC)[0]? = some (ptC x):=by rw[hxs];rfl
   have g1:(xs.map ptC)[1]? = some (ptC y):=by rw[hxs];rfl
   have q:=WD sig x.1 y.1 hn hbs (DQ hpx.big) (DQ hpy.big) (WE hpx.big) (WE hpy.big)
   have e1:VY sig x.1 y.1=V:=by
    rw[hV,Zl1,hxs,ZeD (.inl rfl)]
    unfold VY
    by_cases g:UQ sig x.1 y.1
    ·rw[if_pos g,if_pos g];rfl
    ·rw[if_neg g,if_neg g];rfl
   have e2:VZ sig x.1 y.1=ok:=by
    rw[hok,hxs,ZeD (.inl rfl)]
    unfold VZ
    by_cases g:UQ sig x.1 y.1
    ·rw[if_pos g,Zy g];rfl
    ·rw[if_neg g,Zg g];rfl
   rw[e1,e2] at q
   simp only[Q3,Zi,g0,g1,ptC,Zb,EVA,seval,Zf,men]
   simp only[Zb,List.map_cons,List.map_nil] at q
   refine Za q ?_
   clear q e1 e2 g0 g1
   simp only[Zh,List.length_map,EVA,seval]
   refine Zv (α:=Unit) xs.length (fun j _=>[(96,iI j)]) (fun j _=>[(256,.bx [iI V.roots,.tr (.sl (V.nodes.map ZK)),.tr (.sl (rI V.sites)),iI V.edges,.tr (.sl (rS V.outer)),.tr (.sl (V.inner.map Z3)),.hd (lvl,384) [] 0 (Z7 (xs.take j)).length none (Z7 (xs.take j)).length]),(384,.ar 1 (rI (Z7 (xs.take j))) true (Z7 (xs.take j)).length 0)]) (fun _ _=>True) () (by simp only[EVA,seval]) (by (simp only[EVA,seval]) <;> rfl) trivial ?_
   intro j _ hj _
   simp only[List.length_map,EVA,seval]
   refine Zk (fun hlt=>?_) (fun hge=>?_)
   ·have hja:j<xs.length:=by omega
    have ga:=Xh (c:=ptC) hja
    have hsl:=Wh hja
    have hle:=DR hx (j:=j+1) hja
    rw[hsl,List.length_append] at hle
    simp only[ga,ptC,Zb,Zbt,Zbu,List.length_map,EVA,seval]
    refine⟨by omega,by rw[Zd];omega,Ze () hja (by rw[hsl,List.length_append,Y7,Nat.max_eq_right (Nat.le_add_right _ _)];rfl) trivial⟩
   ·have:j=xs.length:=by omega
    subst this
    rw[List.take_length]
    rw[show cut (rI (Z7 xs)) 0 (Z7 xs).length=rI (Z7 xs) from Js]
  ·have hpx:=hx x (by rw[hxs];simp)
   have hpy:=hx y (by rw[hxs];simp)
   have g0:(xs.map ptC)[0]? = some (ptC x):=by rw[hxs];rfl
   have g1:(xs.map ptC)[1]? = some (ptC y):=by rw[hxs];rfl
   have q:=Xd sig x.1 y.1 hn hbs (DQ hpx.big) (DQ hpy.big) (WE hpx.big) (WE hpy.big)
   have e1:YE sig x.1 y.1=V:=by
    rw[hV,Zl1,hxs,ZeD (.inr rfl)]
    unfold YE
    by_cases g:UQ sig x.1 y.1
    ·rw[if_pos g,if_pos g];rfl
    ·rw[if_neg g,if_neg g];rfl
   have e2:YF sig x.1 y.1=ok:=by
    rw[hok,hxs,ZeD (.inr rfl)]
    unfold YF
    by_cases g:UQ sig x.1 y.1
    ·rw[if_pos g,Zy g];rfl
    ·rw[if_neg g,Zg g];rfl
   rw[e1,e2] at q
   simp only[Q3,Zi,g0,g1,ptC,Zb,EVA,seval,Zf,men]
   simp only[Zb,List.map_cons,List.map_nil] at q
   refine Za q ?_
   clear q e1 e2 g0 g1
   simp only[Zh,List.length_map,EVA,seval]
   refine Zv (α:=Unit) xs.length (fun j _=>[(96,iI j)]) (fun j _=>[(256,.bx [iI V.roots,.tr (.sl (V.nodes.map ZK)),.tr (.sl (rI V.sites)),iI V.edges,.tr (.sl (rS V.outer)),.tr (.sl (V.inner.map Z3)),.hd (lvl,384) [] 0 (Z7 (xs.take j)).length none (Z7 (xs.take j)).length]),(384,.ar 1 (rI (Z7 (xs.take j))) true (Z7 (xs.take j)).length 0)]) (fun _ _=>True) () (by simp only[EVA,seval]) (by (simp only[EVA,seval]) <;> rfl) trivial ?_
   intro j _ hj _
   simp only[List.length_map,EVA,seval]
   refine Zk (fun hlt=>?_) (fun hge=>?_)
   ·have hja:j<xs.length:=by omega
    have ga:=Xh (c:=ptC) hja
    have hsl:=Wh hja
    have hle:=DR hx (j:=j+1) hja
    rw[hsl,List.length_append] at hle
    simp only[ga,ptC,Zb,Zbt,Zbu,List.length_map,EVA,seval]
    refine⟨by omega,by rw[Zd];omega,Ze () hja (by rw[hsl,List.length_append,Y7,Nat.max_eq_right (Nat.le_add_right _ _)];rfl) trivial⟩
   ·have:j=xs.length:=by omega
    subst this
    rw[List.take_length]
    rw[show cut (rI (Z7 xs)) 0 (Z7 xs).length=rI (Z7 xs) from Js]
  ·have hpx:=hx x (by rw[hxs];simp)
   have g0:(xs.map ptC)[0]? = some (ptC x):=by rw[hxs];rfl
   obtain⟨n,rfl⟩:∃ n,ns=[n]:=by
    exact Zl2 (h.one (.inl rfl))
   have q:=ZdG sig x.1 n hn hbs (DQ hpx.big) (hb.2 n (by simp)) (WE hpx.big)
   have e1:J8 sig x.1 n=V:=by
    rw[hV,Zl1,hxs,Du (.inr (.inl rfl)),if_neg (by simp),if_pos rfl]
    unfold J8
    show _=((@ite _ (Q6 sig x.1 n) (Classical.propDecidable _) _ _:Option Xi).map Prod.fst).getD J7
    by_cases g:Q6 sig x.1 n
    ·rw[if_pos g,if_pos g];rfl
    ·rw[if_neg g,if_neg g];rfl
   have e2:J9 sig x.1 n=ok:=by
    rw[hok,hxs,Du (.inr (.inl rfl)),if_neg (by simp),if_pos rfl]
    unfold J9
    show _=(@ite _ (Q6 sig x.1 n) (Classical.propDecidable _) _ _:Option Xi).isSome
    by_cases g:Q6 sig x.1 n
    ·rw[if_pos g,Zy g];rfl
    ·rw[if_neg g,Zg g];rfl
   rw[e1,e2] at q
   simp only[Q3,Zi,g0,ptC,Zb,EVA,seval,Zf,men]
   simp only[Zb,List.map_cons,List.map_nil] at q
   refine Za q ?_
   clear q e1 e2 g0
   simp only[Zh,List.length_map,EVA,seval]
   refine Zv (α:=Unit) xs.length (fun j _=>[(96,iI j)]) (fun j _=>[(256,.bx [iI V.roots,.tr (.sl (V.nodes.map ZK)),.tr (.sl (rI V.sites)),iI V.edges,.tr (.sl (rS V.outer)),.tr (.sl (V.inner.map Z3)),.hd (lvl,384) [] 0 (Z7 (xs.take j)).length none (Z7 (xs.take j)).length]),(384,.ar 1 (rI (Z7 (xs.take j))) true (Z7 (xs.take j)).length 0)]) (fun _ _=>True) () (by simp only[EVA,seval]) (by (simp only[EVA,seval]) <;> rfl) trivial ?_
   intro j _ hj _
   simp only[List.length_map,EVA,seval]
   refine Zk (fun hlt=>?_) (fun hge=>?_)
   ·have hja:j<xs.length:=by omega
    have ga:=Xh (c:=ptC) hja
    have hsl:=Wh hja
    have hle:=DR hx (j:=j+1) hja
    rw[hsl,List.length_append] at hle
    simp only[ga,ptC,Zb,Zbt,Zbu,List.length_map,EVA,seval]
    refine⟨by omega,by rw[Zd];omega,Ze () hja (by rw[hsl,List.length_append,Y7,Nat.max_eq_right (Nat.le_add_right _ _)];rfl) trivial⟩
   ·have:j=xs.length:=by omega
    subst this
    rw[List.take_length]
    rw[show cut (rI (Z7 xs)) 0 (Z7 xs).length=rI (Z7 xs) from Js]
  ·have hpx:=hx x (by rw[hxs];simp)
   have g0:(xs.map ptC)[0]? = some (ptC x):=by rw[hxs];rfl
   obtain⟨n,rfl⟩:∃ n,ns=[n]:=by
    exact Zl2 (h.one (.inr rfl))
   have q:=ZlX sig x.1 n hn hbs (DQ hpx.big) (hb.2 n (by simp)) (WE hpx.big)
   have e1:Zzi sig x.1 n=V:=by
    rw[hV,Zl1,hxs,Du (.inr (.inr rfl)),if_neg (by simp),if_neg (by simp)]
    unfold Zzi
    show _=((@ite _ (Dt sig x.1 n) (Classical.propDecidable _) _ _:Option Xi).map Prod.fst).getD J7
    by_cases g:Dt sig x.1 n
    ·rw[if_pos g,if_pos g];rfl
    ·rw[if_neg g,if_neg g];rfl
   have e2:dc (Dt sig x.1 n)=ok:=by
    rw[hok,hxs,Du (.inr (.inr rfl)),if_neg (by simp),if_neg (by simp)]
    show _=(@ite _ (Dt sig x.1 n) (Classical.propDecidable _) _ _:Option Xi).isSome
    by_cases g:Dt sig x.1 n
    ·rw[if_pos g,Zy g];rfl
    ·rw[if_neg g,Zg g];rfl
   rw[e1,e2] at q
   simp only[Q3,Zi,g0,ptC,Zb,EVA,seval,Zf,men]
   simp only[Zb,List.map_cons,List.map_nil] at q
   refine Za q ?_
   clear q e1 e2 g0
   simp only[Zh,List.length_map,EVA,seval]
   refine Zv (α:=Unit) xs.length (fun j _=>[(96,iI j)]) (fun j _=>[(256,.bx [iI V.roots,.tr (.sl (V.nodes.map ZK)),.tr (.sl (rI V.sites)),iI V.edges,.tr (.sl (rS V.outer)),.tr (.sl (V.inner.map Z3)),.hd (lvl,384) [] 0 (Z7 (xs.take j)).length none (Z7 (xs.take j)).length]),(384,.ar 1 (rI (Z7 (xs.take j))) true (Z7 (xs.take j)).length 0)]) (fun _ _=>True) () (by simp only[EVA,seval]) (by (simp only[EVA,seval]) <;> rfl) trivial ?_
   intro j _ hj _
   simp only[List.length_map,EVA,seval]
   refine Zk (fun hlt=>?_) (fun hge=>?_)
   ·have hja:j<xs.length:=by omega
    have ga:=Xh (c:=ptC) hja
    have hsl:=Wh hja
    have hle:=DR hx (j:=j+1) hja
    rw[hsl,List.length_append] at hle
    simp only[ga,ptC,Zb,Zbt,Zbu,List.length_map,EVA,seval]
    refine⟨by omega,by rw[Zd];omega,Ze () hja (by rw[hsl,List.length_append,Y7,Nat.max_eq_right (Nat.le_add_right _ _)];rfl) trivial⟩
   ·have:j=xs.length:=by omega
    subst this
    rw[List.take_length]
    rw[show cut (rI (Z7 xs)) 0 (Z7 xs).length=rI (Z7 xs) from Js]
end Go.Fd

/-
  THE STACK, THE PROGRAM'S SIDE. Own work.
-/
namespace Go.Fd
set_option maxRecDepth 20000
noncomputable def ZvI(sig:List TControl)(t:List TTermStep):Stk:=(ZfK sig t).getD ([],0)
theorem ZgO{sig:List TControl}{t:List TTermStep}(h:ZfK sig t=none):ZvI sig t=([],0):=by unfold ZvI;rw[h];rfl
theorem ZkX{sig:List TControl}{t:List TTermStep}{z:Stk}(h:ZfK sig t=some z):ZvI sig t=z:=by unfold ZvI;rw[h];rfl
theorem ZeE{l:List Xi}:UnR 7 (l.map ptC)=True:=eq_true (Za5 ptC (fun _=>rfl) l)
theorem ZyT{l:List Xi}{a n:Nat}:cut (l.map ptC) a n=((l.drop a).take n).map ptC:=by
 rw[cut,<-List.map_drop,<-List.map_take]
theorem ZDe{l:List Xi}{a:Nat}:cut (l.map ptC) a (l.length-a)=(l.drop a).map ptC:=by
 rw[ZyT,List.take_of_length_le (by rw[List.length_drop];omega)]
theorem Zhq{l:List Xi}{a:Nat}:cut (l.map ptC) 0 a=(l.take a).map ptC:=by
 rw[ZyT,List.drop_zero]
theorem Zl3(sig:List TControl)(t:List TTermStep)(hn:sig.length<=4294967296)(hbs:∀ y∈sig,Zq 4294967296 y)(hbt:∀ y∈t,Zz 4294967296 y)(hs:Vh sig)(hl:t.length<=60)(lvl:Nat)(S:Sto):Sem Proofs.Tryz.prog WI lvl [.tr (.sl (sig.map Zj)),.tr (.sl (t.map Zi))] S (.tu [.tr (.sl ((ZvI sig t).1.map ptC)),iI ((ZvI sig t).2:Nat),iB (ZfK sig t).isSome]) S:=by
 refine Zc ZgX (by simp [low,men,Zf]) ?_
 simp only[Zb9,List.length_map,EVA,seval]
 refine Zv (α:=Stk) t.length (fun j z=>[(7,.tr (.sl (z.1.map ptC))),(8,iI z.2),(17,iI j)]) (fun _ _=>[]) (fun j z=>ZfK sig (t.take j)=some z) ([],0) (by simp only[EVA,seval]) (by (simp only[EVA,seval]) <;> rfl) (by rw[List.take_zero];exact Zqw) ?_
 intro j z hj hA
 have hz:=ZeB hs hj hA
 simp only[EVA,seval]
 refine Zk (fun hlt=>?_) (fun hge=>?_)
 ·have hja:j<t.length:=by omega
  have ga:=Xh (c:=Zi) hja
  have hb:=hbt _ (List.getElem_mem hja)
  have hsu:=ZgN (sig:=sig) hja
  rw[hA] at hsu
  obtain⟨s,hs'⟩:∃ s,s=t[j]:=⟨_,rfl⟩
  rw[<-hs'] at ga hb hsu
  have hbad:stT sig z s=none->ZfK sig t=none:=fun g=>ZkP (j:=j+1) (by rw[hsu];exact g)
  have q1:=Zob sig s hn hb
  have q2:=ZkU s.kind_ s.control s.site s.names
  obtain⟨k,c,p,ns⟩:=s
  simp only[Zi,List.map_cons,List.map_nil] at ga q1 q2
  simp only[ga,EVA,seval,Zf,men]
  refine Za q1 ?_
  cases hg:dc (stepOK sig ⟨k,c,p,ns⟩)
  ·have e:=hbad (Zjt fun g=>dc_not.1 hg g.1)
   rw[e,ZgO e]
   simp only[EVA,seval]
   try rfl
  have hok:=dc_iff.1 hg
  have hnd:=Zsq hok
  simp only at hnd
  simp only[EVA,seval,Zf,men]
  refine Za q2 ?_
  rw[hnd]
  simp only[List.length_map,EVA,seval,Zf,men]
  refine Zk (fun hlo=>?_) (fun hlo=>?_)
  ·have e:=hbad (Zjt fun g=>by have:=g.2;simp only at this;omega)
   rw[e,ZgO e]
   try rfl
  have htk:JB k<=z.1.length:=by omega
  refine Za q2 ?_
  rw[hnd]
  simp only[List.length_map,EVA,seval,Zf,men]
  have hat:((z.1.length:Int)-(JB k:Int))=((z.1.length-JB k:Nat):Int):=by omega
  rw[hat]
  obtain⟨a,ha⟩:∃ a,a=z.1.length-JB k:=⟨_,rfl⟩
  rw[<-ha]
  have q3:=Zst sig ⟨k,c,p,ns⟩ (z.1.drop a) hn hbs hb hok (by rw[List.length_drop];simp only;omega) (fun x hx=>hz.1 x (List.mem_of_mem_drop hx))
  simp only[Zi,List.map_cons,List.map_nil] at q3
  simp only[ZeE,EVA,seval]
  simp only[ZDe]
  refine⟨by rw[Zd];omega,?_⟩
  refine⟨?_,?_,Za q3 ?_⟩
  ·first | omega | simp [ZeE]
  ·first | omega | simp [ZeE]
  obtain⟨V,hV⟩:∃ V,V=Zoe sig ⟨k,c,p,ns⟩ (z.1.drop a):=⟨_,rfl⟩
  rw[<-hV]
  simp only[ptC,Zb]
  cases hm:mkR sig ⟨k,c,p,ns⟩ (z.1.drop a) with
  | none =>
   have e:=hbad (Znm (by show mkR _ _ (z.1.drop (z.1.length-JB k))=none;rw[<-ha];exact hm))
   rw[e,ZgO e]
   simp only[Option.isSome_none,EVA,seval]
   try rfl
  | some y =>
   have e:=Znl hok (z:=z) htk (by show mkR _ _ (z.1.drop (z.1.length-JB k))=some y;rw[<-ha];exact hm)
   have hy:V=y:=by rw[hV,Zoe,hm];rfl
   subst hy
   simp only[Option.isSome_some,List.length_map,ZeE,EVA,seval]
   have e3:cut (z.1.map ptC) 0 (a-0)++[[Tr.v (Value.int .i64 V.1.roots),Tr.sl (V.1.nodes.map ZK),Tr.sl (rI V.1.sites),Tr.v (Value.int .i64 V.1.edges),Tr.sl (rS V.1.outer),Tr.sl (V.1.inner.map Z3),Tr.sl (rI V.2)]]=(z.1.take a++[V]).map ptC:=by
    rw[Nat.sub_zero,Zhq,List.map_append]
    rfl
   have e4:(cut (z.1.map ptC) 0 (a-0)).length=a:=by
    rw[Nat.sub_zero,Zhq,List.length_map,List.length_take]
    omega
   have e5:max (z.2:Int) ((a+1:Nat):Int)=((max z.2 (a+1):Nat):Int):=by omega
   have e6:((z.1.take a++[V]).map ptC).length=a+1:=by
    rw[List.length_map,List.length_append,List.length_take]
    simp
    omega
   rw[e3,e4,e6,e5]
   refine⟨fun g=>g.elim,by omega,by omega,by omega,by rw[Nat.sub_zero,Zhq,ZeE];trivial,rfl,by rw[Zd];omega,Ze (z.1.take a++[V],max z.2 (a+1)) hja rfl ?_⟩
   rw[hsu]
   show stT sig z _=_
   rw[e]
   show some (z.1.take (z.1.length-JB k)++[V],max z.2 (z.1.length-JB k+1))=_
   rw[<-ha]
 ·have:j=t.length:=by omega
  subst this
  rw[List.take_length] at hA
  rw[hA,ZkX hA]
  simp only[EVA,seval]
  try rfl
end Go.Fd

/-
  SORTING A FEW NUMBERS: slices.Sort. Own work.
-/
namespace Go.Fd
set_option maxRecDepth 20000
theorem Zsu(a b:Int)(lvl:Nat)(S:Sto):Sem Proofs.Tryz.prog QL lvl [iI a,iI b] S (iB (decide (a<b))) S:=by
 refine Zc Zg7 trivial ?_
 simp only[Zcg,EVA,seval,Zf,men]
 refine Za (Zpl a) ?_
 simp only[EVA,seval]
def Zsv(x:List Int)(i:Nat):Prop:=∀ p q,p<q->q<i->g0 x p<=g0 x q
def ZqG(x:List Int)(i j:Nat):Prop:=(∀ p q,p<q->q<=i->p≠j->q≠j->g0 x p<=g0 x q)/\∀ q,j<q->q<=i->g0 x j<=g0 x q
def swp(x:List Int)(j:Nat):List Int:=(x.set j (g0 x (j-1))).set (j-1) (g0 x j)
theorem Ztr{y:List Int}{a b:Nat}{v:Int}(h:a<y.length):g0 (y.set a v) b=if a=b then v else g0 y b:=by
 show (y.set a v).getD b 0=if a=b then v else y.getD b 0
 rw[List.getD_eq_getElem?_getD,List.getElem?_set,List.getD_eq_getElem?_getD]
 by_cases e:a=b
 ·rw[if_pos e,if_pos e,if_pos (by omega)];rfl
 ·rw[if_neg e,if_neg e]
theorem Zof{y:List Int}{i:Nat}(h:ZqG y i 0):Zsv y (i+1):=fun p q h1 h2=>by
 by_cases e:p=0
 ·subst e;exact h.2 q h1 (by omega)
 ·exact h.1 p q h1 (by omega) e (by omega)
theorem Zog{y:List Int}{i j:Nat}(h:ZqG y i j)(hj:0<j)(hji:j<=i)(hle:g0 y (j-1)<=g0 y j):Zsv y (i+1):=fun p q h1 h2=>by
 by_cases e:p=j
 ·subst e;exact h.2 q h1 (by omega)
 ·by_cases e2:q=j
  ·subst e2
   by_cases e3:p=q-1
   ·subst e3;exact hle
   ·exact Int.le_trans (h.1 p (q-1) (by omega) (by omega) e (by omega)) hle
  ·exact h.1 p q h1 (by omega) e e2
theorem ZqH{y:List Int}{i j:Nat}(h:ZqG y i j)(hj:0<j)(hji:j<=i)(hi:i<y.length)(hlt:g0 y j<g0 y (j-1)):ZqG (swp y j) i (j-1):=by
 have e:∀ b,g0 (swp y j) b=if j-1=b then g0 y j else if j=b then g0 y (j-1) else g0 y b:=fun b=>by
  unfold swp
  rw[Ztr (by rw[List.length_set];omega),Ztr (by omega)]
 refine⟨fun p q h1 h2 h3 h4=>?_,fun q h1 h2=>?_⟩
 ·rw[e p,e q,if_neg (show ¬ j-1=p from fun g=>h3 g.symm),if_neg (show ¬ j-1=q from fun g=>h4 g.symm)]
  by_cases ep:j=p
  ·rw[if_pos ep,if_neg (show ¬ j=q by omega)]
   exact h.1 (j-1) q (by omega) h2 (by omega) (by omega)
  ·rw[if_neg ep]
   by_cases eq:j=q
   ·rw[if_pos eq]
    exact h.1 p (j-1) (by omega) (by omega) (by omega) (by omega)
   ·rw[if_neg eq]
    exact h.1 p q h1 h2 (fun g=>ep g.symm) (fun g=>eq g.symm)
 ·rw[e (j-1),e q,if_pos rfl,if_neg (show ¬ j-1=q by omega)]
  by_cases eq:j=q
  ·rw[if_pos eq];omega
  ·rw[if_neg eq]
   exact h.2 q (by omega) h2
theorem Zsw{y:List Int}{j:Nat}(hj:0<j)(hi:j<y.length):(swp y j).Perm y:=by
 have h:=@List.set_set_perm _ y j (j-1) hi (by omega)
 have e1:g0 y j=y[j]:=by simp [g0,hi]
 have e2:g0 y (j-1)=y[j-1]'(by omega):=by
  show y.getD (j-1) 0=_
  rw[List.getD_eq_getElem?_getD,List.getElem?_eq_getElem (by omega)]
  rfl
 unfold swp
 rw[e1,e2]
 exact h
theorem ZyU{y:List Int}{j:Nat}{v:Int}(h:j<y.length):Vs (rI y) [] j 0 (.v (.int .i64 v))=rI (y.set j v):=by
 simp only[Vs]
 rw[Jo h]
 exact(List.map_set (f:=fun n:Int=>[tv n]) (l:=y) (i:=j) (a:=v)).symm
theorem Zsx(l:List Int)(hl:l.length<=12)(lvl:Nat)(S:Sto)(id:Oid)(u:Bool)(hw ver:Nat)(hid:id.1<lvl)(hS:S id=some (.ar 1 (rI l) u hw ver))(srt:List Int)(hsrt:∀ x:List Int,x.Perm l->Zsv x l.length->x=srt) :
  Sem Proofs.Tryz.prog Jk lvl [.hd id [] 0 l.length none hw,iI 0,iI l.length] S (.tu []) (ZN S id (.ar 1 (rI srt) u hw ver)):=by
 have hne:id.1≠lvl:=by omega
 refine Zc XR trivial ?_
 simp only[YA,EVA,seval]
 refine⟨by rw[Zd];omega,?_⟩
 refine Jp (α:=List Int) l.length (fun k x=>⟨lvl,[(0,.hd id [] 0 l.length none hw),(1,iI 0),(2,iI l.length),(6,iI ((k+1:Nat):Int))],[],ZN S id (.ar 1 (rI x) u hw ver)⟩) (fun k x=>x.Perm l/\Zsv x (k+1)) l ⟨by simp only[YN hne,EVA,seval],by (simp only[Qs hS,EVA,seval]) <;> rfl⟩ ⟨List.Perm.refl _,fun p q h1 h2=>by omega⟩ ?_
 intro k x hk ⟨hA1,hA2⟩
 have hxl:x.length=l.length:=hA1.length_eq
 simp only[EVA,seval]
 refine Zk (fun hlt=>?_) (fun hge=>?_)
 ·have hk1:k+1<l.length:=by omega
  refine Jp (α:=List Int) (k+1) (fun m y=>⟨lvl,[(0,.hd id [] 0 l.length none hw),(1,iI 0),(2,iI l.length),(6,iI ((k+1:Nat):Int)),(7,iI ((k+1-m:Nat):Int))],[],ZN S id (.ar 1 (rI y) u hw ver)⟩) (fun m y=>y.Perm l/\ZqG y (k+1) (k+1-m)) x ⟨by simp only[YN hne,EVA,seval],by (simp only[EVA,seval]) <;> rfl⟩ ⟨hA1,fun p q h1 h2 h3 h4=>hA2 p q h1 (by omega),fun q h1 h2=>by omega⟩ ?_
  intro m y hm ⟨hB1,hB2⟩
  have hyl:y.length=l.length:=hB1.length_eq
  generalize hj:k+1-m=j at hB2 ⊢
  by_cases hj0:j=0
  ·subst hj0
   simp only[EVA,seval,men]
   exact⟨by rw[Zd];omega,fun h=>absurd h hne,Ze y (by omega) rfl ⟨hB1,Zof hB2⟩⟩
  ·have g1:(0:Int)<j:=by omega
   have e1:((j:Int)-1)=((j-1:Nat):Int):=by omega
   have gj:=Jo (l:=y) (i:=j) (by omega)
   have gj1:=Jo (l:=y) (i:=j-1) (by omega)
   have l1:j<l.length:=by omega
   have l2:j-1<l.length:=by omega
   simp only[g1,ZS hne,Xc,e1,gj,gj1,l1,l2,Nat.zero_add,EVA,seval,Zf,men]
   refine⟨by rw[Zd];omega,Za (Zsu (g0 y j) (g0 y (j-1))) ?_⟩
   by_cases hlt2:g0 y j<g0 y (j-1)
   ·have s1:=ZyU (y:=y) (j:=j) (v:=g0 y (j-1)) (by omega)
    have s2:=ZyU (y:=y.set j (g0 y (j-1))) (j:=j-1) (v:=g0 y j) (by rw[List.length_set];omega)
    have gj2:=Jo (l:=y.set j (g0 y (j-1))) (i:=j-1) (by rw[List.length_set];omega)
    simp only[hlt2,ZS hne,Wl hne,Wa,Xc,YN hne,e1,gj,gj1,gj2,s1,s2,l1,l2,Nat.zero_add,EVA,seval]
    subst hj
    refine⟨by rw[Zd];omega,by rw[Zd];omega,by rw[Zd];omega,Ze (swp y (k+1-m)) (by omega) (by rw[show k+1-(m+1)=k+1-m-1 from by omega];rfl) ⟨(Zsw (by omega) (by omega)).trans hB1,?_⟩⟩
    rw[show k+1-(m+1)=k+1-m-1 from by omega]
    exact ZqH hB2 (by omega) (by omega) (by omega) hlt2
   ·simp only[hlt2,EVA,seval,men]
    exact⟨by rw[Zd];omega,fun h=>absurd h hne,Ze y (by omega) rfl ⟨hB1,Zog hB2 (by omega) (by omega) (by omega)⟩⟩
 ·have:k+1=l.length\/k=l.length:=by omega
  have hup:Zsv x l.length:=fun p q h1 h2=>hA2 p q h1 (by omega)
  have hx:=hsrt x hA1 hup
  rw[hx]
theorem Zsy(l:List Int)(hl:l.length<=12)(r:Int)(lvl:Nat)(S:Sto)(id:Oid)(u:Bool)(hw ver:Nat)(hid:id.1<lvl)(hS:S id=some (.ar 1 (rI l) u hw ver))(srt:List Int)(hsrt:∀ x:List Int,x.Perm l->Zsv x l.length->x=srt) :
  Sem Proofs.Tryz.prog ZW lvl [.hd id [] 0 l.length none hw,iI 0,iI l.length,iI r] S (.tu []) (ZN S id (.ar 1 (rI srt) u hw ver)):=by
 have hne:id.1≠lvl:=by omega
 refine Zc UC trivial ?_
 simp only[VQ,EVA,seval]
 refine Jp (α:=Unit) 0 (fun _ _=>⟨lvl,[(0,.hd id [] 0 l.length none hw),(1,iI 0),(2,iI l.length),(3,iI r),(8,iB true),(9,iB true)],[],S⟩) (fun _ _=>True) () ⟨by simp only[YN hne,EVA,seval],by (simp only[EVA,seval]) <;> rfl⟩ trivial ?_
 intro _ _ _ _
 have h12:(l.length:Int)-0<=12:=by omega
 simp only[h12,EVA,seval]
 refine⟨by rw[Zd];omega,?_⟩
 simp only[Znw]
 refine Xs [] (ZN S id (.ar 1 (rI srt) u hw ver)) (fun i hi=>by unfold ZN;rw[if_neg (fun e=>hne (by rw[<-e];exact hi))]) (by
  rw[ZbM hne]
  exact Zsx l hl (lvl+1) (Zu lvl [] S) id u hw ver (by omega) (by rw[ZS hne];exact hS) srt hsrt) ?_
 simp only[EVA,seval]
theorem ZkY(l:List Int)(hl:l.length<=12)(lvl:Nat)(S:Sto)(id:Oid)(u:Bool)(hw ver:Nat)(hid:id.1<lvl)(hS:S id=some (.ar 1 (rI l) u hw ver))(srt:List Int)(hsrt:∀ x:List Int,x.Perm l->Zsv x l.length->x=srt) :
  Sem Proofs.Tryz.prog Ju lvl [.hd id [] 0 l.length none hw] S (.tu []) (ZN S id (.ar 1 (rI srt) u hw ver)):=by
 have hne:id.1≠lvl:=by omega
 obtain⟨r,hr⟩:=ZlE (v:=(l.length:Int)) (by omega) (by omega)
 refine Zc Zba trivial ?_
 simp only[Ww,EVA,seval,Zf,men]
 refine⟨⟨by show (0:Int)<=l.length;omega,by show (l.length:Int)<=18446744073709551615;omega⟩,Za hr ?_⟩
 simp only[EVA,seval]
 refine Xs [] (ZN S id (.ar 1 (rI srt) u hw ver)) (fun i hi=>by unfold ZN;rw[if_neg (fun e=>hne (by rw[<-e];exact hi))]) (by
  rw[ZbM hne]
  exact Zsy l hl r (lvl+1) (Zu lvl [] S) id u hw ver (by omega) (by rw[ZS hne];exact hS) srt hsrt) ?_
 simp only[EVA,seval]
end Go.Fd

/-
  THE VALUE OF A TERM, THE PROGRAM'S SIDE. Own work.
-/
namespace Go.Fd
set_option maxRecDepth 20000
theorem Zvn{x:List Int}(h:Zsv x x.length):x.Pairwise (fun a b=>a<=b):=by
 rw[List.pairwise_iff_getElem]
 intro i j hi hj hij
 have:=h i j hij hj
 rwa [show g0 x i=x[i] by simp [hi],show g0 x j=x[j] by simp [hj]] at this
theorem Zts{l x:List Int}(hp:x.Perm l)(h:Zsv x l.length):x=Zi8 (fun a b:Int=>a<b) l:=by
 rw[<-hp.length_eq] at h
 exact Zeo ZnV ((Zvn h).imp fun h=>by omega) (Zep ZnV) (hp.trans srtG_perm.symm)
theorem Zsz{n i:Nat}(h:i<n):(Xj n)[i]? = some (i:Int):=by
 unfold Xj
 simp [h]
theorem ZkZ{l:List Int}{j:Nat}(h:j<l.length):(rI l)[j]? = some [tv l[j]]:=by
 show (l.map _)[j]? = _
 rw[List.getElem?_map,List.getElem?_eq_getElem h]
 rfl
theorem Zl4(n:Int)(l:List Int)(hl:l.length<=12)(hn:n=l.length)(lvl:Nat)(S:Sto):Sem Proofs.Tryz.prog Vl lvl [iI n,.tr (.sl (rI l))] S (iB (dc (Q8 l.length l))) S:=by
 obtain⟨r,hr⟩:∃ r,r=Zi8 (fun a b:Int=>a<b) l:=⟨_,rfl⟩
 have hrl:r.length=l.length:=by rw[hr];exact srtG_perm.length_eq
 refine Zc Zb8 trivial ?_
 simp only[Dk,EVA,seval,Zf,men]
 refine Za (Wf l (by omega)) ?_
 simp only[List.length_map,EVA,seval]
 have s1:=fun S' hS=>ZkY l hl (lvl+1) S' (lvl,288) true l.length 0 (Nat.lt_succ_self _) hS r (fun x hp hu=>by rw[hr];exact Zts hp hu)
 have hord:Q8 l.length l↔r=Xj l.length:=by rw[hr];exact ZkD
 refine Zbr 288 _ (s1 _ ?_) ?_
 ·rw[J5];rfl
 simp only[EVA,seval]
 refine Zv (α:=Unit) l.length (fun j _=>[(14,iI j)]) (fun _ _=>[]) (fun j _=>∀ i:Nat,i<j->r[i]? = some (i:Int)) () (by simp only[EVA,seval]) (by (simp only[EVA,seval]) <;> rfl) (fun i hi=>absurd hi (Nat.not_lt_zero i)) ?_
 intro j _ hj hA
 simp only[List.length_map,EVA,seval]
 refine Zk (fun hlt=>?_) (fun hge=>?_)
 ·have hja:j<l.length:=by omega
  have hjr:j<r.length:=by omega
  have ga:=ZkZ hjr
  simp only[ga,hja,EVA,seval]
  refine Zk (fun hq=>?_) (fun hq=>?_)
  ·have hno:¬ Q8 l.length l:=fun g=>by
    have e:=hord.1 g
    have e2:r[j]? = some (j:Int):=by rw[e];exact Zsz hja
    rw[List.getElem?_eq_getElem hjr] at e2
    have e3:=Option.some.inj e2
    omega
   rw[Zg hno]
  ·exact⟨by rw[Zd];omega,Ze () hja rfl (fun i hi=>by
    rcases Nat.lt_or_eq_of_le (Nat.le_of_lt_succ hi) with h | h
    ·exact hA i h
    ·subst h
     rw[List.getElem?_eq_getElem hjr]
     congr 1
     omega)⟩
 ·have:j=l.length:=by omega
  subst this
  have hyes:Q8 l.length l:=hord.2 (List.ext_getElem? fun i=>by
   by_cases hi:i<l.length
   ·rw[hA i hi,Zsz hi]
   ·rw[List.getElem?_eq_none (by omega),List.getElem?_eq_none (by rw[J4];omega)])
  rw[Zy hyes,hn]
  simp only[EVA,seval]
end Go.Fd

/-
  WHICH STEPS ARE RIGHT, THE REFERENCE'S SIDE. Own work.
-/
namespace Go.Fd
set_option maxRecDepth 20000
theorem Zoh(sig:List TControl)(s:TTermStep)(hn:sig.length<=4294967296)(hb:Zz 4294967296 s)(lvl:Nat)(S:Sto):Sem Proofs.Tryz.prog Um lvl [.tr (.sl (sig.map Zj)),.ag ((Zi s).map .tr)] S (iB (dc (stepOK sig s))) S:=by
 obtain⟨k,c,t,ns⟩:=s
 obtain⟨b1,b2⟩:=hb
 simp only at b1 b2
 have qn:=ZlZ ns b1 b2
 have d23:¬ (2:Int)=3:=by decide
 have d32:¬ (3:Int)=2:=by decide
 have d62:¬ (6:Int)=2:=by decide
 have d63:¬ (6:Int)=3:=by decide
 have d72:¬ (7:Int)=2:=by decide
 have d73:¬ (7:Int)=3:=by decide
 have d76:¬ (7:Int)=6:=by decide
 refine Zc ZiJ trivial ?_
 by_cases h2:k=2
 ·subst h2
  by_cases hc:c=0
  ·subst hc
   simp only[J2,Zi,d23,EVA,seval,Zf,men]
   refine Za (QP t 0 3) ?_
   cases hW:inB t 0 3
   ·rw[Zg fun g:stepOK sig ⟨2,0,t,ns⟩=>inB_not.1 hW (g.site rfl)]
    simp only[EVA,seval]
   ·simp only[List.length_map,EVA,seval]
    by_cases hl:(ns.length:Int)=0
    ·have hyes:stepOK sig ⟨2,0,t,ns⟩:=⟨by simp,fun _=>rfl,fun g=>absurd rfl g,fun n hn=>by
      have:ns=[]:=List.length_eq_zero_iff.1 (by omega)
      simp [this] at hn,fun _=>inB_iff.1 hW,fun g=>by simp at g,fun g=>by simp at g,fun g=>by simp at g,fun _ _ _=>by simp only;omega⟩
     rw[Zy hyes]
     simp [hl]
    ·rw[Zg fun g:stepOK sig ⟨2,0,t,ns⟩=>hl (by have:=g.non (by simp) (by simp) (by simp);simp only at this;omega)]
     simp [hl]
     exact fun e=>hl (by simp [e])
  ·rw[Zg fun g:stepOK sig ⟨2,c,t,ns⟩=>hc (g.ctl0 (by simp))]
   simp only[J2,Zi,hc,d23,EVA,seval]
 by_cases h3:k=3
 ·subst h3
  by_cases ht:t=0
  ·subst ht
   simp only[J2,Zi,d32,List.length_map,EVA,seval,Zf,men]
   refine⟨by rw[Zd];omega,Za (QP c 0 ((sig.length:Int)-1)) ?_⟩
   cases hW:inB c 0 ((sig.length:Int)-1)
   ·rw[Zg fun g:stepOK sig ⟨3,c,0,ns⟩=>inB_not.1 hW (g.ctl rfl)]
    simp only[EVA,seval]
   ·have hw:=inB_iff.1 hW
    obtain⟨m,hm⟩:∃ m:Nat,c=m:=⟨c.toNat,by omega⟩
    have hms:m<sig.length:=by omega
    have gs:=Xh (c:=Zj) hms
    have e:Vi sig c=sig[m].ports:=by simp [Vi,hm,hms]
    simp only[hm,gs,Zj,List.length_map,EVA,seval,Zf,men]
    by_cases hp:(ns.length:Int)=sig[m].ports
    ·simp only[hp,EVA,seval]
     refine Za qn ?_
     simp only[EVA,seval]
     have:stepOK sig ⟨3,c,0,ns⟩↔∀ n∈ns,ZcC n:=⟨fun g=>g.nms,fun g=>⟨by simp,fun g=>absurd rfl g,fun _=>rfl,g,fun g=>by simp at g,fun _=>hw,fun _=>by rw[e];exact hp,fun g=>by simp at g,fun g=>absurd rfl g⟩⟩
     rw[<-hm,J3 this]
    ·rw[<-hm,Zg fun g:stepOK sig ⟨3,c,0,ns⟩=>hp (by rw[<-e];exact g.ports rfl)]
     simp only[hp,seval]
  ·rw[Zg fun g:stepOK sig ⟨3,c,t,ns⟩=>ht (g.site0 (by simp))]
   simp only[J2,Zi,ht,d32,EVA,seval]
 by_cases hc:c=0
 ·subst hc
  by_cases ht:t=0
  ·subst ht
   by_cases h67:k=6\/k=7
   ·rcases h67 with rfl | rfl
    all_goals
     simp only[J2,Zi,d62,d63,d72,d73,d76,List.length_map,EVA,seval,Zf,men]
     by_cases hp:(ns.length:Int)=1
     ·simp only[hp,EVA,seval]
      refine Za qn ?_
      simp only[EVA,seval]
      rw[J3 (show stepOK sig ⟨_,0,0,ns⟩↔∀ n∈ns,ZcC n from ⟨fun g=>g.nms,fun g=>⟨by simp,fun _=>rfl,fun _=>rfl,g,fun g=>by simp at g,fun g=>by simp at g,fun g=>by simp at g,fun _=>by simp only;omega,fun g1 g2 g3=>by simp at g2 g3⟩⟩)]
     ·rw[Zg fun g:stepOK sig ⟨_,0,0,ns⟩=>hp (by have:=g.one (by simp);simp only at this;omega)]
      simp only[hp,seval]
   have h6:¬ k=6:=fun e=>h67 (.inl e)
   have h7:¬ k=7:=fun e=>h67 (.inr e)
   simp only[J2,Zi,h2,h3,h6,h7,EVA,seval,Zf,men]
   refine Za (QP k 0 5) ?_
   cases hW:inB k 0 5
   ·rw[Zg fun g:stepOK sig ⟨k,0,0,ns⟩=>inB_not.1 hW (by have:=g.kind;simp only at this;omega)]
    simp only[EVA,seval]
   ·have hw:=inB_iff.1 hW
    simp only[List.length_map,EVA,seval]
    by_cases hl:(ns.length:Int)=0
    ·have hyes:stepOK sig ⟨k,0,0,ns⟩:=⟨by simp only;omega,fun _=>rfl,fun _=>rfl,fun n hn=>by
      have:ns=[]:=List.length_eq_zero_iff.1 (by omega)
      simp [this] at hn,fun g=>absurd g h2,fun g=>absurd g h3,fun g=>absurd g h3,fun g=>g.elim (fun e=>absurd e h6) (fun e=>absurd e h7),fun _ _ _=>by simp only;omega⟩
     rw[Zy hyes]
     simp [hl]
    ·rw[Zg fun g:stepOK sig ⟨k,0,0,ns⟩=>hl (by have:=g.non h3 h6 h7;simp only at this;omega)]
     simp [hl]
     exact fun e=>hl (by simp [e])
  ·rw[Zg fun g:stepOK sig ⟨k,0,t,ns⟩=>ht (g.site0 h2)]
   simp only[J2,Zi,h2,h3,ht,EVA,seval]
 ·rw[Zg fun g:stepOK sig ⟨k,c,t,ns⟩=>hc (g.ctl0 h3)]
  simp only[J2,Zi,h3,hc,EVA,seval]
end Go.Fd
