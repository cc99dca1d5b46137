/-
  FOUNDATION 1: ideal values, the annotated code, the predicate transformer. Own work. Plain definitions over the model's values; nothing of any one program.
-/
import Derived.Laws.AppendOwn
import Derived.Laws.MakeOwn
import Derived.Laws.CopyRow
import Derived.Laws.Rows
import Derived.Laws.StructEq
import Derived.Orders
import Derived.Below
import Derived.KernelRfl
import Derived.Laws.Tables
import Derived.Great.BuildSlice
set_option linter.all false
namespace Go.Fd
def Uaa:=@List.length_map
def Uab:=@And.intro
def Uac:=@List.length_append
def Uad:=@List.getElem?_eq_some_iff
def Uae:=@Bool.and_eq_true
def Uaf:=@List.mem_of_getElem?
def Uag:=@List.take_succ_eq_append_getElem
def Uah:=@List.map_cons
def Uai:=@List.length_take
def Uaj:=@List.getElem_mem
def Uak:=@List.getElem?_eq_getElem
def Ual:=@Nat.le_refl
def Uam:=@List.map_nil
def Uan:=@Option.isSome_iff_exists
def Uao:=@List.getElem?_map
def Uap:=@List.take_length
def Uaq:=@List.mem_append
def Uar:=@List.getElem_of_mem
def Uas:=@List.getElem?_append_right
def Uat:=@Option.some.injEq
def Uau:=@List.mem_map
def Uav:=@List.getElem?_append_left
def Uaw:=@List.map_append
def Uax:=@Nat.zero_add
def Uay:=@List.eq_nil_of_length_eq_zero
def Uaz:=@Nat.mul_le_mul_right
def UaA:=@List.drop_eq_getElem_cons
def UaB:=@List.getElem?_take
def UaC:=@List.map_congr_left
def UaD:=@List.getD_eq_getElem?_getD
def UaE:=@Array.getElem?_eq_some_iff
def UaF:=@List.mem_cons
def UaG:=@Nat.le_trans
def UaH:=@Array.getD_eq_getD_getElem?
def UaI:=@List.mem_singleton
def UaJ:=@Option.map_eq_some_iff
def UaK:=@Array.getElem?_append_left
def UaL:=@List.length_drop
def UaM:=@List.getElem?_drop
def UaN:=@Bool.not_eq_true'
def UaO:=@Bool.or_eq_true
def UaP:=@Nat.add_mul
def UaQ:=@List.take_of_length_le
def UaR:=@List.append_assoc
def UaS:=@List.mem_of_mem_take
def UaT:=@Option.some.inj
def UaU:=@List.length_set
def UaV:=@Array.getElem?_setIfInBounds
def UaW:=@List.mem_or_eq_of_mem_set
def UaX:=@List.getElem?_eq_none
def UaY:=@Array.getElem?_eq_getElem
def UaZ:=@Nat.lt_of_lt_of_le
def Ua0:=@Bool.false_eq_true
def Ua1:=@List.length_eq_zero_iff
def Ua2:=@Nat.lt_succ_self
def Ua3:=@List.getElem?_set
def Ua4:=@List.pairwise_cons
def Ua5:=@List.take_append_drop
def Ua6:=@List.pairwise_append
def Ua7:=@List.getElem?_set_self
def Ua8:=@List.pairwise_iff_getElem
def Ua9:=@Nat.not_lt_zero
def Uba:=@List.getElem?_replicate
def Ubb:=@Nat.add_sub_cancel_left
def Ubc:=@Nat.add_assoc
def Ubd:=@List.mem_of_mem_drop
def Ube:=@List.all_eq_true
def Ubf:=@List.ext_getElem?
def Ubg:=@Classical.byContradiction
def Ubh:=@List.set_append_right
def Ubi:=@Nat.sub_self
def Ubj:=@List.map_take
def Ubk:=@List.set_set
def Ubl:=@List.drop_zero
def Ubm:=@List.append_nil
def Ubn:=@Nat.add_mul_mod_self_right
def Ubo:=@List.drop_length
def Ubp:=@List.not_mem_nil
def Ubq:=@Nat.max_eq_right
def Ubr:=@Nat.le_add_right
def Ubs:=@List.mem_replicate
def Ubt:=@Int.le_refl
def Ubu:=@List.getElem?_of_mem
def Ubv:=@List.size_toArray
def Ubw:=@Nat.add_comm
def Ubx:=@Nat.mul_comm
def Uby:=@List.getElem?_range
def Ubz:=@Array.toList_map
def UbA:=@Array.append_assoc
def UbB:=@Iff.rfl
def UbC:=@Nat.zero_le
def UbD:=@List.map_map
def UbE:=@List.map_set
def UbF:=@List.length_filter_le
def UbG:=@List.set_getElem_self
def UbH:=@List.length_replicate
def UbI:=@Array.getElem?_modify
def UbJ:=@Prod.mk.injEq
def UbK:=@List.drop_drop
def UbL:=@List.exists_mem_of_ne_nil
def UbM:=@Nat.mod_eq_of_lt
def UbN:=@Bool.and_true
def UbO:=@Array.getElem?_map
def UbP:=@Nat.pos_of_ne_zero
def UbQ:=@Array.getElem?_eq_none
def UbR:=@Bool.and_false
def UbS:=@List.getElem?_toArray
def UbT:=@List.getElem?_append
def UbU:=@Nat.lt_irrefl
def UbV:=@Array.toList_zipIdx
def UbW:=@Nat.one_mul
def UbX:=@Nat.zero_max
def UbY:=@List.mem_cons_self
def UbZ:=@Array.foldl_toList
def Ub0:=@List.any_eq_false
def Ub1:=@List.pairwise_map
def Ub2:=@Nat.lt_succ_of_lt
def Ub3:=@Bool.not_true
def Ub4:=@List.any_eq_true
def Ub5:=@List.range_succ
def Ub6:=@Nat.le_of_eq
def Ub7:=@UInt8.lt_irrefl
def Ub8:=@List.mem_cons_of_mem
def Ub9:=@List.mem_range
def Uca:=@Nat.add_sub_cancel
inductive Tr where
 | v (x:Value)
 | sl (es:List (List Tr))
abbrev Row:=List (List Tr)
abbrev Zd:=Nat×Nat
abbrev Zn:=List (Nat×Nat)
inductive IV where
 | un
 | tr (t:Tr)
 | cs (es:Row)
 | hd (id:Zd) (p:Zn) (off len:Nat) (cap:Option Nat) (st:Nat)
 | ab (id:Zd) (off:Nat)
 | ae (id:Zd) (p:Zn) (i f st:Nat)
 | sv (id:Zd)
 | ta (cells:List Tr)
 | ag (l:List IV)
 | tu (l:List IV)
 | fn (f:FuncId) (cap:List IV)
 | ow (k:Nat) (es:Row) (u:Bool)
 | er
inductive Ob where
 | bx (cells:List IV)
 | ar (k:Nat) (es:Row) (u:Bool) (hw ver:Nat)
 | mp (l:List (Int×Int))
abbrev Zb:=Zd->Option Ob
abbrev iI(n:Int):IV:=.tr (.v (.int .i64 n))
abbrev iB(b:Bool):IV:=.tr (.v (.bool b))
abbrev iS(s:ByteArray):IV:=.tr (.v (.string s))
def lk(t:Nat):List (Nat×IV)->IV
 | []=>.un
 | (a,x)::r=>if t=a then x else lk t r
def pt(t:Nat)(x:IV):List (Nat×IV)->List (Nat×IV)
 | []=>[(t,x)]
 | (a,y)::r=>if t=a then (t,x)::r else if t<a then (t,x)::(a,y)::r else (a,y)::pt t x r
def lkO(t:Nat):List (Nat×Ob)->Option Ob
 | []=>none
 | (a,x)::r=>if t=a then some x else lkO t r
def ptO(t:Nat)(x:Ob):List (Nat×Ob)->List (Nat×Ob)
 | []=>[(t,x)]
 | (a,y)::r=>if t=a then (t,x)::r else if t<a then (t,x)::(a,y)::r else (a,y)::ptO t x r
def rmO(t:Nat):List (Nat×Ob)->List (Nat×Ob)
 | []=>[]
 | (a,y)::r=>if t=a then rmO t r else (a,y)::rmO t r
structure St where
 lvl:Nat
 env:List (Nat×IV)
 loc:List (Nat×Ob)
 out:Zb
def ZF(lvl:Nat)(loc:List (Nat×Ob))(out:Zb):Zb:=fun id=>if id.1=lvl then lkO id.2 loc else out id
def St.sto(s:St):Zb:=ZF s.lvl s.loc s.out
def Zo(S:Zb)(id:Zd)(o:Ob):Zb:=fun i=>if i=id then some o else S i
inductive X where
 | t (n:Nat)
 | k (v:Value)
 | f (i:Nat)
def kc:Value->IV
 | .slice none _ _=>.cs []
 | v=>.tr (.v v)
def kv:Value->IV
 | .agg c=>.ag (c.toList.map kc)
 | v=>kc v
def xv(e:List (Nat×IV)):X->IV
 | .t n=>lk n e
 | .k v=>kv v
 | .f i=>.fn i []
def getp:Row->Zn->Option Row
 | es,[]=>some es
 | es,(i,f)::p =>
  match es[i]? with
  | some e =>
   match e[f]? with
   | some (.sl es')=>getp es' p
   | _=>none
  | none=>none
def ZK:Row->Zn->Nat->Nat->Tr->Row
 | es,[],i,f,t =>
  match es[i]? with
  | some e=>es.set i (e.set f t)
  | none=>es
 | es,(a,b)::p,i,f,t =>
  match es[a]? with
  | some e =>
   match e[b]? with
   | some (.sl es')=>es.set a (e.set b (.sl (ZK es' p i f t)))
   | _=>es
  | none=>es
def J2(p:Zn)(st hw ver:Nat)(u:Bool):Prop :=
 match p with
 | []=>st=hw
 | _=>u=true/\st=ver
def JU(L:Zb)(id:Zd)(p:Zn)(st:Nat)(K:Row->Bool->Nat->Prop):Prop :=
 match L id with
 | some (.ar _ es u hw ver)=>∃ es',getp es p=some es'/\J2 p st hw ver u/\K es' u ver
 | _=>False
def cvt(id:Zd)(p:Zn)(i f:Nat)(u:Bool)(ver:Nat):Tr->IV
 | .v x=>.tr (.v x)
 | .sl es=>if u then .hd id (p++[(i,f)]) 0 es.length none ver else .tr (.sl es)
def cvts(id:Zd)(p:Zn)(i:Nat)(u:Bool)(ver:Nat):Nat->List Tr->List IV
 | _,[]=>[]
 | f,t::r=>cvt id p i f u ver t::cvts id p i u ver (f+1) r
def isCell:IV->Bool
 | .un | .ag _ | .tu _ | .ow .. | .sv _=>false
 | _=>true
def cellsOf:IV->Option (List IV)
 | .ag l=>if l.all isCell then some l else none
 | x=>if isCell x then some [x] else none
def isSc:Tr->Bool
 | .v _=>true
 | _=>false
def ScR(es:Row):Prop:=∀ e∈es,∀ t∈e,isSc t=true
def ZC(k:Nat)(es:Row):Prop:=∀ e∈es,e.length=k
def cut(es:Row)(off len:Nat):Row:=(es.drop off).take len
mutual
def men(P:Zd->Prop):IV->Prop
 | .hd i .. => P i
 | .ab i _=>P i
 | .ae i .. => P i
 | .sv i=>P i
 | .ag xs=>Zc P xs
 | .tu xs=>Zc P xs
 | .fn _ xs=>Zc P xs
 | _=>True
def Zc(P:Zd->Prop):List IV->Prop
 | []=>True
 | x::r=>men P x/\Zc P r
end
def VT(L:Zb):IV->(Tr->Prop)->Prop
 | .tr t,K=>K t
 | .cs es,K=>K (.sl es)
 | .hd id p off len _ st,K=>JU L id p st fun es _ _=>off+len<=es.length/\K (.sl (cut es off len))
 | _,_=>False
def YM(L:Zb):List IV->(List Tr->Prop)->Prop
 | [],K=>K []
 | x::r,K=>VT L x fun t=>YM L r fun ts=>K (t::ts)
def Xc(o:Option Ob)(L:Zb)(off:Nat)(K:IV->Prop):Prop :=
 match o with
 | some (.bx cells)=>YM L (cells.drop off) fun ts=>K (.ta ts)
 | _=>False
mutual
def Jc(L:Zb):IV->(IV->Prop)->Prop
 | .un,K=>K .un
 | .tr t,K=>K (.tr t)
 | .cs es,K=>K (.tr (.sl es))
 | .hd id p off len _ st,K=>JU L id p st fun es _ _=>off+len<=es.length/\K (.tr (.sl (cut es off len)))
 | .ag l,K=>Z5 L l fun l' => K (.ag l')
 | .fn f c,K=>Z5 L c fun c' => K (.fn f c')
 | .ta cells,K=>K (.ta cells)
 | .er,K=>K .er
 | .ab id off,K=>Xc (L id) L off K
 | _,_=>False
def Z5(L:Zb):List IV->(List IV->Prop)->Prop
 | [],K=>K []
 | x::r,K=>Jc L x fun x' => Z5 L r fun r' => K (x'::r')
end
mutual
def noSh:IV->Prop
 | .un=>True
 | .tr t=>isSc t=true
 | .ow _ _ u=>u=true
 | .ag l=>noShs l
 | .tu l=>noShs l
 | .fn _ c=>c=[]
 | .er=>True
 | _=>False
def noShs:List IV->Prop
 | []=>True
 | x::r=>noSh x/\noShs r
end
def Va:IV->IV
 | .cs es=>.tr (.sl es)
 | x=>x
inductive CM where
 | pure | same | any | keep | see
 deriving DecidableEq
abbrev ZJ:=FuncId->Nat->List IV->Zb->IV->Zb->Prop
def impc(imp:Bool)(l b:Nat)(j:Nat):IV->IV×List Ob
 | .ow k es u=>if imp then (.hd (l,b+j) [] 0 es.length none es.length,[.ar k es u es.length 0]) else (.tr (.sl es),[])
 | x=>(x,[])
mutual
def impv(imp:Bool)(l b:Nat)(j:Nat):IV->IV×List Ob
 | .ow k es u=>impc imp l b j (.ow k es u)
 | .ag xs=>let r:=impvs imp l b j xs; (.ag r.1,r.2)
 | .tu xs=>let r:=impvs imp l b j xs; (.tu r.1,r.2)
 | x=>(x,[])
def impvs(imp:Bool)(l b:Nat)(j:Nat):List IV->List IV×List Ob
 | []=>([],[])
 | x::r =>
  let a:=impv imp l b j x;let c:=impvs imp l b (j+a.2.length) r
  (a.1::c.1,a.2++c.2)
end
inductive Cv where
 | int (k:IntKind)
 | wrap (k:IntKind)
 | str
 | rune
 | bys
 deriving DecidableEq
inductive O where
 | mv (x:X) (nz:Option Nat)
 | bx (x:X)
 | al (z:List Value) (nz:List (Nat×Nat))
 | bd (z:List Value) (ps:List (Nat×Nat×X)) (nz:List (Nat×Nat))
 | bs (k n:Nat) (z:List Value) (ps:List (Nat×X))
 | bw (k n:Nat) (z:List Value) (ps:List (Nat×X))
 | bv (k n:Nat) (z:List Value) (ps:List (Nat×X))
 | ld (m:Option Nat) (p:X)
 | st (m:Nat) (p x:X)
 | bi (op:BinOp) (w:Nat) (x y:X)
 | qa (neg:Bool) (ks:List Nat) (x y:X)
 | nt (x:X)
 | ng (x:X)
 | cv (c:Cv) (x:X)
 | mf (f:Nat) (cs:List X)
 | ms (k:Nat) (z:List Value) (l:X)
 | sx (k:Nat) (x:X) (lo hi mx:Option X)
 | ss (x:X) (lo hi:Option X)
 | fa (off:Nat) (p:X)
 | fd (off:Nat) (m:Option Nat) (x:X)
 | ia (k:Nat) (x i:X)
 | ja (k n:Nat) (p i:X)
 | ix (x i:X)
 | jx (k n:Nat) (m:Option Nat) (x i:X)
 | ln (x:X)
 | lg (x:X)
 | la (n:Nat)
 | ap (k:Nat) (md:Nat) (x y:X)
 | mm (max:Bool) (x y:X)
 | ex (i:Nat) (x:X)
 | pk (c a b:X)
 | ca (m:CM) (imp:Bool) (f:X) (xs:List X)
 | nc (x:X)
 | bt (x:X)
 | sa (n:Nat) (x:X)
 | sb (x:X)
 | nl (neg:Bool) (x:X)
 | cp (x:X)
 | sh (k:Nat) (x hi:X)
 | cl (k:Nat) (z:List Value) (x:X)
 | cy (k:Nat) (x y:X)
 | fz (x:X)
 | rk (x:X)
 | mz (f:Nat) (cs:List X)
 | lz (m:Nat) (p:X)
 | xx
 | s0 (m:Nat) (p x:X)
 | a0 (k:Nat) (x y:X)
 | a1 (k:Nat) (x y:X)
 | az (k:Nat) (z:List Value) (x n:X)
 | sy (k:Nat) (x:X) (lo hi mx:Option X)
 | lt (m:Option Nat) (p:X)
 | it (k:Nat) (x i:X)
 | sw (k:Nat) (x:X) (lo hi mx:Option X)
 | lb (m:Option Nat) (p:X) (q:Option Nat)
 | c0 (k:Nat) (x y:X)
 | a2 (k:Nat) (x y:X)
 | a4 (k:Nat) (x y:X)
 | a3 (k:Nat) (x y:X)
 | gv (key:Nat) (p x:X)
 | mk
 | mu (m k x:X)
 | ml (m k:X)
 | sk (key:Nat) (p:X) (n:Nat)
 | bc (k n:Nat) (z:List Value) (ps:List (Nat×X))
structure OP where
 d:Option Nat
 g:Option (Nat×Bool)
 o:O
inductive C2 where
 | sk
 | rg (n:Option Nat) (ops:List OP)
 | sq (a b:C2)
 | cd (c:X) (a b:C2)
 | bl (id:Nat) (c:C2)
 | lp (ks js:List Nat) (c:C2)
 | fg (ks js:List Nat) (c:C2)
 | no
 | ex (id:Nat)
 | rt
end Go.Fd
namespace Go.Fd
def noS:Zb:=fun _=>none
def trv:Value->Tr
 | .slice none _ _=>.sl []
 | v=>.v v
def zfill(l b:Nat):List (Nat×Nat)->List IV->List IV
 | [],cs=>cs
 | (i,_)::r,cs=>zfill l (b+1) r (cs.set i (.hd (l,b) [] 0 0 none 0))
def zobs(nz:List (Nat×Nat)):List Ob:=nz.map fun p=>.ar p.2 [] true 0 0
def Yb(cs:List IV)(off:Nat):List IV->List IV
 | []=>cs
 | x::r=>Yb (cs.set off x) (off+1) r
def okp(ρ:X->IV)(len:Nat):List (Nat×Nat×X)->Prop
 | []=>True
 | (off,n,x)::r =>
  (match cellsOf (ρ x) with
  | some l=>l.length=n
  | none=>False)/\off+n<=len/\okp ρ len r
def fpart(ρ:X->IV):List (Nat×Nat×X)->List IV->List IV
 | [],cs=>cs
 | (off,_,x)::r,cs=>fpart ρ r (Yb cs off ((cellsOf (ρ x)).getD []))
def totr:IV->Option (Tr×Bool)
 | .tr (.v x)=>some (.v x,true)
 | .tr (.sl es)=>some (.sl es,false)
 | .cs []=>some (.sl [],true)
 | .cs es=>some (.sl es,false)
 | _=>none
def totrs:List IV->Option (List Tr×Bool)
 | []=>some ([],true)
 | x::r =>
  match totr x,totrs r with
  | some (t,a),some (ts,b)=>some (t::ts,a&&b)
  | _,_=>none
def Y0(ρ:X->IV)(k:Nat):List (Nat×X)->Row->Bool->(Row->Bool->Prop)->Prop
 | [],es,u,K=>K es u
 | (i,x)::r,es,u,K =>
  match cellsOf (ρ x) with
  | some l =>
   match totrs l with
   | some (ts,a)=>ts.length=k/\i<es.length/\Y0 ρ k r (es.set i ts) (u&&a) K
   | none=>False
  | none=>False
def ZZ(k:IntKind)(n:Int):Prop:=k.min<=n/\n<=k.max
def bigN:Nat:=4294967296
def Jr:BinOp->Nat->Value->Value->(Value->Prop)->Prop
 | .add,0,.int k a,.int j b,K=>k=j/\ZZ k (a+b)/\K (.int k (a+b))
 | .sub,0,.int k a,.int j b,K=>k=j/\ZZ k (a-b)/\K (.int k (a-b))
 | .mul,0,.int k a,.int j b,K=>k=j/\ZZ k (a*b)/\K (.int k (a*b))
 | .add,1,.int k a,.int j b,K=>k=j/\K (.int k (k.wrap (a+b)))
 | .sub,1,.int k a,.int j b,K=>k=j/\K (.int k (k.wrap (a-b)))
 | .mul,1,.int k a,.int j b,K=>k=j/\K (.int k (k.wrap (a*b)))
 | .quo,_,.int k a,.int j b,K=>k=j/\0<=a/\0<b/\ZZ k a/\K (.int k (a / b))
 | .rem,_,.int k a,.int j b,K=>k=j/\0<=a/\0<b/\K (.int k (a % b))
 | .shr,_,.int k a,.int _ b,K=>0<=b/\K (.int k (a.fdiv (2 ^ min b.toNat k.bits)))
 | .and,_,.int k a,.int j b,K=>k=j/\K (.int k (k.wrap ((BitVec.ofInt k.bits a &&& BitVec.ofInt k.bits b).toNat:Int)))
 | .eql,_,.int k a,.int j b,K=>k=j/\K (.bool (decide (a=b)))
 | .neq,_,.int k a,.int j b,K=>k=j/\K (.bool (decide (a≠b)))
 | .lss,_,.int k a,.int j b,K=>k=j/\K (.bool (decide (a<b)))
 | .leq,_,.int k a,.int j b,K=>k=j/\K (.bool (decide (a<=b)))
 | .gtr,_,.int k a,.int j b,K=>k=j/\K (.bool (decide (b<a)))
 | .geq,_,.int k a,.int j b,K=>k=j/\K (.bool (decide (b<=a)))
 | .eql,2,.bool a,.bool b,K=>K (.bool (a == b))
 | .neq,2,.bool a,.bool b,K=>K (.bool (a != b))
 | .eql,3,.nilIface,.nilIface,K=>K (.bool true)
 | .neq,3,.nilIface,.nilIface,K=>K (.bool false)
 | .add,_,.string a,.string b,K=>a.size+b.size<=bigN/\K (.string (a++b))
 | .eql,_,.string a,.string b,K=>K (.bool (decide (a=b)))
 | .neq,_,.string a,.string b,K=>K (.bool (decide (a≠b)))
 | .lss,_,.string a,.string b,K=>K (.bool (Op.bytesLess a.data.toList b.data.toList))
 | .gtr,_,.string a,.string b,K=>K (.bool (!(Op.bytesLess a.data.toList b.data.toList || decide (a=b))))
 | .leq,_,.string a,.string b,K=>K (.bool (Op.bytesLess a.data.toList b.data.toList || decide (a=b)))
 | .geq,_,.string a,.string b,K=>K (.bool (!Op.bytesLess a.data.toList b.data.toList))
 | _,_,_,_,_=>False
def Xd:Nat->IV->IV->(Bool->Prop)->Prop
 | 0,.tr (.v (.int k a)),.tr (.v (.int j b)),K=>k=j/\K (decide (a=b))
 | 1,.tr (.v (.bool a)),.tr (.v (.bool b)),K=>K (a == b)
 | 2,.tr (.v (.string a)),.tr (.v (.string b)),K=>K (decide (a=b))
 | _,_,_,_=>False
def YN:List Nat->List IV->List IV->(Bool->Prop)->Prop
 | [],[],[],K=>K true
 | q::qs,x::r,y::s,K=>Xd q x y fun a=>YN qs r s fun b=>K (a&&b)
 | _,_,_,_=>False
def ZT(ρ:X->IV):Option X->Nat->(Nat->Prop)->Prop
 | none,n,K=>K n
 | some x,_,K =>
  match ρ x with
  | .tr (.v (.int _ n))=>0<=n/\K n.toNat
  | _=>False
def JV(L:Zb)(id:Zd)(p:Zn)(k:Nat):Prop :=
 match L id with
 | some (.ar k' es _ _ _) =>
  match p with
  | []=>k'=k
  | p=>∃ es',getp es p=some es'/\ZC k es'/\es' ≠ []
 | _=>False
def Vb:Row->Option (List UInt8)
 | []=>some []
 | [.v (.int .u8 n)]::r=>(Vb r).map (UInt8.ofNat n.toNat :: ·)
 | _=>none
def Yc:=(Nat->Nat->IV)->(Nat->Nat->List Ob)->Prop
def ZH(K:Yc)(x:IV):Prop:=K (fun _ _=>x) (fun _ _=>[])
abbrev Qf(L S:Zb)(l:Nat)(i:Zd):Prop:=i.1<l/\∀ ob,L i=some ob->S i=some ob
abbrev XY(L S:Zb)(l:Nat)(i:Zd):Prop:=Qf L S l i/\∀ cells,L i=some (.bx cells)->Zc (Qf L S l) cells
def Vj(S:Zb)(x:IV)(F:Row->Prop):Prop :=
 match x with
 | .tr (.sl zs)=>F zs
 | .cs zs=>F zs
 | .hd id p off len _ s=>JU S id p s fun es _ _=>off+len<=es.length/\F (cut es off len)
 | _=>False
def WK(s:ByteArray):Row:=s.data.toList.map fun b=>[.v (.int .u8 b.toNat)]
def VU:IV->IV->Prop
 | .ab i _,.ab j _=>i≠j
 | _,_=>False
def VV(ρ:X->IV)(p:X):Option Nat->Prop
 | none=>True
 | some q=>VU (ρ p) (ρ (.t q))
def ev(C:ZJ)(ρ:X->IV)(L:Zb)(K:Yc):O->Prop
 | .mv x none=>ZH K (ρ x)
 | .mv x (some k) =>
  match ρ x with
  | .cs []=>K (fun l b=>.hd (l,b) [] 0 0 none 0) (fun _ _=>[.ar k [] true 0 0])
  | _=>False
 | .bx x =>
  match cellsOf (ρ x) with
  | some c=>K (fun l b=>.ab (l,b) 0) (fun _ _=>[.bx c])
  | none=>False
 | .bv k n _ ps =>
  match ps with
  | [(0,x)]=>n=1 /\
   match cellsOf (ρ x) with
   | some c=>c.length=k/\K (fun l b=>.sv (l,b)) (fun _ _=>[.bx c])
   | none=>False
  | _=>False
 | .al z nz=>K (fun l b=>.ab (l,b) 0) (fun l b=>.bx (zfill l (b+1) nz (z.map kc))::zobs nz)
 | .bd z ps nz=>okp ρ z.length ps/\K (fun l b=>.ag (fpart ρ ps (zfill l b nz (z.map kc)))) (fun _ _=>zobs nz)
 | .bs k n z ps=>Y0 ρ k ps (List.replicate n (z.map trv)) true fun es u=>K (fun l b=>.hd (l,b) [] 0 n none n) (fun _ _=>[.ar k es u n 0])
 | .bc k n z ps=>Y0 ρ k ps (List.replicate n (z.map trv)) true fun es _=>ZH K (.tr (.sl es))
 | .ld none p =>
  match ρ p with
  | .ta cells=>∃ c,cells[0]? = some c/\ZH K (.tr c)
  | .ab id off =>
   match L id with
   | some (.bx cells)=>∃ x,cells[off]? = some x/\ZH K x
   | _=>False
  | .ae id p i f st=>JU L id p st fun es u ver=>∃ e,es[i]? = some e/\∃ t,e[f]? = some t/\ZH K (cvt id p i f u ver t)
  | _=>False
 | .ld (some m) p =>
  match ρ p with
  | .ta cells=>m<=cells.length/\ZH K (.ag ((cells.take m).map .tr))
  | .ab id off =>
   match L id with
   | some (.bx cells)=>off+m<=cells.length/\ZH K (.ag ((cells.drop off).take m))
   | _=>False
  | .ae id p i f st=>JU L id p st fun es u ver=>∃ e,es[i]? = some e/\f+m<=e.length/\ZH K (.ag (cvts id p i u ver f ((e.drop f).take m)))
  | _=>False
 | .lt none p =>
  match ρ p with
  | .ta cells=>∃ c,cells[0]? = some c/\ZH K (.tr c)
  | _=>False
 | .lt (some m) p =>
  match ρ p with
  | .ta cells=>m<=cells.length/\ZH K (.ag ((cells.take m).map .tr))
  | _=>False
 | .lb none p q=>VV ρ p q /\
  match ρ p with
  | .ab id off =>
   match L id with
   | some (.bx cells)=>∃ x,cells[off]? = some x/\ZH K x
   | _=>False
  | _=>False
 | .lb (some m) p q=>VV ρ p q /\
  match ρ p with
  | .ab id off =>
   match L id with
   | some (.bx cells)=>off+m<=cells.length/\ZH K (.ag ((cells.drop off).take m))
   | _=>False
  | _=>False
 | .it k x i =>
  match ρ i with
  | .tr (.v (.int _ n))=>0<=n /\
   match ρ x with
   | .tr (.sl es)=>∃ e,es[n.toNat]? = some e/\e.length=k/\ZH K (.ta e)
   | .cs es=>∃ e,es[n.toNat]? = some e/\e.length=k/\ZH K (.ta e)
   | _=>False
  | _=>False
 | .bi op w x y =>
  match ρ x,ρ y with
  | .tr (.v a),.tr (.v b)=>Jr op w a b fun r=>ZH K (.tr (.v r))
  | .er,.tr (.v .nilIface) =>
   match op,w with
   | .eql,3=>ZH K (iB false)
   | .neq,3=>ZH K (iB true)
   | _,_=>False
  | _,_=>False
 | .qa neg ks x y =>
  match ρ x,ρ y with
  | .ag l,.ag m=>YN ks l m fun b=>ZH K (iB (if neg then !b else b))
  | _,_=>False
 | .nt x =>
  match ρ x with
  | .tr (.v (.bool b))=>ZH K (iB (!b))
  | _=>False
 | .ng x =>
  match ρ x with
  | .tr (.v (.int k n))=>ZZ k (-n)/\ZH K (.tr (.v (.int k (-n))))
  | _=>False
 | .cv c x =>
  match c,ρ x with
  | .int k,.tr (.v (.int _ n))=>ZZ k n/\ZH K (.tr (.v (.int k n)))
  | .wrap k,.tr (.v (.int _ n))=>ZH K (.tr (.v (.int k (k.wrap n))))
  | .str,.tr (.v (.string s))=>ZH K (iS s)
  | .rune,.tr (.v (.int _ n))=>0<=n/\n<128/\ZH K (iS ⟨#[n.toNat.toUInt8]⟩)
  | .bys,.tr (.v (.string s))=>ZH K (.tr (.sl (WK s)))
  | _,_=>False
 | .mf f cs=>((cs.map ρ).all isCell)=true/\ZH K (.fn f (cs.map ρ))
 | .ms k z l =>
  match ρ l with
  | .tr (.v (.int .i64 n))=>0<=n/\n<=bigN/\K (fun l b=>.hd (l,b) [] 0 n.toNat none n.toNat) (fun _ _=>[.ar k (List.replicate n.toNat (z.map trv)) true n.toNat 0])
  | _=>False
 | .sx k x lo hi mx =>
  match ρ x with
  | .tr (.sl es)=>(lo.isSome=true->ZC k es)/\ZT ρ lo 0 fun a=>ZT ρ hi es.length fun b=>a<=b/\b<=es.length/\ZT ρ mx b fun m=>m=b/\ZH K (if mx.isSome then .cs (cut es a (b-a)) else .tr (.sl (cut es a (b-a))))
  | .cs es=>(lo.isSome=true->ZC k es)/\ZT ρ lo 0 fun a=>ZT ρ hi es.length fun b=>a<=b/\b<=es.length/\ZT ρ mx b fun m=>m=b/\ZH K (if mx.isSome || hi.isNone then .cs (cut es a (b-a)) else .tr (.sl (cut es a (b-a))))
  | .hd id p off len cap st=>ZT ρ lo 0 fun a=>ZT ρ hi len fun b=>a<=b/\b<=len/\ZT ρ mx b fun m=>b<=m/\m<=len/\JV L id p k/\ZH K (.hd id p (off+a) (b-a) (if mx.isSome then some (m-a) else cap.map (· - a)) st)
  | _=>False
 | .a3 k x y =>
  match ρ x with
  | .cs zs=>Vj L (ρ y) fun items=>items≠[]/\ScR items/\ZC k zs/\ZC k items/\zs.length+items.length<=bigN/\ZH K (.tr (.sl (zs++items)))
  | _=>False
 | .sy k x lo hi mx =>
  match ρ x with
  | .tr (.sl es)=>(lo.isSome=true->ZC k es)/\ZT ρ lo 0 fun a=>ZT ρ hi es.length fun b=>a<=b/\b<=es.length/\ZT ρ mx b fun m=>m=b/\ZH K (if mx.isSome then .cs (cut es a (b-a)) else .tr (.sl (cut es a (b-a))))
  | .cs es=>(lo.isSome=true->ZC k es)/\ZT ρ lo 0 fun a=>ZT ρ hi es.length fun b=>a<=b/\b<=es.length/\ZT ρ mx b fun m=>m=b/\ZH K (if mx.isSome || hi.isNone then .cs (cut es a (b-a)) else .tr (.sl (cut es a (b-a))))
  | _=>False
 | .sw k x lo hi mx =>
  match ρ x with
  | .tr (.sl es)=>(lo.isSome=true->ZC k es)/\ZT ρ lo 0 fun a=>ZT ρ hi es.length fun b=>a<=b/\b<=es.length/\ZT ρ mx b fun m=>m=b/\ZH K (if mx.isSome then .cs (cut es a (b-a)) else .tr (.sl (cut es a (b-a))))
  | .cs es=>(lo.isSome=true->ZC k es)/\ZT ρ lo 0 fun a=>ZT ρ hi es.length fun b=>a<=b/\b<=es.length/\ZT ρ mx b fun m=>m=b/\ZH K (if mx.isSome || hi.isNone then .cs (cut es a (b-a)) else .tr (.sl (cut es a (b-a))))
  | .hd id [] off len cap st=>JV L id [] k/\ZT ρ lo 0 fun a=>ZT ρ hi len fun b=>a<=b/\b<=len/\ZT ρ mx b fun m=>b<=m/\m<=len/\ZH K (.hd id [] (off+a) (b-a) (if mx.isSome then some (m-a) else cap.map (· - a)) st)
  | _=>False
 | .ss x lo hi =>
  match ρ x with
  | .tr (.v (.string s))=>ZT ρ lo 0 fun a=>ZT ρ hi s.size fun b=>a<=b/\b<=s.size/\ZH K (iS (s.extract a b))
  | _=>False
 | .fa off p =>
  match ρ p with
  | .ta cells=>ZH K (.ta (cells.drop off))
  | .ab id o=>ZH K (.ab id (o+off))
  | .ae id p i f st=>ZH K (.ae id p i (f+off) st)
  | _=>False
 | .fd off none x =>
  match ρ x with
  | .ag l=>∃ y,l[off]? = some y/\ZH K y
  | _=>False
 | .fd off (some m) x =>
  match ρ x with
  | .ag l=>off+m<=l.length/\ZH K (.ag ((l.drop off).take m))
  | _=>False
 | .ia k x i =>
  match ρ i with
  | .tr (.v (.int _ n))=>0<=n /\
   match ρ x with
   | .tr (.sl es)=>∃ e,es[n.toNat]? = some e/\e.length=k/\ZH K (.ta e)
   | .cs es=>∃ e,es[n.toNat]? = some e/\e.length=k/\ZH K (.ta e)
   | .hd id p off len _ st=>JU L id p st fun es _ _=>n.toNat<len/\∃ e,es[off+n.toNat]? = some e/\e.length=k/\ZH K (.ae id p (off+n.toNat) 0 st)
   | _=>False
  | _=>False
 | .ja k m p i =>
  match ρ i with
  | .tr (.v (.int _ n))=>0<=n/\n.toNat<m /\
   match ρ p with
   | .ta cells=>ZH K (.ta (cells.drop (n.toNat*k)))
   | .ab id o=>ZH K (.ab id (o+n.toNat*k))
   | .ae id p i f st=>ZH K (.ae id p i (f+n.toNat*k) st)
   | _=>False
  | _=>False
 | .ix x i =>
  match ρ x,ρ i with
  | .tr (.v (.string s)),.tr (.v (.int _ n))=>0<=n/\∃ b,s.data.toList[n.toNat]? = some b/\ZH K (.tr (.v (.int .u8 b.toNat)))
  | _,_=>False
 | .jx k m none x i =>
  match ρ x,ρ i with
  | .ag l,.tr (.v (.int _ n))=>0<=n/\n.toNat<m/\∃ y,l[n.toNat*k]? = some y/\ZH K y
  | _,_=>False
 | .jx k m (some q) x i =>
  match ρ x,ρ i with
  | .ag l,.tr (.v (.int _ n))=>0<=n/\n.toNat<m/\n.toNat*k+q<=l.length/\ZH K (.ag ((l.drop (n.toNat*k)).take q))
  | _,_=>False
 | .ln x =>
  match ρ x with
  | .tr (.sl es)=>ZH K (iI es.length)
  | .cs es=>ZH K (iI es.length)
  | .hd _ _ _ len _ _=>ZH K (iI len)
  | _=>False
 | .lg x =>
  match ρ x with
  | .tr (.v (.string s))=>ZH K (iI s.size)
  | _=>False
 | .la n=>ZH K (iI n)
 | .mm mx x y =>
  match ρ x,ρ y with
  | .tr (.v (.int k a)),.tr (.v (.int j b))=>k=j/\ZH K (.tr (.v (.int k (if mx then max a b else min a b))))
  | _,_=>False
 | .ex i x =>
  match ρ x with
  | .tu l=>∃ y,l[i]? = some y/\ZH K y
  | _=>False
 | .pk c a b =>
  match ρ c with
  | .tr (.v (.bool t))=>ZH K (if t then ρ a else ρ b)
  | _=>False
 | .ca .pure imp f xs =>
  match ρ f with
  | .fn fid caps=>Z5 L (xs.map ρ++caps) fun args=>∃ r,(∀ lvl S,C fid lvl args S r S)/\(Zc (fun _=>False) (xs.map ρ++caps)\/noSh r)/\K (fun l b=>(impv imp l b 0 r).1) (fun l b=>(impv imp l b 0 r).2)
  | _=>False
 | .ca .see imp f xs =>
  match ρ f with
  | .fn fid caps=>∃ r,(∀ l S,Zc (XY L S l) (xs.map ρ++caps)->C fid l (xs.map ρ++caps) S r S)/\K (fun l b=>(impv imp l b 0 r).1) (fun l b=>(impv imp l b 0 r).2)
  | _=>False
 | .nc x =>
  match ρ x with
  | .ta cells=>ZH K (.ta cells)
  | .ab id o=>ZH K (.ab id o)
  | .ae id p i f st=>ZH K (.ae id p i f st)
  | _=>False
 | .bt x =>
  match cellsOf (ρ x) with
  | some c =>
   match totrs c with
   | some (ts,_)=>ZH K (.ta ts)
   | none=>False
  | none=>False
 | .sa n x =>
  match ρ x with
  | .ta cells=>n<=cells.length/\ZH K (.cs ((cells.take n).map fun c=>[c]))
  | _=>False
 | .sb x =>
  match ρ x with
  | .tr (.sl es)=>∃ l,Vb es=some l/\ZH K (iS ⟨l.toArray⟩)
  | .cs es=>∃ l,Vb es=some l/\ZH K (iS ⟨l.toArray⟩)
  | .hd id p off len _ st=>JU L id p st fun es _ _=>off+len<=es.length/\∃ l,Vb (cut es off len)=some l/\ZH K (iS ⟨l.toArray⟩)
  | _=>False
 | _=>False
def freshK(b:Nat)(loc:List (Nat×Ob)):Nat->Prop
 | 0=>True
 | n+1=>lkO b loc=none/\freshK (b+1) loc n
def addO(b:Nat):List Ob->List (Nat×Ob)->List (Nat×Ob)
 | [],loc=>loc
 | o::r,loc=>addO (b+1) r (ptO b o loc)
def ptd(d:Option Nat)(x:IV)(env:List (Nat×IV)):List (Nat×IV) :=
 match d with
 | some d=>pt d x env
 | none=>env
def keyOf(d:Option Nat):Nat:=match d with | some d=>d*32 | none=>0
def Zp(st:St)(id:Zd)(o:Ob):St :=
 if id.1=st.lvl then { st with loc:=ptO id.2 o st.loc } else { st with out:=Zo st.out id o }
mutual
def scr(id:Zd):IV->IV
 | .hd i p off len cap s=>if i=id then .un else .hd i p off len cap s
 | .ab i o=>if i=id then .un else .ab i o
 | .sv i=>if i=id then .un else .sv i
 | .ae i p a b s=>if i=id then .un else .ae i p a b s
 | .ag l=>.ag (scrs id l)
 | .tu l=>.tu (scrs id l)
 | .fn f l=>.fn f (scrs id l)
 | x=>x
def scrs(id:Zd):List IV->List IV
 | []=>[]
 | x::r=>scr id x::scrs id r
end
def scrOb(id:Zd):Ob->Ob
 | .bx cells=>.bx (scrs id cells)
 | o=>o
def scrE(id:Zd):List (Nat×IV)->List (Nat×IV)
 | []=>[]
 | (t,x)::r=>(t,scr id x)::scrE id r
def scrL(id:Zd):List (Nat×Ob)->List (Nat×Ob)
 | []=>[]
 | (t,x)::r=>(t,scrOb id x)::scrL id r
def Zw(id:Zd)(st:St):St:={ st with env:=scrE id st.env,loc:=scrL id (rmO id.2 st.loc) }
def Vv(id:Zd)(st:St):St :=
 match st.sto id with
 | none=>st
 | some _=>Zw id st
def WL(x:IV)(st:St)(K:Tr->St->Prop):Prop :=
 match x with
 | .tr t=>K t st
 | .cs es=>K (.sl es) st
 | .hd id [] 0 len none s=>id.1=st.lvl /\
  match st.sto id with
  | some (.ar _ zs _ hw _)=>s=hw/\len=zs.length/\K (.sl zs) (Zw id st)
  | _=>False
 | _=>False
def Y1:List IV->St->(List Tr->St->Prop)->Prop
 | [],st,K=>K [] st
 | x::r,st,K=>WL x st fun t st1=>Y1 r st1 fun ts st2=>K (t::ts) st2
def U4(x:IV)(st:St)(K:List Tr->St->Prop):Prop :=
 match x with
 | .ta ts=>K ts st
 | .ab id 0=>id.1=st.lvl /\
  match st.sto id with
  | some (.bx cells) =>
   match totrs cells with
   | some (ts,_)=>K ts (Zw id st)
   | none=>Y1 cells st fun ts st1=>K ts (Zw id st1)
  | _=>False
 | _=>False
def XZ:List X->St->(List IV->St->Prop)->Prop
 | [],st,K=>K [] st
 | x::r,st,K=>U4 (xv st.env x) st fun t st1=>XZ r st1 fun ts st2=>K (.ta t::ts) st2
abbrev low(l:Nat)(x:IV):Prop:=men (fun i=>i.1<l) x
abbrev Jk(l:Nat)(x:List IV):Prop:=Zc (fun i=>i.1<l) x
def U5:Tr->Option Nat
 | .sl es=>some es.length
 | _=>none
def Y2(a b:Int):List (Int×Int)->List (Int×Int)
 | []=>[(a,b)]
 | (x,y)::r=>if a=x then (x,b)::r else (x,y)::Y2 a b r
def Vw(a:Int):List (Int×Int)->Option Int
 | []=>none
 | (x,y)::r=>if a=x then some y else Vw a r
def X0(st:St)(id:Zd)(p:Zn)(i f s:Nat)(x:IV)(K:St->Prop):Prop :=
 match st.sto id with
 | some (.ar k es u hw ver)=>∃ es',getp es p=some es'/\J2 p s hw ver u/\∃ e,es'[i]? = some e/\∃ t0,e[f]? = some t0 /\
  match x with
  | .tr (.v y)=>isSc t0=true/\K (Zp st id (.ar k (ZK es p i f (.v y)) u hw ver))
  | .cs []=>p=[]/\K (Zp st id (.ar k (ZK es [] i f (.sl [])) u hw (ver+1)))
  | .cs zs=>p=[]/\K (Zp st id (.ar k (ZK es [] i f (.sl zs)) false hw (ver+1)))
  | .tr (.sl zs)=>p=[]/\K (Zp st id (.ar k (ZK es [] i f (.sl zs)) false hw (ver+1)))
  | .hd id2 [] 0 len none s2=>p=[]/\id2≠id/\id2.1=st.lvl /\
   match st.sto id2 with
   | some (.ar _ zs u2 hw2 _)=>s2=hw2/\len=zs.length/\K (Zp (Zw id2 st) id (.ar k (ZK es [] i f (.sl zs)) (u&&u2) hw (ver+1)))
   | _=>False
  | .hd id2 [(a,b)] 0 len none s2=>p=[]/\id2=id/\a=i/\b=f/\u=true/\s2=ver/\U5 t0=some len/\K (Zp st id (.ar k es u hw ver))
  | _=>False
 | _=>False
def YO(id:Zd)(p:Zn)(i s:Nat):Nat->List IV->St->(St->Prop)->Prop
 | _,[],st,K=>K st
 | f,x::r,st,K=>X0 st id p i f s x fun st' => YO id p i s (f+1) r st' K
def Xe(st:St)(x:IV)(K:Tr->Bool->St->Prop):Prop :=
 match x with
 | .hd id2 [] 0 len none s2=>id2.1=st.lvl /\
  match st.sto id2 with
  | some (.ar _ zs u2 hw2 _)=>s2=hw2/\len=zs.length/\K (.sl zs) u2 (Zw id2 st)
  | _=>False
 | x =>
  match totr x with
  | some (t,a)=>K t a st
  | none=>False
def Y3:List IV->St->(List Tr->Bool->St->Prop)->Prop
 | [],st,K=>K [] true st
 | x::r,st,K=>Xe st x fun t a st' => Y3 r st' fun ts b st'' => K (t::ts) (a&&b) st''
def Js(d:Option Nat)(k:Nat)(x:X)(loc:List (Nat×Ob))(items:Row)(ui:Bool)(st1:St)(K:St->Prop):Prop :=
 ZC k items /\
 match xv st1.env x with
 | .cs zs=>(zs=[]\/items≠[])/\zs.length+items.length<=bigN/\ZC k zs/\freshK (keyOf d) loc 1/\(zs=[]\/ui=false\/ScR zs) /\
  K { Zp st1 (st1.lvl,keyOf d) (.ar k (zs++items) ui (zs.length+items.length) 0) with env:=ptd d (.hd (st1.lvl,keyOf d) [] 0 (zs.length+items.length) none (zs.length+items.length)) st1.env }
 | .hd id [] 0 len none s =>
  match st1.sto id with
  | some (.ar k' es u hw ver)=>k'=k/\s=hw/\len=es.length/\len+items.length<=bigN /\
   K { Zp st1 id (.ar k (es++items) (u&&ui) (max hw (len+items.length)) ver) with env:=ptd d (.hd id [] 0 (len+items.length) none (max hw (len+items.length))) st1.env }
  | _=>False
 | _=>False
def QP(st:St)(x:IV)(F:Row->Prop):Prop :=
 match x with
 | .tr (.sl zs)=>F zs
 | .cs zs=>F zs
 | .hd id p off len _ s=>JU st.sto id p s fun es _ _=>off+len<=es.length/\F (cut es off len)
 | _=>False
def QQ(p:Zn)(i:Nat):Nat->List IV->Row->(Row->Prop)->Prop
 | _,[],es,K=>K es
 | f,x::r,es,K=>∃ es',getp es p=some es'/\∃ e,es'[i]? = some e/\∃ t0,e[f]? = some t0/\isSc t0=true /\
  match x with
  | .tr (.v y)=>QQ p i (f+1) r (ZK es p i f (.v y)) K
  | _=>False
def U6(x:IV)(F:Row->Prop):Prop :=
 match x with
 | .tr (.sl zs)=>F zs
 | .cs zs=>F zs
 | _=>False
def Uq(S:Zb)(x:IV)(F:Row->Prop):Prop :=
 match x with
 | .hd id [] off len _ s =>
  match S id with
  | some (.ar _ es false hw _)=>s=hw/\off+len<=es.length/\F (cut es off len)
  | _=>False
 | _=>False
def JG(ρ:X->IV)(S:Zb)(K:IV->Zd->Ob->Prop):O->Prop
 | .s0 m p x =>
  match cellsOf (ρ x) with
  | some l=>l.length=m /\
   match ρ p with
   | .ab id off =>
    match S id with
    | some (.bx cells)=>off+l.length<=cells.length/\Jk (id.1+1) l/\K (.tu []) id (.bx (Yb cells off l))
    | _=>False
   | .ae id p i f s =>
    match S id with
    | some (.ar k es u hw ver)=>l≠[]/\J2 p s hw ver u/\QQ p i f l es fun es' => K (.tu []) id (.ar k es' u hw ver)
    | _=>False
   | _=>False
  | none=>False
 | .a0 k x y =>
  match ρ x with
  | .hd id [] 0 len none s =>
   match S id with
   | some (.ar k' es u hw ver)=>k'=k/\s=hw/\len=es.length/\Vj S (ρ y) fun items=>ScR items/\ZC k items/\len+items.length<=bigN /\
     K (.hd id [] 0 (len+items.length) none (max hw (len+items.length))) id (.ar k (es++items) u (max hw (len+items.length)) ver)
   | _=>False
  | _=>False
 | .a1 k x y =>
  match ρ x with
  | .hd id [] 0 len none s =>
   match S id with
   | some (.ar k' es u hw ver)=>k'=k/\s=hw/\len=es.length/\U6 (ρ y) fun items=>ZC k items/\len+items.length<=bigN /\
     K (.hd id [] 0 (len+items.length) none (max hw (len+items.length))) id (.ar k (es++items) false (max hw (len+items.length)) ver)
   | _=>False
  | _=>False
 | .a2 k x y =>
  match ρ x with
  | .hd id [] 0 len none s =>
   match S id with
   | some (.ar k' es u hw ver)=>k'=k/\s=hw/\len=es.length/\Uq S (ρ y) fun items=>ZC k items/\len+items.length<=bigN /\
     K (.hd id [] 0 (len+items.length) none (max hw (len+items.length))) id (.ar k (es++items) false (max hw (len+items.length)) ver)
   | _=>False
  | _=>False
 | .c0 k x y =>
  match ρ x with
  | .hd id [] off len _ s =>
   match S id with
   | some (.ar k2 es u hw ver)=>k2=k/\s=hw/\off+len<=es.length/\ScR es/\Vj S (ρ y) fun zs=>ScR zs/\ZC k zs /\
     K (iI (min zs.length len:Nat)) id (.ar k (es.take off++zs.take len++es.drop (off+min zs.length len)) u hw (ver+1))
   | _=>False
  | _=>False
 | _=>False
def gvo(o o2:Option Ob)(id:Zd)(off key len s:Nat)(id2:Zd)(st:St)(K:St->Prop):Prop :=
 match o with
 | some (.bx cells) =>
  match o2 with
  | some (.ar k zs u hw ver)=>off+1<=cells.length/\s=hw/\len=zs.length/\K (Zp (Zp (Zw id2 st) (id.1,key) (.ar k zs u hw ver)) id (.bx (Yb cells off [.hd (id.1,key) [] 0 len none s])))
  | _=>False
 | _=>False
def gvf(p x:IV)(key:Nat)(st:St)(K:St->Prop):Prop :=
 match p with
 | .ab id off =>
  match x with
  | .hd id2 [] 0 len none s=>id2.1=st.lvl/\id.1<st.lvl/\st.sto (id.1,key)=none/\gvo (st.sto id) (st.sto id2) id off key len s id2 st K
  | _=>False
 | _=>False
def U7(lvl kd:Nat)(id:Zd)(o:Option Ob):Prop :=
 match o with
 | some (.bx [.hd idr _ _ _ _ _])=>idr.1=lvl/\idr.2<kd/\id≠idr
 | _=>False
def Xf(lvl kd:Nat)(L:Zb)(x y:IV):Prop :=
 match x with
 | .hd id _ _ _ _ _ =>
  match y with
  | .sv id2=>id.1=lvl/\id.2<kd/\id2.1=lvl/\id2.2<kd/\id≠id2/\U7 lvl kd id (L id2)
  | _=>False
 | _=>False
def X1(d:Option Nat)(k:Nat)(x y:X)(st:St)(K:St->Prop):Prop :=
 match xv st.env y with
 | .sv id2=>id2.1=st.lvl /\
  match st.sto id2 with
  | some (.bx l)=>l.length=k/\Y3 l st fun ts u st' => Js d k x st.loc [ts] u (Zw id2 st') K
  | _=>False
 | _=>False
def rkk(n key:Nat)(st:St)(K:St->Prop):Prop :=
 match lk n st.env with
 | .hd id [] 0 len none s=>id.1=st.lvl /\
  if id.2=key then K st
  else
   match st.sto id with
   | some (.ar k zs u hw ver)=>s=hw/\len=zs.length /\
     K { Zp (Zw id (Vv (st.lvl,key) st)) (st.lvl,key) (.ar k zs u hw ver) with env:=ptd (some n) (.hd (st.lvl,key) [] 0 len none s) (Zw id (Vv (st.lvl,key) st)).env }
   | _=>False
 | _=>False
def ZbI(p x:X)(K:St->Prop)(st:St):Prop :=
 match cellsOf (xv st.env x) with
 | some l=>l.length=1 /\
  match xv st.env p with
  | .ab id off =>
   match st.sto id with
   | some (.bx cells)=>off+l.length<=cells.length/\Jk (id.1+1) l/\K (Zp st id (.bx (Yb cells off l)))
   | _=>False
  | _=>False
 | none=>False
def muf(m k x:IV)(st:St)(K:St->Prop):Prop :=
 match m with
 | .sv id =>
  match st.sto id with
  | some (.mp l) =>
   match k with
   | .tr (.v (.int .i64 a)) =>
    match x with
    | .tr (.v (.int .i64 b))=>K (Zp st id (.mp (Y2 a b l)))
    | _=>False
   | _=>False
  | _=>False
 | _=>False
def mlf(d:Option Nat)(m k:IV)(st:St)(K:St->Prop):Prop :=
 match m with
 | .sv id =>
  match st.sto id with
  | some (.mp l) =>
   match k with
   | .tr (.v (.int .i64 a))=>K { st with env:=ptd d (.tu [iI ((Vw a l).getD 0),iB (Vw a l).isSome]) st.env }
   | _=>False
  | _=>False
 | _=>False
def ew(C:ZJ)(d:Option Nat)(st:St)(K:St->Prop):O->Prop
 | .st m p x=>d=none /\
  match cellsOf (xv st.env x) with
  | some l=>l.length=m /\
   match xv st.env p with
   | .ab id off =>
    match st.sto id with
    | some (.bx cells)=>off+l.length<=cells.length/\Jk (id.1+1) l/\K (Zp st id (.bx (Yb cells off l)))
    | _=>False
   | .ae id p i f s=>YO id p i s f l st K
   | _=>False
  | none=>False
 | .mk=>freshK (keyOf d) st.loc 1/\K { Zp st (st.lvl,keyOf d) (.mp []) with env:=ptd d (.sv (st.lvl,keyOf d)) st.env }
 | .mu m k x=>d=none/\muf (xv st.env m) (xv st.env k) (xv st.env x) st K
 | .ml m k=>mlf d (xv st.env m) (xv st.env k) st K
 | .sk key p n=>d=none/\rkk n key st (ZbI p (.t n) K)
 | .gv key p x=>d=none/\gvf (xv st.env p) (xv st.env x) key st K
 | .s0 m p x=>d=none/\JG (xv st.env) st.sto (fun _ id ob=>K (Zp st id ob)) (.s0 m p x)
 | .a0 k x y=>JG (xv st.env) st.sto (fun v id ob=>K { Zp st id ob with env:=ptd d v st.env }) (.a0 k x y)
 | .a1 k x y=>JG (xv st.env) st.sto (fun v id ob=>K { Zp st id ob with env:=ptd d v st.env }) (.a1 k x y)
 | .a2 k x y=>JG (xv st.env) st.sto (fun v id ob=>K { Zp st id ob with env:=ptd d v st.env }) (.a2 k x y)
 | .a4 k x y=>Xf st.lvl (keyOf d) st.sto (xv st.env x) (xv st.env y)/\X1 d k x y st K
 | .c0 k x y=>JG (xv st.env) st.sto (fun v id ob=>K { Zp st id ob with env:=ptd d v st.env }) (.c0 k x y)
 | .az k z x n =>
  match xv st.env x with
  | .cs [] =>
   match xv st.env n with
   | .tr (.v (.int .i64 m))=>0<m/\m<=bigN/\freshK (keyOf d) st.loc 1 /\
     K { Zp st (st.lvl,keyOf d) (.ar k (List.replicate m.toNat (z.map trv)) true m.toNat 0) with env:=ptd d (.hd (st.lvl,keyOf d) [] 0 m.toNat none m.toNat) st.env }
   | _=>False
  | _=>False
 | .bw k n _ ps =>
  match ps with
  | [(0,x)]=>n=1 /\
   match cellsOf (xv st.env x) with
   | some l=>l.length=k/\freshK (keyOf d) st.loc 1/\Y3 l st fun ts u st' =>
     K { Zp st' (st.lvl,keyOf d) (.ar k [ts] u 1 0) with env:=ptd d (.hd (st.lvl,keyOf d) [] 0 1 none 1) st'.env }
   | none=>False
  | _=>False
 | .ap k md x y =>
  match xv st.env y with
  | .tr (.sl es)=>if md=0 then ScR es/\Js d k x st.loc es true st K else md=1/\Js d k x st.loc es false st K
  | .cs es=>if md=0 then ScR es/\Js d k x st.loc es true st K else md=1/\Js d k x st.loc es false st K
  | .hd id2 p2 off2 len2 c2 s2 =>
   if md=2 then
    p2=[]/\off2=0/\c2=none/\id2.1=st.lvl /\
    match st.sto id2 with
    | some (.ar _ zs u2 hw2 _)=>s2=hw2/\len2=zs.length/\Js d k x st.loc zs u2 (Zw id2 st) K
    | _=>False
   else if md=0 then
    JU st.sto id2 p2 s2 fun es _ _=>off2+len2<=es.length/\ScR (cut es off2 len2)/\Js d k x st.loc (cut es off2 len2) true st K
   else md=1/\p2=[] /\
    match st.sto id2 with
    | some (.ar k2 es _ hw2 ver2)=>s2=hw2/\off2+len2<=es.length/\Js d k x st.loc (cut es off2 len2) false (Zp st id2 (.ar k2 es false hw2 ver2)) K
    | _=>False
  | .sv id2=>md=2/\id2.1=st.lvl /\
   match st.sto id2 with
   | some (.bx l)=>l.length=k/\Y3 l st fun ts u st' => Js d k x st.loc [ts] u (Zw id2 st') K
   | _=>False
  | _=>False
 | .ca .same imp f xs =>
  match xv st.env f with
  | .fn fid caps=>∃ r,C fid (st.lvl+1) ((xs.map (xv st.env)).map Va++caps) st.sto r st.sto /\
    let q:=impv imp st.lvl (keyOf d) 0 r
    freshK (keyOf d) st.loc q.2.length/\K { st with env:=ptd d q.1 st.env,loc:=addO (keyOf d) q.2 st.loc }
  | _=>False
 | .ca .keep imp f xs =>
  match xv st.env f with
  | .fn fid caps=>∃ r,C fid (st.lvl+1) (xs.map (xv st.env)++caps) st.sto r st.sto /\
    let q:=impv imp st.lvl (keyOf d) 0 r
    freshK (keyOf d) st.loc q.2.length/\K { st with env:=ptd d q.1 st.env,loc:=addO (keyOf d) q.2 st.loc }
  | _=>False
 | .ca .any imp f xs =>
  match xv st.env f with
  | .fn fid caps=>∃ r loc' out',(∀ i,i.1=st.lvl->out' i=st.out i)/\C fid (st.lvl+1) ((xs.map (xv st.env)).map Va++caps) st.sto r (ZF st.lvl loc' out') /\
    let q:=impv imp st.lvl (keyOf d) 0 r
    freshK (keyOf d) loc' q.2.length/\K { st with env:=ptd d q.1 st.env,loc:=addO (keyOf d) q.2 loc',out:=out' }
  | _=>False
 | .nl neg x =>
  match xv st.env x with
  | .tr (.sl es)=>K { st with env:=ptd d (iB neg) st.env }/\(es=[]->K { st with env:=ptd d (iB !neg) st.env })
  | .cs es=>K { st with env:=ptd d (iB neg) st.env }/\(es=[]->K { st with env:=ptd d (iB !neg) st.env })
  | _=>False
 | .cp x =>
  match xv st.env x with
  | .cs es=>K { st with env:=ptd d (iI es.length) st.env }
  | _=>False
 | .sh k x hi =>
  match xv st.env x with
  | .cs es =>
   match xv st.env hi with
   | .tr (.v (.int _ m))=>m=es.length/\ZC k es/\K { st with env:=ptd d (.cs es) st.env }
   | _=>False
  | .hd id p off len cap s =>
   match xv st.env hi with
   | .tr (.v (.int _ m)) =>
    match st.sto id with
    | some (.ar k2 es u hw ver)=>p=[]/\off=0/\cap=none/\k2=k/\s=hw/\0<=m/\m.toNat<=len/\len<=es.length /\
      K { Zp st id (.ar k2 (es.take m.toNat) u hw (ver+1)) with env:=ptd d (.hd id [] 0 m.toNat none hw) st.env }
    | _=>False
   | _=>False
  | _=>False
 | .cl k _ x =>
  match xv st.env x with
  | .hd id p off len _ s =>
   match st.sto id with
   | some (.ar k2 es u hw ver)=>p=[]/\k2=k/\s=hw/\off+len=es.length /\
     K { Zp st id (.ar k2 (es.take off) u hw (ver+1)) with env:=ptd d (.tu []) st.env }
   | _=>False
  | _=>False
 | .cy k x y =>
  match xv st.env x with
  | .hd id p off len _ s =>
   match st.sto id with
   | some (.ar k2 es u hw ver)=>p=[]/\k2=k/\s=hw/\off+len<=es.length/\ScR es /\
     QP st (xv st.env y) fun zs=>ScR zs/\ZC k zs /\
      K { Zp st id (.ar k2 (es.take off++zs.take len++es.drop (off+min zs.length len)) u hw (ver+1)) with env:=ptd d (iI (min zs.length len:Nat)) st.env }
   | _=>False
  | _=>False
 | .fz x =>
  match xv st.env x with
  | .hd id [] 0 len none s=>id.1=st.lvl /\
   match st.sto id with
   | some (.ar _ zs _ hw _)=>s=hw/\len=zs.length/\K { Zw id st with env:=ptd d (.tr (.sl zs)) (Zw id st).env }
   | _=>False
  | _=>False
 | .rk x =>
  match xv st.env x with
  | .hd id [] 0 len none s=>id.1=st.lvl/\(st.lvl,keyOf d)≠id /\
   match st.sto id with
   | some (.ar k zs u hw ver)=>s=hw/\len=zs.length /\
     K { Zp (Zw id (Vv (st.lvl,keyOf d) st)) (st.lvl,keyOf d) (.ar k zs u hw ver) with env:=ptd d (.hd (st.lvl,keyOf d) [] 0 len none s) (Zw id (Vv (st.lvl,keyOf d) st)).env }
   | _=>False
  | _=>False
 | .lz m p =>
  match xv st.env p with
  | .ab id off =>
   match st.sto id with
   | some (.bx cells)=>off+m<=cells.length/\Y1 ((cells.drop off).take m) st fun ts st1=>K { st1 with env:=ptd d (.ag (ts.map .tr)) st1.env }
   | _=>False
  | _=>False
 | .mz f cs=>XZ cs st fun l st1=>K { st1 with env:=ptd d (.fn f l) st1.env }
 | _=>False
def JA:O->Bool
 | .st .. | .gv .. | .mk | .mu .. | .ml .. | .sk .. | .bw .. | .ap .. | .nl .. | .cp .. | .sh .. | .cl .. | .cy .. | .fz .. | .rk .. | .mz .. | .lz .. | .xx | .s0 .. | .a0 .. | .a1 .. | .a2 .. | .a4 .. | .c0 .. | .az .. | .ca .same .. | .ca .any .. | .ca .keep .. => true
 | _=>false
def ZD(C:ZJ)(d:Option Nat)(o:O)(st:St)(K:St->Prop):Prop :=
 if JA o then ew C d st K o
 else ev C (xv st.env) st.sto (fun mk obs=>freshK (keyOf d) st.loc (obs st.lvl (keyOf d)).length /\
  K { st with env:=ptd d (mk st.lvl (keyOf d)) st.env,loc:=addO (keyOf d) (obs st.lvl (keyOf d)) st.loc }) o
def Yg(C:ZJ)(o:OP)(st:St)(K:St->Prop):Prop :=
 match o.g with
 | none=>ZD C o.d o.o st K
 | some (j,w) =>
  match lk j st.env with
  | .tr (.v (.bool c)) =>
   (c=w->ZD C o.d o.o { st with env:=pt j (iB w) st.env } K) /\
   (c = !w->K { st with env:=ptd o.d (.tu []) (pt j (iB !w) st.env) })
  | .tu []=>K { st with env:=ptd o.d (.tu []) st.env }
  | _=>False
def Vc(C:ZJ):List OP->St->(St->Prop)->Prop
 | [],st,K=>K st
 | o::r,st,K=>Yg C o st fun st' => Vc C r st' K
inductive Ex where
 | nrm
 | ext (id:Nat)
 | ret
def Xg(ks:List Nat):List (Nat×IV)->List (Nat×IV)
 | []=>[]
 | (t,x)::r=>if t∈ks then (t,x)::Xg ks r else Xg ks r
def X2(js:List Nat):List (Nat×Ob)->List (Nat×Ob)
 | []=>[]
 | (t,x)::r=>if t∈js then (t,x)::X2 js r else X2 js r
def fgt(ks js:List Nat)(st:St):St:={ st with env:=Xg ks st.env,loc:=X2 js st.loc }
abbrev Yh(l:Nat)(js:List Nat)(x:IV):Prop:=men (fun i=>i.1=l->i.2∈js) x
abbrev VW(l:Nat)(js:List Nat)(x:List IV):Prop:=Zc (fun i=>i.1=l->i.2∈js) x
def Ur(l:Nat)(js:List Nat):List (Nat×IV)->Prop
 | []=>True
 | (_,x)::r=>Yh l js x/\Ur l js r
def Qy(l:Nat)(js:List Nat):List (Nat×Ob)->Prop
 | []=>True
 | (_,.bx cells)::r=>VW l js cells/\Qy l js r
 | _::r=>Qy l js r
def clean(ks js:List Nat)(st:St):Prop:=Ur st.lvl js (Xg ks st.env)/\Qy st.lvl js (X2 js st.loc)
def wp(C:ZJ):C2->St->(Ex->St->Prop)->Prop
 | .sk,st,Q=>Q .nrm st
 | .rg _ ops,st,Q=>Vc C ops st (Q .nrm)
 | .sq a b,st,Q=>wp C a st fun e st' => match e with | .nrm=>wp C b st' Q | e=>Q e st'
 | .cd c a b,st,Q =>
  match xv st.env c with
  | .tr (.v (.bool t))=>(t=true->wp C a st Q)/\(t=false->wp C b st Q)
  | _=>False
 | .bl id c,st,Q=>wp C c st fun e st' => match e with | .ext i=>if i=id then Q .nrm st' else Q (.ext i) st' | e=>Q e st'
 | .lp ks js c,st,Q=>∃ I:Nat->St->Prop,(clean ks js st/\∃ n,I n (fgt ks js st)) /\
   ∀ n s,I n s->wp C c s fun e s' => match e with | .nrm=>clean ks js s'/\∃ m,m<n/\I m (fgt ks js s') | e=>Q e s'
 | .fg ks js c,st,Q=>clean ks js st/\wp C c (fgt ks js st) Q
 | .no,_,_=>False
 | .ex id,st,Q=>Q (.ext id) st
 | .rt,st,Q=>Q .ret st
inductive RS where
 | t (n:Nat) (ks:List Nat)
 | c (n:Nat) (m:Option Nat) (ks:List Nat)
 | k (n:Nat)
def Yr(k:Nat)(x:IV)(st:St)(K:IV->St->Prop):Prop :=
 match x with
 | .hd id p off len cap s =>
  if id.1=st.lvl then
   match st.sto id with
   | some (.ar k' es u hw _)=>p=[]/\s=hw /\
    (match k with
    | 0=>off+len<=es.length/\K (.tr (.sl (cut es off len))) (Zw id st)
    | k1+1=>k1=k'/\off=0/\len=es.length/\cap=none/\K (.ow k' es u) (Zw id st))
   | _=>False
  else K (.hd id p off len cap s) st
 | .cs es =>
  match k,es with
  | k1+1,[]=>K (.ow k1 [] true) st
  | _,es=>K (.tr (.sl es)) st
 | .ab id o=>id.1≠st.lvl/\K (.ab id o) st
 | .ae .. | .ta .. | .ag .. | .tu .. | .ow .. | .sv _=>False
 | .fn f c=>Jk st.lvl c/\K (.fn f c) st
 | x=>K x st
def Xh:List Nat->List IV->St->(List IV->St->Prop)->Prop
 | ks,x::r,st,K=>Yr (ks.headD 0) x st fun y st' => Xh ks.tail r st' fun ys st'' => K (y::ys) st''
 | _,[],st,K=>K [] st
def Y4(ks:List Nat)(x:IV)(st:St)(K:IV->St->Prop):Prop :=
 match x with
 | .ag l=>Xh ks l st fun l' st' => K (.ag l') st'
 | x=>Yr (ks.headD 0) x st K
def X3:RS->St->(IV->St->Prop)->Prop
 | .k n,st,K =>
  match lk n st.env with
  | .cs es=>K (.cs es) st
  | _=>False
 | .t n ks,st,K=>Y4 ks (lk n st.env) st K
 | .c n m ks,st,K =>
  match lk n st.env with
  | .ab id off =>
   match st.sto id with
   | some (.bx cells) =>
    match m with
    | some m=>off+m<=cells.length/\Y4 ks (.ag ((cells.drop off).take m)) st K
    | none=>∃ x,cells[off]? = some x/\isCell x=true/\Y4 ks x st K
   | _=>False
  | _=>False
def X4:List RS->St->(List IV->St->Prop)->Prop
 | [],st,K=>K [] st
 | r::rs,st,K=>X3 r st fun x st' => X4 rs st' fun xs st'' => K (x::xs) st''
def Jt(rs:List RS)(st:St)(K:IV->Zb->Prop):Prop :=
 X4 rs st fun xs st' => match xs with | [x]=>K x st'.out | xs=>K (.tu xs) st'.out
def params:Nat->List IV->List (Nat×IV)
 | _,[]=>[]
 | n,x::r=>(n,x)::params (n+1) r
structure F2 where
 nt:Nat
 res:List RS
 body:C2
def wpF(C:ZJ)(f:F2)(lvl:Nat)(args:List IV)(out:Zb)(K:IV->Zb->Prop):Prop :=
 args.length<=f.nt/\wp C f.body ⟨lvl,params 0 args,[],out⟩ fun e st=>match e with | .ext _=>False | _=>Jt f.res st K
end Go.Fd
namespace Go.Fd
def Jw:Value->Bool
 | .bool _ | .int .. | .string _ | .nilIface | .nilFunc=>true
 | _=>false
inductive Rds (w:World) (A:Nat->Prop):Value->Tr->Prop
 | v (x:Value) (h:Jw x=true):Rds w A x (.v x)
 | nil (a:Option Addr) (c:Nat):Rds w A (.slice a 0 c) (.sl [])
 | sl (b o c k:Nat) (es:Row) (f:Nat->Nat->Value) (hA:A b) (hk:ZC k es) (hl:es.length<=c)
   (hc:∀ i e j t,es[i]? = some e->e[j]? = some t->w.cell? ⟨b,o+i*k+j,none⟩=some (f i j))
   (hr:∀ i e j t,es[i]? = some e->e[j]? = some t->Rds w A (f i j) t):Rds w A (.slice (some ⟨b,o,none⟩) es.length c) (.sl es)
theorem Zem{w w':World}{a:Addr}(h:w'.heap[a.block]? = w.heap[a.block]?):w'.cell? a=w.cell? a:=World.cell?_of_block h
theorem Rds.mono{w w':World}{A A':Nat->Prop}(hA:∀ b,A b->A' b)(hh:∀ b,A b->w'.heap[b]? = w.heap[b]?){v:Value}{t:Tr}
  (h:Rds w A v t):Rds w' A' v t:=by
 induction h with
 | v x h=>exact .v x h
 | nil a c=>exact .nil a c
 | sl b o c k es f hb hk hl hc hr ih =>
  exact .sl b o c k es f (hA _ hb) hk hl (fun i e j t h1 h2=>by rw[Zem (hh _ hb)];exact hc i e j t h1 h2) ih
abbrev Gh:=Zd->Zn->Option (Nat×Nat)
def ZM(G:Gh)(id:Zd):Ob->Nat->Prop
 | .bx _,b=>∃ c,G id []=some (b,c)
 | .mp _,b=>∃ c,G id []=some (b,c)
 | .ar _ es u _ _,b=>∃ p c,(p=[]\/u=true)/\(getp es p).isSome=true/\G id p=some (b,c)
def Av(G:Gh)(S:Zb)(w:World)(b:Nat):Prop:=b<w.heap.size/\∀ id ob,S id=some ob -> ¬ ZM G id ob b
def Vx:Option (Nat×Nat)->Nat
 | some (_,c)=>c
 | none=>0
def bnd(p:Zn)(st hw ver:Nat):Prop :=
 match p with
 | []=>st<=hw
 | _=>st<=ver
def Vk(G:Gh)(S:Zb)(id:Zd)(p:Zn)(off len:Nat)(cap:Option Nat)(st:Nat)(v:Value):Prop :=
 (∃ a c,v = .slice a len c/\len<=c)/\∃ k es u hw ver,S id=some (.ar k es u hw ver)/\bnd p st hw ver/\(J2 p st hw ver u->∃ es' k' a c,getp es p=some es'/\(p=[]->k'=k)/\ZC k' es' /\
  v = .slice a len c/\len<=c/\(∀ m,cap=some m->c=m)/\(cap=none->p=[]->c=Vx (G id p)-off) /\
  (c=0\/(p≠[]/\len=0)\/∃ b c0,G id p=some (b,c0)/\a=some ⟨b,off*k',none⟩/\off+c<=c0))
def QR(G:Gh)(S:Zb)(id:Zd)(p:Zn)(i f st:Nat)(v:Value):Prop :=
 (∃ ad,v = .pointer (some ad))/\∃ k es u hw ver,S id=some (.ar k es u hw ver)/\bnd p st hw ver/\(J2 p st hw ver u->∃ es' k' b c0,getp es p=some es'/\(p=[]->k'=k)/\ZC k' es' /\
  G id p=some (b,c0)/\v = .pointer (some ⟨b,i*k'+f,none⟩))
def abR(G:Gh)(S:Zb)(id:Zd)(off:Nat)(v:Value):Prop :=
 ∃ cells b c,S id=some (.bx cells)/\G id []=some (b,c)/\v = .pointer (some ⟨b,off,none⟩)
def svR(G:Gh)(S:Zb)(id:Zd)(v:Value):Prop :=
 (∃ cells b c,S id=some (.bx cells)/\G id []=some (b,c)/\v = .slice (some ⟨b,0,none⟩) 1 1)\/∃ l b c,S id=some (.mp l)/\G id []=some (b,c)/\v = .map (some b)
def WM(w:World)(A:Nat->Prop)(cells:List Tr)(v:Value):Prop :=
 ∃(b o:Nat) (f:Nat->Value),A b/\v = .pointer (some ⟨b,o,none⟩)/\∀ j t,cells[j]? = some t->w.cell? ⟨b,o+j,none⟩=some (f j)/\Rds w A (f j) t
mutual
def VR(G:Gh)(S:Zb)(w:World):IV->Value->Prop
 | .un,_=>True
 | .tr t,v=>Rds w (Av G S w) v t
 | .cs es,v=>(∃ a,v = .slice a es.length es.length)/\Rds w (Av G S w) v (.sl es)
 | .hd id p off len cap st,v=>Vk G S id p off len cap st v
 | .ab id off,v=>abR G S id off v
 | .sv id,v=>svR G S id v
 | .ae id p i f st,v=>QR G S id p i f st v
 | .ta cells,v=>WM w (Av G S w) cells v
 | .ag l,v=>∃ vs:List Value,v = .agg vs.toArray/\Zu G S w l vs
 | .tu l,v=>∃ vs:List Value,v = .tuple vs.toArray/\Zu G S w l vs
 | .fn f c,v=>∃ vs:List Value,v = .func (.func f) #[] vs.toArray/\Zu G S w c vs
 | .ow ..,_=>False
 | .er,v=>∃ t x,v = .iface t x
def Zu(G:Gh)(S:Zb)(w:World):List IV->List Value->Prop
 | [],vs=>vs=[]
 | x::r,vs=>∃ v vr,vs=v::vr/\VR G S w x v/\Zu G S w r vr
end
def Jl(G:Gh)(w:World)(A:Nat->Prop)(id:Zd)(p:Zn)(u:Bool)(i f:Nat)(x:Value):Tr->Prop
 | .v y=>x=y/\Jw y=true
 | .sl es =>
  if u then ∃ a c,x = .slice a es.length c/\es.length<=c/\(es.length=0\/∃ b c0,G id (p++[(i,f)])=some (b,c0)/\a=some ⟨b,0,none⟩/\c<=c0)
  else Rds w A x (.sl es)
def Z7(G:Gh)(w:World)(A:Nat->Prop)(id:Zd)(p:Zn)(k:Nat)(u:Bool)(es:Row):Prop :=
 match G id p with
 | none=>es=[]
 | some (b,c)=>∃(k':Nat) (vs:Array Value) (ty:TypeId),(p=[]->k'=k)/\ZC k' es/\w.heap[b]? = some (.cells vs ty (0,0))/\vs.size=c*k'/\es.length<=c /\
   ∀ i e f t,es[i]? = some e->e[f]? = some t->∃ x,vs[i*k'+f]? = some x/\Jl G w A id p u i f x t
def Vd(G:Gh)(S:Zb)(w:World)(id:Zd):Ob->Prop
 | .bx cells=>∃(b c:Nat) (vs:Array Value) (ty:TypeId),G id []=some (b,c)/\w.heap[b]? = some (.cells vs ty (0,0))/\Zu G S w cells vs.toList
 | .mp l=>∃(b c:Nat) (es:Array MapEntry) (ck:Nat),G id []=some (b,c)/\w.heap[b]? = some (.map es ck)/\es.toList.map (fun e=>(e.key,e.val))=l.map fun q=>(Value.int .i64 q.1,Value.int .i64 q.2)
 | .ar k es u hw _=>es.length<=hw/\ZC k es/\(hw<=Vx (G id [])/\Vx (G id [])<=9223372036854775807)/\(∀ p es',(p=[]\/u=true)->getp es p=some es'->Z7 G w (Av G S w) id p k u es') /\
   ∀ p p' b c c',(p=[]\/u=true)->(p'=[]\/u=true)->(getp es p).isSome=true->(getp es p').isSome=true->G id p=some (b,c)->G id p'=some (b,c')->p=p'
structure SOk (G:Gh) (S:Zb) (w:World):Prop where
 obs:∀ id ob,S id=some ob->Vd G S w id ob
 dis:∀ id ob id' ob' b,S id=some ob->S id'=some ob'->ZM G id ob b->ZM G id' ob' b->id=id'
 low:∀ id cells,S id=some (.bx cells)->Jk (id.1+1) cells
theorem YP{G:Gh}{S:Zb}{w:World}:∀{l:List IV} {vs:List Value},Zu G S w l vs->vs.length=l.length
 | [],vs,h=>by simp only[Zu] at h;subst h;rfl
 | x::r,vs,h=>by simp only[Zu] at h;obtain⟨v,vr,rfl,_,h2⟩:=h;simp [YP h2]
theorem Y5{G:Gh}{S:Zb}{w:World}:∀{l:List IV} {vs:List Value},Zu G S w l vs->∀(i:Nat) (x:IV),l[i]? = some x->∃ v,vs[i]? = some v/\VR G S w x v
 | [],vs,h,i,x,hx=>by simp at hx
 | y::r,vs,h,i,x,hx=>by
  simp only[Zu] at h;obtain⟨v,vr,rfl,h1,h2⟩:=h;cases i with
  | zero=>simp at hx;subst hx;exact⟨v,rfl,h1⟩
  | succ i=>simp at hx;obtain⟨u,hu,hv⟩:=Y5 h2 i x hx;exact⟨u,by simpa using hu,hv⟩
theorem Zak{G:Gh}{S:Zb}{w:World}:∀{l:List IV} {vs:List Value},vs.length=l.length->(∀(i:Nat) (x:IV) (v:Value),l[i]? = some x->vs[i]? = some v->VR G S w x v)->Zu G S w l vs
 | [],vs,hl,h=>by simp at hl;subst hl;rfl
 | y::r,[],hl,h=>by simp at hl
 | y::r,v::vr,hl,h=>⟨v,vr,rfl,h 0 y v rfl rfl,Zak (by simpa using hl) fun i x u hx hu=>h (i+1) x u (by simpa using hx) (by simpa using hu)⟩
theorem Zal{G:Gh}{S:Zb}{w:World}{l l':List IV}{vs vs':List Value}(h:Zu G S w l vs)(h':Zu G S w l' vs'):Zu G S w (l++l') (vs++vs'):=by
 induction l generalizing vs with
 | nil=>simp only[Zu] at h;subst h;simpa using h'
 | cons x r ih =>
  simp only[Zu] at h;obtain⟨v,vr,rfl,h1,h2⟩:=h;exact⟨v,vr++vs',rfl,h1,ih h2⟩
theorem Zam{G:Gh}{S:Zb}{w:World}{l:List IV}{vs:List Value}(h:Zu G S w l vs)(n:Nat):Zu G S w (l.drop n) (vs.drop n) :=
 Zak (by simp [YP h]) fun i x v hx hv=>by simp only[UaM] at hx hv;obtain⟨u,hu,hr⟩:=Y5 h _ _ hx;rw[hv] at hu;cases hu;exact hr
theorem Zan{G:Gh}{S:Zb}{w:World}{l:List IV}{vs:List Value}(h:Zu G S w l vs)(n:Nat):Zu G S w (l.take n) (vs.take n) :=
 Zak (by simp [YP h]) fun i x v hx hv=>by
  rw[UaB] at hx hv;split at hx
  ·rename_i hi;rw[if_pos hi] at hv;obtain⟨u,hu,hr⟩:=Y5 h _ _ hx;rw[hv] at hu;cases hu;exact hr
  ·cases hx
def idR(G G':Gh)(id:Zd):Ob->Ob->Prop
 | .bx _,.bx _=>G' id []=G id []
 | .mp _,.mp _=>G' id []=G id []
 | .ar k es u hw ver,.ar k2 es2 u2 hw2 ver2=>k2=k/\hw<=hw2/\ver<=ver2/\∀ p st,bnd p st hw ver->J2 p st hw2 ver2 u2->J2 p st hw ver u /\
   ∀ es',getp es p=some es'->G' id p=G id p/\∃ es2',getp es2 p=some es2'/\∀ k',(p=[]->k'=k)->ZC k' es'->ZC k' es2'
 | _,_=>False
theorem Qg{G G':Gh}{id:Zd}(h:G' id=G id)(ob:Ob):idR G G' id ob ob:=by
 cases ob with
 | bx c=>simp [idR,h]
 | mp l=>simp [idR,h]
 | ar k es u hw ver=>exact⟨rfl,Ual _,Ual _,fun p st _ hs=>⟨hs,fun es' he=>⟨by rw[h],es',he,fun _ _ hk=>hk⟩⟩⟩
section step
variable {G G':Gh} {S S':Zb} {w w':World} {P:Zd->Prop}
theorem Zid{p:Zn}{st hw ver hw2 ver2:Nat}(h1:hw<=hw2)(h2:ver<=ver2)(h:bnd p st hw ver):bnd p st hw2 ver2:=by
 cases p with
 | nil=>exact UaG h h1
 | cons q p=>exact UaG h h2
theorem Zp4{id:Zd}{p:Zn}{off len:Nat}{cap:Option Nat}{st:Nat}{v:Value}(hid:∀ ob,S id=some ob->∃ ob',S' id=some ob'/\idR G G' id ob ob')
  (h:Vk G S id p off len cap st v):Vk G' S' id p off len cap st v:=by
 obtain⟨h0,k,es,u,hw,ver,hs,hb,hv⟩:=h;obtain⟨ob',hs',hr⟩:=hid _ hs;cases ob' with
 | bx c=>exact hr.elim
 | mp l=>exact hr.elim
 | ar k2 es2 u2 hw2 ver2 =>
  obtain⟨rfl,hw1,hv1,hr⟩:=hr;refine⟨h0,k2,es2,u2,hw2,ver2,hs',Zid hw1 hv1 hb,fun hst=>?_⟩;obtain⟨h1,h3⟩:=hr p st hb hst;obtain⟨es',k',a,c,g1,g2,g3,g4⟩:=hv h1;obtain⟨h2,es2',e1,e2⟩:=h3 es' g1;exact⟨es2',k',a,c,e1,g2,e2 _ g2 g3,by rw[h2];exact g4⟩
theorem Zp5{id:Zd}{p:Zn}{i f st:Nat}{v:Value}(hid:∀ ob,S id=some ob->∃ ob',S' id=some ob'/\idR G G' id ob ob')
  (h:QR G S id p i f st v):QR G' S' id p i f st v:=by
 obtain⟨h0,k,es,u,hw,ver,hs,hb,hv⟩:=h;obtain⟨ob',hs',hr⟩:=hid _ hs;cases ob' with
 | bx c=>exact hr.elim
 | mp l=>exact hr.elim
 | ar k2 es2 u2 hw2 ver2 =>
  obtain⟨rfl,hw1,hv1,hr⟩:=hr;refine⟨h0,k2,es2,u2,hw2,ver2,hs',Zid hw1 hv1 hb,fun hst=>?_⟩;obtain⟨h1,h3⟩:=hr p st hb hst;obtain⟨es',k',b,c,g1,g2,g3,g4⟩:=hv h1;obtain⟨h2,es2',e1,e2⟩:=h3 es' g1;exact⟨es2',k',b,c,e1,g2,e2 _ g2 g3,by rw[h2];exact g4⟩
theorem Zp6{id:Zd}{off:Nat}{v:Value}(hid:∀ ob,S id=some ob->∃ ob',S' id=some ob'/\idR G G' id ob ob')
  (h:abR G S id off v):abR G' S' id off v:=by
 obtain⟨cells,b,c,hs,hg,hv⟩:=h;obtain⟨ob',hs',hr⟩:=hid _ hs;cases ob' with
 | bx c2=>exact⟨c2,b,c,hs',by rw[show G' id []=G id [] from hr];exact hg,hv⟩
 | mp l=>exact hr.elim
 | ar=>exact hr.elim
theorem Zp7{id:Zd}{v:Value}(hid:∀ ob,S id=some ob->∃ ob',S' id=some ob'/\idR G G' id ob ob')
  (h:svR G S id v):svR G' S' id v:=by
 rcases h with ⟨cells,b,c,hs,hg,hv⟩ | ⟨l,b,c,hs,hg,hv⟩
 ·obtain⟨ob',hs',hr⟩:=hid _ hs;cases ob' with
  | bx c2=>exact .inl ⟨c2,b,c,hs',by rw[show G' id []=G id [] from hr];exact hg,hv⟩
  | mp l=>exact hr.elim
  | ar=>exact hr.elim
 ·obtain⟨ob',hs',hr⟩:=hid _ hs;cases ob' with
  | mp l2=>exact .inr ⟨l2,b,c,hs',by rw[show G' id []=G id [] from hr];exact hg,hv⟩
  | bx c=>exact hr.elim
  | ar=>exact hr.elim
theorem Zie{A A':Nat->Prop}{cells:List Tr}{v:Value}(hA:∀ b,A b->A' b)(hh:∀ b,A b->w'.heap[b]? = w.heap[b]?)(h:WM w A cells v):WM w' A' cells v:=by
 obtain⟨b,o,f,hb,hv,hc⟩:=h;exact⟨b,o,f,hA _ hb,hv,fun j t ht=>by
  obtain⟨h1,h2⟩:=hc j t ht;exact⟨by rw[Zem (hh _ hb)];exact h1,h2.mono hA hh⟩⟩
mutual
theorem X5(hA:∀ b,Av G S w b->Av G' S' w' b)(hh:∀ b,Av G S w b->w'.heap[b]? = w.heap[b]?)
  (hid:∀ id ob,P id->S id=some ob->∃ ob',S' id=some ob'/\idR G G' id ob ob'):∀(x:IV) (v:Value),men P x->VR G S w x v->VR G' S' w' x v
 | .un,_,_,_=>trivial
 | .tr t,v,_,h=>Rds.mono hA hh h
 | .cs es,v,_,h=>⟨h.1,Rds.mono hA hh h.2⟩
 | .hd id p off len cap st,v,hm,h=>by simp only[VR,men] at *;exact Zp4 (hid id · hm) h
 | .ab id off,v,hm,h=>by simp only[VR,men] at *;exact Zp6 (hid id · hm) h
 | .sv id,v,hm,h=>by simp only[VR,men] at *;exact Zp7 (hid id · hm) h
 | .ae id p i f st,v,hm,h=>by simp only[VR,men] at *;exact Zp5 (hid id · hm) h
 | .ta cells,v,_,h=>Zie hA hh h
 | .ag l,v,hm,h=>by simp only[VR,men] at *;obtain⟨vs,hv,hl⟩:=h;exact⟨vs,hv,QT hA hh hid l vs hm hl⟩
 | .tu l,v,hm,h=>by simp only[VR,men] at *;obtain⟨vs,hv,hl⟩:=h;exact⟨vs,hv,QT hA hh hid l vs hm hl⟩
 | .fn f l,v,hm,h=>by simp only[VR,men] at *;obtain⟨vs,hv,hl⟩:=h;exact⟨vs,hv,QT hA hh hid l vs hm hl⟩
 | .ow k es u,v,_,h=>by simp only[VR] at h
 | .er,v,_,h=>by simp only[VR] at *;exact h
theorem QT(hA:∀ b,Av G S w b->Av G' S' w' b)(hh:∀ b,Av G S w b->w'.heap[b]? = w.heap[b]?)
  (hid:∀ id ob,P id->S id=some ob->∃ ob',S' id=some ob'/\idR G G' id ob ob'):∀(l:List IV) (vs:List Value),Zc P l->Zu G S w l vs->Zu G' S' w' l vs
 | [],vs,_,h=>by simp only[Zu] at *;exact h
 | x::r,vs,hm,h=>by simp only[Zu,Zc] at *;obtain⟨v,vr,rfl,h1,h2⟩:=h;exact⟨v,vr,rfl,X5 hA hh hid x v hm.1 h1,QT hA hh hid r vr hm.2 h2⟩
end
end step
mutual
theorem JZ{P Q:Zd->Prop}(h:∀ i,P i->Q i):∀ x,men P x->men Q x
 | .hd ..,hm=>h _ hm
 | .ab ..,hm=>h _ hm
 | .sv _,hm=>h _ hm
 | .ae ..,hm=>h _ hm
 | .ag l,hm=>by simp only[men] at *;exact JK h l hm
 | .tu l,hm=>by simp only[men] at *;exact JK h l hm
 | .fn f l,hm=>by simp only[men] at *;exact JK h l hm
 | .un,_=>trivial
 | .tr _,_=>trivial
 | .cs _,_=>trivial
 | .ta _,_=>trivial
 | .ow ..,_=>trivial
 | .er,_=>trivial
theorem JK{P Q:Zd->Prop}(h:∀ i,P i->Q i):∀ l,Zc P l->Zc Q l
 | [],_=>trivial
 | x::r,hm=>⟨JZ h x hm.1,JK h r hm.2⟩
end
mutual
theorem Us{G:Gh}{S:Zb}{w:World}:∀ x v,VR G S w x v->men (fun i=>(S i).isSome=true) x
 | .hd ..,v,h=>by simp only[VR,men] at *;obtain⟨_,k,es,u,hw,ver,hs,_⟩:=h;simp [hs]
 | .ab ..,v,h=>by simp only[VR,men] at *;obtain⟨c,b,d,hs,_⟩:=h;simp [hs]
 | .sv _,v,h=>by simp only[VR,men] at *;rcases h with ⟨c,b,d,hs,_⟩ | ⟨c,b,d,hs,_⟩<;>simp [hs]
 | .ae ..,v,h=>by simp only[VR,men] at *;obtain⟨_,k,es,u,hw,ver,hs,_⟩:=h;simp [hs]
 | .ag l,v,h=>by simp only[VR,men] at *;obtain⟨vs,_,hl⟩:=h;exact Xi l vs hl
 | .tu l,v,h=>by simp only[VR,men] at *;obtain⟨vs,_,hl⟩:=h;exact Xi l vs hl
 | .fn f l,v,h=>by simp only[VR,men] at *;obtain⟨vs,_,hl⟩:=h;exact Xi l vs hl
 | .un,_,_=>trivial
 | .tr _,_,_=>trivial
 | .cs _,_,_=>trivial
 | .ta _,_,_=>trivial
 | .ow ..,_,_=>trivial
 | .er,_,_=>trivial
theorem Xi{G:Gh}{S:Zb}{w:World}:∀ l vs,Zu G S w l vs->Zc (fun i=>(S i).isSome=true) l
 | [],_,_=>trivial
 | x::r,vs,h=>by simp only[Zu] at h;obtain⟨v,vr,_,h1,h2⟩:=h;exact⟨Us x v h1,Xi r vr h2⟩
end
end Go.Fd
namespace Go.Fd
section
variable {G G':Gh} {S S':Zb} {w w':World}
theorem Ys{id:Zd}{ob:Ob}{b:Nat}(h:Vd G S w id ob)(ho:ZM G id ob b):b<w.heap.size:=by
 have key:∀{b:Nat} {o:Obj},w.heap[b]? = some o->b<w.heap.size:=fun h=>(UaE.1 h).1;cases ob with
 | bx cells =>
  obtain⟨c,hc⟩:=ho;obtain⟨b',c',vs,ty,hg,hh,_⟩:=h;rw[hc] at hg;cases hg;exact key hh
 | mp l =>
  obtain⟨c,hc⟩:=ho;obtain⟨b',c',es,ck,hg,hh,_⟩:=h;rw[hc] at hg;cases hg;exact key hh
 | ar k es u hw ver =>
  obtain⟨p,c,hp,hs,hg⟩:=ho;obtain⟨_,_,_,hr,_⟩:=h;obtain⟨es',he⟩:=Uan.1 hs;have:=hr p es' hp he;simp only[Z7,hg] at this;obtain⟨k',vs,ty,_,_,hh,_⟩:=this;exact key hh
theorem U8{A A':Nat->Prop}{id:Zd}{p:Zn}{u:Bool}{i f:Nat}{x:Value}{t:Tr}(hG:G' id=G id)(hA:∀ b,A b->A' b)(hh:∀ b,A b->w'.heap[b]? = w.heap[b]?)
  (h:Jl G w A id p u i f x t):Jl G' w' A' id p u i f x t:=by
 cases t with
 | v y=>exact h
 | sl es =>
  simp only[Jl] at *;split
  ·rename_i hu;simp only[hu,if_true] at h;rw[hG];exact h
  ·rename_i hu;simp only[hu] at h;exact Rds.mono hA hh h
theorem Zen{A A':Nat->Prop}{id:Zd}{p:Zn}{k:Nat}{u:Bool}{es:Row}(hG:G' id=G id)(hA:∀ b,A b->A' b)(hh:∀ b,A b->w'.heap[b]? = w.heap[b]?)
  (hb:∀ b c,G id p=some (b,c)->w'.heap[b]? = w.heap[b]?) (h:Z7 G w A id p k u es):Z7 G' w' A' id p k u es:=by
 unfold Z7 at *;rw[hG];cases hg:G id p with
 | none=>simpa [hg] using h
 | some bc =>
  obtain⟨b,c⟩:=bc;simp only[hg] at h ⊢;obtain⟨k',vs,ty,h1,h2,h3,h4,h5,h6⟩:=h;exact⟨k',vs,ty,h1,h2,by rw[hb b c hg];exact h3,h4,h5,fun i e f t he hf=>by
   obtain⟨x,hx,hc⟩:=h6 i e f t he hf;exact⟨x,hx,U8 hG hA hh hc⟩⟩
theorem Ut{id:Zd}{ob:Ob}(hG:G' id=G id)(hA:∀ b,Av G S w b->Av G' S' w' b)(hh:∀ b,Av G S w b->w'.heap[b]? = w.heap[b]?)
  (hb:∀ b,ZM G id ob b->w'.heap[b]? = w.heap[b]?)
  (hv:∀ cells vs,ob = .bx cells->Zu G S w cells vs->Zu G' S' w' cells vs) (h:Vd G S w id ob):Vd G' S' w' id ob:=by
 cases ob with
 | bx cells =>
  obtain⟨b,c,vs,ty,h1,h2,h3⟩:=h;exact⟨b,c,vs,ty,by rw[hG];exact h1,by rw[hb b ⟨c,h1⟩];exact h2,hv _ _ rfl h3⟩
 | mp l =>
  obtain⟨b,c,es,ck,h1,h2,h3⟩:=h;exact⟨b,c,es,ck,by rw[hG];exact h1,by rw[hb b ⟨c,h1⟩];exact h2,h3⟩
 | ar k es u hw ver =>
  obtain⟨h1,h2,h3,h4,h5⟩:=h;refine⟨h1,h2,by rw[hG];exact h3,fun p es' hp he=>?_,by rw[hG];exact h5⟩;exact Zen hG hA hh (fun b c hg=>hb b ⟨p,c,hp,by simp [he],hg⟩) (h4 p es' hp he)
structure Ext (w w':World):Prop where
 size:w.heap.size<=w'.heap.size
 heap:∀ b,b<w.heap.size->w'.heap[b]? = w.heap[b]?
 os:w'.os=w.os
 tape:w'.tape=w.tape
 output:w'.output=w.output
theorem Ext.refl(w:World):Ext w w:=⟨Ual _,fun _ _=>rfl,rfl,rfl,rfl⟩
theorem Ext.trans{a b c:World}(h:Ext a b)(k:Ext b c):Ext a c :=
 ⟨UaG h.size k.size,fun i hi=>(k.heap i (UaZ hi h.size)).trans (h.heap i hi),k.os.trans h.os,k.tape.trans h.tape,k.output.trans h.output⟩
theorem ZbJ(h:Ext w w'):∀ b,Av G S w b->Av G S w' b:=fun _ hb=>⟨UaZ hb.1 h.size,hb.2⟩
theorem Zeo(h:Ext w w')(x:IV)(v:Value)(hv:VR G S w x v):VR G S w' x v :=
 X5 (P:=fun _=>True) (ZbJ h) (fun b hb=>h.heap b hb.1) (fun _ ob _ hs=>⟨ob,hs,Qg rfl ob⟩) x v (JZ (fun _ _=>trivial) x (Us x v hv)) hv
theorem Zp8(h:Ext w w')(x:List IV)(v:List Value)(hv:Zu G S w x v):Zu G S w' x v :=
 QT (P:=fun _=>True) (ZbJ h) (fun b hb=>h.heap b hb.1) (fun _ ob _ hs=>⟨ob,hs,Qg rfl ob⟩) x v (JK (fun _ _=>trivial) x (Xi x v hv)) hv
theorem SOk.ext(h:SOk G S w)(he:Ext w w'):SOk G S w' where
 obs id ob hs:=Ut rfl (ZbJ he) (fun b hb=>he.heap b hb.1) (fun b hb=>he.heap b (Ys (h.obs id ob hs) hb)) (fun cells vs _ hv=>Zp8 he cells vs hv) (h.obs id ob hs)
 dis:=h.dis
 low:=h.low
structure Upd (G G':Gh) (S:Zb) (w w':World) (id:Zd) (ob':Ob):Prop where
 gh:∀ i,i≠id->G' i=G i
 heap:∀ b,b<w.heap.size->(∀ ob,S id=some ob -> ¬ ZM G id ob b)->w'.heap[b]? = w.heap[b]?
 size:w.heap.size<=w'.heap.size
 own:∀ b,ZM G' id ob' b->(∃ ob,S id=some ob/\ZM G id ob b)\/w.heap.size<=b
 rel:∀ ob,S id=some ob->idR G G' id ob ob'
theorem Upd.av{id:Zd}{ob':Ob}(u:Upd G G' S w w' id ob'):∀ b,Av G S w b->Av G' (Zo S id ob') w' b:=by
 intro b hb;refine⟨UaZ hb.1 u.size,fun i ob hs ho=>?_⟩;unfold Zo at hs;split at hs
 ·rename_i hi;subst hi;cases hs;rcases u.own b ho with ⟨ob,h1,h2⟩ | h
  ·exact hb.2 _ _ h1 h2
  ·have:=hb.1;omega
 ·rename_i hi;have hg:=u.gh i hi;refine hb.2 i ob hs ?_;cases ob<;>simpa only[ZM,hg] using ho
theorem Upd.same{id:Zd}{ob':Ob}(u:Upd G G' S w w' id ob'):∀ b,Av G S w b->w'.heap[b]? = w.heap[b]? :=
 fun b hb=>u.heap b hb.1 fun ob hs=>hb.2 id ob hs
theorem Upd.ids{id:Zd}{ob':Ob}(u:Upd G G' S w w' id ob')(i:Zd)(ob:Ob)(hs:S i=some ob):∃ ob2,Zo S id ob' i=some ob2/\idR G G' i ob ob2:=by
 unfold Zo;by_cases hi:i=id
 ·subst hi;exact⟨ob',if_pos rfl,u.rel ob hs⟩
 ·exact⟨ob,by rw[if_neg hi];exact hs,Qg (u.gh i hi) ob⟩
theorem Upd.vr{id:Zd}{ob':Ob}(u:Upd G G' S w w' id ob')(x:IV)(v:Value)(h:VR G S w x v):VR G' (Zo S id ob') w' x v :=
 X5 (P:=fun _=>True) u.av u.same (fun i ob _ hs=>u.ids i ob hs) x v (JZ (fun _ _=>trivial) x (Us x v h)) h
theorem Upd.vrs{id:Zd}{ob':Ob}(u:Upd G G' S w w' id ob')(x:List IV)(v:List Value)(h:Zu G S w x v):Zu G' (Zo S id ob') w' x v :=
 QT (P:=fun _=>True) u.av u.same (fun i ob _ hs=>u.ids i ob hs) x v (JK (fun _ _=>trivial) x (Xi x v h)) h
theorem Vy{id:Zd}{ob:Ob}{b:Nat}(h:G' id=G id):ZM G' id ob b↔ZM G id ob b:=by cases ob<;>simp only[ZM,h]
theorem Upd.ok{id:Zd}{ob':Ob}(u:Upd G G' S w w' id ob')(h:SOk G S w)(hob:Vd G' (Zo S id ob') w' id ob')(hlow:∀ cells,ob' = .bx cells->Jk (id.1+1) cells) :
  SOk G' (Zo S id ob') w' where
 obs i ob hs:=by
  unfold Zo at hs;split at hs
  ·rename_i hi;subst hi;cases hs;exact hob
  ·rename_i hi;refine Ut (u.gh i hi) u.av u.same (fun b hb=>u.heap b (Ys (h.obs i ob hs) hb) fun ob2 h2 ho=>hi (h.dis _ _ _ _ b hs h2 hb ho)) (fun cells vs _ hv=>u.vrs cells vs hv) (h.obs i ob hs)
 dis i ob i' ob2 b hs hs' ho ho':=by
  have key:∀ j obj,S j=some obj->j≠id->ZM G' j obj b->ZM G' id ob' b->False:=fun j obj hj hne h1 h2=>by
   have h1':=(Vy (u.gh j hne)).1 h1;rcases u.own b h2 with ⟨ob3,h3,h4⟩ | h3
   ·exact hne (h.dis _ _ _ _ b hj h3 h1' h4)
   ·have:=Ys (h.obs j obj hj) h1';omega
  unfold Zo at hs hs';by_cases hi:i=id<;>by_cases hi':i'=id
  ·rw[hi,hi']
  ·rw[if_pos hi] at hs;rw[if_neg hi'] at hs';cases hs;rw[hi] at ho;exact(key _ _ hs' hi' ho' ho).elim
  ·rw[if_neg hi] at hs;rw[if_pos hi'] at hs';cases hs';rw[hi'] at ho';exact(key _ _ hs hi ho ho').elim
  ·rw[if_neg hi] at hs;rw[if_neg hi'] at hs';exact h.dis _ _ _ _ b hs hs' ((Vy (u.gh i hi)).1 ho) ((Vy (u.gh i' hi')).1 ho')
 low i cells hs:=by
  unfold Zo at hs;split at hs
  ·rename_i hi;subst hi;cases hs;exact hlow _ rfl
  ·exact h.low i cells hs
end
theorem Zep{G:Gh}{S:Zb}{w:World}{id:Zd}{k:Nat}{es:Row}{u:Bool}{hw ver:Nat}{A:Nat->Prop}(h:Vd G S w id (.ar k es u hw ver))
  (hA:u=false->∀ b,Av G S w b->A b) (hO:∀ b p c,p≠[]->u=true->(getp es p).isSome=true->G id p=some (b,c)->A b) :
  ∀(t:Tr) (p:Zn) (i f:Nat) (x:Value) (es':Row) (e:List Tr),(p=[]\/u=true)->getp es p=some es'->es'[i]? = some e->e[f]? = some t->Jl G w (Av G S w) id p u i f x t->Rds w A x t
 | .v y,p,i,f,x,es',e,hp,hg,hi,hf,hc=>by obtain⟨rfl,hs⟩:=hc;exact .v _ hs
 | .sl es2,p,i,f,x,es',e,hp,hg,hi,hf,hc=>by
  simp only[Jl] at hc;split at hc
  ·rename_i hu;obtain⟨a,c,rfl,hlc,hor⟩:=hc;have hg2:getp es (p++[(i,f)])=some es2:=by
    clear hor hlc hp h hA hO
    induction p generalizing es with
    | nil=>simp only[getp,Uat] at hg;subst hg;simp [getp,hi,hf]
    | cons q p ih =>
     obtain⟨a1,b1⟩:=q;simp only[List.cons_append,getp] at hg ⊢;split at hg
     ·split at hg
      ·exact ih hg
      ·cases hg
     ·cases hg
   rcases hor with h0 | ⟨b,c0,hgb,rfl,hc0⟩
   ·have:es2=[]:=Uay h0;subst this;exact .nil a c
   ·have hr:=h.2.2.2.1 (p++[(i,f)]) es2 (.inr hu) hg2;simp only[Z7,hgb] at hr;obtain⟨k',vs,ty,_,hun,hh,hsz,hle,hcell⟩:=hr;refine .sl b 0 c k' es2 (fun i' f' => (vs[i'*k'+f']?).getD undef) (hO b (p++[(i,f)]) c0 (by simp) hu (by simp [hg2]) hgb) hun hlc (fun i' e' f' t' h1 h2=>?_) (fun i' e' f' t' h1 h2=>?_)
    ·obtain⟨x',hx',_⟩:=hcell i' e' f' t' h1 h2;simp only[Uax];rw[cell_of_row w b _ vs ty (0,0) hh,hx'];simp
    ·obtain⟨x',hx',hcr⟩:=hcell i' e' f' t' h1 h2;rw[hx'];exact Zep h hA hO t' (p++[(i,f)]) i' f' x' es2 e' (.inr hu) hg2 h1 h2 hcr
  ·rename_i hu;exact Rds.mono (hA (by simpa using hu)) (fun _ _=>rfl) hc
  termination_by t=>SizeOf.sizeOf t
  decreasing_by
 have h3:=List.sizeOf_lt_of_mem (Uaf h1);have h4:=List.sizeOf_lt_of_mem (Uaf h2);simp only[Tr.sl.sizeOf_spec];omega
def ZbK:Value->Value->Bool
 | .bool a,.bool b=>a == b
 | .int k a,.int j b=>decide (k=j)&&decide (a=b)
 | .string a,.string b=>decide (a.data.toList=b.data.toList)
 | .nilIface,.nilIface=>true
 | .nilFunc,.nilFunc=>true
 | .slice none a b,.slice none c d=>a == 0&&b == 0&&c == 0&&d == 0
 | _,_=>false
def Uu:List Value->List Value->Bool
 | [],[]=>true
 | a::r,b::s=>ZbK a b&&Uu r s
 | _,_=>false
def eqV:Value->Value->Bool
 | .agg a,.agg b=>Uu a.toList b.toList
 | a,b=>ZbK a b
def ZB:X->Operand->Bool
 | .t n,.tmp m=>n == m
 | .k v,.const u=>eqV v u
 | .f i,.func j=>i == j
 | _,_=>false
def Qz:List X->List Operand->Bool
 | [],[]=>true
 | a::r,b::s=>ZB a b&&Qz r s
 | _,_=>false
def Qh:Option X->Option Operand->Bool
 | none,none=>true
 | some a,some b=>ZB a b
 | _,_=>false
section
variable (P:Program)
def Yl(t:TypeId):Option TypeId :=
 match P.underlying t with
 | some (.slice e)=>some e
 | _=>none
def JB(t:TypeId):Option Nat:=(P.info? t).map (·.size)
def QA(t:TypeId):Option Bool :=
 match P.underlying t with
 | some (.struct _) | some (.array _ _)=>some true
 | some _=>some false
 | none=>none
def Vl(t:TypeId)(m:Option Nat):Bool :=
 match m with
 | some m=>QA P t == some true&&JB P t == some m
 | none=>QA P t == some false
def QB(t:TypeId)(z:List Value):Bool :=
 match (P.info? t).bind (·.zero) with
 | some v=>Uu z v.cells.toList
 | none=>false
def Zeq(z:List Value)(nz:List (Nat×Nat)):Bool :=
 nz.all fun p=>match z[p.1]? with | some (.slice none 0 0)=>true | _=>false
def U9(fields:Array Field):List (Nat×Nat×X)->List (Nat×Operand)->Bool
 | [],[]=>true
 | (off,n,x)::r,(i,y)::s=>(match fields[i]? with | some f=>f.offset == off&&JB P f.type == some n | none=>false)&&ZB x y&&U9 fields r s
 | _,_=>false
def Da(k:Nat):List (Nat×Nat×X)->List (Nat×Operand)->Bool
 | [],[]=>true
 | (off,n,x)::r,(i,y)::s=>off == i*k&&n == k&&ZB x y&&Da k r s
 | _,_=>false
def Vz:List (Nat×X)->List (Nat×Operand)->Bool
 | [],[]=>true
 | (j,x)::r,(i,y)::s=>j == i&&ZB x y&&Vz r s
 | _,_=>false
def X6(t:TypeId)(q:Nat):Bool :=
 match q,P.underlying t with
 | 0,some (.int _)=>true
 | 1,some .bool=>true
 | 2,some .string=>true
 | _,_=>false
def Db:Nat->List Nat->List Field->Bool
 | _,[],[]=>true
 | i,q::qs,f::r=>f.offset == i&&f.name != "_" && X6 P f.type q&&Db (i+1) qs r
 | _,_,_=>false
def WN(k:Nat)(n:Nat)(z:List Value)(t:TypeId)(len:Nat):Bool :=
 match Yl P t with
 | some e=>JB P e == some k&&n == len&&decide (len*k<=16777216/\len<=16777216)&&(len == 0 || (QB P e z&&z.length == k))
 | none=>false
def ZbL(t:TypeId):Bool :=
 match P.info? t with
 | some i=>(match i.zero with | some (.int .i64 n)=>n == 0 | _=>false)
 | none=>false
def Dc(t:TypeId):Bool :=
 match P.underlying t with
 | some (.map a b)=>(match P.underlying a with | some (.int .i64)=>true | _=>false)&&ZbL P b
 | _=>false
def Zs(o:O)(q:Op):Bool :=
 match o with
 | .mk =>
  match q with
  | .makeMap _ none=>true
  | _=>false
 | .mu m k x =>
  match q with
  | .mapUpdate t a b c=>Dc P t&&ZB m a&&ZB k b&&ZB x c
  | .insert t a b c=>Dc P t&&ZB m a&&ZB k b&&ZB x c
  | _=>false
 | .ml m k =>
  match q with
  | .lookup t a b true=>Dc P t&&ZB m a&&ZB k b
  | _=>false
 | .sk _ p n =>
  match q with
  | .store t y v=>JB P t == some 1&&ZB p y&&ZB (.t n) v
  | _=>false
 | .mv x none =>
  match q with
  | .move y=>ZB x y
  | .assign y=>ZB x y
  | _=>false
 | .mv x (some _) =>
  match q with
  | .move y=>ZB x y
  | .assign y=>ZB x y
  | _=>false
 | .bx x =>
  match q with
  | .box _ y=>ZB x y
  | _=>false
 | .al z nz =>
  match q with
  | .alloc t=>QB P t z&&Zeq z nz
  | _=>false
 | .bd z ps nz =>
  match q with
  | .build t parts =>
   QB P t z&&Zeq z nz &&
   match P.underlying t with
   | some (.struct fields)=>U9 P fields ps parts.toList&&fields.toList.all fun f=>(P.info? f.type).isSome
   | some (.array _ e)=>match JB P e with | some k=>Da k ps parts.toList | none=>false
   | _=>false
  | _=>false
 | .bs k n z ps =>
  match q with
  | .buildSlice t len parts=>WN P k n z t len&&Vz ps parts.toList
  | _=>false
 | .bc k n z ps =>
  match q with
  | .buildSlice t len parts=>WN P k n z t len&&Vz ps parts.toList
  | _=>false
 | .bw k n z ps =>
  match q with
  | .buildSlice t len parts=>WN P k n z t len&&Vz ps parts.toList&&decide (0<k)&&z.length == k
  | _=>false
 | .bv k n z ps =>
  match q with
  | .buildSlice t len parts=>WN P k n z t len&&Vz ps parts.toList&&decide (0<k)&&z.length == k
  | _=>false
 | .ld m p =>
  match q with
  | .load t y=>Vl P t m&&ZB p y
  | _=>false
 | .st m p x =>
  match q with
  | .store t y v=>JB P t == some m&&ZB p y&&ZB x v
  | _=>false
 | .gv _ p x =>
  match q with
  | .store t y v=>JB P t == some 1&&ZB p y&&ZB x v
  | _=>false
 | .lt m p =>
  match q with
  | .load t y=>Vl P t m&&ZB p y
  | _=>false
 | .lb m p _ =>
  match q with
  | .load t y=>Vl P t m&&ZB p y
  | _=>false
 | .lz m p =>
  match q with
  | .load t y=>Vl P t (some m)&&ZB p y
  | _=>false
 | .it k x i =>
  match q with
  | .indexAddr t y j=>ZB x y&&ZB i j&&(match Yl P t with | some e=>JB P e == some k | none=>false)
  | _=>false
 | .bi op w x y =>
  match q with
  | .binOp op' t x' y' _=>decide (op=op')&&ZB x x'&&ZB y y' &&
   (match w with
   | 2=>(match P.underlying t with | some .bool=>true | _=>false)
   | 3=>(match P.underlying t,y' with | some (.interface _),.const _=>true | _,_=>false)
   | _=>true)
  | _=>false
 | .qa neg ks x y =>
  match q with
  | .binOp op t x' y' _=>decide (op=if neg then .neq else .eql)&&ZB x x'&&ZB y y' && !P.eqGuardType P.depth t &&
   (match P.underlying t with
   | some (.struct fields)=>!P.stoodInHeld t&&Db P 0 ks fields.toList
   | some (.array n e)=>ks.length == n&&ks.all (X6 P e)&&JB P e == some 1
   | _=>false)
  | _=>false
 | .nt x =>
  match q with
  | .unOp .not _ y=>ZB x y
  | _=>false
 | .ng x =>
  match q with
  | .unOp .neg _ y=>ZB x y
  | _=>false
 | .cv c x =>
  match q with
  | .convert s d y=>ZB x y&&(P.underlying s).isSome &&
   (match c,P.underlying d with
   | .int k,some (.int j)=>decide (k=j)
   | .wrap k,some (.int j)=>decide (k=j)
   | .str,some .string=>true
   | .rune,some .string=>true
   | .bys,some (.slice e)=>(match P.underlying e with | some (.int .u8)=>true | _=>false)
   | _,_=>false)
  | _=>false
 | .mf f cs =>
  match q with
  | .makeFunc (.func g) first caps=>f == g&&first.isEmpty&&Qz cs caps.toList
  | _=>false
 | .mz f cs =>
  match q with
  | .makeFunc (.func g) first caps=>f == g&&first.isEmpty&&Qz cs caps.toList
  | _=>false
 | .ms k z l =>
  match q with
  | .makeSlice t y c=>ZB l y&&ZB l c &&
   (match Yl P t with
   | some e=>JB P e == some k&&QB P e z&&z.length == k&&decide (P.bytesOf e<=1024)
   | none=>false)
  | _=>false
 | .sx k x lo hi mx =>
  match q with
  | .slice t y l h m=>ZB x y&&Qh lo l&&Qh hi h&&Qh mx m&&(mx.isNone || hi.isSome) &&
   (match Yl P t with
   | some e=>JB P e == some k
   | none=>false)
  | _=>false
 | .ss x lo hi =>
  match q with
  | .slice t y l h m=>ZB x y&&Qh lo l&&Qh hi h&&m.isNone&&(match P.underlying t with | some .string=>true | _=>false)
  | _=>false
 | .fa off p =>
  match q with
  | .fieldAddr t y f=>ZB p y &&
   (match P.underlying t with
   | some (.struct fields)=>(match fields[f]? with | some fd=>fd.offset == off&&(match JB P fd.type with | some n=>decide (0<n) | none=>false) | none=>false)
   | _=>false)
  | _=>false
 | .fd off m x =>
  match q with
  | .field t y f=>ZB x y &&
   (match P.underlying t with
   | some (.struct fields)=>(match fields[f]? with | some fd=>fd.offset == off&&Vl P fd.type m | none=>false)
   | _=>false)
  | _=>false
 | .ia k x i =>
  match q with
  | .indexAddr t y j=>ZB x y&&ZB i j&&(match Yl P t with | some e=>JB P e == some k | none=>false)
  | _=>false
 | .ja k n p i =>
  match q with
  | .indexAddr t y j=>ZB p y&&ZB i j&&(match P.underlying t with | some (.array m e)=>m == n&&JB P e == some k | _=>false)
  | _=>false
 | .ix x i =>
  match q with
  | .index t y j=>ZB x y&&ZB i j&&(match P.underlying t with | some .string=>true | _=>false)
  | _=>false
 | .jx k n m x i =>
  match q with
  | .index t y j=>ZB x y&&ZB i j&&(match P.underlying t with | some (.array q e)=>q == n&&JB P e == some k&&Vl P e m | _=>false)
  | _=>false
 | .ln x =>
  match q with
  | .call { callee:=.builtin .len,args,argTypes }=>(match args.toList,argTypes[0]? with | [y],some t=>ZB x y&&(Yl P t).isSome | _,_=>false)
  | _=>false
 | .lg x =>
  match q with
  | .call { callee:=.builtin .len,args,argTypes }=>(match args.toList,argTypes[0]? with | [y],some t=>ZB x y&&(match P.underlying t with | some .string=>true | _=>false) | _,_=>false)
  | _=>false
 | .la n =>
  match q with
  | .call { callee:=.builtin .len,args,argTypes }=>(match args.toList,argTypes[0]? with | [_],some t=>(match P.underlying t with | some (.array m _)=>m == n | _=>false) | _,_=>false)
  | _=>false
 | .ap k _ x y =>
  match q with
  | .call { callee:=.builtin .append,args,argTypes } =>
   (match args.toList,argTypes.toList with
   | [a,b],[t,u]=>t == u&&ZB x a&&ZB y b &&
    (match Yl P t with
    | some e=>(match P.info? e with
     | some i=>i.size == k&&decide (0<k)&&decide (i.bytes<=1024)&&(match i.zero with | some z=>z.cells.size == k | none=>false)
     | none=>false)
    | none=>false)
   | _,_=>false)
  | _=>false
 | .mm mx x y =>
  match q with
  | .call { callee:=.builtin b,args,.. }=>(match args.toList,b with
   | [a,c],.max=>mx&&ZB x a&&ZB y c
   | [a,c],.min=>!mx&&ZB x a&&ZB y c
   | _,_=>false)
  | _=>false
 | .ex i x =>
  match q with
  | .extract y j=>i == j&&ZB x y
  | _=>false
 | .pk c a b =>
  match q with
  | .pick c' a' b' => ZB c c'&&ZB a a'&&ZB b b'
  | _=>false
 | .ca _ _ f xs =>
  match q with
  | .call { callee:=.value g,args,.. }=>ZB f g&&Qz xs args.toList
  | _=>false
 | .nc x =>
  match q with
  | .nilCheck y=>ZB x y
  | _=>false
 | .bt x =>
  match q with
  | .box _ y=>ZB x y
  | _=>false
 | .sa n x =>
  match q with
  | .slice t y none none none=>ZB x y&&(match P.underlying t with | some (.array m e)=>m == n&&JB P e == some 1 | _=>false)
  | _=>false
 | .s0 m p x =>
  match q with
  | .store t y v=>JB P t == some m&&ZB p y&&ZB x v
  | _=>false
 | .a0 k x y =>
  match q with
  | .call { callee:=.builtin .append,args,argTypes } =>
   (match args.toList,argTypes.toList with
   | [a,b],[t,u]=>t == u&&ZB x a&&ZB y b &&
    (match Yl P t with
    | some e=>(match P.info? e with
     | some i=>i.size == k&&decide (0<k)&&decide (i.bytes<=1024)&&(match i.zero with | some z=>z.cells.size == k | none=>false)
     | none=>false)
    | none=>false)
   | _,_=>false)
  | _=>false
 | .a1 k x y =>
  match q with
  | .call { callee:=.builtin .append,args,argTypes } =>
   (match args.toList,argTypes.toList with
   | [a,b],[t,u]=>t == u&&ZB x a&&ZB y b &&
    (match Yl P t with
    | some e=>(match P.info? e with
     | some i=>i.size == k&&decide (0<k)&&decide (i.bytes<=1024)&&(match i.zero with | some z=>z.cells.size == k | none=>false)
     | none=>false)
    | none=>false)
   | _,_=>false)
  | _=>false
 | .a2 k x y =>
  match q with
  | .call { callee:=.builtin .append,args,argTypes } =>
   (match args.toList,argTypes.toList with
   | [a,b],[t,u]=>t == u&&ZB x a&&ZB y b &&
    (match Yl P t with
    | some e=>(match P.info? e with
     | some i=>i.size == k&&decide (0<k)&&decide (i.bytes<=1024)&&(match i.zero with | some z=>z.cells.size == k | none=>false)
     | none=>false)
    | none=>false)
   | _,_=>false)
  | _=>false
 | .a4 k x y =>
  match q with
  | .call { callee:=.builtin .append,args,argTypes } =>
   (match args.toList,argTypes.toList with
   | [a,b],[t,u]=>t == u&&ZB x a&&ZB y b &&
    (match Yl P t with
    | some e=>(match P.info? e with
     | some i=>i.size == k&&decide (0<k)&&decide (i.bytes<=1024)&&(match i.zero with | some z=>z.cells.size == k | none=>false)
     | none=>false)
    | none=>false)
   | _,_=>false)
  | _=>false
 | .a3 k x y =>
  match q with
  | .call { callee:=.builtin .append,args,argTypes } =>
   (match args.toList,argTypes.toList with
   | [a,b],[t,u]=>t == u&&ZB x a&&ZB y b &&
    (match Yl P t with
    | some e=>(match P.info? e with
     | some i=>i.size == k&&decide (0<k)&&decide (i.bytes<=1024)&&(match i.zero with | some z=>z.cells.size == k | none=>false)
     | none=>false)
    | none=>false)
   | _,_=>false)
  | _=>false
 | .sy k x lo hi mx =>
  match q with
  | .slice t y l h m=>ZB x y&&Qh lo l&&Qh hi h&&Qh mx m&&(mx.isNone || hi.isSome) &&
   (match Yl P t with
   | some e=>JB P e == some k
   | none=>false)
  | _=>false
 | .sw k x lo hi mx =>
  match q with
  | .slice t y l h m=>ZB x y&&Qh lo l&&Qh hi h&&Qh mx m&&(mx.isNone || hi.isSome) &&
   (match Yl P t with
   | some e=>JB P e == some k
   | none=>false)
  | _=>false
 | .az k z x n =>
  match q with
  | .call { callee:=.builtin .append,args,argTypes }=>(match args.toList,argTypes.toList with
   | [a,b],[t,u]=>ZB x a&&ZB n b&&(match P.underlying u with | some (.int _)=>true | _=>false) &&
    (match Yl P t with | some e=>JB P e == some k&&QB P e z&&z.length == k&&decide (0<k)&&decide (P.bytesOf e<=1024) | none=>false)
   | _,_=>false)
  | _=>false
 | .xx=>true
 | .cp x =>
  match q with
  | .call { callee:=.builtin .cap,args,argTypes }=>(match args.toList,argTypes[0]? with | [y],some t=>ZB x y&&(Yl P t).isSome | _,_=>false)
  | _=>false
 | .sh k x hi =>
  match q with
  | .slice t y none (some h) none=>ZB x y&&ZB hi h&&(match Yl P t with | some e=>JB P e == some k | none=>false)
  | _=>false
 | .cl k z x =>
  match q with
  | .call { callee:=.builtin .clear,args,argTypes }=>(match args.toList,argTypes[0]? with
   | [y],some t=>ZB x y&&(match Yl P t with | some e=>JB P e == some k&&QB P e z&&z.length == k&&decide (0<k) | none=>false)
   | _,_=>false)
  | _=>false
 | .fz x =>
  match q with
  | .move y=>ZB x y
  | .assign y=>ZB x y
  | _=>false
 | .rk x =>
  match q with
  | .move y=>ZB x y
  | .assign y=>ZB x y
  | _=>false
 | .cy k x y =>
  match q with
  | .call { callee:=.builtin .copy,args,argTypes }=>(match args.toList,argTypes[0]? with
   | [x',y'],some t=>ZB x x'&&ZB y y'&&(match Yl P t with | some e=>JB P e == some k&&decide (0<k) | none=>false)
   | _,_=>false)
  | _=>false
 | .c0 k x y =>
  match q with
  | .call { callee:=.builtin .copy,args,argTypes }=>(match args.toList,argTypes[0]? with
   | [x',y'],some t=>ZB x x'&&ZB y y'&&(match Yl P t with | some e=>JB P e == some k&&decide (0<k) | none=>false)
   | _,_=>false)
  | _=>false
 | .nl neg x =>
  match q with
  | .binOp op t x' y' _=>decide (op=if neg then .neq else .eql)&&ZB x x'&&(match P.underlying t with | some (.slice _)=>true | _=>false) &&
   (match y' with | .const (.slice none _ _)=>true | _=>false)
  | _=>false
 | .sb x =>
  match q with
  | .convert s d y=>ZB x y&&(match P.underlying d with | some .string=>true | _=>false)&&(match Yl P s with | some e=>(match P.underlying e with | some (.int .u8)=>true | _=>false) | none=>false)
  | _=>false
def ZbM(nt:Nat)(ops:Array Oper)(o:OP)(oper:Oper):Bool :=
 decide (o.d=oper.dst)&&(match o.d with | some d=>decide (d<nt) | none=>true) &&
 (match o.g,oper.guard with
 | none,none=>true
 | some (j,w),some (g,w')=>w == w'&&decide (((ops[g]?).bind (·.dst))=some j)
 | _,_=>false)&&Zs P o.o oper.op
def X7(nt:Nat)(ops:Array Oper):List OP->List Oper->Bool
 | [],[]=>true
 | o::r,oper::s=>ZbM P nt ops o oper&&X7 nt ops r s
 | _,_=>false
def YQ:List RS->List ResultVar->Bool
 | [],[]=>true
 | .t n _::r,.tmp m::s=>n == m&&YQ r s
 | .k n::r,.tmp m::s=>n == m&&YQ r s
 | .c n m _::r,.cell a t::s=>n == a&&Vl P t m&&YQ r s
 | _,_=>false
end
end Go.Fd
namespace Go.Fd
theorem Uv(t d:Nat)(x:IV):∀ env,lk t (pt d x env)=if t=d then x else lk t env
 | []=>by simp only[pt,lk]
 | (a,y)::r=>by
  simp only[pt];split
  ·rename_i h;subst h;simp only[lk];split<;>rfl
  ·split
   ·simp only[lk]
   ·simp only[lk,Uv t d x r];rename_i h _;split
    ·rename_i h2;subst h2;rw[if_neg (fun e=>h e.symm)]
    ·rfl
theorem Zao(t d:Nat)(x:Ob):∀ env,lkO t (ptO d x env)=if t=d then some x else lkO t env
 | []=>by simp only[ptO,lkO]
 | (a,y)::r=>by
  simp only[ptO];split
  ·rename_i h;subst h;simp only[lkO];split<;>rfl
  ·split
   ·simp only[lkO]
   ·simp only[lkO,Zao t d x r];rename_i h _;split
    ·rename_i h2;subst h2;rw[if_neg (fun e=>h e.symm)]
    ·rfl
theorem ZbN(t s:Nat):∀ l,lkO t (rmO s l)=if t=s then none else lkO t l
 | []=>by simp [rmO,lkO]
 | (a,y)::r=>by
  simp only[rmO];split
  ·rename_i h;subst h;simp only[lkO,ZbN t s r];split
   ·rfl
   ·rfl
  ·simp only[lkO,ZbN t s r];rename_i h;split
   ·rename_i h2;subst h2;rw[if_neg (fun e=>h e.symm)]
   ·rfl
theorem Zer(id:Zd)(t:Nat):∀ l,lkO t (scrL id l)=(lkO t l).map (scrOb id)
 | []=>rfl
 | (a,y)::r=>by simp only[scrL,lkO,Zer id t r];split<;>rfl
theorem Dd(id:Zd)(t:Nat):∀ l,lk t (scrE id l)=scr id (lk t l)
 | []=>by simp [scrE,lk,scr]
 | (a,y)::r=>by simp only[scrE,lk,Dd id t r];split<;>rfl
theorem Zif(t:Nat):∀(args:List IV) (n:Nat),n<=t->lk t (params n args)=(args[t-n]?).getD .un
 | [],n,_=>by simp [params,lk]
 | x::r,n,h=>by
  simp only[params,lk];split
  ·rename_i h2;subst h2;simp
  ·rename_i h2;rw[Zif t r (n+1) (by omega)];rw[show t-n=(t-(n+1))+1 from by omega];simp
theorem Zig{a b:Value}(h:ZbK a b=true):a=b/\(Jw a=true\/a = .slice none 0 0):=by
 unfold ZbK at h;split at h
 ·simp at h;subst h;exact⟨rfl,.inl rfl⟩
 ·simp at h;obtain⟨rfl,rfl⟩:=h;exact⟨rfl,.inl rfl⟩
 ·rename_i a b;have:a.data.toList=b.data.toList:=by simpa using h
  have h2:a=b:=by cases a;cases b;simp at this;simp [this]
  exact⟨by rw[h2],.inl rfl⟩
 ·exact⟨rfl,.inl rfl⟩
 ·exact⟨rfl,.inl rfl⟩
 ·simp at h;obtain⟨⟨⟨rfl,rfl⟩,rfl⟩,rfl⟩:=h;exact⟨rfl,.inr rfl⟩
 ·cases h
theorem ZbO:∀{a b:List Value},Uu a b=true->a=b/\∀ x∈a,Jw x=true\/x = .slice none 0 0
 | [],[],_=>⟨rfl,by simp⟩
 | a::r,b::s,h=>by simp only[Uu,Uae] at h;obtain⟨rfl,h1⟩:=Zig h.1;obtain⟨rfl,h2⟩:=ZbO h.2;exact⟨rfl,by simpa using ⟨h1,h2⟩⟩
 | [],_::_,h=>by simp [Uu] at h
 | _::_,[],h=>by simp [Uu] at h
theorem Zih{G:Gh}{S:Zb}{w:World}{x:Value}(h:Jw x=true\/x = .slice none 0 0):VR G S w (kc x) x:=by
 rcases h with h | rfl
 ·have:kc x = .tr (.v x):=by cases x<;>first | rfl | simp [Jw] at h
  rw[this];exact .v x h
 ·exact⟨⟨none,rfl⟩,.nil none 0⟩
theorem ZbP{G:Gh}{S:Zb}{w:World}:∀{l:List Value},(∀ x∈l,Jw x=true\/x = .slice none 0 0)->Zu G S w (l.map kc) l
 | [],_=>rfl
 | x::r,h=>⟨x,r,rfl,Zih (h x (by simp)),ZbP fun y hy=>h y (by simp [hy])⟩
theorem Zp9{G:Gh}{S:Zb}{w:World}{a b:Value}(h:eqV a b=true):VR G S w (kv a) b:=by
 unfold eqV at h;split at h
 ·rename_i a b;obtain⟨h1,h2⟩:=ZbO h;have:a=b:=by cases a;cases b;simpa using h1
  subst this;exact⟨a.toList,by simp,ZbP h2⟩
 ·obtain⟨rfl,h1⟩:=Zig h;have:kv a=kc a:=by cases a<;>first | rfl | (rcases h1 with h1 | h1<;>simp [Jw] at h1)
  rw[this];exact Zih h1
structure Fr where
 G:Gh
 S:Zb
 w:World
 lvl:Nat
 nt:Nat
structure Frm (F:Fr) (G:Gh) (S:Zb) (w:World):Prop where
 size:F.w.heap.size<=w.heap.size
 old:∀ b,b<F.w.heap.size->(∀ id ob,F.S id=some ob -> ¬ ZM F.G id ob b)->w.heap[b]? = F.w.heap[b]?
 own:∀ id ob b,S id=some ob->ZM G id ob b->F.w.heap.size<=b\/∃ i0 ob0,F.S i0=some ob0/\ZM F.G i0 ob0 b
 os:w.os=F.w.os
 tape:w.tape=F.w.tape
 output:w.output=F.w.output
 stab:∀ x v,low F.lvl x->VR F.G F.S F.w x v->VR G S w x v
theorem Frm.trans{F:Fr}{G G':Gh}{S S':Zb}{w w':World}{L n:Nat}(h:Frm F G S w)(k:Frm ⟨G,S,w,L,n⟩ G' S' w')(hL:F.lvl<=L):Frm F G' S' w' where
 size:=UaG h.size k.size
 old b hb ho:=by
  rw[k.old b (UaZ hb h.size) fun id ob hs hown=>?_]
  ·exact h.old b hb ho
  ·rcases h.own id ob b hs hown with h1 | ⟨i0,ob0,h1,h2⟩
   ·omega
   ·exact ho i0 ob0 h1 h2
 own id ob b hs hown:=by
  rcases k.own id ob b hs hown with h1 | ⟨i0,ob0,h1,h2⟩
  ·exact .inl (UaG h.size h1)
  ·exact h.own i0 ob0 b h1 h2
 os:=k.os.trans h.os
 tape:=k.tape.trans h.tape
 output:=k.output.trans h.output
 stab x v hl hv:=k.stab x v (JZ (fun i (hi:i.1<F.lvl)=>UaZ hi hL) x hl) (h.stab x v hl hv)
class Tabs where
 good:World->Prop
instance (priority:=10) tabs0:Tabs:=⟨fun _=>True⟩
def Fix[T:Tabs](G:Gh)(S:Zb)(w:World):Prop:=∃ w0,T.good w0/\w0.heap.size<=w.heap.size/\∀ b,b<w0.heap.size->Av G S w b/\w.heap[b]? = w0.heap[b]?
theorem Fix.noS[Tabs]{G G':Gh}{S:Zb}{w:World}(h:Fix G S w):Fix G' noS w:=by obtain⟨w0,h1,h2,h3⟩:=h;exact⟨w0,h1,h2,fun b hb=>⟨⟨(h3 b hb).1.1,fun _ _ hs=>by cases hs⟩,(h3 b hb).2⟩⟩
theorem Frm.fix[Tabs]{F:Fr}{G:Gh}{S:Zb}{w:World}(k:Frm F G S w)(h:Fix F.G F.S F.w):Fix G S w:=by
 obtain⟨w0,h1,h2,h3⟩:=h;refine⟨w0,h1,UaG h2 k.size,fun b hb=>?_⟩;obtain⟨⟨a1,a2⟩,a3⟩:=h3 b hb;refine⟨⟨UaZ a1 k.size,fun id ob hs ho=>?_⟩,(k.old b a1 a2).trans a3⟩;rcases k.own id ob b hs ho with h | ⟨i0,ob0,g1,g2⟩
 ·omega
 ·exact a2 i0 ob0 g1 g2
variable [Tabs]
structure Sim (F:Fr) (G:Gh) (st:St) (a:Act) (w:World):Prop where
 dfr:a.defers=[]
 sz:a.tmps.size=F.nt
 env:∀ t,VR G st.sto w (lk t st.env) (a.tmps.getD t undef)
 ok:SOk G st.sto w
 lvl:st.lvl=F.lvl
 outl:∀ id ob,st.out id=some ob->id.1<st.lvl
 fr:Frm F G st.sto w
 fix:Fix F.G F.S F.w
theorem Frm.ext{F:Fr}{G:Gh}{S:Zb}{w w':World}(h:Frm F G S w)(e:Ext w w'):Frm F G S w' where
 size:=UaG h.size e.size
 old b hb ho:=(e.heap b (UaZ hb h.size)).trans (h.old b hb ho)
 own:=h.own
 os:=e.os.trans h.os
 tape:=e.tape.trans h.tape
 output:=e.output.trans h.output
 stab x v hl hv:=Zeo e x v (h.stab x v hl hv)
theorem Sim.ext{F:Fr}{G:Gh}{st:St}{a:Act}{w w':World}(h:Sim F G st a w)(e:Ext w w'):Sim F G st a w' :=
 ⟨h.dfr,h.sz,fun t=>Zeo e _ _ (h.env t),h.ok.ext e,h.lvl,h.outl,h.fr.ext e,h.fix⟩
section ops
variable {P:Program} {F:Fr} {G:Gh} {st:St} {a:Act} {w:World}
theorem Sim.x(h:Sim F G st a w){x:X}{y:Operand}(hc:ZB x y=true):VR G st.sto w (xv st.env x) (a.eval y):=by
 unfold ZB at hc;split at hc
 ·rename_i n m;have:n=m:=by simpa using hc
  subst this;exact h.env n
 ·exact Zp9 hc
 ·rename_i i j;have:i=j:=by simpa using hc
  subst this;exact⟨[],rfl,rfl⟩
 ·cases hc
theorem Sim.xs(h:Sim F G st a w):∀{xs:List X} {ys:List Operand},Qz xs ys=true->Zu G st.sto w (xs.map (xv st.env)) (ys.map a.eval)
 | [],[],_=>rfl
 | x::r,y::s,hc=>by simp only[Qz,Uae] at hc;exact⟨_,_,rfl,h.x hc.1,h.xs hc.2⟩
 | [],_::_,hc=>by simp [Qz] at hc
 | _::_,[],hc=>by simp [Qz] at hc
def Res(P:Program)(o:Oper)(a:Act)(w:World)(R:Value->World->Prop):Prop :=
 ∀(next:Act->World->Prop) (Q:Exit->Act->World->Prop),(∀ v w',R v w'->next (a.put o.dst v) w')->o.wp P a w next Q
theorem Res.of_run{o:Oper}{v:Value}{w':World}{R:Value->World->Prop}(h:(execOp a.eval o).run P w = .ok (.value v) w')(hR:R v w'):Res P o a w R:=by
 intro next Q hn
 simp only[Oper.wp,h,Oper.upon_value];exact hn v w' hR
theorem Res.of_skip{o:Oper}{w':World}{R:Value->World->Prop}(h:(execOp a.eval o).run P w = .ok .skip w')(hR:R undef w'):Res P o a w R:=by
 intro next Q hn
 simp only[Oper.wp,h,Oper.upon_skip];exact hn undef w' hR
theorem Res.of_enter{o:Oper}{f:FuncId}{args:Array Value}{w':World}{R:Value->World->Prop}(h:(execOp a.eval o).run P w = .ok (.enter f args) w')
  (hc:Calls P f args w' fun e w'' => ∃ v,e = .returned v/\R v w''):Res P o a w R:=by
 intro next Q hn
 simp only[Oper.wp,h,Oper.upon_enter];exact hc.mono fun e w'' ⟨v,he,hr⟩=>by subst he;exact hn v w'' hr
theorem Res.mono{o:Oper}{R R':Value->World->Prop}(h:Res P o a w R)(hr:∀ v w',R v w'->R' v w'):Res P o a w R' :=
 fun next Q hn=>h next Q fun v w' hv=>hn v w' (hr v w' hv)
def ZW(S:Zb)(l b:Nat):List Ob->Zb
 | []=>S
 | o::r=>ZW (Zo S (l,b) o) l (b+1) r
def Zap(G:Gh)(S0 S:Zb)(w:World)(l b:Nat)(x:IV)(obs:List Ob)(v:Value)(w':World):Prop :=
 ∃ G',SOk G' (ZW S l b obs) w'/\VR G' (ZW S l b obs) w' x v/\Frm ⟨G,S0,w,l+1,0⟩ G' (ZW S l b obs) w'
abbrev Got(G:Gh)(S:Zb)(w:World)(l b:Nat)(x:IV)(obs:List Ob)(v:Value)(w':World):Prop:=Zap G S S w l b x obs v w'
theorem Frm.of_ext{S:Zb}{l:Nat}{w':World}(e:Ext w w'):Frm ⟨G,S,w,l,0⟩ G S w' :=
 ⟨e.size,fun b hb _=>e.heap b hb,fun _ ob _ hs ho=>.inr ⟨_,ob,hs,ho⟩,e.os,e.tape,e.output,fun x v _ hv=>Zeo e x v hv⟩
theorem Got.pure{S:Zb}{l b:Nat}{x:IV}{v:Value}(h:SOk G S w)(hv:VR G S w x v):Got G S w l b x [] v w :=
 ⟨G,h,hv,Frm.of_ext (Ext.refl w)⟩
abbrev YR(S:Zb)(l b n:Nat):Prop:=∀ j,j<n->S (l,b+j)=none
end ops
end Go.Fd
namespace Go.Fd
variable [Tabs]
theorem Uw{k:IntKind}{n:Int}(h:ZZ k n):k.wrap n=n:=by obtain⟨h1,h2⟩:=h;cases k<;>simp only[IntKind.min,IntKind.max,IntKind.bits,IntKind.signed,if_true,if_false,Ua0] at h1 h2<;>simp only[IntKind.wrap,IntKind.bits,IntKind.signed]<;>(first | (simp;omega) | (simp;split<;>omega))
section ops
variable {P:Program} {F:Fr} {G:Gh} {st:St} {a:Act} {w:World} {C:ZJ} {K:Yc} {l b:Nat} {oper:Oper}
abbrev EvOk(P:Program)(G:Gh)(st:St)(a:Act)(w:World)(K:Yc)(l b:Nat)(oper:Oper):Prop :=
 Res P oper a w fun v w' => ∃ mk obs,K mk obs/\Got G st.sto w l b (mk l b) (obs l b) v w'
theorem EvOk.pure(h:Sim F G st a w){v:Value}{x:IV}(hr:(execOp a.eval oper).run P w = .ok (.value v) w)(hv:VR G st.sto w x v)(hK:ZH K x):EvOk P G st a w K l b oper :=
 Res.of_run hr ⟨_,_,hK,Got.pure h.ok hv⟩
theorem Rds.val{A:Nat->Prop}{v x:Value}(h:Rds w A v (.v x)):v=x/\Jw x=true:=by
 cases h with
 | v _ h=>exact⟨rfl,h⟩
theorem VR.val{S:Zb}{v x:Value}(h:VR G S w (.tr (.v x)) v):v=x/\Jw x=true:=Rds.val h
theorem VR.mk{S:Zb}{x:Value}(h:Jw x=true):VR G S w (.tr (.v x)) x:=Rds.v x h
theorem Zqa(h:Sim F G st a w){x:X}(hc:Zs P (.mv x none) oper.op=true)(he:ev C (xv st.env) st.sto K (.mv x none)):EvOk P G st a w K l b oper:=by
 simp only[Zs] at hc;split at hc<;>try contradiction
 all_goals
  rename_i ho;exact EvOk.pure h (by simp [execOp,ho]) (h.x hc) he
theorem Zqb(h:Sim F G st a w){x:X}(hc:Zs P (.nt x) oper.op=true)(he:ev C (xv st.env) st.sto K (.nt x)):EvOk P G st a w K l b oper:=by
 simp only[Zs] at hc;split at hc<;>try contradiction
 rename_i ho;simp only[ev] at he;split at he<;>try contradiction
 rename_i t ht;have hx:=h.x hc;rw[ht] at hx;obtain⟨hx,_⟩:=hx.val;exact EvOk.pure h (v:=.bool !t) (by simp [execOp,ho,hx,Op.unary]) (VR.mk rfl) he
theorem Zqc(h:Sim F G st a w){x:X}(hc:Zs P (.ng x) oper.op=true)(he:ev C (xv st.env) st.sto K (.ng x)):EvOk P G st a w K l b oper:=by
 simp only[Zs] at hc;split at hc<;>try contradiction
 rename_i ho;simp only[ev] at he;split at he<;>try contradiction
 rename_i k n ht;have hx:=h.x hc;rw[ht] at hx;obtain⟨hx,_⟩:=hx.val;obtain⟨hf,he⟩:=he;refine EvOk.pure h (v:=.int k (-n)) ?_ (VR.mk rfl) he;have:k.wrap (-n) = -n:=Uw hf;simp [execOp,ho,hx,Op.unary,Op.intArith,this]
theorem Zii(x y:ByteArray):(x.toList == y.toList)=decide (x=y):=by
 rw[ByteArray.toList_eq,ByteArray.toList_eq];by_cases h:x=y
 ·subst h;simp
 ·have:x.data.toList≠y.data.toList:=fun e=>h (by cases x;cases y;simp at e;simp [e]);rw[decide_eq_false h];simpa using fun e=>this (by rw[e])
theorem Zij(d:Nat){t:TypeId}(x y:Bool)(ht:P.underlying t=some .bool):(Op.equalIn (d+1) t (.bool x) (.bool y)).run P w = .ok (x == y) w:=by simp only[Op.equalIn,Sem.run_bind,run_underlying ht,Result.andThen_ok,Sem.run_pure]
theorem Zik{t:TypeId}(x y:Bool)(ht:P.underlying t=some .bool):(Op.equal t (.bool x) (.bool y)).run P w = .ok (x == y) w:=Zij 9999 x y ht
theorem Zqd(d:Nat){t:TypeId}{ms:Array (String×TypeId)}(ht:P.underlying t=some (.interface ms)):(Op.equalIn (d+1) t .nilIface .nilIface).run P w = .ok true w:=by simp only[Op.equalIn,Sem.run_bind,run_underlying ht,Result.andThen_ok,Sem.run_pure]
theorem Zil{t:TypeId}{ms:Array (String×TypeId)}(ht:P.underlying t=some (.interface ms)):(Op.equal t .nilIface .nilIface).run P w = .ok true w:=Zqd 9999 ht
theorem Zqe(d:Nat){t u:TypeId}{x:Value}{ms:Array (String×TypeId)}(ht:P.underlying t=some (.interface ms)):(Op.equalIn (d+1) t (.iface u x) .nilIface).run P w = .ok false w:=by simp only[Op.equalIn,Sem.run_bind,run_underlying ht,Result.andThen_ok,Sem.run_pure]
theorem Zqf{t u:TypeId}{x:Value}{ms:Array (String×TypeId)}(ht:P.underlying t=some (.interface ms)):(Op.equal t (.iface u x) .nilIface).run P w = .ok false w:=Zqe 9999 ht
theorem Zqg{op:BinOp}{t:TypeId}{x y:Operand}{u v:Value}(hu:Jw u=true)(hc:(u = .nilIface/\v = .nilIface)->∃ c,y = .const c):(eqGuard op t x y u v).run P w = .ok () w:=by
 unfold eqGuard;split
 ·simp only[Ub3,if_false,Ua0];split
  ·obtain⟨c,rfl⟩:=hc ⟨rfl,rfl⟩;simp
  ·simp [Jw] at hu
  ·rfl
 ·simp only[Ub3,if_false,Ua0];split
  ·obtain⟨c,rfl⟩:=hc ⟨rfl,rfl⟩;simp
  ·simp [Jw] at hu
  ·rfl
 ·rfl
theorem Zqh{op:BinOp}{wt:Nat}{x y:Value}{t:TypeId}{K:Value->Prop}(hb:Jr op wt x y K)
  (h2:wt=2->P.underlying t=some .bool) (h3:wt=3->∃ ms,P.underlying t=some (.interface ms)):∃ r,(binOp op t x y).run P w = .ok r w/\Jw r=true/\K r:=by
 unfold Jr at hb;split at hb<;>try contradiction
 all_goals try obtain⟨rfl,hb⟩:=hb
 ·exact⟨_,by simp [binOp,Op.intArith,Uw hb.1],rfl,hb.2⟩
 ·exact⟨_,by simp [binOp,Op.intArith,Uw hb.1],rfl,hb.2⟩
 ·exact⟨_,by simp [binOp,Op.intArith,Uw hb.1],rfl,hb.2⟩
 ·exact⟨_,by simp [binOp,Op.intArith],rfl,hb⟩
 ·exact⟨_,by simp [binOp,Op.intArith],rfl,hb⟩
 ·exact⟨_,by simp [binOp,Op.intArith],rfl,hb⟩
 ·rename_i k1 a1 b1;obtain⟨h0,h1,hf,hb⟩:=hb;have hw:k1.wrap (a1.tdiv b1)=a1 / b1:=by
   rw[Int.tdiv_eq_ediv_of_nonneg h0];refine Uw ⟨?_,?_⟩
   ·refine Int.le_trans ?_ (Int.ediv_nonneg h0 (by omega));cases k1<;>simp [IntKind.min,IntKind.signed,IntKind.bits]
   ·exact Int.le_trans (Int.ediv_le_self _ h0) hf.2
  have hz:¬ b1=0:=by omega
  exact⟨_,by simp [binOp,Op.intDiv,hz,hw],rfl,hb⟩
 ·rename_i k1 a1 b1;obtain⟨h0,h1,hb⟩:=hb;have hz:¬ b1=0:=by omega
  exact⟨_,by simp [binOp,Op.intDiv,hz,Int.tmod_eq_emod_of_nonneg h0],rfl,hb⟩
 ·rename_i b1;have hz:¬ b1<0:=by omega
  exact⟨_,by simp only[binOp,Op.shift,if_neg hz,Sem.run_pure],rfl,hb.2⟩
 ·exact⟨_,by simp [binOp,Op.intBits],rfl,hb⟩
 ·exact⟨_,by simp [binOp,Op.intCmp];rfl,rfl,hb⟩
 ·exact⟨_,by simp [binOp,Op.intCmp];rfl,rfl,hb⟩
 ·exact⟨_,by simp [binOp,Op.intCmp],rfl,hb⟩
 ·exact⟨_,by simp [binOp,Op.intCmp],rfl,hb⟩
 ·exact⟨_,by simp [binOp,Op.intCmp],rfl,hb⟩
 ·exact⟨_,by simp [binOp,Op.intCmp],rfl,hb⟩
 ·exact⟨_,by simp [binOp,Zik _ _ (h2 rfl)],rfl,hb⟩
 ·exact⟨_,by simp [binOp,Zik _ _ (h2 rfl),bne],rfl,hb⟩
 ·obtain⟨ms,hm⟩:=h3 rfl;exact⟨_,by simp [binOp,Zil hm],rfl,hb⟩
 ·obtain⟨ms,hm⟩:=h3 rfl;exact⟨_,by simp [binOp,Zil hm],rfl,hb⟩
 ·rename_i a1 b1;have:¬ ((a1.size+b1.size:Nat):Int) > IntKind.max .i64:=by have:=hb.1;simp only[bigN] at this;simp only[IntKind.max,IntKind.signed,IntKind.bits,if_true];omega
  exact⟨_,by simp only[binOp,Op.stringOp,if_neg this];rfl,rfl,hb.2⟩
 all_goals
  rename_i a1 b1;have he:=Zii a1 b1;rw[ByteArray.toList_eq,ByteArray.toList_eq] at he;refine⟨_,?_,rfl,hb⟩;simp only[binOp,Op.stringOp,ByteArray.toList_eq,he,Sem.run_pure];try simp only[ne_eq,decide_not]
theorem Zqi(h:Sim F G st a w){op:BinOp}{wt:Nat}{x y:X}(hc:Zs P (.bi op wt x y) oper.op=true)(he:ev C (xv st.env) st.sto K (.bi op wt x y)):EvOk P G st a w K l b oper:=by
 simp only[Zs] at hc;split at hc<;>try contradiction
 rename_i op' t x' y' t2 ho;simp only[Uae,decide_eq_true_eq] at hc;obtain⟨⟨⟨rfl,hx⟩,hy⟩,ht⟩:=hc;have h2:wt=2->P.underlying t=some .bool:=by
  rintro rfl
  simp only at ht;split at ht<;>first | assumption | contradiction
 have h3:wt=3->(∃ ms,P.underlying t=some (.interface ms))/\∃ v,y' = .const v:=by
  rintro rfl
  simp only at ht;split at ht<;>first | contradiction | exact⟨⟨_,by assumption⟩,⟨_,rfl⟩⟩
 have hx:=h.x hx;have hy:=h.x hy;simp only[ev] at he;split at he<;>try contradiction
 ·rename_i u v hu hv;rw[hu] at hx;rw[hv] at hy;obtain⟨hx,sx⟩:=hx.val;obtain⟨hy,sy⟩:=hy.val;obtain⟨r,hr,hs,hK⟩:=Zqh (P:=P) (w:=w) (t:=t) he h2 (fun e=>(h3 e).1);refine EvOk.pure h (v:=r) ?_ (VR.mk hs) hK;have hg:(eqGuard op t x' y' u v).run P w = .ok () w:=by
   refine Zqg sx ?_
   rintro⟨rfl,rfl⟩
   have:wt=3:=(by unfold Jr at he;split at he<;>first | rfl | contradiction | (simp_all;done));exact(h3 this).2
  simp [execOp,ho,hx,hy,hg,hr]
 ·rename_i hu hv;split at he<;>try contradiction
  all_goals
   obtain⟨⟨ms,hm⟩,c,rfl⟩:=h3 rfl;rw[hu] at hx;rw[hv] at hy;obtain⟨tx,vx,hx⟩:=hx;obtain⟨hy,sy⟩:=hy.val;refine EvOk.pure h ?_ (VR.mk rfl) he;have hg:∀ op,(eqGuard op t x' (.const c) (.iface tx vx) .nilIface).run P w = .ok () w:=fun op=>by unfold eqGuard;split<;>rfl
   simp [execOp,ho,hx,hy,hg,binOp,Zqf hm]
theorem Zqj(h:Sim F G st a w){c x y:X}(hc:Zs P (.pk c x y) oper.op=true)(he:ev C (xv st.env) st.sto K (.pk c x y)):EvOk P G st a w K l b oper:=by
 simp only[Zs] at hc;split at hc<;>try contradiction
 rename_i ho;simp only[Uae] at hc;simp only[ev] at he;split at he<;>try contradiction
 rename_i t ht;have hx:=h.x hc.1.1;rw[ht] at hx;obtain⟨hx,_⟩:=hx.val;have h1:=h.x hc.1.2;have h2:=h.x hc.2;cases t
 ·exact EvOk.pure h (by simp [execOp,ho,hx,asBool]) h2 (by simpa using he)
 ·exact EvOk.pure h (by simp [execOp,ho,hx,asBool]) h1 (by simpa using he)
theorem Zqk(h:Sim F G st a w){i:Nat}{x:X}(hc:Zs P (.ex i x) oper.op=true)(he:ev C (xv st.env) st.sto K (.ex i x)):EvOk P G st a w K l b oper:=by
 simp only[Zs] at hc;split at hc<;>try contradiction
 rename_i ho;simp only[Uae,beq_iff_eq] at hc;obtain⟨rfl,hc⟩:=hc;simp only[ev] at he;split at he<;>try contradiction
 rename_i l ht;obtain⟨y,hy,he⟩:=he;have hx:=h.x hc;rw[ht] at hx;simp only[VR] at hx;obtain⟨vs,hv,hl⟩:=hx;obtain⟨v,hv2,hr⟩:=Y5 hl _ _ hy;exact EvOk.pure h (v:=v) (by simp [execOp,ho,hv,Instr.extract,hv2]) hr he
theorem Zql(h:Sim F G st a w){f:Nat}{cs:List X}(hc:Zs P (.mf f cs) oper.op=true)(he:ev C (xv st.env) st.sto K (.mf f cs)):EvOk P G st a w K l b oper:=by
 simp only[Zs] at hc;split at hc<;>try contradiction
 rename_i ho;simp only[Uae,beq_iff_eq] at hc;obtain⟨⟨rfl,hf⟩,hc⟩:=hc;simp only[ev] at he;have hl:=h.xs hc;refine EvOk.pure h ?_ (x:=.fn f (cs.map (xv st.env))) ⟨_,rfl,hl⟩ he.2;rename_i first caps
 have h0:first = #[]:=by simpa using hf
 subst h0;have hm:Array.map a.eval caps=(List.map a.eval caps.toList).toArray:=by rw[<-Ubz]
 simp [execOp,ho,Instr.makeFunc,hm]
theorem Zqm(h:Sim F G st a w){x:X}(hc:Zs P (.nc x) oper.op=true)(he:ev C (xv st.env) st.sto K (.nc x)):EvOk P G st a w K l b oper:=by
 simp only[Zs] at hc;split at hc<;>try contradiction
 rename_i ho;have hx:=h.x hc;simp only[ev] at he;split at he<;>try contradiction
 all_goals
  rename_i hq;rw[hq] at hx
 ·have hx':=hx;obtain⟨b1,o,f,hb,hv,hr⟩:=hx;exact EvOk.pure h (v:=a.eval _) (by simp [execOp,ho,hv]) hx' he
 ·have hx':=hx;obtain⟨cells,b1,c,hs,hg,hv⟩:=hx;exact EvOk.pure h (v:=a.eval _) (by simp [execOp,ho,hv]) hx' he
 ·have hx':=hx;obtain⟨⟨ad,hv⟩,_⟩:=hx;exact EvOk.pure h (v:=a.eval _) (by simp [execOp,ho,hv]) hx' he
theorem Zqn(h:Sim F G st a w){mx:Bool}{x y:X}(hc:Zs P (.mm mx x y) oper.op=true)(he:ev C (xv st.env) st.sto K (.mm mx x y)):EvOk P G st a w K l b oper:=by
 simp only[Zs] at hc;split at hc<;>try contradiction
 rename_i bi args at1 ho;simp only[ev] at he;split at he<;>try contradiction
 rename_i k u j v hu hv;obtain⟨rfl,he⟩:=he;split at hc<;>try contradiction
 all_goals
  rename_i ha;simp only[Uae] at hc;have hx:=h.x hc.1.2;have hy:=h.x hc.2;rw[hu] at hx;rw[hv] at hy;obtain⟨hx,_⟩:=hx.val;obtain⟨hy,_⟩:=hy.val;obtain⟨args⟩:=args;simp only at ha;subst ha;refine EvOk.pure h ?_ (VR.mk rfl) he;simp [execOp,ho,resolve,invoke,builtin,hx,hy,Builtin.max_,Builtin.min_,Builtin.max2,Builtin.min2,hc.1.1]
  first
  | (have hm:mx=false:=by simpa using hc.1.1);subst hm;simp only[Ua0,if_false,Int.min_def];split<;>split<;>omega
  | simp only[Int.max_def];split<;>split<;>omega
theorem Zqo(h:Sim F G st a w){x:X}(hc:Zs P (.ln x) oper.op=true)(he:ev C (xv st.env) st.sto K (.ln x)):EvOk P G st a w K l b oper:=by
 simp only[Zs] at hc;split at hc<;>try contradiction
 rename_i args at1 ho;split at hc<;>try contradiction
 rename_i y t hy ht;obtain⟨args⟩:=args;simp only at hy;subst hy;simp only[Uae,Uan] at hc;obtain⟨hx,e,hel⟩:=hc;have hu:P.underlying t=some (.slice e):=by unfold Yl at hel;split at hel<;>simp at hel;subst hel;assumption
 have hx:=h.x hx;have key:∀(n:Nat) (v:Option Addr) (c:Nat),a.eval y = .slice v n c->(execOp a.eval oper).run P w = .ok (.value (.int .i64 n)) w:=fun n v c hv=>by simp [execOp,ho,resolve,invoke,builtin,Builtin.len_,ht,run_underlying hu,hv,goInt]
 simp only[ev] at he;split at he<;>try contradiction
 ·rename_i es hq;rw[hq] at hx;simp only[VR] at hx;generalize hv:a.eval y=v at hx;cases hx with
  | nil a c=>exact EvOk.pure h (key _ _ _ hv) (VR.mk rfl) he
  | sl=>exact EvOk.pure h (key _ _ _ hv) (VR.mk rfl) he
 ·rename_i es hq;rw[hq] at hx;obtain⟨⟨v,hv⟩,_⟩:=hx;exact EvOk.pure h (key _ _ _ hv) (VR.mk rfl) he
 ·rename_i hq;rw[hq] at hx;obtain⟨⟨v,c,hv,_⟩,_⟩:=hx;exact EvOk.pure h (key _ _ _ hv) (VR.mk rfl) he
theorem Zqp(h:Sim F G st a w){x:X}(hc:Zs P (.lg x) oper.op=true)(he:ev C (xv st.env) st.sto K (.lg x)):EvOk P G st a w K l b oper:=by
 simp only[Zs] at hc;split at hc<;>try contradiction
 rename_i args at1 ho;split at hc<;>try contradiction
 rename_i y t hy ht;obtain⟨args⟩:=args;simp only at hy;subst hy;simp only[Uae] at hc;obtain⟨hx,hu⟩:=hc;split at hu<;>try contradiction
 rename_i hus;have hx:=h.x hx;simp only[ev] at he;split at he<;>try contradiction
 rename_i s hq;rw[hq] at hx;obtain⟨hx,_⟩:=hx.val;exact EvOk.pure h (by simp [execOp,ho,resolve,invoke,builtin,Builtin.len_,ht,run_underlying hus,hx,goInt]) (VR.mk rfl) he
theorem Zqq(h:Sim F G st a w){n:Nat}(hc:Zs P (.la n) oper.op=true)(he:ev C (xv st.env) st.sto K (.la n)):EvOk P G st a w K l b oper:=by
 simp only[Zs] at hc;split at hc<;>try contradiction
 rename_i args at1 ho;split at hc<;>try contradiction
 rename_i y t hy ht;obtain⟨args⟩:=args;simp only at hy;subst hy;split at hc<;>try contradiction
 rename_i m e hu;have hm:m=n:=by simpa using hc
 subst hm;simp only[ev] at he;exact EvOk.pure h (by simp [execOp,ho,resolve,invoke,builtin,Builtin.len_,ht,run_underlying hu,goInt]) (VR.mk rfl) he
theorem Zqr(h:Sim F G st a w){x i:X}(hc:Zs P (.ix x i) oper.op=true)(he:ev C (xv st.env) st.sto K (.ix x i)):EvOk P G st a w K l b oper:=by
 simp only[Zs] at hc;split at hc<;>try contradiction
 rename_i t y j ho;simp only[Uae] at hc;obtain⟨⟨hx,hi⟩,hu⟩:=hc;split at hu<;>try contradiction
 rename_i hus;have hx:=h.x hx;have hi:=h.x hi;simp only[ev] at he;split at he<;>try contradiction
 rename_i s k n hq hn;rw[hq] at hx;rw[hn] at hi;obtain⟨hx,_⟩:=hx.val;obtain⟨hi,_⟩:=hi.val;obtain⟨h0,c,hc,he⟩:=he;have hs:s[n.toNat]? = some c:=by
  have hlt:n.toNat<s.data.toList.length:=(Uad.1 hc).1;have hlt2:n.toNat<s.size:=by show n.toNat<s.data.size;simpa using hlt
  rw[getElem?_pos s n.toNat hlt2];rw[Uak hlt] at hc;have hc2:s.data.toList[n.toNat]=c:=UaT hc;rw[<-hc2];rfl
 exact EvOk.pure h (by simp [execOp,ho,Instr.index,hi,hx,asIntOf,run_underlying hus,h0,hs]) (VR.mk rfl) he
theorem Zqs(h:Sim F G st a w){c:Cv}{x:X}(hc:Zs P (.cv c x) oper.op=true)(he:ev C (xv st.env) st.sto K (.cv c x))(hby:c = .bys->EvOk P G st a w K l b oper):EvOk P G st a w K l b oper:=by
 simp only[Zs] at hc;split at hc<;>try contradiction
 rename_i s d y ho;simp only[Uae,Uan] at hc;obtain⟨⟨hx,sd,hs⟩,hd⟩:=hc;have hx:=h.x hx;cases c with
 | bys=>exact hby rfl
 | int k =>
  simp only[ev] at he;split at he<;>try contradiction
  rename_i hk hq;cases hk;rw[hq] at hx;obtain⟨hx,_⟩:=hx.val;split at hd<;>try contradiction
  rename_i hk hu;cases hk;have hk:=of_decide_eq_true hd;rw[<-hk] at hu;exact EvOk.pure h (by simp [execOp,ho,convert,hx,run_underlying hs,run_underlying hu,Conv.intToInt,Uw he.1]) (VR.mk rfl) he.2
 | wrap k =>
  simp only[ev] at he;split at he<;>try contradiction
  rename_i hk hq;cases hk;rw[hq] at hx;obtain⟨hx,_⟩:=hx.val;split at hd<;>try contradiction
  rename_i hk hu;cases hk;have hk:=of_decide_eq_true hd;rw[<-hk] at hu;exact EvOk.pure h (by simp [execOp,ho,convert,hx,run_underlying hs,run_underlying hu,Conv.intToInt]) (VR.mk rfl) he
 | str =>
  simp only[ev] at he;split at he<;>try contradiction
  rename_i hk hq;cases hk;rw[hq] at hx;obtain⟨hx,_⟩:=hx.val;split at hd<;>try contradiction
  rename_i hu;exact EvOk.pure h (by simp [execOp,ho,convert,hx,run_underlying hs,run_underlying hu]) (VR.mk rfl) he
 | rune =>
  simp only[ev] at he;split at he<;>try contradiction
  rename_i n hk hq;cases hk;rw[hq] at hx;obtain⟨hx,_⟩:=hx.val;split at hd<;>try contradiction
  rename_i hu;obtain⟨h0,h1,he⟩:=he;have hr:Utf8.encode n=⟨#[n.toNat.toUInt8]⟩:=by
   unfold Utf8.encode;have hv:Utf8.valid n=true:=by unfold Utf8.valid;simp;left;omega
   simp only[hv,if_true];rw[if_pos (by omega)]
  exact EvOk.pure h (by simp [execOp,ho,convert,hx,run_underlying hs,run_underlying hu,Conv.intToString,hr]) (VR.mk rfl) he
end ops
end Go.Fd
namespace Go.Fd
variable [Tabs]
theorem Zim:∀{es es' es2:Row} {p:Zn} {i f:Nat} {e:List Tr},getp es p=some es'->es'[i]? = some e->e[f]? = some (.sl es2)->getp es (p++[(i,f)])=some es2
 | es,es',es2,[],i,f,e,hg,hi,hf=>by simp only[getp,Uat] at hg;subst hg;simp [getp,hi,hf]
 | es,es',es2,(a,b)::p,i,f,e,hg,hi,hf=>by
  simp only[List.cons_append,getp] at hg ⊢;split at hg
  ·split at hg
   ·exact Zim hg hi hf
   ·cases hg
  ·cases hg
theorem ZbQ{p:Zn}{st hw ver:Nat}{u:Bool}(h:J2 p st hw ver u):p=[]\/u=true:=by
 cases p with
 | nil=>exact .inl rfl
 | cons q p=>exact .inr h.1
theorem Zqt{p:Zn}{q:Nat×Nat}{hw ver:Nat}{u:Bool}(h:u=true):J2 (p++[q]) ver hw ver u:=by
 cases p with
 | nil=>exact⟨h,rfl⟩
 | cons r p=>exact⟨h,rfl⟩
section ops
variable {P:Program} {F:Fr} {G:Gh} {S:Zb} {st:St} {a:Act} {w:World} {C:ZJ} {K:Yc} {l b:Nat} {oper:Oper}
theorem YJ(b o n:Nat):(⟨b,o,none⟩:Addr).add n=⟨b,o+n,none⟩:=by
 unfold Addr.add;split
 ·rename_i h;subst h;rfl
 ·rfl
theorem ZbR(h:SOk G S w){id:Zd}{k:Nat}{es es':Row}{u:Bool}{hw ver st:Nat}{p:Zn}(hs:S id=some (.ar k es u hw ver))(hst:J2 p st hw ver u)(hg:getp es p=some es') :
  Z7 G w (Av G S w) id p k u es':=(h.obs id _ hs).2.2.2.1 p es' (ZbQ hst) hg
theorem ZbS(h:SOk G S w){id:Zd}{k:Nat}{es es':Row}{u:Bool}{hw ver st i f:Nat}{p:Zn}{v:Value}{e:List Tr}(hv:QR G S id p i f st v)
  (hs:S id=some (.ar k es u hw ver)) (hst:J2 p st hw ver u) (hg:getp es p=some es') (hi:es'[i]? = some e) :
  ∃ b c vs ty,v = .pointer (some ⟨b,i*e.length+f,none⟩)/\G id p=some (b,c)/\w.heap[b]? = some (.cells vs ty (0,0))/\vs.size=c*e.length/\i<c/\ZC e.length es'/\(p=[]->e.length=k) /\
   ∀ j t,e[j]? = some t->∃ x,vs[i*e.length+j]? = some x/\Jl G w (Av G S w) id p u i j x t:=by
 obtain⟨_,k2,es2,u2,hw2,ver2,hs2,_,hv⟩:=hv;rw[hs] at hs2;cases hs2;obtain⟨es3,k',b,c0,hg3,hk,hun,hG,rfl⟩:=hv hst;rw[hg] at hg3;cases hg3;have hr:=ZbR h hs hst hg;unfold Z7 at hr;rw[hG] at hr;obtain⟨k2,vs,ty,h1,h2,h3,h4,h5,h6⟩:=hr;have he:=hun e (Uaf hi);have he2:=h2 e (Uaf hi);subst he;subst he2;exact⟨b,c0,vs,ty,rfl,hG,h3,h4,UaZ (Uad.1 hi).1 h5,h2,h1,fun j t hj=>h6 i e j t hi hj⟩
theorem Zin(h:SOk G S w){id:Zd}{k:Nat}{es es':Row}{u:Bool}{hw ver i f:Nat}{p:Zn}{e:List Tr}{t:Tr}{x:Value}
  (hs:S id=some (.ar k es u hw ver)) (hg:getp es p=some es') (hi:es'[i]? = some e) (hf:e[f]? = some t) (hc:Jl G w (Av G S w) id p u i f x t):VR G S w (cvt id p i f u ver t) x:=by
 cases t with
 | v y=>obtain⟨rfl,hy⟩:=hc;exact .v _ hy
 | sl es2 =>
  simp only[Jl] at hc;simp only[cvt];by_cases hu:u=true
  ·simp only[hu,if_true] at hc ⊢;obtain⟨ad,c,rfl,hl,hor⟩:=hc;have hg2:=Zim hg hi hf;refine⟨⟨_,_,rfl,hl⟩,k,es,u,hw,ver,hs,by cases p<;>exact Ual ver,fun _=>?_⟩;rcases hor with h0 | ⟨b,c0,hG,rfl,hc0⟩
   ·have:es2=[]:=Uay h0;subst this;exact⟨[],0,ad,c,hg2,fun h=>by simp at h,fun e he=>by simp at he,rfl,by simp,fun m hm=>by simp at hm,fun _ h=>by simp at h,.inr (.inl ⟨by simp,rfl⟩)⟩
   ·have hr:=ZbR h hs (Zqt (p:=p) (q:=(i,f)) (hw:=hw) hu) hg2;unfold Z7 at hr;rw[hG] at hr;obtain⟨k2,vs,ty,h1,h2,h3,h4,h5,h6⟩:=hr;exact⟨es2,k2,_,c,hg2,fun h=>by simp at h,h2,rfl,hl,fun m hm=>by simp at hm,fun _ h=>by simp at h,.inr (.inr ⟨b,c0,hG,by simp,by simpa using hc0⟩)⟩
  ·simp only[hu] at hc ⊢;exact hc
theorem Zio(h:SOk G S w){id:Zd}{k:Nat}{es es':Row}{u:Bool}{hw ver i:Nat}{p:Zn}{e:List Tr}
  (hs:S id=some (.ar k es u hw ver)) (hg:getp es p=some es') (hi:es'[i]? = some e):∀(ts:List Tr) (f:Nat) (xs:List Value),xs.length=ts.length ->
   (∀ j t x,ts[j]? = some t->xs[j]? = some x->e[f+j]? = some t/\Jl G w (Av G S w) id p u i (f+j) x t)->Zu G S w (cvts id p i u ver f ts) xs
 | [],f,xs,hl,_=>by simp at hl;subst hl;rfl
 | t::r,f,[],hl,_=>by simp at hl
 | t::r,f,x::xs,hl,hx=>by obtain⟨h1,h2⟩:=hx 0 t x rfl rfl;refine⟨x,xs,rfl,Zin h hs hg hi h1 h2,Zio h hs hg hi r (f+1) xs (by simpa using hl) fun j t' x' ht' hx' => ?_⟩;have:=hx (j+1) t' x' (by simpa using ht') (by simpa using hx');rwa [show f+(j+1)=f+1+j from by omega] at this
theorem Xj{t:TypeId}{q:Bool}(h:QA P t=some q):(isAgg t).run P w = .ok q w:=by
 unfold QA at h;unfold isAgg;split at h
 ·rename_i hu;simp at h;subst h;simp [run_underlying hu]
 ·rename_i hu;simp at h;subst h;simp [run_underlying hu]
 ·rename_i d hu h1 h2;simp at h;subst h;simp only[Sem.run_bind,run_underlying h2,Result.andThen_ok];rfl
 ·cases h
theorem Vm{t:TypeId}{n:Nat}(h:JB P t=some n):(Go.sizeOf t).run P w = .ok n w:=by unfold JB at h;simp only[UaJ] at h;obtain⟨i,hi,rfl⟩:=h;simp [Go.sizeOf,typeInfo,hi]
theorem Zip{t:TypeId}{ad:Addr}{v:Value}(h:QA P t=some false)(hc:w.cell? ad=some v):(loadVar t ad).run P w = .ok v w:=by simp [loadVar,Xj h,load,Sem.run,hc]
theorem Zes{t:TypeId}{ad:Addr}{cs:List Value}(h:QA P t=some true)(hn:JB P t=some cs.length)(hc:∀(j:Nat) (v:Value),cs[j]? = some v->w.cell? (ad.add j)=some v) :
  (loadVar t ad).run P w = .ok (.agg cs.toArray) w:=by
 simp [loadVar,Xj h,Vm hn,run_loadCells_list w ad cs hc]
theorem Zqu{ts:List Tr}{xs:List Value}(hl:xs.length=ts.length)(h:∀(j:Nat) (t:Tr) (x:Value),ts[j]? = some t->xs[j]? = some x->Rds w (Av G S w) x t):Zu G S w (ts.map .tr) xs :=
 Zak (by simpa using hl) fun i x v hx hv=>by simp only[Uao,UaJ] at hx;obtain⟨t,ht,rfl⟩:=hx;exact h i t v ht hv
theorem Zet(h:Sim F G st a w){p:X}(hc:Zs P (.ld none p) oper.op=true)(he:ev C (xv st.env) st.sto K (.ld none p)):EvOk P G st a w K l b oper:=by
 simp only[Zs] at hc;split at hc<;>try contradiction
 rename_i t y ho;simp only[Uae,Vl,beq_iff_eq] at hc;obtain⟨ht,hx⟩:=hc;have hx:=h.x hx;have key:∀{ad:Addr} {v:Value},a.eval y = .pointer (some ad)->w.cell? ad=some v->(execOp a.eval oper).run P w = .ok (.value v) w:=fun hv hcl=>by simp [execOp,ho,Instr.loadAt,Instr.sureAddr,hv,Zip ht hcl]
 simp only[ev] at he;split at he<;>try contradiction
 ·rename_i cells hq;rw[hq] at hx;obtain⟨c,hc0,he⟩:=he;obtain⟨b1,o,f,hA,hv,hf⟩:=hx;obtain⟨h1,h2⟩:=hf 0 c hc0;exact EvOk.pure h (key hv h1) (x:=.tr c) h2 he
 ·rename_i id off hq;rw[hq] at hx;split at he<;>try contradiction
  rename_i cells hs;obtain⟨x,hx0,he⟩:=he;obtain⟨cells',b1,c,hs',hG,hv⟩:=hx;rw[hs] at hs';cases hs';obtain⟨b2,c2,vs,ty,hG2,hh,hvs⟩:=h.ok.obs id _ hs;rw[hG] at hG2;cases hG2;obtain⟨u,hu,hr⟩:=Y5 hvs _ _ hx0;refine EvOk.pure h (key hv ?_) hr he;rw[cell_of_row w b1 off vs ty _ hh];simpa using hu
 ·rename_i id p' i f s hq;rw[hq] at hx;unfold JU at he;split at he<;>try contradiction
  rename_i k es u hw ver hs;obtain⟨es',hg,hst,e,hi,t',hf,he⟩:=he;obtain⟨b1,c,vs,ty,hv,hG,hh,_,_,_,_,hcell⟩:=ZbS h.ok hx hs hst hg hi;obtain⟨x,hx0,hcr⟩:=hcell f t' hf;refine EvOk.pure h (key hv ?_) (Zin h.ok hs hg hi hf hcr) he;rw[cell_of_row w b1 _ vs ty _ hh];exact hx0
theorem Zeu(h:Sim F G st a w){m:Nat}{p:X}(hc:Zs P (.ld (some m) p) oper.op=true)(he:ev C (xv st.env) st.sto K (.ld (some m) p)):EvOk P G st a w K l b oper:=by
 simp only[Zs] at hc;split at hc<;>try contradiction
 rename_i t y ho;simp only[Uae,Vl,beq_iff_eq] at hc;obtain⟨⟨ht,hm⟩,hx⟩:=hc;have hx:=h.x hx;have key:∀{ad:Addr} {cs:List Value},a.eval y = .pointer (some ad)->cs.length=m->(∀(j:Nat) (v:Value),cs[j]? = some v->w.cell? (ad.add j)=some v)->(execOp a.eval oper).run P w = .ok (.value (.agg cs.toArray)) w:=fun {ad cs} hv hl hcl=>by subst hl;simp [execOp,ho,Instr.loadAt,Instr.sureAddr,hv,Zes ht hm hcl]
 simp only[ev] at he;split at he<;>try contradiction
 ·rename_i cells hq;rw[hq] at hx;obtain⟨hlen,he⟩:=he;obtain⟨b1,o,f,hA,hv,hf⟩:=hx;refine EvOk.pure h (key (cs:=(List.range m).map f) hv (by simp) fun j v hj=>?_) (x:=.ag ((cells.take m).map .tr)) ⟨_,rfl,Zqu (by simp [hlen]) fun j t' x hj hxj=>?_⟩ he
  ·simp only[Uao,UaJ] at hj;obtain⟨j',hj',rfl⟩:=hj;have hjm:j<m/\j'=j:=by rw[Uad] at hj';obtain⟨hlt,heq⟩:=hj';simp at hlt heq;exact⟨hlt,heq.symm⟩
   obtain⟨hlt,rfl⟩:=hjm;have:j' < cells.length:=by omega
   rw[YJ];exact(hf j' _ (Uak this)).1
  ·rw[UaB] at hj;split at hj<;>try contradiction
   rename_i hlt;have:x=f j:=by simp [Uao,Uby hlt] at hxj;exact hxj.symm
   rw[this];exact(hf j t' hj).2
 ·rename_i id off hq;rw[hq] at hx;split at he<;>try contradiction
  rename_i cells hs;obtain⟨hlen,he⟩:=he;obtain⟨cells',b1,c,hs',hG,hv⟩:=hx;rw[hs] at hs';cases hs';obtain⟨b2,c2,vs,ty,hG2,hh,hvs⟩:=h.ok.obs id _ hs;rw[hG] at hG2;cases hG2;have hl:=YP hvs;refine EvOk.pure h (key (cs:=(vs.toList.drop off).take m) hv (by simp [hl] at hl ⊢;omega) fun j v hj=>?_) (x:=.ag _) ⟨_,rfl,Zan (Zam hvs off) m⟩ he;rw[UaB] at hj;split at hj<;>try contradiction
  rw[UaM] at hj;rw[YJ,cell_of_row w b1 _ vs ty _ hh];simpa using hj
 ·rename_i id p' i f s hq;rw[hq] at hx;unfold JU at he;split at he<;>try contradiction
  rename_i k es u hw ver hs;obtain⟨es',hg,hst,e,hi,hfm,he⟩:=he;obtain⟨b1,c,vs,ty,hv,hG,hh,_,_,_,_,hcell⟩:=ZbS h.ok hx hs hst hg hi;have hex:∀ j,j<m->∃ x,vs[i*e.length+(f+j)]? = some x:=fun j hj=>by obtain⟨x,hx0,_⟩:=hcell (f+j) _ (Uak (by omega));exact⟨x,hx0⟩
  refine EvOk.pure h (key (cs:=(List.range m).map fun j=>(vs[i*e.length+(f+j)]?).getD undef) hv (by simp) fun j v hj=>?_) (x:=.ag _) ⟨_,rfl,Zio h.ok hs hg hi _ f _ (by simp;omega) fun j t' x hj hxj=>?_⟩ he
  ·rw[Uad] at hj;obtain⟨hlt,heq⟩:=hj;simp at hlt heq;obtain⟨x,hx0⟩:=hex j hlt;rw[YJ,cell_of_row w b1 _ vs ty _ hh,Ubc,hx0,<-heq,hx0];rfl
  ·rw[Uad] at hxj;obtain⟨hlt,heq⟩:=hxj;simp at hlt heq;rw[UaB,if_pos hlt,UaM] at hj;obtain⟨x',hx0,hcr⟩:=hcell (f+j) t' hj;rw[hx0] at heq;simp at heq;subst heq;exact⟨hj,hcr⟩
end ops
end Go.Fd
namespace Go.Fd
variable [Tabs]
section ops
variable {P:Program} {F:Fr} {G:Gh} {S:Zb} {st:St} {a:Act} {w:World} {C:ZJ} {K:Yc} {l b:Nat} {oper:Oper}
theorem VA{t e:TypeId}(h:Yl P t=some e):P.underlying t=some (.slice e):=by unfold Yl at h;split at h<;>simp at h;subst h;assumption
theorem Zqv{A:Nat->Prop}{cells:List Tr}{b o n:Nat}{f:Nat->Value}(hb:A b)(hf:∀(j:Nat) (t:Tr),cells[j]? = some t->w.cell? ⟨b,o+j,none⟩=some (f j)/\Rds w A (f j) t) :
  WM w A (cells.drop n) (.pointer (some ⟨b,o+n,none⟩)) :=
 ⟨b,o+n,fun j=>f (n+j),hb,rfl,fun j t hj=>by
  rw[UaM] at hj;rw[Ubc];exact hf _ _ hj⟩
theorem Zqw{id:Zd}{p:Zn}{i f s n:Nat}{v:Value}(h:QR G S id p i f s v):∃ ad,v = .pointer (some ad)/\QR G S id p i (f+n) s (.pointer (some (ad.add n))):=by obtain⟨⟨ad,rfl⟩,k,es,u,hw,ver,hs,hbd,hv⟩:=h;refine⟨ad,rfl,⟨_,rfl⟩,k,es,u,hw,ver,hs,hbd,fun hst=>?_⟩;obtain⟨es',k',b,c0,h1,h2,h3,h4,h5⟩:=hv hst;cases h5;exact⟨es',k',b,c0,h1,h2,h3,h4,by rw[YJ,Ubc]⟩
theorem De{n:Nat}{v:Value}{x y:IV}(hx:VR G S w x v)
  (hy:(∃ cells,x = .ta cells/\y = .ta (cells.drop n))\/(∃ id o,x = .ab id o/\y = .ab id (o+n))\/∃ id p i f s,x = .ae id p i f s/\y = .ae id p i (f+n) s) :
  ∃ ad,v = .pointer (some ad)/\VR G S w y (.pointer (some (ad.add n))):=by
 rcases hy with ⟨cells,rfl,rfl⟩ | ⟨id,o,rfl,rfl⟩ | ⟨id,p,i,f,s,rfl,rfl⟩
 ·obtain⟨b1,o,f,hb,rfl,hf⟩:=hx;exact⟨_,rfl,by rw[YJ];exact Zqv hb hf⟩
 ·obtain⟨cells,b1,c,hs,hG,rfl⟩:=hx;exact⟨_,rfl,by rw[YJ];exact⟨cells,b1,c,hs,hG,rfl⟩⟩
 ·exact Zqw hx
theorem Zqx(h:Sim F G st a w){off:Nat}{p:X}(hc:Zs P (.fa off p) oper.op=true)(he:ev C (xv st.env) st.sto K (.fa off p)):EvOk P G st a w K l b oper:=by
 simp only[Zs] at hc;split at hc<;>try contradiction
 rename_i t y fi ho;simp only[Uae] at hc;obtain⟨hx,hc⟩:=hc;split at hc<;>try contradiction
 rename_i fields hu;split at hc<;>try contradiction
 rename_i fd hfd;simp only[Uae,beq_iff_eq] at hc;obtain⟨rfl,hc⟩:=hc;split at hc<;>try contradiction
 rename_i n hn;have hn0:n≠0:=by have:=of_decide_eq_true hc;omega
 have hx:=h.x hx;have key:∀{ad:Addr},a.eval y = .pointer (some ad)->(execOp a.eval oper).run P w = .ok (.value (.pointer (some (ad.add fd.offset)))) w:=fun hv=>by simp [execOp,ho,Instr.fieldAt,run_underlying hu,hfd,Instr.sureAddr,hv,fieldPlace,Vm hn,hn0]
 simp only[ev] at he;split at he<;>try contradiction
 ·rename_i cells hq;rw[hq] at hx;obtain⟨ad,hv,hr⟩:=De (n:=fd.offset) hx (.inl ⟨_,rfl,rfl⟩);exact EvOk.pure h (key hv) hr he
 ·rename_i id o hq;rw[hq] at hx;obtain⟨ad,hv,hr⟩:=De (n:=fd.offset) hx (.inr (.inl ⟨_,_,rfl,rfl⟩));exact EvOk.pure h (key hv) hr he
 ·rename_i id p' i f s hq;rw[hq] at hx;obtain⟨ad,hv,hr⟩:=De (n:=fd.offset) hx (.inr (.inr ⟨_,_,_,_,_,rfl,rfl⟩));exact EvOk.pure h (key hv) hr he
theorem Zqy(h:Sim F G st a w){k n:Nat}{p i:X}(hc:Zs P (.ja k n p i) oper.op=true)(he:ev C (xv st.env) st.sto K (.ja k n p i)):EvOk P G st a w K l b oper:=by
 simp only[Zs] at hc;split at hc<;>try contradiction
 rename_i t y j ho;simp only[Uae] at hc;obtain⟨⟨hx,hi⟩,hc⟩:=hc;split at hc<;>try contradiction
 rename_i m e hu;simp only[Uae,beq_iff_eq] at hc;obtain⟨rfl,hsz⟩:=hc;have hx:=h.x hx;have hi:=h.x hi;simp only[ev] at he;split at he<;>try contradiction
 rename_i kk q hq;rw[hq] at hi;obtain⟨hi,_⟩:=hi.val;obtain⟨h0,h1,he⟩:=he;have h1':q<(m:Int):=by omega
 have key:∀{ad:Addr},a.eval y = .pointer (some ad)->(execOp a.eval oper).run P w = .ok (.value (.pointer (some (ad.add (q.toNat*k))))) w:=fun hv=>by simp [execOp,ho,Instr.indexAt,hi,asIntOf,run_underlying hu,Instr.sureAddr,hv,Vm hsz,h0,h1']
 split at he<;>try contradiction
 ·rename_i cells hq;rw[hq] at hx;obtain⟨ad,hv,hr⟩:=De (n:=q.toNat*k) hx (.inl ⟨_,rfl,rfl⟩);exact EvOk.pure h (key hv) hr he
 ·rename_i id o hq;rw[hq] at hx;obtain⟨ad,hv,hr⟩:=De (n:=q.toNat*k) hx (.inr (.inl ⟨_,_,rfl,rfl⟩));exact EvOk.pure h (key hv) hr he
 ·rename_i id p' i f s hq;rw[hq] at hx;obtain⟨ad,hv,hr⟩:=De (n:=q.toNat*k) hx (.inr (.inr ⟨_,_,_,_,_,rfl,rfl⟩));exact EvOk.pure h (key hv) hr he
theorem Rds.elem{A:Nat->Prop}{v:Value}{es:Row}{n:Nat}{e:List Tr}(h:Rds w A v (.sl es))(he:es[n]? = some e) :
  ∃ b o c,v = .slice (some ⟨b,o,none⟩) es.length c/\n<es.length/\WM w A e (.pointer (some ⟨b,o+n*e.length,none⟩)):=by
 generalize ht:Tr.sl es=t at h;cases h with
 | v x h=>cases ht
 | nil a c=>cases ht;simp at he
 | sl b o c k es' f hA hk hl hc hr =>
  cases ht;have hn:e.length=k:=hk e (Uaf he);refine⟨b,o,c,rfl,(Uad.1 he).1,b,o+n*e.length,fun j=>f n j,hA,rfl,fun j t hj=>?_⟩;rw[hn];exact⟨hc n e j t he hj,hr n e j t he hj⟩
theorem Ziq(h:Sim F G st a w){k:Nat}{x i:X}(hc:Zs P (.ia k x i) oper.op=true)(he:ev C (xv st.env) st.sto K (.ia k x i)):EvOk P G st a w K l b oper:=by
 simp only[Zs] at hc;split at hc<;>try contradiction
 rename_i t y j ho;simp only[Uae] at hc;obtain⟨⟨hx,hi⟩,hc⟩:=hc;split at hc<;>try contradiction
 rename_i e0 hel;have hu:=VA hel;have hsz:JB P e0=some k:=by simpa using hc
 have hx:=h.x hx;have hi:=h.x hi;simp only[ev] at he;split at he<;>try contradiction
 rename_i kk q hq;rw[hq] at hi;obtain⟨hi,_⟩:=hi.val;obtain⟨h0,he⟩:=he;have key:∀{ad:Addr} {len cap:Nat},a.eval y = .slice (some ad) len cap->q.toNat<len->(execOp a.eval oper).run P w = .ok (.value (.pointer (some (ad.add (q.toNat*k))))) w:=fun {ad len cap} hv hlt=>by
  have h1':q<(len:Int):=by omega
  simp [execOp,ho,Instr.indexAt,hi,asIntOf,run_underlying hu,hv,Vm hsz,h0,h1']
 split at he<;>try contradiction
 ·rename_i es hq;rw[hq] at hx;obtain⟨e,hee,rfl,he⟩:=he;obtain⟨b1,o,c,hv,hlt,hr⟩:=Rds.elem hx hee;exact EvOk.pure h (key hv hlt) (x:=.ta e) (by rw[YJ];exact hr) he
 ·rename_i es hq;rw[hq] at hx;obtain⟨e,hee,rfl,he⟩:=he;obtain⟨b1,o,c,hv,hlt,hr⟩:=Rds.elem hx.2 hee;exact EvOk.pure h (key hv hlt) (x:=.ta e) (by rw[YJ];exact hr) he
 ·rename_i id p off len cap s hq;rw[hq] at hx;unfold JU at he;split at he<;>try contradiction
  rename_i k2 es u hw ver hs;obtain⟨es',hg,hst,hlt,e,hee,rfl,he⟩:=he;obtain⟨_,k3,es3,u3,hw3,ver3,hs3,hbd,hv⟩:=hx;rw[hs] at hs3;cases hs3;obtain⟨es4,k',ad,c,hg4,hk4,hun,hv,hlc,hcap,hcap2,hor⟩:=hv hst;rw[hg] at hg4;cases hg4;have hek:e.length=k':=hun e (Uaf hee);rcases hor with hz | ⟨_,hz⟩ | ⟨b1,c0,hG,rfl,hoc⟩
  ·omega
  ·omega
  ·refine EvOk.pure h (key hv hlt) (x:=.ae id p (off+q.toNat) 0 s) ⟨⟨_,rfl⟩,k2,es,u,hw,ver,hs,hbd,fun _=>⟨es',k',b1,c0,hg,hk4,hun,hG,?_⟩⟩ he;rw[YJ,<-hek,UaP,Nat.add_zero]
theorem Zqz(h:Sim F G st a w){off:Nat}{m:Option Nat}{x:X}(hc:Zs P (.fd off m x) oper.op=true)(he:ev C (xv st.env) st.sto K (.fd off m x)):EvOk P G st a w K l b oper:=by
 simp only[Zs] at hc;split at hc<;>try contradiction
 rename_i t y fi ho;simp only[Uae] at hc;obtain⟨hx,hc⟩:=hc;split at hc<;>try contradiction
 rename_i fields hu;split at hc<;>try contradiction
 rename_i fd hfd;simp only[Uae,beq_iff_eq] at hc;obtain⟨rfl,hc⟩:=hc;have hx:=h.x hx;cases m with
 | none =>
  have ht:QA P fd.type=some false:=by simpa [Vl] using hc
  simp only[ev] at he;split at he<;>try contradiction
  rename_i l0 hq;rw[hq] at hx;obtain⟨z,hz,he⟩:=he;obtain⟨vs,hv,hvs⟩:=hx;obtain⟨v,hv2,hr⟩:=Y5 hvs _ _ hz;refine EvOk.pure h (v:=v) ?_ hr he;simp [execOp,ho,Instr.field,run_underlying hu,hfd,hv,asAgg,part,Xj ht,hv2]
 | some m =>
  have ht:QA P fd.type=some true/\JB P fd.type=some m:=by simpa [Vl] using hc
  simp only[ev] at he;split at he<;>try contradiction
  rename_i l0 hq;rw[hq] at hx;obtain⟨hlen,he⟩:=he;obtain⟨vs,hv,hvs⟩:=hx;refine EvOk.pure h (v:=.agg ((vs.drop fd.offset).take m).toArray) ?_ (x:=.ag _) ⟨_,rfl,Zan (Zam hvs _) m⟩ he;simp [execOp,ho,Instr.field,run_underlying hu,hfd,hv,asAgg,part,Xj ht.1,Vm ht.2]
theorem ZqA(h:Sim F G st a w){k n:Nat}{m:Option Nat}{x i:X}(hc:Zs P (.jx k n m x i) oper.op=true)(he:ev C (xv st.env) st.sto K (.jx k n m x i)):EvOk P G st a w K l b oper:=by
 simp only[Zs] at hc;split at hc<;>try contradiction
 rename_i t y j ho;simp only[Uae] at hc;obtain⟨⟨hx,hi⟩,hc⟩:=hc;split at hc<;>try contradiction
 rename_i q e hu;simp only[Uae,beq_iff_eq] at hc;obtain⟨⟨rfl,hsz⟩,hsh⟩:=hc;have hx:=h.x hx;have hi:=h.x hi;cases m with
 | none =>
  have ht:QA P e=some false:=by simpa [Vl] using hsh
  simp only[ev] at he;split at he<;>try contradiction
  rename_i l0 kk r hq hn;rw[hq] at hx;rw[hn] at hi;obtain⟨hi,_⟩:=hi.val;obtain⟨h0,h1,z,hz,he⟩:=he;have h1':r<(q:Int):=by omega
  obtain⟨vs,hv,hvs⟩:=hx;obtain⟨v,hv2,hr⟩:=Y5 hvs _ _ hz;refine EvOk.pure h (v:=v) ?_ hr he;simp [execOp,ho,Instr.index,hi,asIntOf,run_underlying hu,hv,h0,h1',Vm hsz,part,Xj ht,hv2]
 | some m =>
  have ht:QA P e=some true/\JB P e=some m:=by simpa [Vl] using hsh
  simp only[ev] at he;split at he<;>try contradiction
  rename_i l0 kk r hq hn;rw[hq] at hx;rw[hn] at hi;obtain⟨hi,_⟩:=hi.val;obtain⟨h0,h1,hlen,he⟩:=he;have h1':r<(q:Int):=by omega
  obtain⟨vs,hv,hvs⟩:=hx;have hkm:k=m:=by rw[hsz] at ht;exact UaT ht.2
  subst hkm;refine EvOk.pure h (v:=.agg ((vs.drop (r.toNat*k)).take k).toArray) ?_ (x:=.ag _) ⟨_,rfl,Zan (Zam hvs _) k⟩ he;simp [execOp,ho,Instr.index,hi,asIntOf,run_underlying hu,hv,h0,h1',Vm hsz,part,Xj ht.1]
end ops
end Go.Fd
namespace Go.Fd
variable [Tabs]
section grow
variable {G G':Gh} {S S':Zb} {w w':World}
theorem Zev(e:Ext w w')(hG:∀ i ob,S i=some ob->G' i=G i)
  (hnew:∀ i ob,S' i=some ob->S i=none->∀ b,ZM G' i ob b->w.heap.size<=b) (hS:∀ i ob,S i=some ob->S' i=some ob):∀ b,Av G S w b->Av G' S' w' b:=by
 intro b hb;refine⟨UaZ hb.1 e.size,fun i ob hs ho=>?_⟩;cases hi:S i with
 | none=>have:=hnew i ob hs hi b ho;have:=hb.1;omega
 | some ob2 =>
  have:=hS i ob2 hi;rw[hs] at this;cases this;exact hb.2 i ob hi ((Vy (hG i ob hi)).1 ho)
theorem ZqB(e:Ext w w')(hG:∀ i ob,S i=some ob->G' i=G i)
  (hnew:∀ i ob,S' i=some ob->S i=none->∀ b,ZM G' i ob b->w.heap.size<=b) (hS:∀ i ob,S i=some ob->S' i=some ob) (x:IV) (v:Value) (hv:VR G S w x v):VR G' S' w' x v :=
 X5 (P:=fun _=>True) (Zev e hG hnew hS) (fun b hb=>e.heap b hb.1) (fun i ob _ hs=>⟨ob,hS i ob hs,Qg (hG i ob hs) ob⟩) x v (JZ (fun _ _=>trivial) x (Us x v hv)) hv
theorem Zew(e:Ext w w')(hG:∀ i ob,S i=some ob->G' i=G i)
  (hnew:∀ i ob,S' i=some ob->S i=none->∀ b,ZM G' i ob b->w.heap.size<=b) (hS:∀ i ob,S i=some ob->S' i=some ob) (x:List IV) (v:List Value) (hv:Zu G S w x v):Zu G' S' w' x v :=
 QT (P:=fun _=>True) (Zev e hG hnew hS) (fun b hb=>e.heap b hb.1) (fun i ob _ hs=>⟨ob,hS i ob hs,Qg (hG i ob hs) ob⟩) x v (JK (fun _ _=>trivial) x (Xi x v hv)) hv
theorem ZqC(h:SOk G S w)(e:Ext w w')(hG:∀ i ob,S i=some ob->G' i=G i)
  (hnew:∀ i ob,S' i=some ob->S i=none->∀ b,ZM G' i ob b->w.heap.size<=b) (hS:∀ i ob,S i=some ob->S' i=some ob)
  (hob:∀ i ob,S' i=some ob->S i=none->Vd G' S' w' i ob)
  (hdis:∀ i ob j ob' b,S' i=some ob->S i=none->S' j=some ob'->S j=none->ZM G' i ob b->ZM G' j ob' b->i=j)
  (hlow:∀ i cells,S' i=some (.bx cells)->S i=none->Jk (i.1+1) cells):SOk G' S' w' where
 obs i ob hs:=by
  cases hi:S i with
  | none=>exact hob i ob hs hi
  | some ob2 =>
   have:=hS i ob2 hi;rw[hs] at this;cases this;exact Ut (hG i ob hi) (Zev e hG hnew hS) (fun b hb=>e.heap b hb.1) (fun b hb=>e.heap b (Ys (h.obs i ob hi) hb)) (fun cells vs _ hv=>Zew e hG hnew hS cells vs hv) (h.obs i ob hi)
 dis i ob j ob' b hs hs' ho ho':=by
  cases hi:S i with
  | none =>
   cases hj:S j with
   | none=>exact hdis i ob j ob' b hs hi hs' hj ho ho'
   | some ob3 =>
    have h3:=hS j ob3 hj;rw[hs'] at h3;cases h3;have h1:=hnew i ob hs hi b ho;have h2:=Ys (h.obs j ob' hj) ((Vy (hG j ob' hj)).1 ho');omega
  | some ob2 =>
   have h3:=hS i ob2 hi;rw[hs] at h3;cases h3;have ho1:=(Vy (hG i ob hi)).1 ho;cases hj:S j with
   | none =>
    have h1:=hnew j ob' hs' hj b ho';have h2:=Ys (h.obs i ob hi) ho1;omega
   | some ob3 =>
    have h3:=hS j ob3 hj;rw[hs'] at h3;cases h3;exact h.dis _ _ _ _ b hi hj ho1 ((Vy (hG j ob' hj)).1 ho')
 low i cells hs:=by
  cases hi:S i with
  | none=>exact hlow i cells hs hi
  | some ob2 =>
   have h3:=hS i ob2 hi;rw[hs] at h3;cases h3;exact h.low i cells hi
theorem Ux:∀(obs:List Ob) (S:Zb) (l b:Nat),YR S l b obs.length->∀ i ob,S i=some ob->ZW S l b obs i=some ob
 | [],_,_,_,_,_,_,h=>h
 | o::r,S,l,b,hf,i,ob,h=>by
  refine Ux r _ l (b+1) (fun j hj=>?_) i ob ?_
  ·have:=hf (j+1) (by simpa using hj);unfold Zo;rw[if_neg (fun e=>by have:=congrArg Prod.snd e;simp at this;omega),show b+1+j=b+(j+1) from by omega];exact this
  ·have h0:S (l,b)=none:=hf 0 (by simp);unfold Zo;rw[if_neg (fun e=>by rw[e,h0] at h;cases h)];exact h
theorem Xk:∀(obs:List Ob) (S:Zb) (l b:Nat) (i:Zd) (ob:Ob),ZW S l b obs i=some ob->S i=some ob\/∃ j,j<obs.length/\i=(l,b+j)/\obs[j]? = some ob
 | [],_,_,_,_,_,h=>.inl h
 | o::r,S,l,b,i,ob,h=>by
  rcases Xk r _ l (b+1) i ob h with h | ⟨j,hj,hi,ho⟩
  ·unfold Zo at h;split at h
   ·rename_i hi;cases h;exact .inr ⟨0,by simp,by simpa using hi,rfl⟩
   ·exact .inl h
  ·exact .inr ⟨j+1,by simpa using hj,by rw[hi,show b+1+j=b+(j+1) from by omega],by simpa using ho⟩
theorem Xl:∀(obs:List Ob) (S:Zb) (l b j:Nat) (ob:Ob),obs[j]? = some ob->ZW S l b obs (l,b+j)=some ob
 | [],_,_,_,_,_,h=>by simp at h
 | o::r,S,l,b,0,ob,h=>by
  simp at h;subst h;have key:∀(r:List Ob) (S:Zb) (b':Nat),b<b'->S (l,b)=some o->ZW S l b' r (l,b)=some o:=by
   intro r
   induction r with
   | nil=>intro S b' _ h;exact h
   | cons x r ih =>
    intro S b' hb h;refine ih _ _ (by omega) ?_;unfold Zo;rw[if_neg (fun e=>by have:=congrArg Prod.snd e;simp at this;omega)];exact h
  exact key r _ (b+1) (by omega) (if_pos rfl)
 | o::r,S,l,b,j+1,ob,h=>by have:=Xl r (Zo S (l,b) o) l (b+1) j ob (by simpa using h);rwa [show b+1+j=b+(j+1) from by omega] at this
theorem Got.mk{l b:Nat}{x:IV}{obs:List Ob}{v:Value}(h:SOk G S w)(hf:YR S l b obs.length)(e:Ext w w')
  (hG:∀ i ob,S i=some ob->G' i=G i)
  (hnew:∀ j ob,obs[j]? = some ob->∀ blk,ZM G' (l,b+j) ob blk->w.heap.size<=blk)
  (hob:(∀ y u,Zu G S w y u->Zu G' (ZW S l b obs) w' y u)->∀ j ob,obs[j]? = some ob->Vd G' (ZW S l b obs) w' (l,b+j) ob)
  (hdis:∀ j ob j' ob' blk,obs[j]? = some ob->obs[j']? = some ob'->ZM G' (l,b+j) ob blk->ZM G' (l,b+j') ob' blk->j=j')
  (hlow:∀(j:Nat) (cells:List IV),obs[j]? = some (Ob.bx cells)->Jk (l+1) cells)
  (hx:(∀ y u,VR G S w y u->VR G' (ZW S l b obs) w' y u)->VR G' (ZW S l b obs) w' x v):Got G S w l b x obs v w':=by
 have hS:=Ux obs S l b hf;have hN:∀ i ob,ZW S l b obs i=some ob->S i=none->∃ j,i=(l,b+j)/\obs[j]? = some ob:=fun i ob hs hi=>by
  rcases Xk obs S l b i ob hs with h1 | ⟨j,_,h1,h2⟩
  ·rw[hi] at h1;cases h1
  ·exact⟨j,h1,h2⟩
 have hnew':∀ i ob,ZW S l b obs i=some ob->S i=none->∀ blk,ZM G' i ob blk->w.heap.size<=blk:=fun i ob hs hi blk ho=>by obtain⟨j,rfl,hj⟩:=hN i ob hs hi;exact hnew j ob hj blk ho
 have hvr:=fun y u hv=>ZqB e hG hnew' hS y u hv;have hvrs:=fun y u hv=>Zew e hG hnew' hS y u hv
 refine⟨G',ZqC h e hG hnew' hS (fun i ob hs hi=>?_) (fun i ob j ob' blk hs hi hs' hj ho ho' => ?_) (fun i cells hs hi=>?_),hx hvr,
  e.size,fun b hb _=>e.heap b hb,fun i ob blk hs ho=>?_,e.os,e.tape,e.output,fun y u _ hv=>hvr y u hv⟩
 ·obtain⟨j,rfl,hj⟩:=hN i ob hs hi;exact hob hvrs j ob hj
 ·obtain⟨j1,rfl,hj1⟩:=hN i ob hs hi;obtain⟨j2,rfl,hj2⟩:=hN j ob' hs' hj;rw[hdis j1 ob j2 ob' blk hj1 hj2 ho ho']
 ·obtain⟨j,rfl,hj⟩:=hN i _ hs hi;exact hlow j cells hj
 ·cases hi:S i with
  | none =>
   obtain⟨j,rfl,hj⟩:=hN i ob hs hi;exact .inl (hnew j ob hj blk ho)
  | some ob2 =>
   have:=hS i ob2 hi;rw[hs] at this;cases this;exact .inr ⟨_,ob,hi,(Vy (hG i ob hi)).1 ho⟩
theorem Qi{p:Zn}{es:Row}(h:getp [] p=some es):p=[]/\es=[]:=by
 cases p with
 | nil=>simp only[getp,Uat] at h;exact⟨rfl,h.symm⟩
 | cons q p=>simp [getp] at h
theorem Zex{id:Zd}{k:Nat}(h:G' id []=none):Vd G' S' w' id (.ar k [] true 0 0) :=
 ⟨Ual _,fun e he=>by simp at he,by simp [h,Vx],fun p es' _ hg=>by
  obtain⟨rfl,rfl⟩:=Qi hg;unfold Z7;rw[h],fun p p' b c c' _ _ h1 h2 _ _=>by
  obtain⟨e1,h1⟩:=Uan.1 h1;obtain⟨e2,h2⟩:=Uan.1 h2;rw[(Qi h1).1,(Qi h2).1]⟩
theorem Zaq{id:Zd}{k:Nat}{b:Nat}(h:G' id []=none):¬ ZM G' id (.ar k [] true 0 0) b:=by
 rintro⟨p,c,_,hs,hg⟩
 obtain⟨e1,h1⟩:=Uan.1 hs;rw[(Qi h1).1,h] at hg;cases hg
theorem Zir{id:Zd}{k:Nat}{a:Option Addr}(hs:S' id=some (.ar k [] true 0 0))(h:G' id []=none):VR G' S' w' (.hd id [] 0 0 none 0) (.slice a 0 0) :=
 ⟨⟨_,_,rfl,Ual _⟩,k,[],true,0,0,hs,Ual _,fun _=>⟨[],k,a,0,rfl,fun _=>rfl,fun e he=>by simp at he,rfl,Ual _,fun m hm=>by simp at hm,fun _ _=>by simp [h,Vx],.inl rfl⟩⟩
theorem Zis{l:List IV}{vs:List Value}{i:Nat}{x:IV}{v:Value}(h:Zu G S w l vs)(hx:VR G S w x v):Zu G S w (l.set i x) (vs.set i v) :=
 Zak (by simp [YP h]) fun j y u hy hu=>by
  rw[Ua3] at hy hu;split at hy
  ·rename_i hij;rw[if_pos hij] at hu;split at hy<;>try contradiction
   split at hu<;>try contradiction
   cases hy;cases hu;exact hx
  ·rename_i hij;rw[if_neg hij] at hu;obtain⟨u',hu',hr⟩:=Y5 h _ _ hy;rw[hu] at hu';cases hu';exact hr
theorem Zey:∀(nz:List (Nat×Nat)) (l b:Nat) (cs:List IV) (vs:List Value),Zu G' S' w' cs vs->(∀ p∈nz,vs[p.1]? = some (.slice none 0 0)) ->
  (∀ j k,nz[j]? = some k->S' (l,b+j)=some (.ar k.2 [] true 0 0)/\G' (l,b+j) []=none)->Zu G' S' w' (zfill l b nz cs) vs
 | [],l,b,cs,vs,h,_,_=>h
 | (i,k)::r,l,b,cs,vs,h,h1,h2=>by
  have h0:=h2 0 (i,k) rfl;have hi:vs[i]? = some (.slice none 0 0):=h1 (i,k) (by simp);have hset:vs.set i (.slice none 0 0)=vs:=by
   apply Ubf;intro j;rw[Ua3];split
   ·rename_i hij;subst hij;split
    ·exact hi.symm
    ·rename_i hlt;rw[UaX (by omega)] at hi;cases hi
   ·rfl
  have:=Zis (i:=i) h (Zir (a:=none) h0.1 h0.2);rw[hset] at this;exact Zey r l (b+1) _ vs this (fun p hp=>h1 p (by simp [hp])) fun j k' hj=>by have:=h2 (j+1) k' (by simpa using hj);rwa [show b+(j+1)=b+1+j from by omega] at this
theorem Zit{z:List Value}{nz:List (Nat×Nat)}(h:Zeq z nz=true):∀ p∈nz,z[p.1]? = some (.slice none 0 0):=by intro p hp;have:=Ube.1 h p hp;split at this<;>first | assumption | contradiction
theorem ZbT{nz:List (Nat×Nat)}{j:Nat}{ob:Ob}(h:(zobs nz)[j]? = some ob):∃ k,nz[j]? = some k/\ob = .ar k.2 [] true 0 0:=by unfold zobs at h;rw[Uao,UaJ] at h;obtain⟨k,hk,rfl⟩:=h;exact⟨k,hk,rfl⟩
end grow
section ops
variable {P:Program} {F:Fr} {G:Gh} {S:Zb} {st:St} {a:Act} {w:World} {C:ZJ} {K:Yc} {l b:Nat} {oper:Oper}
theorem Ext.alloc(w:World)(o:Obj):Ext w (w.alloc o):=⟨by simp,fun b hb=>heap_alloc_old w o b hb,rfl,rfl,rfl⟩
theorem ZqD(h:Sim F G st a w){x:X}{k:Nat}(hfr:∀ mk obs,K mk obs->YR st.sto l b (obs l b).length)(hc:Zs P (.mv x (some k)) oper.op=true)(he:ev C (xv st.env) st.sto K (.mv x (some k))):EvOk P G st a w K l b oper:=by
 simp only[Zs] at hc;split at hc<;>try contradiction
 all_goals
  rename_i ho;have hx:=h.x hc;simp only[ev] at he;split at he<;>try contradiction
  rename_i hq;rw[hq] at hx;obtain⟨⟨ad,hv⟩,_⟩:=hx;have hfr:=hfr _ _ he;refine Res.of_run (v:=.slice ad 0 0) (w':=w) (by simp [execOp,ho,hv]) ⟨_,_,he,?_⟩;refine Got.mk (G':=fun i=>if i=(l,b) then fun _=>none else G i) h.ok hfr (Ext.refl w) (fun i ob hs=>?_) (fun j ob hj blk hown=>?_) (fun _ j ob hj=>?_) (fun j ob j' ob' blk hj hj' _ _=>?_) (fun j cells hj=>?_) (fun _=>?_)
  ·rw[if_neg]
   rintro rfl
   rw[show (l,b)=(l,b+0) from rfl,hfr 0 (by simp)] at hs;cases hs
  ·have:j=0:=(by have:=(Uad.1 hj).1;simpa using this);subst this;simp at hj;subst hj;exact absurd hown (Zaq (by simp))
  ·have:j=0:=(by have:=(Uad.1 hj).1;simpa using this);subst this;simp at hj;subst hj;exact Zex (by simp)
  ·have h1:=(Uad.1 hj).1;have h2:=(Uad.1 hj').1;simp at h1 h2;omega
  ·have:j=0:=(by have:=(Uad.1 hj).1;simpa using this);subst this;simp at hj
  ·exact Zir (k:=k) (by simp [ZW,Zo]) (by simp)
theorem Ziu{Pd:Zd->Prop}:∀{l:List IV},(∀ x∈l,men Pd x)->Zc Pd l
 | [],_=>trivial
 | x::r,h=>⟨h x (by simp),Ziu fun y hy=>h y (by simp [hy])⟩
theorem WO{x:IV}{v:Value}{c:List IV}(h:VR G S w x v)(hc:cellsOf x=some c):Zu G S w c v.cells.toList/\(∀ y∈c,isCell y=true):=by
 unfold cellsOf at hc;split at hc
 ·rename_i l0;split at hc<;>try contradiction
  rename_i hall;cases hc;obtain⟨vs,rfl,hvs⟩:=h;exact⟨by simpa [Value.cells] using hvs,fun y hy=>by simpa using Ube.1 hall y hy⟩
 ·rename_i hne;split at hc<;>try contradiction
  rename_i hcell;cases hc;have hone:v.cells.toList=[v]:=by
   have key:(∀ cs,v ≠ .agg cs)->v.cells.toList=[v]:=fun hh=>by cases v<;>first | rfl | exact absurd rfl (hh _)
   apply key
   rintro cs rfl
   cases x<;>simp only[VR] at h<;>first
    | (simp [isCell] at hcell;done)
    | (generalize hv:Value.agg cs=q at h;cases h<;>simp_all [Jw];done)
    | (obtain⟨⟨_,h1⟩,_⟩:=h;simp at h1;done)
    | (obtain⟨⟨_,_,h1,_⟩,_⟩:=h;simp at h1;done)
    | (obtain⟨⟨_,h1⟩,_⟩:=h;simp at h1;done)
    | (obtain⟨_,_,_,_,_,h1⟩:=h;simp at h1;done)
    | (obtain⟨_,_,_,_,h1,_⟩:=h;simp at h1;done)
    | (obtain⟨_,h1,_⟩:=h;simp at h1;done)
    | (obtain⟨_,_,h1⟩:=h;simp at h1;done)
    | trivial
  rw[hone];exact⟨⟨v,[],rfl,h,rfl⟩,by simpa using hcell⟩
theorem Sim.men_lt(h:Sim F G st a w){x:IV}{v:Value}(hv:VR G st.sto w x v):low (st.lvl+1) x:=by
 refine JZ (fun i hi=>?_) x (Us x v hv);obtain⟨ob,hob⟩:=Uan.1 hi;unfold St.sto ZF at hob;split at hob
 ·rename_i he;rw[he];exact Ua2 _
 ·exact Ub2 (h.outl i ob hob)
theorem Sim.mens_lt(h:Sim F G st a w){x:List IV}{v:List Value}(hv:Zu G st.sto w x v):Jk (st.lvl+1) x:=by
 refine JK (fun i hi=>?_) x (Xi x v hv);obtain⟨ob,hob⟩:=Uan.1 hi;unfold St.sto ZF at hob;split at hob
 ·rename_i he;rw[he];exact Ua2 _
 ·exact Ub2 (h.outl i ob hob)
theorem Uy{l b j:Nat}{S:Zb}(hf:S (l,b+j)=none){i:Zd}{ob:Ob}(hs:S i=some ob):i≠(l,b+j):=by
 rintro rfl
 rw[hf] at hs;cases hs
theorem ZqE(h:Sim F G st a w){x:X}(hl:l=st.lvl)(hfr:∀ mk obs,K mk obs->YR st.sto l b (obs l b).length)(hc:Zs P (.bx x) oper.op=true)(he:ev C (xv st.env) st.sto K (.bx x)):EvOk P G st a w K l b oper:=by
 simp only[Zs] at hc;split at hc<;>try contradiction
 rename_i t y ho;have hx:=h.x hc;simp only[ev] at he;split at he<;>try contradiction
 rename_i c hcc;obtain⟨hvs,_⟩:=WO hx hcc;have hfr:=hfr _ _ he;refine Res.of_run (v:=.pointer (some ⟨w.heap.size,0,none⟩)) (w':=w.alloc (.cells (a.eval y).cells t)) (by simp [execOp,ho,Instr.box,newVar,newRow,newObj,Sem.run]) ⟨_,_,he,?_⟩;have one:∀{j:Nat} {ob:Ob},[Ob.bx c][j]? = some ob->j=0/\ob = .bx c:=fun {j ob} hj=>by
  have:j=0:=by have:=(Uad.1 hj).1;simpa using this
  subst this;simp at hj;exact⟨rfl,hj.symm⟩
 refine Got.mk (G':=fun i=>if i=(l,b) then fun _=>some (w.heap.size,0) else G i) h.ok hfr (Ext.alloc w _) (fun i ob hs=>?_) (fun j ob hj blk hown=>?_) (fun hvr j ob hj=>?_) (fun j ob j' ob' blk hj hj' _ _=>?_) (fun j cells hj=>?_) (fun _=>?_)
 ·have hne:i≠(l,b):=Uy (j:=0) (hfr 0 (by simp)) hs;rw[if_neg hne]
 ·obtain⟨rfl,rfl⟩:=one hj;obtain⟨c1,h1⟩:=hown;simp at h1;omega
 ·obtain⟨rfl,rfl⟩:=one hj;refine⟨w.heap.size,0,(a.eval y).cells,t,by simp,heap_alloc_new w _,?_⟩;exact hvr _ _ hvs
 ·rw[(one hj).1,(one hj').1]
 ·obtain⟨_,h1⟩:=one hj;cases h1;rw[hl];exact h.mens_lt hvs
 ·exact⟨c,w.heap.size,0,by simp [ZW,Zo],by simp,rfl⟩
end ops
end Go.Fd
namespace Go.Fd
variable [Tabs]
section ops
variable {P:Program} {F:Fr} {G G':Gh} {S S':Zb} {st:St} {a:Act} {w w':World} {C:ZJ} {K:Yc} {l b:Nat} {oper:Oper}
theorem ZqF{t:TypeId}{z:List Value}(h:QB P t z=true):∃ v,(zeroValue t).run P w = .ok v w/\v.cells.toList=z/\(∀ x∈z,Jw x=true\/x = .slice none 0 0):=by
 unfold QB at h;split at h
 ·rename_i v hv;obtain⟨h1,h2⟩:=ZbO h;simp only[Option.bind_eq_some_iff] at hv;obtain⟨i,hi,hz⟩:=hv;exact⟨v,by simp [zeroValue,typeInfo,hi,hz],h1.symm,h2⟩
 ·cases h
theorem ZqG{Pd:Zd->Prop}(v:Value):men Pd (kc v):=by unfold kc;split<;>trivial
theorem ZqH(h:Sim F G st a w){z:List Value}{nz:List (Nat×Nat)}(hfr:∀ mk obs,K mk obs->YR st.sto l b (obs l b).length)(hc:Zs P (.al z nz) oper.op=true)(he:ev C (xv st.env) st.sto K (.al z nz)):EvOk P G st a w K l b oper:=by
 simp only[Zs] at hc;split at hc<;>try contradiction
 rename_i t ho;simp only[Uae] at hc;obtain⟨zv,hz1,hz2,hz3⟩:=ZqF (w:=w) hc.1;have hnz:=Zit hc.2;simp only[ev] at he;have hfr:=hfr _ _ he;have hlen:(zobs nz).length=nz.length:=by simp [zobs]
 refine Res.of_run (v:=.pointer (some ⟨w.heap.size,0,none⟩)) (w':=w.alloc (.cells zv.cells t)) (by simp [execOp,ho,Instr.alloc,hz1,newVar,newRow,newObj,Sem.run]) ⟨_,_,he,?_⟩;let G':Gh:=fun i=>if i=(l,b) then fun _=>some (w.heap.size,0) else if i.1=l/\b<i.2/\i.2<=b+nz.length then fun _=>none else G i
 have hGb:∀ p,G' (l,b) p=some (w.heap.size,0):=fun p=>by simp [G']
 have hGj:∀ j k,nz[j]? = some k->G' (l,b+(j+1))=fun _=>none:=fun j k hj=>by have:=(Uad.1 hj).1;simp only[G'];rw[if_neg (fun e=>by have:=congrArg Prod.snd e;simp at this),if_pos (by refine⟨?_,?_,?_⟩<;>(simp;try omega))]
 have cases':∀{j:Nat} {ob:Ob},(Ob.bx (zfill l (b+1) nz (z.map kc))::zobs nz)[j]? = some ob->(j=0/\ob = .bx (zfill l (b+1) nz (z.map kc)))\/∃ j' k,j=j'+1/\nz[j']? = some k/\ob = .ar k.2 [] true 0 0:=fun {j ob} hj=>by
  cases j with
  | zero=>simp at hj;exact .inl ⟨rfl,hj.symm⟩
  | succ j=>simp at hj;obtain⟨k,hk,rfl⟩:=ZbT hj;exact .inr ⟨j,k,rfl,hk,rfl⟩
 refine Got.mk (G':=G') h.ok hfr (Ext.alloc w _) (fun i ob hs=>?_) (fun j ob hj blk hown=>?_) (fun hvr j ob hj=>?_) (fun j ob j' ob' blk hj hj' ho1 ho2=>?_) (fun j cells hj=>?_) (fun _=>?_)
 ·simp only[G'];have hne:i≠(l,b):=Uy (j:=0) (hfr 0 (by simp)) hs;rw[if_neg hne,if_neg]
  rintro⟨h1,h2,h3⟩
  have:=Uy (j:=i.2-b) (hfr (i.2-b) (by simp [hlen];omega)) hs;apply this;rw[show b+(i.2-b)=i.2 from by omega,<-h1]
 ·rcases cases' hj with ⟨rfl,rfl⟩ | ⟨j',k,rfl,hk,rfl⟩
  ·obtain⟨c1,h1⟩:=hown;rw[Nat.add_zero,hGb] at h1;cases h1;exact Ual _
  ·exact absurd hown (Zaq (by rw[hGj j' k hk]))
 ·rcases cases' hj with ⟨rfl,rfl⟩ | ⟨j',k,rfl,hk,rfl⟩
  ·refine⟨w.heap.size,0,zv.cells,t,hGb _,heap_alloc_new w _,?_⟩;rw[hz2];refine Zey nz l (b+1) _ _ (ZbP hz3) hnz fun j k hk=>⟨?_,by rw[show b+1+j=b+(j+1) from by omega,hGj j k hk]⟩;have:=Xl (Ob.bx (zfill l (b+1) nz (z.map kc))::zobs nz) st.sto l b (j+1) (.ar k.2 [] true 0 0) (by simp [zobs,hk]);rwa [show b+1+j=b+(j+1) from by omega]
  ·exact Zex (by rw[hGj j' k hk])
 ·rcases cases' hj with ⟨rfl,rfl⟩ | ⟨j1,k,rfl,hk,rfl⟩
  ·rcases cases' hj' with ⟨rfl,rfl⟩ | ⟨j2,k,rfl,hk,rfl⟩
   ·rfl
   ·exact absurd ho2 (Zaq (by rw[hGj j2 k hk]))
  ·exact absurd ho1 (Zaq (by rw[hGj j1 k hk]))
 ·rcases cases' hj with ⟨rfl,h1⟩ | ⟨j1,k,rfl,hk,h1⟩
  ·cases h1;have key:∀(nz:List (Nat×Nat)) (b:Nat) (cs:List IV),(∀ x∈cs,low (l+1) x)->∀ x∈zfill l b nz cs,low (l+1) x:=by
    intro nz
    induction nz with
    | nil=>intro b cs hcs x hx;exact hcs x hx
    | cons q r ih =>
     intro b cs hcs x hx;refine ih _ _ (fun y hy=>?_) x hx;rcases UaW hy with hy | rfl
     ·exact hcs y hy
     ·exact Ua2 _
   refine Ziu (key nz (b+1) _ fun x hx=>?_);simp only[Uau] at hx;obtain⟨v,_,rfl⟩:=hx;exact ZqG v
  ·cases h1
 ·refine⟨_,w.heap.size,0,Xl (Ob.bx (zfill l (b+1) nz (z.map kc))::zobs nz) st.sto l b 0 _ rfl,hGb _,rfl⟩
theorem Ziv:∀(l:List IV) (cs:List IV) (off:Nat),(Yb cs off l).length=cs.length
 | [],_,_=>rfl
 | x::r,cs,off=>by simp [Yb,Ziv r]
theorem Zez:∀(l:List IV) (vs:List Value) (cs:List IV) (cells:Array Value) (off:Nat),Zu G S w l vs->Zu G S w cs cells.toList->off+l.length<=cs.length ->
  Zu G S w (Yb cs off l) (vs.zipIdx.foldl (fun(cs:Array Value) (cj:Value×Nat)=>cs.setIfInBounds (off+cj.2) cj.1) cells).toList:=by
 have key:∀(l:List IV) (vs:List Value) (cs:List IV) (cells:Array Value) (off k:Nat),Zu G S w l vs->Zu G S w cs cells.toList ->
   Zu G S w (Yb cs (off+k) l) ((vs.zipIdx k).foldl (fun(cs:Array Value) (cj:Value×Nat)=>cs.setIfInBounds (off+cj.2) cj.1) cells).toList:=by
  intro l
  induction l with
  | nil=>intro vs cs cells off k h1 h2;simp only[Zu] at h1;subst h1;simpa [Yb] using h2
  | cons x r ih =>
   intro vs cs cells off k h1 h2;simp only[Zu] at h1;obtain⟨v,vr,rfl,hv,hr⟩:=h1;simp only[Yb,List.zipIdx_cons,List.foldl_cons];have:=ih vr (cs.set (off+k) x) (cells.setIfInBounds (off+k) v) off (k+1) hr (by rw[Array.toList_setIfInBounds];exact Zis h2 hv);rwa [<-Ubc] at this
 intro l vs cs cells off h1 h2 _;have:=key l vs cs cells off 0 h1 h2;simpa using this
theorem ZeA{place:Nat->Option (Nat×Nat)}:∀(ps:List (Nat×Nat×X)) (parts:List (Nat×Operand)) (cs:List IV) (cells:Array Value),Zu G S w cs cells.toList->okp (xv st.env) cells.size ps ->
  ps.length=parts.length->(∀(j off n:Nat) (x:X),ps[j]? = some (off,n,x)->∃ i y,parts[j]? = some (i,y)/\place i=some (off,n)/\VR G S w (xv st.env x) (a.eval y)) ->
  ∃ out,Instr.fill place cells (parts.map fun p=>(p.1,a.eval p.2))=some out/\out.size=cells.size/\Zu G S w (fpart (xv st.env) ps cs) out.toList
 | [],[],cs,cells,h1,_,_,_=>⟨cells,rfl,rfl,h1⟩
 | [],_::_,_,_,_,_,hl,_=>by simp at hl
 | _::_,[],_,_,_,_,hl,_=>by simp at hl
 | (off,n,x)::r,(i,y)::s,cs,cells,h1,h2,hl,h3=>by
  obtain⟨i',y',hp,hpl,hv⟩:=h3 0 off n x rfl;simp at hp;obtain⟨rfl,rfl⟩:=hp;simp only[okp] at h2;obtain⟨h4,h5,h6⟩:=h2;split at h4<;>try contradiction
  rename_i lc hlc;obtain⟨hvs,_⟩:=WO hv hlc;have hsz:(a.eval y).cells.size=n:=by have:=YP hvs;simp at this;omega
  have hcl:=YP h1;have hst:=Zez lc (a.eval y).cells.toList cs cells off hvs h1 (by simp at hcl;omega);let cells':=((a.eval y).cells.zipIdx.foldl (fun(cs:Array Value) (cj:Value×Nat)=>cs.setIfInBounds (off+cj.2) cj.1) cells);have hfold:cells'=((a.eval y).cells.toList.zipIdx.foldl (fun(cs:Array Value) (cj:Value×Nat)=>cs.setIfInBounds (off+cj.2) cj.1) cells):=by simp only[cells',<-UbZ,UbV]
  have hsz':cells'.size=cells.size:=by have hl1:=YP hst;rw[<-hfold] at hl1;simp [Ziv] at hl1;simp at hcl;omega
  obtain⟨out,ho,hos,hov⟩:=ZeA r s (Yb cs off lc) cells' (by rw[hfold];exact hst) (by rw[hsz'];exact h6) (by simpa using hl) fun j off' n' x' hj=>h3 (j+1) off' n' x' (by simpa using hj);refine⟨out,?_,by rw[hos,hsz'],by simp only[fpart,hlc,Option.getD_some];exact hov⟩;simp only[Uah,Instr.fill,hpl];rw[if_neg (by simp only[hsz];simp;omega)];exact ho
end ops
end Go.Fd
namespace Go.Fd
variable [Tabs]
def Zar(w:World)(A:Nat->Prop)(vs:Array Value)(k:Nat)(es:Row):Prop :=
 ∀(i:Nat) (e:List Tr) (f:Nat) (t:Tr),es[i]? = some e->e[f]? = some t->∃ x,vs[i*k+f]? = some x/\Rds w A x t
def Y6:Tr->Prop
 | .v _=>True
 | .sl es=>es=[]
def WP(es:Row):Prop:=∀ e∈es,∀ t∈e,Y6 t
theorem Rds.empty{w:World}{A:Nat->Prop}{x:Value}(h:Rds w A x (.sl [])):∃ a c,x = .slice a 0 c:=by
 generalize ht:Tr.sl []=t at h;cases h with
 | v x h=>cases ht
 | nil a c=>exact⟨a,c,rfl⟩
 | sl b o c k es f hA hk hl hc hr=>cases ht;exact⟨_,_,rfl⟩
theorem ZqI{es es':Row}{p:Zn}(h:WP es)(hg:getp es p=some es'):p=[]\/es'=[]:=by
 cases p with
 | nil=>exact .inl rfl
 | cons q p =>
  obtain⟨i,f⟩:=q;simp only[getp] at hg;split at hg<;>try contradiction
  rename_i e he;split at hg<;>try contradiction
  rename_i es2 ht;have:=h e (Uaf he) _ (Uaf ht);simp only[Y6] at this;subst this;exact .inr (Qi hg).2
section ops
variable {P:Program} {F:Fr} {G G':Gh} {S S':Zb} {st:St} {a:Act} {w w':World} {C:ZJ} {K:Yc} {l b:Nat} {oper:Oper}
theorem Got.row{k c:Nat}{es:Row}{u:Bool}{vs:Array Value}{ty:TypeId}(h:SOk G S w)(hf:S (l,b)=none)(e:Ext w w')
  (hh:w'.heap[w.heap.size]? = some (.cells vs ty (0,0))) (hsz:vs.size=c*k) (hc:es.length<=c) (h63:c<=9223372036854775807) (hk:ZC k es) (hr:Zar w (Av G S w) vs k es) (hu:u=true->WP es) :
  Got G S w l b (.hd (l,b) [] 0 es.length none es.length) [.ar k es u es.length 0] (.slice (some ⟨w.heap.size,0,none⟩) es.length c) w':=by
 have one:∀{j:Nat} {ob:Ob},[Ob.ar k es u es.length 0][j]? = some ob->j=0/\ob = .ar k es u es.length 0:=fun {j ob} hj=>by
  have:j=0:=by have:=(Uad.1 hj).1;simpa using this
  subst this;simp at hj;exact⟨rfl,hj.symm⟩
 let G':Gh:=fun i=>if i=(l,b) then fun p=>if p=[] then some (w.heap.size,c) else none else G i
 have hG0:G' (l,b) []=some (w.heap.size,c):=by simp [G']
 have hG1:∀ p b' c',G' (l,b) p=some (b',c')->p=[]/\b'=w.heap.size:=fun p b' c' hp=>by
  simp only[G',if_true] at hp;split at hp<;>try contradiction
  rename_i hp0;simp at hp;exact⟨hp0,hp.1.symm⟩
 refine Got.mk (G':=G') h (fun j hj=>by rw[show j=0 from by simpa using hj];exact hf) e (fun i ob hs=>?_) (fun j ob hj blk hown=>?_) (fun hvr j ob hj=>?_) (fun j ob j' ob' blk hj hj' _ _=>?_) (fun j cells hj=>?_) (fun hvr=>?_)
 ·simp only[G'];rw[if_neg (fun e=>by rw[e,hf] at hs;cases hs)]
 ·obtain⟨rfl,rfl⟩:=one hj;obtain⟨p,c1,_,_,h1⟩:=hown;have:=(hG1 p blk c1 h1).2;omega
 ·obtain⟨rfl,rfl⟩:=one hj;refine⟨Ual _,hk,by rw[show (l,b+0)=(l,b) from rfl,hG0];exact⟨hc,h63⟩,fun p es' hp hg=>?_,fun p p' b1 c1 c2 _ _ _ _ h1 h2=>by rw[(hG1 p b1 c1 h1).1,(hG1 p' b1 c2 h2).1]⟩;by_cases hp0:p=[]
  ·subst hp0;simp only[getp,Uat] at hg;subst hg;unfold Z7;rw[show (l,b+0)=(l,b) from rfl,hG0];refine⟨k,vs,ty,fun _=>rfl,hk,hh,hsz,hc,fun i e f t he ht=>?_⟩;obtain⟨x,hx,hrd⟩:=hr i e f t he ht;refine⟨x,hx,?_⟩;have hrd':=hvr [.tr t] [x] ⟨x,[],rfl,hrd,rfl⟩;simp only[Zu] at hrd';obtain⟨_,_,heq,hrd',_⟩:=hrd';cases heq;cases t with
   | v y=>exact hrd'.val
   | sl es2 =>
    simp only[Jl];by_cases hu':u=true
    ·simp only[hu',if_true];have:=hu hu' e (Uaf he) _ (Uaf ht);simp only[Y6] at this;subst this;obtain⟨a1,c1,rfl⟩:=Rds.empty hrd;exact⟨a1,c1,rfl,by simp,.inl rfl⟩
    ·rw[if_neg hu'];exact hrd'
  ·have hu':=hp.resolve_left hp0;have hes:=(ZqI (hu hu') hg).resolve_left hp0;unfold Z7;rw[show (l,b+0)=(l,b) from rfl];cases hgp:G' (l,b) p with
   | none=>exact hes
   | some bc=>exact absurd (hG1 p bc.1 bc.2 hgp).1 hp0
 ·rw[(one hj).1,(one hj').1]
 ·have:=(one hj).2;cases this
 ·refine⟨⟨_,_,rfl,hc⟩,k,es,u,es.length,0,by simp [ZW,Zo],Ual _,fun _=>⟨es,k,_,c,rfl,fun _=>rfl,hk,rfl,hc,fun m hm=>by simp at hm,fun _ _=>by rw[hG0];simp [Vx],.inr (.inr ⟨w.heap.size,c,hG0,by simp,by simp⟩)⟩⟩
theorem Ziw{x:IV}{v:Value}{t:Tr}{q:Bool}(h:VR G S w x v)(ht:totr x=some (t,q)):Rds w (Av G S w) v t/\(q=true->Y6 t):=by
 unfold totr at ht;split at ht<;>simp at ht
 ·obtain⟨rfl,rfl⟩:=ht;exact⟨h,fun _=>trivial⟩
 ·obtain⟨rfl,rfl⟩:=ht;exact⟨h,fun h=>by cases h⟩
 ·obtain⟨rfl,rfl⟩:=ht;exact⟨h.2,fun _=>rfl⟩
 ·obtain⟨rfl,rfl⟩:=ht;exact⟨h.2,fun h=>by cases h⟩
theorem ZeB:∀{l:List IV} {vs:List Value} {ts:List Tr} {q:Bool},Zu G S w l vs->totrs l=some (ts,q) ->
  ts.length=vs.length/\(∀(j:Nat) (t:Tr) (x:Value),ts[j]? = some t->vs[j]? = some x->Rds w (Av G S w) x t)/\(q=true->∀ t∈ts,Y6 t)
 | [],vs,ts,q,h,ht=>by simp only[Zu] at h;subst h;simp [totrs] at ht;obtain⟨rfl,rfl⟩:=ht;simp
 | x::r,vs,ts,q,h,ht=>by
  simp only[Zu] at h;obtain⟨v,vr,rfl,h1,h2⟩:=h;simp only[totrs] at ht;split at ht<;>try contradiction
  rename_i t qa ts' qb ht1 ht2;simp only[Uat,UbJ] at ht;obtain⟨rfl,rfl⟩:=ht;obtain⟨r1,r2⟩:=Ziw h1 ht1;obtain⟨s1,s2,s3⟩:=ZeB h2 ht2;refine⟨by simp [s1],fun j t' x' hj hx=>?_,fun hq t' ht' => ?_⟩
  ·cases j with
   | zero=>simp at hj hx;subst hj;subst hx;exact r1
   | succ j=>simp at hj hx;exact s2 j t' x' hj hx
  ·simp only[Uae] at hq;rcases UaF.1 ht' with rfl | h
   ·exact r2 hq.1
   ·exact s3 hq.2 t' h
theorem ZbU:∀(xs:List Value) (k:Nat) (off:Nat) (cells:Array Value),off+k+xs.length<=cells.size ->
  let r:=(xs.zipIdx k).foldl (fun(cs:Array Value) (cj:Value×Nat)=>cs.setIfInBounds (off+cj.2) cj.1) cells
  r.size=cells.size/\∀ j,r[j]? = if off+k<=j/\j<off+k+xs.length then xs[j-(off+k)]? else cells[j]?
 | [],k,off,cells,_=>by simp;intro j h1 h2;omega
 | x::r,k,off,cells,h=>by
  have ih:=ZbU r (k+1) off (cells.setIfInBounds (off+k) x) (by simp at h ⊢;omega);simp only[List.zipIdx_cons,List.foldl_cons];refine⟨by rw[ih.1];simp,fun j=>?_⟩;rw[ih.2 j];simp only[List.length_cons] at h ⊢;by_cases h1:off+(k+1)<=j/\j<off+(k+1)+r.length
  ·rw[if_pos h1,if_pos (by omega),show j-(off+k)=(j-(off+(k+1)))+1 from by omega];simp
  ·rw[if_neg h1];by_cases h2:j=off+k
   ·subst h2;rw[if_pos (by omega)];simp;rw[Array.getElem?_setIfInBounds_self_of_lt (by omega)]
   ·rw[if_neg (by omega),Array.getElem?_setIfInBounds_ne (by omega)]
theorem ZeC{k:Nat}:∀(ps:List (Nat×X)) (parts:List (Nat×Operand)) (es:Row) (u:Bool) (cells:Array Value) (Kf:Row->Bool->Prop),Y0 (xv st.env) k ps es u Kf ->
  Vz ps parts=true->Sim F G st a w->cells.size=es.length*k->ZC k es->Zar w (Av G st.sto w) cells k es->(u=true->WP es) ->
  ∃ out es' u',Instr.fill (fun i=>some (i*k,k)) cells (parts.map fun p=>(p.1,a.eval p.2))=some out/\Kf es' u'/\es'.length=es.length/\out.size=cells.size/\ZC k es'/\Zar w (Av G st.sto w) out k es'/\(u'=true->WP es')
 | [],[],es,u,cells,Kf,hK,_,_,_,hk,hr,hu=>⟨cells,es,u,rfl,hK,rfl,rfl,hk,hr,hu⟩
 | [],_::_,_,_,_,_,_,hc,_,_,_,_,_=>by simp [Vz] at hc
 | _::_,[],_,_,_,_,_,hc,_,_,_,_,_=>by simp [Vz] at hc
 | (i,x)::r,(i',y)::s,es,u,cells,Kf,hK,hc,hS,hsz,hk,hr,hu=>by
  simp only[Vz,Uae,beq_iff_eq] at hc;obtain⟨⟨rfl,hx⟩,hc⟩:=hc;simp only[Y0] at hK;split at hK<;>try contradiction
  rename_i lc hlc;split at hK<;>try contradiction
  rename_i ts q hts;obtain⟨h1,h2,hK⟩:=hK;obtain⟨hvs,_⟩:=WO (hS.x hx) hlc;obtain⟨t1,t2,t3⟩:=ZeB hvs hts;have hvl:(a.eval y).cells.size=k:=by simpa [h1] using t1.symm
  have hbound:i*k+k<=cells.size:=by
   rw[hsz]
   calc i*k+k=(i+1)*k:=by rw[UaP,UbW]
    _<=es.length*k:=Uaz _ h2
  have hfs:=ZbU (a.eval y).cells.toList 0 (i*k) cells (by simpa [hvl] using hbound);simp only[Nat.add_zero] at hfs;let cells':=((a.eval y).cells.zipIdx.foldl (fun(cs:Array Value) (cj:Value×Nat)=>cs.setIfInBounds (i*k+cj.2) cj.1) cells);have hfold:cells'=((a.eval y).cells.toList.zipIdx.foldl (fun(cs:Array Value) (cj:Value×Nat)=>cs.setIfInBounds (i*k+cj.2) cj.1) cells):=by simp only[cells',<-UbZ,UbV]
  rw[<-hfold] at hfs
  obtain⟨out,es',u',f1,f2,f3,f4,f5,f6,f7⟩:=ZeC r s (es.set i ts) (u&&q) cells' Kf hK hc hS (by rw[hfs.1,hsz];simp)
   (fun e he=>by
    rcases UaW he with he | rfl
    ·exact hk e he
    ·exact h1)
   (fun i2 e f t he ht=>by
    rw[Ua3] at he;rw[hfs.2];split at he
    ·rename_i hi;subst hi;cases he;have hf:f<k:=by have:=(Uad.1 ht).1;omega
     rw[if_pos (by simp [hvl];omega),show i*k+f-i*k=f from by omega];have hx0:∃ x0,(a.eval y).cells.toList[f]? = some x0:=⟨_,Uak (by simp [hvl];exact hf)⟩;obtain⟨x0,hx0⟩:=hx0;exact⟨x0,hx0,t2 f t x0 ht hx0⟩
    ·rename_i hi;have hf:f<k:=by have:=(Uad.1 ht).1;have:=hk e (Uaf he);omega
     rw[if_neg]
     ·exact hr i2 e f t he ht
     ·simp only[Array.length_toList,hvl]
      rintro⟨g1,g2⟩
      rcases Nat.lt_or_gt_of_ne hi with h | h
      ·have:(i+1)*k<=i2*k:=Uaz _ h;rw[UaP] at this;omega
      ·have:(i2+1)*k<=i*k:=Uaz _ h;rw[UaP] at this;omega)
   (fun hq e he t ht=>by
    simp only[Uae] at hq;rcases UaW he with he | rfl
    ·exact hu hq.1 e he t ht
    ·exact t3 hq.2 t ht)
  refine⟨out,es',u',?_,f2,by simpa using f3,by rw[f4,hfs.1],f5,f6,f7⟩;simp only[Uah,Instr.fill];rw[if_neg (by simp only[hvl];simp;omega)];exact f1
end ops
end Go.Fd
namespace Go.Fd
variable [Tabs]
section ops
variable {P:Program} {F:Fr} {G G':Gh} {S S':Zb} {st:St} {a:Act} {w w':World} {C:ZJ} {K:Yc} {l b:Nat} {oper:Oper}
theorem X8{t:TypeId}{n:Nat}(h:JB P t=some n):∃ i,P.info? t=some i/\i.size=n:=by unfold JB at h;simpa [UaJ] using h
theorem Xm{t:TypeId}{z:List Value}(h:QB P t z=true):∃ i v,P.info? t=some i/\i.zero=some v/\v.cells.toList=z/\(∀ x∈z,Jw x=true\/x = .slice none 0 0):=by
 unfold QB at h;split at h
 ·rename_i v hv;obtain⟨h1,h2⟩:=ZbO h;simp only[Option.bind_eq_some_iff] at hv;obtain⟨i,hi,hz⟩:=hv;exact⟨i,v,hi,hz,h1.symm,h2⟩
 ·cases h
theorem ZqJ(h:Sim F G st a w){k n:Nat}{z:List Value}{ps:List (Nat×X)}(hfr:∀ mk obs,K mk obs->YR st.sto l b (obs l b).length)(hc:Zs P (.bs k n z ps) oper.op=true)
  (he:ev C (xv st.env) st.sto K (.bs k n z ps)):EvOk P G st a w K l b oper:=by
 simp only[Zs] at hc;split at hc<;>try contradiction
 rename_i t len parts ho;simp only[Uae,WN] at hc;obtain⟨hcs,hcp⟩:=hc;split at hcs<;>try contradiction
 rename_i e hel;simp only[Uae,beq_iff_eq,decide_eq_true_eq,UaO] at hcs;obtain⟨⟨⟨hsz,rfl⟩,hsm⟩,hz⟩:=hcs;have hu:=VA hel;obtain⟨ie,hie,hks⟩:=X8 hsz;simp only[ev] at he;have hr0:∀ f:Nat->Value,Array.map f (Array.range 0) = #[]:=fun f=>by simp [Array.range_zero']
 have hz':n≠0->QB P e z=true/\z.length=k:=fun hn=>hz.resolve_left hn
 have hrun:∃ cells:Array Value,cells.size=n*k/\(∀ out,Instr.fill (fun i=>some (i*k,k)) cells (parts.toList.map fun p=>(p.1,a.eval p.2))=some out ->
   (execOp a.eval oper).run P w = .ok (.value (.slice (some ⟨w.heap.size,0,none⟩) n n)) (w.alloc (.cells out e)))/\(n≠0->∀ j,j<n*k->cells[j]? = z[j % k]?):=by
  subst hks;by_cases h0:n*ie.size=0
  ·refine⟨#[],by simp [h0],fun out hf=>?_,fun _ j hj=>by omega⟩;simp [execOp,ho,Instr.buildSlice,run_underlying hu,Go.sizeOf,typeInfo,hie,h0,newRow,hr0,hf]
  ·have hn:n≠0:=fun e=>h0 (by simp [e]);obtain⟨hzt,hzl⟩:=hz' hn;obtain⟨i2,zv,hi2,hzv,hzc,_⟩:=Xm hzt;rw[hie] at hi2;cases hi2;have hzs:zv.cells.size=ie.size:=(by rw[<-hzl,<-hzc];simp);have hkp:0<ie.size:=UbP (fun hk0=>h0 (by simp [hk0]));refine⟨(Array.range (n*ie.size)).map (zv.cells[· % zv.cells.size]!),by simp,fun out hf=>?_,fun _ j hj=>?_⟩
   ·have hsm':¬ n*ie.size > 2 ^ 24:=(by omega);have:=run_buildSlice (P:=P) w t e n (parts.map fun(i,x)=>(i,a.eval x)) out ie zv hu hie hzv hsm' h0 (by rw[Ubz];exact hf);simp [execOp,ho,this]
   ·have hlt:j % ie.size<zv.cells.size:=(by rw[hzs];exact Nat.mod_lt _ hkp);rw[UbO];simp [hj,hzs,<-hzc];rw[getElem!_pos zv.cells (j % ie.size) hlt,UaY hlt]
 obtain⟨cells,hcsz,hrun,hcz⟩:=hrun;have hUn:ZC k (List.replicate n (z.map trv)):=fun e he=>by obtain⟨hn,rfl⟩:=Ubs.1 he;simpa using (hz' hn).2
 have hzs:n≠0->∀ x∈z,Jw x=true\/x = .slice none 0 0:=fun hn=>by obtain⟨_,_,_,_,_,h5⟩:=Xm (hz' hn).1;exact h5
 have htrv:∀ x:Value,(Jw x=true\/x = .slice none 0 0)->Rds w (Av G st.sto w) x (trv x)/\Y6 (trv x):=fun x hx=>by
  rcases hx with hx | rfl
  ·have:trv x = .v x:=(by cases x<;>first | rfl | simp [Jw] at hx);rw[this];exact⟨.v x hx,trivial⟩
  ·exact⟨.nil none 0,rfl⟩
 obtain⟨out,es',u',f1,f2,f3,f4,f5,f6,f7⟩:=ZeC ps parts.toList (List.replicate n (z.map trv)) true cells _ he hcp h (by simpa using hcsz) hUn
  (fun i e f t hi hf=>by
   obtain⟨hn,hi'⟩:i<n/\e=z.map trv:=by rw[Uba] at hi;split at hi<;>simp_all
   subst hi';have hn0:n≠0:=by omega
   rw[Uao,UaJ] at hf;obtain⟨x,hx,rfl⟩:=hf;have hfk:f<k:=by have:=(Uad.1 hx).1;rw[(hz' hn0).2] at this;exact this
   refine⟨x,?_,(htrv x (hzs hn0 x (Uaf hx))).1⟩;have hlt:i*k+f<n*k:=by
    calc i*k+f<i*k+k:=by omega
     _=(i+1)*k:=by rw[UaP,UbW]
     _<=n*k:=Uaz _ hn
   rw[hcz hn0 _ hlt,Ubw,Ubn,UbM hfk];exact hx)
  (fun _ e he t ht=>by
   obtain⟨hn,rfl⟩:=Ubs.1 he;simp only[Uau] at ht;obtain⟨x,hx,rfl⟩:=ht;exact(htrv x (hzs hn x hx)).2)
 have hlen:es'.length=n:=by simpa using f3
 refine Res.of_run (hrun out f1) ⟨_,_,f2,?_⟩;have:=Got.row (l:=l) (b:=b) (u:=u') h.ok (hfr _ _ f2 0 (by simp)) (Ext.alloc w (.cells out e)) (heap_alloc_new w _) (by rw[f4,hcsz]) (by omega) (by omega) f5 f6 f7;rw[hlen] at this;exact this
theorem Zix{fields:Array Field}:∀{ps:List (Nat×Nat×X)} {parts:List (Nat×Operand)},U9 P fields ps parts=true ->
  ps.length=parts.length/\∀(j off n:Nat) (x:X),ps[j]? = some (off,n,x)->∃ i y fd,parts[j]? = some (i,y)/\fields[i]? = some fd/\fd.offset=off/\JB P fd.type=some n/\ZB x y=true
 | [],[],_=>⟨rfl,fun j off n x h=>by simp at h⟩
 | [],_::_,h=>by simp [U9] at h
 | _::_,[],h=>by simp [U9] at h
 | (off,n,x)::r,(i,y)::s,h=>by
  simp only[U9,Uae] at h;obtain⟨⟨h1,h2⟩,h3⟩:=h;obtain⟨h4,h5⟩:=Zix h3;refine⟨by simp [h4],fun j off' n' x' hj=>?_⟩;cases j with
  | zero =>
   simp at hj;obtain⟨rfl,rfl,rfl⟩:=hj;split at h1<;>try contradiction
   rename_i fd hfd;simp only[Uae,beq_iff_eq] at h1;exact⟨i,y,fd,rfl,hfd,h1.1,h1.2,h2⟩
  | succ j=>exact h5 j off' n' x' (by simpa using hj)
theorem Ziy{k:Nat}:∀{ps:List (Nat×Nat×X)} {parts:List (Nat×Operand)},Da k ps parts=true ->
  ps.length=parts.length/\∀(j off n:Nat) (x:X),ps[j]? = some (off,n,x)->∃ i y,parts[j]? = some (i,y)/\off=i*k/\n=k/\ZB x y=true
 | [],[],_=>⟨rfl,fun j off n x h=>by simp at h⟩
 | [],_::_,h=>by simp [Da] at h
 | _::_,[],h=>by simp [Da] at h
 | (off,n,x)::r,(i,y)::s,h=>by
  simp only[Da,Uae,beq_iff_eq] at h;obtain⟨⟨⟨h0,h1⟩,h2⟩,h3⟩:=h;obtain⟨h4,h5⟩:=Ziy h3;refine⟨by simp [h4],fun j off' n' x' hj=>?_⟩;cases j with
  | zero =>
   simp at hj;obtain⟨rfl,rfl,rfl⟩:=hj;exact⟨i,y,rfl,h0,h1,h2⟩
  | succ j=>exact h5 j off' n' x' (by simpa using hj)
theorem Ziz:∀(fs:List Field),(∀ f∈fs,(P.info? f.type).isSome=true)->∃ places,fs.mapM (fun f=>(P.info? f.type).map fun i=>(f.offset,i.size))=some places /\
  ∀(i:Nat) (f:Field) (n:Nat),fs[i]? = some f->JB P f.type=some n->places[i]? = some (f.offset,n)
 | [],_=>⟨[],rfl,fun i f n h=>by simp at h⟩
 | f::fs,h=>by
  obtain⟨ps,h1,h2⟩:=Ziz fs fun g hg=>h g (by simp [hg]);obtain⟨i0,hi0⟩:=Uan.1 (h f (by simp));refine⟨(f.offset,i0.size)::ps,by simp [List.mapM_cons,hi0,h1],fun i g n hi hn=>?_⟩;cases i with
  | zero =>
   simp at hi;subst hi;obtain⟨i1,hi1,rfl⟩:=X8 hn;rw[hi0] at hi1;cases hi1;rfl
  | succ i=>simp at hi;simpa using h2 i g n hi hn
theorem ZqK(h:Sim F G st a w){z:List Value}{ps:List (Nat×Nat×X)}{nz:List (Nat×Nat)}(hfr:∀ mk obs,K mk obs->YR st.sto l b (obs l b).length)(hc:Zs P (.bd z ps nz) oper.op=true)
  (he:ev C (xv st.env) st.sto K (.bd z ps nz)):EvOk P G st a w K l b oper:=by
 simp only[Zs] at hc;split at hc<;>try contradiction
 rename_i t parts ho;simp only[Uae] at hc;obtain⟨⟨hz,hnz⟩,hc⟩:=hc;obtain⟨it,zv,hit,hzv,hzc,hz3⟩:=Xm hz;have hnz:=Zit hnz;simp only[ev] at he;obtain⟨hok,he⟩:=he;have hfr:=hfr _ _ he;have hlen:(zobs nz).length=nz.length:=by simp [zobs]
 let G':Gh:=fun i=>if i.1=l/\b<=i.2/\i.2<b+nz.length then fun _=>none else G i
 have hGj:∀ j k,nz[j]? = some k->G' (l,b+j)=fun _=>none:=fun j k hj=>by have:=(Uad.1 hj).1;simp only[G'];rw[if_pos (by refine⟨?_,?_,?_⟩<;>(simp;try omega))]
 have hG:∀ i ob,st.sto i=some ob->G' i=G i:=fun i ob hs=>by
  simp only[G'];rw[if_neg]
  rintro⟨h1,h2,h3⟩
  have:=Uy (j:=i.2-b) (hfr (i.2-b) (by simp [hlen];omega)) hs;apply this;rw[show b+(i.2-b)=i.2 from by omega,<-h1]
 have hnew:∀ j ob,(zobs nz)[j]? = some ob->∀ blk,¬ ZM G' (l,b+j) ob blk:=fun j ob hj blk ho=>by obtain⟨k,hk,rfl⟩:=ZbT hj;exact Zaq (by rw[hGj j k hk]) ho
 have hS:=Ux (zobs nz) st.sto l b hfr;have hvrs:∀ y u,Zu G st.sto w y u->Zu G' (ZW st.sto l b (zobs nz)) w y u:=fun y u hv=>Zew (Ext.refl w) hG (fun i ob hs hi blk ho=>by
  rcases Xk (zobs nz) st.sto l b i ob hs with h1 | ⟨j,_,rfl,h2⟩
  ·rw[hi] at h1;cases h1
  ·exact absurd ho (hnew j ob h2 blk)) hS y u hv
 have hvr:∀ y u,VR G st.sto w y u->VR G' (ZW st.sto l b (zobs nz)) w y u:=fun y u hv=>by have:=hvrs [y] [u] ⟨u,[],rfl,hv,rfl⟩;simp only[Zu] at this;obtain⟨_,_,heq,h1,_⟩:=this;cases heq;exact h1
 have hcs:Zu G' (ZW st.sto l b (zobs nz)) w (zfill l b nz (z.map kc)) zv.cells.toList:=by rw[hzc];exact Zey nz l b _ _ (ZbP hz3) hnz fun j k hk=>⟨Xl (zobs nz) st.sto l b j _ (by simp [zobs,hk]),by rw[hGj j k hk]⟩
 have hsize:zv.cells.size=z.length:=by rw[<-hzc];simp
 have hrun:∃ out,(execOp a.eval oper).run P w = .ok (.value (.agg out)) w/\Zu G' (ZW st.sto l b (zobs nz)) w (fpart (xv st.env) ps (zfill l b nz (z.map kc))) out.toList:=by
  split at hc<;>try contradiction
  ·rename_i fields hu;simp only[Uae] at hc;obtain⟨hp,hall⟩:=hc;obtain⟨hl1,hsp⟩:=Zix hp;obtain⟨places,hm,hpl⟩:=Ziz (P:=P) fields.toList fun f hf=>Ube.1 hall f hf;obtain⟨out,ho1,ho2,ho3⟩:=ZeA (a:=a) (place:=fun i=>places.toArray[i]?) ps parts.toList _ zv.cells hcs (by rw[hsize];exact hok) hl1 fun j off n x hj=>by obtain⟨i,y,fd,g1,g2,g3,g4,g5⟩:=hsp j off n x hj;refine⟨i,y,g1,?_,hvr _ _ (h.x g5)⟩;have:=hpl i fd n (by simpa using g2) g4;rw[g3] at this;simpa using this
   refine⟨out,?_,ho3⟩;have hb:P.built t (parts.map fun(i,x)=>(i,a.eval x)).toList=some out:=by unfold Program.built;simp only[hit,hu,hzv,hm];rw[Ubz];exact ho1
   simp [execOp,ho,run_build w t _ out hb]
  ·rename_i n e hu;split at hc<;>try contradiction
   rename_i k hk;obtain⟨ie,hie,rfl⟩:=X8 hk;obtain⟨hl1,hsp⟩:=Ziy hc;obtain⟨out,ho1,ho2,ho3⟩:=ZeA (a:=a) (place:=fun i=>some (i*ie.size,ie.size)) ps parts.toList _ zv.cells hcs (by rw[hsize];exact hok) hl1 fun j off n x hj=>by obtain⟨i,y,g1,rfl,rfl,g5⟩:=hsp j off n x hj;exact⟨i,y,g1,rfl,hvr _ _ (h.x g5)⟩
   refine⟨out,?_,ho3⟩;have hb:P.built t (parts.map fun(i,x)=>(i,a.eval x)).toList=some out:=by unfold Program.built;simp only[hit,hu,hzv,hie];rw[Ubz];exact ho1
   simp [execOp,ho,run_build w t _ out hb]
 obtain⟨out,hrun,hout⟩:=hrun;refine Res.of_run hrun ⟨_,_,he,?_⟩;refine Got.mk (G':=G') h.ok hfr (Ext.refl w) hG (fun j ob hj blk ho=>absurd ho (hnew j ob hj blk)) (fun _ j ob hj=>?_) (fun j ob j' ob' blk hj _ ho _=>absurd ho (hnew j ob hj blk)) (fun j cells hj=>?_) (fun _=>⟨out.toList,by simp,hout⟩)
 ·obtain⟨k,hk,rfl⟩:=ZbT hj;exact Zex (by rw[hGj j k hk])
 ·obtain⟨k,hk,h1⟩:=ZbT hj;cases h1
theorem ZqL(h:Sim F G st a w){k:Nat}{z:List Value}{x:X}(hfr:∀ mk obs,K mk obs->YR st.sto l b (obs l b).length)(hc:Zs P (.ms k z x) oper.op=true)
  (he:ev C (xv st.env) st.sto K (.ms k z x)):EvOk P G st a w K l b oper:=by
 simp only[Zs] at hc;split at hc<;>try contradiction
 rename_i t y c ho;simp only[Uae] at hc;obtain⟨⟨h1,h2⟩,hc⟩:=hc;split at hc<;>try contradiction
 rename_i e hel;simp only[Uae,beq_iff_eq,decide_eq_true_eq] at hc;obtain⟨⟨⟨hsz,hz⟩,hzl⟩,hby⟩:=hc;have hu:=VA hel;obtain⟨i,zv,hi,hzv,hzc,hz3⟩:=Xm hz;obtain⟨i2,hi2,hks⟩:=X8 hsz;rw[hi] at hi2;cases hi2;have hbytes:i.bytes<=1024:=by simpa [Program.bytesOf,hi] using hby
 simp only[ev] at he;split at he<;>try contradiction
 rename_i n hq;have hx1:=h.x h1;have hx2:=h.x h2;rw[hq] at hx1 hx2;obtain⟨hx1,_⟩:=hx1.val;obtain⟨hx2,_⟩:=hx2.val;obtain⟨h0,hn,he⟩:=he;simp only[bigN] at hn;have hb:(i.bytes:Int)*n<=281474976710656:=by
  calc (i.bytes:Int)*n<=1024*n:=Int.mul_le_mul_of_nonneg_right (by omega) h0
   _<=281474976710656:=by omega
 have hr:=run_make (P:=P) w t e i zv hu hi hzv .i64 .i64 n n h0 (Ubt _) hb (by omega);have hzs:zv.cells.size=k:=by rw[<-hzl,<-hzc];simp
 have hlen:(List.replicate n.toNat (z.map trv)).length=n.toNat:=by simp
 refine Res.of_run (v:=.slice (some ⟨w.heap.size,0,none⟩) n.toNat n.toNat) (w':=w.alloc (.cells (madeCells zv.cells (n.toNat*i.size)) e)) (by simp [execOp,ho,hx1,hx2,hr]) ⟨_,_,he,?_⟩;have htrv:∀ x∈z,Rds w (Av G st.sto w) x (trv x)/\Y6 (trv x):=fun x hx=>by
  rcases hz3 x hx with hx | rfl
  ·have:trv x = .v x:=(by cases x<;>first | rfl | simp [Jw] at hx);rw[this];exact⟨.v x hx,trivial⟩
  ·exact⟨.nil none 0,rfl⟩
 have:=Got.row (l:=l) (b:=b) (k:=k) (c:=n.toNat) (es:=List.replicate n.toNat (z.map trv)) (u:=true) (vs:=madeCells zv.cells (n.toNat*i.size)) (ty:=e) h.ok (hfr _ _ he 0 (by simp)) (Ext.alloc w _) (heap_alloc_new w _) (by rw[size_madeCells,hks]) (by simp) (by omega)
  (fun e he=>by obtain⟨_,rfl⟩:=Ubs.1 he;simpa using hzl)
  (fun i' e f t hi' hf=>by
   obtain⟨hn',rfl⟩:i' < n.toNat/\e=z.map trv:=by rw[Uba] at hi';split at hi'<;>simp_all
   rw[Uao,UaJ] at hf;obtain⟨x,hx,rfl⟩:=hf;have hfk:f<k:=by have:=(Uad.1 hx).1;omega
   refine⟨x,?_,(htrv x (Uaf hx)).1⟩;have hlt:i'*k+f<n.toNat*k:=by
    calc i'*k+f<i'*k+k:=by omega
     _=(i'+1)*k:=by rw[UaP,UbW]
     _<=n.toNat*k:=Uaz _ hn'
   have hmod:(i'*k+f) % k=f:=(by rw[Ubw,Ubn,UbM hfk]);unfold madeCells;rw[UbO,hks];rw[<-hzc] at hx;have hxf:zv.cells[f]? = some x:=(by simpa using hx);have hlt2:f<zv.cells.size:=(by omega);simp [hlt,hzs,hmod];rw[getElem!_pos zv.cells f hlt2];rw[UaY hlt2] at hxf;exact UaT hxf)
  (fun _ e he t ht=>by
   obtain⟨_,rfl⟩:=Ubs.1 he;simp only[Uau] at ht;obtain⟨x,hx,rfl⟩:=ht;exact(htrv x hx).2)
 rw[hlen] at this;exact this
end ops
end Go.Fd
