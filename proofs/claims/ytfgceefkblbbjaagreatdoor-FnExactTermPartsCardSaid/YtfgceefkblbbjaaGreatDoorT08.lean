/-
  The annotated codes of the functions, printed by a program of mine (gen.py), and the check that they belong to the program.
-/
import Derived.Test.YtfgceefkblbbjaaGreatDoorT07
import Derived.KernelRfl
import Derived.Test.YtfgceefkblbbjaaGreatDoorProg
set_option linter.all false
namespace Go.Fd
def Xq:F2 :=
 { nt:=119,res:=[.t 4 [0]],body :=
  (.sq (rg [om 4 (.k (.bool false))])
 (.sq (rg [om 5 (i6 1048576)])
 (.sq (rg [om 17 (.t 0),
 om 18 (.t 5),
 oo 19 (.ca .pure false (.f Qr) [.t 17,.t 18]),
 om 5 (.t 19)])
 (.sq (.sq (rg [om 20 (.t 5),
 oo 21 (.bi .lss 0 (.t 20) (i6 0))])
 (.cd (.t 21) (.sq (rg [om 4 (.k (.bool true))])
 (.rt))
 (.sk)))
 (.sq (rg [om 22 (.t 1),
 om 23 (.t 5),
 oo 24 (.ca .pure false (.f VN) [.t 22,.t 23]),
 om 5 (.t 24)])
 (.sq (.sq (rg [om 25 (.t 5),
 oo 26 (.bi .lss 0 (.t 25) (i6 0))])
 (.cd (.t 26) (.sq (rg [om 4 (.k (.bool true))])
 (.rt))
 (.sk)))
 (.sq (rg [om 28 (.t 0),
 oo 29 (.ca .pure false (.f Jy) [.t 28]),
 om 30 (.t 1),
 oo 31 (.ca .pure false (.f Ju) [.t 30]),
 oo 32 (.ca .pure false (.f Q0) [.t 29,.t 31]),
 om 27 (.t 32),
 oo 33 (.ex 0 (.t 27)),
 oo 34 (.ex 1 (.t 27)),
 om 6 (.t 33),
 om 7 (.t 34)])
 (.sq (rg [om 35 (.t 0),
 oo 36 (.ca .pure true (.f Jy) [.t 35]),
 om 8 (.t 36)])
 (.sq (rg [om 37 (.t 1),
 oo 38 (.ca .pure true (.f Ju) [.t 37]),
 om 9 (.t 38)])
 (.sq (rg [om 40 (.t 8),
 om 41 (.t 9),
 oo 42 (.ca .pure true (.f Y8) [.t 40,.t 41]),
 om 39 (.t 42),
 oo 43 (.ex 0 (.t 39)),
 oo 44 (.ex 1 (.t 39)),
 om 10 (.t 43),
 om 11 (.t 44)])
 (.sq (.sq (rg [om 45 (.t 10),
 om 46 (.t 6),
 oo 47 (.ca .pure false (.f Vg) [.t 45,.t 46]),
 oo 48 (.nt (.t 47)),
 om 49 (.t 48),
 og 50 49 false (.mv (.t 11) none),
 og 51 49 false (.mv (.t 7) none),
 og 52 49 false (.bi .neq 2 (.t 50) (.t 51)),
 oo 53 (.pk (.t 49) (.k (.bool true)) (.t 52))])
 (.cd (.t 53) (.sq (rg [om 4 (.k (.bool false))])
 (.rt))
 (.sk)))
 (.sq (.sq (rg [om 54 (.t 8),
 om 55 (.t 0),
 oo 56 (.ca .pure false (.f Jy) [.t 55]),
 oo 57 (.ca .pure false (.f Qs) [.t 54,.t 56]),
 oo 58 (.nt (.t 57))])
 (.cd (.t 58) (.sq (rg [om 4 (.k (.bool false))])
 (.rt))
 (.sk)))
 (.sq (.sq (rg [om 59 (.t 9),
 om 60 (.t 1),
 oo 61 (.ca .pure false (.f Ju) [.t 60]),
 oo 62 (.ca .pure false (.f VO) [.t 59,.t 61]),
 oo 63 (.nt (.t 62))])
 (.cd (.t 63) (.sq (rg [om 4 (.k (.bool false))])
 (.rt))
 (.sk)))
 (.sq (rg [om 12 (i6 1)])
 (.sq (rg [om 64 (.t 8),
 om 65 (.t 12),
 oo 66 (.ca .any true (.f Vh) [.t 64,.t 65]),
 om 12 (.t 66)])
 (.sq (rg [om 67 (.t 9),
 om 68 (.t 12),
 oo 69 (.ca .any true (.f Y4) [.t 67,.t 68]),
 om 12 (.t 69)])
 (.sq (.sq (rg [om 70 (.t 12),
 oo 71 (.bi .lss 0 (.t 70) (i6 0)),
 om 72 (.t 71),
 og 73 72 false (.mv (.t 10) none),
 og 74 72 false (.mv (.t 6) none),
 og 75 72 false (.ca .pure false (.f Vg) [.t 73,.t 74]),
 og 76 72 false (.nt (.t 75)),
 oo 77 (.pk (.t 72) (.k (.bool true)) (.t 76)),
 om 78 (.t 77),
 og 79 78 false (.mv (.t 11) none),
 og 80 78 false (.mv (.t 7) none),
 og 81 78 false (.bi .neq 2 (.t 79) (.t 80)),
 oo 82 (.pk (.t 78) (.k (.bool true)) (.t 81))])
 (.cd (.t 82) (.sq (rg [om 4 (.k (.bool false))])
 (.rt))
 (.sk)))
 (.sq (rg [om 13 (i6 1)])
 (.sq (rg [om 83 (.t 10),
 om 84 (.t 13),
 oo 85 (.ca .any true (.f Xz) [.t 83,.t 84]),
 om 13 (.t 85)])
 (.sq (rg [om 14 (i6 1)])
 (.sq (rg [om 86 (.t 10),
 om 87 (.t 14),
 oo 88 (.ca .pure false (.f VA) [.t 86,.t 87]),
 om 14 (.t 88)])
 (.sq (.sq (rg [om 89 (.t 14),
 oo 90 (.bi .lss 0 (.t 89) (i6 0))])
 (.cd (.t 90) (.sq (rg [om 4 (.k (.bool false))])
 (.rt))
 (.sk)))
 (.sq (.sq (rg [om 91 (.t 14),
 om 92 (.t 13),
 oo 93 (.bi .neq 0 (.t 91) (.t 92))])
 (.cd (.t 93) (.sq (rg [om 4 (.k (.bool false))])
 (.rt))
 (.sk)))
 (.sq (rg [om 95 (.t 0),
 oo 96 (.ca .pure false (.f Jy) [.t 95]),
 om 97 (.t 1),
 oo 98 (.ca .pure false (.f Ju) [.t 97]),
 oo 99 (.ca .pure false (.f Y8) [.t 96,.t 98]),
 om 94 (.t 99),
 oo 100 (.ex 0 (.t 94)),
 oo 101 (.ex 1 (.t 94)),
 om 15 (.t 100),
 om 16 (.t 101)])
 (.sq (.sq (rg [om 102 (.t 15),
 om 103 (.t 6),
 oo 104 (.ca .pure false (.f Vg) [.t 102,.t 103]),
 oo 105 (.nt (.t 104)),
 om 106 (.t 105),
 og 107 106 false (.mv (.t 16) none),
 og 108 106 false (.mv (.t 7) none),
 og 109 106 false (.bi .neq 2 (.t 107) (.t 108)),
 oo 110 (.pk (.t 106) (.k (.bool true)) (.t 109))])
 (.cd (.t 110) (.sq (rg [om 4 (.k (.bool false))])
 (.rt))
 (.sk)))
 (.sq (rg [om 14 (i6 1)])
 (.sq (rg [om 111 (.t 10),
 om 112 (.t 14),
 oo 113 (.ca .pure false (.f VA) [.t 111,.t 112]),
 om 14 (.t 113)])
 (.sq (.sq (rg [om 114 (.t 14),
 oo 115 (.bi .lss 0 (.t 114) (i6 0))])
 (.cd (.t 115) (.sq (rg [om 4 (.k (.bool false))])
 (.rt))
 (.sk)))
 (.sq (.sq (rg [om 116 (.t 14),
 om 117 (.t 13),
 oo 118 (.bi .neq 0 (.t 116) (.t 117))])
 (.cd (.t 118) (.sq (rg [om 4 (.k (.bool false))])
 (.rt))
 (.sk)))
 (.sq (rg [om 4 (.k (.bool true))])
 (.rt))))))))))))))))))))))))))))))) }
theorem Dz:ZI Go.Proofs.Tryz.prog V6 Xq=true:=by kernel_rfl
def W7:F2 :=
 { nt:=35,res:=[.t 4 [0]],body :=
  (.sq (rg [om 4 (i6 0)])
 (.sq (.sq (rg [om 5 (i6 0)])
 (.bl 0 (.lp [0,1,5] [] (.sq (.sq (rg [om 6 (.t 5),
 om 7 (.t 0),
 oo 8 (.ln (.t 7)),
 oo 9 (.bi .lss 0 (.t 6) (.t 8))])
 (.cd (.t 9) (.sk)
 (.ex 0)))
 (.sq (.bl 1 (.sq (rg [om 12 (.t 0),
 om 13 (.t 5),
 om 14 (.t 1),
 oo 15 (.ca .pure false (.f VB) [.t 14]),
 oo 16 (.ia 3 (.t 12) (.t 13)),
 oo 17 (.fa 0 (.t 16)),
 on1 (.st 1 (.t 17) (.t 15))])
 (.sq (rg [om 18 (.t 1),
 oo 19 (.bi .add 0 (.t 18) (i6 1)),
 om 1 (.t 19)])
 (.sq (rg [om 20 (.t 0),
 om 21 (.t 5),
 om 22 (.t 1),
 oo 23 (.ia 3 (.t 20) (.t 21)),
 oo 24 (.fa 1 (.t 23)),
 on1 (.st 1 (.t 24) (.t 22))])
 (.sq (rg [om 25 (.t 1),
 oo 26 (.bi .add 0 (.t 25) (i6 1)),
 om 1 (.t 26)])
 (.sq (rg [om 27 (.t 0),
 om 28 (.t 5),
 om 29 (.t 1),
 oo 30 (.ia 3 (.t 27) (.t 28)),
 oo 31 (.fa 2 (.t 30)),
 on1 (.st 1 (.t 31) (.t 29))])
 (rg [om 32 (.t 1),
 oo 33 (.bi .add 0 (.t 32) (i6 1)),
 om 1 (.t 33)])))))))
 (rg [om 10 (.t 5),
 oo 11 (.bi .add 0 (.t 10) (i6 1)),
 om 5 (.t 11)]))))))
 (.sq (rg [om 34 (.t 1),
 om 4 (.t 34)])
 (.rt)))) }
theorem ZbJ:ZI Go.Proofs.Tryz.prog Vh W7=true:=by kernel_rfl
def Wo:F2 :=
 { nt:=41,res:=[.t 4 [0]],body :=
  (.sq (rg [om 4 (i6 0)])
 (.sq (.sq (rg [om 5 (i6 0)])
 (.bl 0 (.lp [0,1,5] [] (.sq (.sq (rg [om 6 (.t 5),
 om 7 (.t 0),
 oo 8 (.ln (.t 7)),
 oo 9 (.bi .lss 0 (.t 6) (.t 8))])
 (.cd (.t 9) (.sk)
 (.ex 0)))
 (.sq (.bl 1 (.sq (rg [om 12 (.t 0),
 om 13 (.t 5),
 om 14 (.t 1),
 oo 15 (.ia 4 (.t 12) (.t 13)),
 oo 16 (.fa 0 (.t 15)),
 on1 (.st 1 (.t 16) (.t 14))])
 (.sq (rg [om 17 (.t 1),
 oo 18 (.bi .add 0 (.t 17) (i6 1)),
 om 1 (.t 18)])
 (.sq (rg [om 19 (.t 0),
 om 20 (.t 5),
 om 21 (.t 1),
 oo 22 (.ia 4 (.t 19) (.t 20)),
 oo 23 (.fa 1 (.t 22)),
 on1 (.st 1 (.t 23) (.t 21))])
 (.sq (rg [om 24 (.t 1),
 oo 25 (.bi .add 0 (.t 24) (i6 1)),
 om 1 (.t 25)])
 (.sq (rg [om 26 (.t 0),
 om 27 (.t 5),
 om 28 (.t 1),
 oo 29 (.ia 4 (.t 26) (.t 27)),
 oo 30 (.fa 2 (.t 29)),
 on1 (.st 1 (.t 30) (.t 28))])
 (.sq (rg [om 31 (.t 1),
 oo 32 (.bi .add 0 (.t 31) (i6 1)),
 om 1 (.t 32)])
 (rg [om 33 (.t 0),
 om 34 (.t 5),
 oo 35 (.ia 4 (.t 33) (.t 34)),
 oo 36 (.fa 3 (.t 35)),
 oo 37 (.ld none (.t 36)),
 om 38 (.t 1),
 oo 39 (.ca .any true (.f VP) [.t 37,.t 38]),
 om 1 (.t 39)]))))))))
 (rg [om 10 (.t 5),
 oo 11 (.bi .add 0 (.t 10) (i6 1)),
 om 5 (.t 11)]))))))
 (.sq (rg [om 40 (.t 1),
 om 4 (.t 40)])
 (.rt)))) }
theorem Za6:ZI Go.Proofs.Tryz.prog Y4 Wo=true:=by kernel_rfl
def ZaA:F2 :=
 { nt:=19,res:=[.t 4 [0]],body :=
  (.sq (rg [om 4 (i6 0)])
 (.sq (.sq (rg [om 5 (i6 0)])
 (.bl 0 (.lp [0,1,5] [] (.sq (.sq (rg [om 6 (.t 5),
 om 7 (.t 0),
 oo 8 (.ln (.t 7)),
 oo 9 (.bi .lss 0 (.t 6) (.t 8))])
 (.cd (.t 9) (.sk)
 (.ex 0)))
 (.sq (.bl 1 (.sq (rg [om 12 (.t 0),
 om 13 (.t 5),
 om 14 (.t 1),
 oo 15 (.ia 1 (.t 12) (.t 13)),
 on1 (.st 1 (.t 15) (.t 14))])
 (rg [om 16 (.t 1),
 oo 17 (.bi .add 0 (.t 16) (i6 1)),
 om 1 (.t 17)])))
 (rg [om 10 (.t 5),
 oo 11 (.bi .add 0 (.t 10) (i6 1)),
 om 5 (.t 11)]))))))
 (.sq (rg [om 18 (.t 1),
 om 4 (.t 18)])
 (.rt)))) }
theorem ZfC:ZI Go.Proofs.Tryz.prog Xz ZaA=true:=by kernel_rfl
def ZaB:F2 :=
 { nt:=21,res:=[.t 4 [0]],body :=
  (.sq (rg [om 4 (i6 0)])
 (.sq (.sq (rg [om 5 (i6 0)])
 (.bl 0 (.lp [0,1,5] [] (.sq (.sq (rg [om 6 (.t 5),
 om 7 (.t 0),
 oo 8 (.ln (.t 7)),
 oo 9 (.bi .lss 0 (.t 6) (.t 8))])
 (.cd (.t 9) (.sk)
 (.ex 0)))
 (.sq (.bl 1 (.sq (.sq (rg [om 12 (.t 0),
 om 13 (.t 5),
 oo 14 (.ia 1 (.t 12) (.t 13)),
 oo 15 (.ld none (.t 14)),
 om 16 (.t 1),
 oo 17 (.bi .neq 0 (.t 15) (.t 16))])
 (.cd (.t 17) (.sq (rg [om 4 (i6 (-1))])
 (.rt))
 (.sk)))
 (rg [om 18 (.t 1),
 oo 19 (.bi .add 0 (.t 18) (i6 1)),
 om 1 (.t 19)])))
 (rg [om 10 (.t 5),
 oo 11 (.bi .add 0 (.t 10) (i6 1)),
 om 5 (.t 11)]))))))
 (.sq (rg [om 20 (.t 1),
 om 4 (.t 20)])
 (.rt)))) }
theorem ZfD:ZI Go.Proofs.Tryz.prog VA ZaB=true:=by kernel_rfl
def ZaC:F2 :=
 { nt:=20,res:=[.t 2 [0]],body :=
  (.sq (rg [om 2 (.k (.string ⟨#[]⟩))])
 (.sq (.sq (rg [om 4 (.t 0),
 oo 5 (.bi .leq 0 (.t 4) (i6 0))])
 (.cd (.t 5) (.sq (rg [om 2 (.k (.string ⟨#[109,48]⟩))])
 (.rt))
 (.sk)))
 (.sq (rg [om 3 (.k (.string ⟨#[]⟩))])
 (.sq (.bl 0 (.lp [0,3] [] (.sq (.sq (rg [om 6 (.t 0),
 oo 7 (.bi .gtr 0 (.t 6) (i6 0))])
 (.cd (.t 7) (.sk)
 (.ex 0)))
 (.bl 1 (.sq (rg [om 8 (.t 0),
 oo 9 (.bi .rem 0 (.t 8) (i6 10)),
 oo 10 (.bi .add 0 (i6 48) (.t 9)),
 oo 11 (.cv (.int .u8) (.t 10)),
 oo 12 (.bs 1 1 [.int .u8 0] [(0,.t 11)]),
 oo 13 (.sb (.t 12)),
 om 14 (.t 3),
 oo 15 (.bi .add 0 (.t 13) (.t 14)),
 om 3 (.t 15)])
 (rg [om 16 (.t 0),
 oo 17 (.bi .quo 0 (.t 16) (i6 10)),
 om 0 (.t 17)]))))))
 (.sq (rg [om 18 (.t 3),
 oo 19 (.bi .add 0 (.k (.string ⟨#[109]⟩)) (.t 18)),
 om 2 (.t 19)])
 (.rt)))))) }
theorem ZfE:ZI Go.Proofs.Tryz.prog VB ZaC=true:=by kernel_rfl
def Us:F2 :=
 { nt:=20,res:=[.t 4 [0]],body :=
  (.sq (rg [om 4 (i6 0)])
 (.sq (.sq (rg [om 5 (i6 0)])
 (.bl 0 (.lp [0,1,5] [] (.sq (.sq (rg [om 6 (.t 5),
 om 7 (.t 0),
 oo 8 (.ln (.t 7)),
 oo 9 (.bi .lss 0 (.t 6) (.t 8))])
 (.cd (.t 9) (.sk)
 (.ex 0)))
 (.sq (.bl 1 (.sq (rg [om 12 (.t 0),
 om 13 (.t 5),
 om 14 (.t 1),
 oo 15 (.ca .pure false (.f VB) [.t 14]),
 oo 16 (.ia 1 (.t 12) (.t 13)),
 on1 (.st 1 (.t 16) (.t 15))])
 (rg [om 17 (.t 1),
 oo 18 (.bi .add 0 (.t 17) (i6 1)),
 om 1 (.t 18)])))
 (rg [om 10 (.t 5),
 oo 11 (.bi .add 0 (.t 10) (i6 1)),
 om 5 (.t 11)]))))))
 (.sq (rg [om 19 (.t 1),
 om 4 (.t 19)])
 (.rt)))) }
theorem ZcO:ZI Go.Proofs.Tryz.prog VP Us=true:=by kernel_rfl
end Go.Fd

namespace Go.Fd
set_option maxRecDepth 20000
abbrev Zq9(_:Int)(k:Int):Int:=k
abbrev Zdq(_:Int):Nat:=1
def mt(q:Nat)(o:ByteArray):ByteArray:=if q=0 then o else mt (q / 10) (⟨#[UInt8.ofNat (48+q % 10)]⟩++o)
 termination_by q
 decreasing_by omega
theorem Zwo{q:Nat}{o:ByteArray}(h:0<q):mt q o=mt (q / 10) (⟨#[UInt8.ofNat (48+q % 10)]⟩++o):=by
 rw[mt,if_neg (by omega)]
theorem ZsX{o:ByteArray}:mt 0 o=o:=by rw[mt,if_pos rfl]
def Zqq(k:Int):ByteArray:=if k<=0 then ⟨#[109,48]⟩ else ⟨#[109]⟩++mt k.toNat ⟨#[]⟩
theorem ZdV(k:Int)(h:k<=4611686018427387904)(lvl:Nat)(S:Sto):Sem Go.Proofs.Tryz.prog VB lvl [iI k] S (iS (Zqq k)) S:=by
 refine Zb ZfE trivial ?_
 simp only[ZaC,EVA,seval]
 unfold Zqq
 refine Zn (fun h0=>?_) (fun h0=>?_)
 ·rw[if_pos h0]
 ·rw[if_neg h0]
  obtain⟨K,hK⟩:∃ K:Nat,k=K:=⟨k.toNat,by omega⟩
  subst hK
  rw[Int.toNat_natCast]
  refine Z3 (α:=Nat×ByteArray) K (fun j y=>⟨lvl,[(0,iI y.1),(3,iS y.2)],[],S⟩) (fun j y=>y.1+j<=K/\mt y.1 y.2=mt K ⟨#[]⟩/\y.1*10 ^ y.2.size<=K/\y.2.size<=19) (K,⟨#[]⟩) ⟨by simp only[EVA,seval],by simp only[EVA,seval]⟩ ⟨Nat.le_refl _,rfl,Nat.le_of_eq (Nat.mul_one K),(by decide:(0:Nat)<=19)⟩ ?_
  intro j y hj hA
  obtain⟨q,o⟩:=y
  obtain⟨h1,h2,h3,h4⟩:=hA
  simp only at h1 h2 h3 h4
  simp only[EVA,seval]
  refine Zn (fun hq=>?_) (fun hq=>?_)
  ·have hq0:0<q:=by omega
   have hby:byR [[Tr.v (Value.int IntKind.u8 (48+(q:Int) % 10))]]=some [UInt8.ofNat (48+q % 10)]:=by
    have e:(48+(q:Int) % 10).toNat=48+q % 10:=by omega
    simp only[byR,Option.map_some,e]
   have h5:o.size<19:=by
    apply Classical.byContradiction
    intro hc
    have e:o.size=19:=by omega
    rw[e] at h3
    have:1*10 ^ 19<=q*10 ^ 19:=Nat.mul_le_mul_right _ hq0
    omega
   have h6:q / 10*10 ^ (o.size+1)<=K:=by
    refine Nat.le_trans ?_ h3
    rw[Nat.pow_succ,Nat.mul_comm (10 ^ o.size) 10,<-Nat.mul_assoc]
    exact Nat.mul_le_mul_right _ (by omega)
   rw[hby]
   simp only[EVA,seval]
   have hs:(ByteArray.mk #[UInt8.ofNat (48+q % 10)]++o).size=o.size+1:=by
    rw[ByteArray.size_append,Nat.add_comm];rfl
   have e8:Xt .u8 (48+(q:Int) % 10):=by
    constructor
    ·show (0:Int)<=_;omega
    ·show _<=(255:Int);omega
   refine⟨by rw[Zd];omega,e8,?_,by rw[Zd];omega,Ze (q / 10,ByteArray.mk #[UInt8.ofNat (48+q % 10)]++o) (by omega) ?_ ⟨by simp only;omega,?_,?_,?_⟩⟩
   ·show 1+o.size<=4294967296
    omega
   ·rfl
   ·rw[<-h2,Zwo hq0]
   ·simp only[hs];exact h6
   ·simp only[hs];omega
  ·have:q=0:=by omega
   subst this
   rw[<-h2,ZsX]
   refine⟨?_,rfl⟩
   show 1+o.size<=4294967296
   omega
abbrev Zwp(_:ByteArray)(k:Int):ByteArray:=Zqq k
abbrev ZlP(_:ByteArray):Nat:=1
end Go.Fd

namespace Go.Fd
set_option maxRecDepth 20000
theorem ZoP:MarkS Go.Proofs.Tryz.prog Xz (fun n:Int=>[tv n]) Zq9 Zdq (fun _=>True):=by
 intro a k lvl S id p es r0 kk hw ver st cap hid hv hst h0 hk hl hB
 have hne:id.1≠lvl:=by omega
 have hgp:∀ r,getp (DQ es p r) p=some r:=fun r=>UQ hv
 refine Zb ZfC trivial ?_
 simp only[ZaA,EVA,seval]
 refine Z3 (α:=Unit) a.length (fun j _=>⟨lvl,[(0,.hd id p 0 a.length cap st),(1,iI (kJ Zdq a k j)),(5,iI j)],[],ZT S id (.ar kk (DQ es p ((lJ Zq9 Zdq a k j).map (fun n:Int=>[tv n]))) true hw ver)⟩) (fun _ _=>True) () ⟨by simp only[Yj hne,EVA,seval],by (simp only[ZeT,Zhg,EVA,seval]) <;> rfl⟩ trivial ?_
 intro j _ hj _
 simp only[EVA,seval]
 refine Zn (fun hlt=>?_) (fun hge=>?_)
 ·have hja:j<a.length:=by omega
  obtain⟨R,hjR,hR,hR'⟩:=Zk9 Zq9 Zdq (fun n:Int=>[tv n]) (k:=k) hja
  have hge2:=Znq Zdq (a:=a) (k:=k) (j:=j+1)
  rw[Uv Zdq hja] at hge2
  have hge3:=Znr Zdq (a:=a) (k:=k) (j:=j)
  rw[hR]
  try simp only[Zdq] at hge2
  try simp only[Jp hne,QW hne,YC,QH,hst,hgp,ZaQ hjR,Zb1 hv hjR,Nat.zero_add,hja,Yj hne,tv,EVA,seval]
  refine⟨by rw[Zd];omega,⟨by rw[Zd];omega,Ze () hja ?_ trivial⟩⟩
  rw[Uv Zdq hja,hR']
  simp only[Zdq,Zq9,tv,Int.natCast_add,Int.natCast_one]
  try rfl
 ·have:j=a.length:=by omega
  subst this
  rw[ZiK,Zk8]
  exact⟨rfl,rfl⟩
theorem Zjx:MarkS Go.Proofs.Tryz.prog VP (fun n:ByteArray=>[ts n]) Zwp ZlP (fun x=>x.size<=4294967296):=by
 intro a k lvl S id p es r0 kk hw ver st cap hid hv hst h0 hk hl hB
 have hne:id.1≠lvl:=by omega
 have hgp:∀ r,getp (DQ es p r) p=some r:=fun r=>UQ hv
 refine Zb ZcO trivial ?_
 simp only[Us,EVA,seval]
 refine Z3 (α:=Unit) a.length (fun j _=>⟨lvl,[(0,.hd id p 0 a.length cap st),(1,iI (kJ ZlP a k j)),(5,iI j)],[],ZT S id (.ar kk (DQ es p ((lJ Zwp ZlP a k j).map (fun n:ByteArray=>[ts n]))) true hw ver)⟩) (fun _ _=>True) () ⟨by simp only[Yj hne,EVA,seval],by (simp only[ZeT,Zhg,EVA,seval]) <;> rfl⟩ trivial ?_
 intro j _ hj _
 simp only[EVA,seval,Zj,men]
 refine Zn (fun hlt=>?_) (fun hge=>?_)
 ·have hja:j<a.length:=by omega
  obtain⟨R,hjR,hR,hR'⟩:=Zk9 Zwp ZlP (fun n:ByteArray=>[ts n]) (k:=k) hja
  have hge2:=Znq ZlP (a:=a) (k:=k) (j:=j+1)
  rw[Uv ZlP hja] at hge2
  have hge3:=Znr ZlP (a:=a) (k:=k) (j:=j)
  rw[hR]
  try simp only[ZlP] at hge2
  try simp only[Jp hne,QW hne,YC,QH,hst,hgp,ZaQ hjR,Zb1 hv hjR,Nat.zero_add,hja,Yj hne,List.length_map,tv,EVA,seval,Zj,men]
  refine Za (ZdV (kJ ZlP a k j) (by omega)) ?_
  simp only[Jp hne,QW hne,YC,QH,hst,hgp,ZaQ hjR,Zb1 hv hjR,Nat.zero_add,hja,Yj hne,EVA,seval]
  refine⟨by rw[Zd];omega,⟨by rw[Zd];omega,Ze () hja ?_ trivial⟩⟩
  rw[Uv ZlP hja,hR']
  simp only[ZlP,Zwp,Int.natCast_add,Int.natCast_one]
  try rfl
 ·have:j=a.length:=by omega
  subst this
  rw[ZiK,Zk8]
  exact⟨rfl,rfl⟩
def Zes(x:TControl)(k:Int):TControl:={ name:=Zqq (k),ports:=k+1,kind_:=k+1+1 }
def YW(x:TControl):Nat:=1+1+1
theorem Zh6:MarkS Go.Proofs.Tryz.prog Vh Zh Zes YW (Zr 4294967296):=by
 intro a k lvl S id p es r0 kk hw ver st cap hid hv hst h0 hk hl hB
 have hne:id.1≠lvl:=by omega
 have hgp:∀ r,getp (DQ es p r) p=some r:=fun r=>UQ hv
 refine Zb ZbJ trivial ?_
 simp only[W7,EVA,seval]
 refine Z3 (α:=Unit) a.length (fun j _=>⟨lvl,[(0,.hd id p 0 a.length cap st),(1,iI (kJ YW a k j)),(5,iI j)],[],ZT S id (.ar kk (DQ es p ((lJ Zes YW a k j).map Zh)) true hw ver)⟩) (fun _ _=>True) () ⟨by simp only[Yj hne,EVA,seval],by (simp only[ZeT,Zhg,EVA,seval]) <;> rfl⟩ trivial ?_
 intro j _ hj _
 simp only[EVA,seval,Zj,men]
 refine Zn (fun hlt=>?_) (fun hge=>?_)
 ·have hja:j<a.length:=by omega
  obtain⟨R,hjR,hR,hR'⟩:=Zk9 Zes YW Zh (k:=k) hja
  have hge2:=Znq YW (a:=a) (k:=k) (j:=j+1)
  rw[Uv YW hja] at hge2
  have hge3:=Znr YW (a:=a) (k:=k) (j:=j)
  rw[hR]
  try simp only[YW] at hge2
  have hb:=hB _ (List.getElem_mem hja)
  have b0:(a[j]).name.size<=4294967296:=hb
  try simp only[Zh,seval]
  refine Za (ZdV (kJ YW a k j) (by omega)) ?_
  simp only[Jp hne,QW hne,YC,QH,hst,hgp,ZaQ hjR,Zb1 hv hjR,Nat.zero_add,hja,Yj hne,EVA,seval]
  refine⟨by rw[Zd];omega,⟨by rw[Zd];omega,⟨by rw[Zd];omega,⟨by rw[Zd];omega,Ze () hja ?_ trivial⟩⟩⟩⟩
  rw[Uv YW hja,hR']
  simp only[YW,Zes,Zh,Int.natCast_add,Int.natCast_one,Int.add_assoc]
  try rfl
 ·have:j=a.length:=by omega
  subst this
  rw[ZiK,Zk8]
  exact⟨rfl,rfl⟩
def ZcP(x:TTermStep)(k:Int):TTermStep:={ kind_:=k,control:=k+1,site:=k+1+1,names:=mL Zwp ZlP x.names (k+1+1+1) }
def Yu(x:TTermStep):Nat:=1+1+1+nL ZlP x.names
theorem Zgd:MarkS Go.Proofs.Tryz.prog Y4 Zf ZcP Yu (ZA 4294967296):=by
 intro a k lvl S id p es r0 kk hw ver st cap hid hv hst h0 hk hl hB
 have hne:id.1≠lvl:=by omega
 have hgp:∀ r,getp (DQ es p r) p=some r:=fun r=>UQ hv
 refine Zb Za6 trivial ?_
 simp only[Wo,EVA,seval]
 refine Z3 (α:=Unit) a.length (fun j _=>⟨lvl,[(0,.hd id p 0 a.length cap st),(1,iI (kJ Yu a k j)),(5,iI j)],[],ZT S id (.ar kk (DQ es p ((lJ ZcP Yu a k j).map Zf)) true hw ver)⟩) (fun _ _=>True) () ⟨by simp only[Yj hne,EVA,seval],by (simp only[ZeT,Zhg,EVA,seval]) <;> rfl⟩ trivial ?_
 intro j _ hj _
 simp only[EVA,seval]
 refine Zn (fun hlt=>?_) (fun hge=>?_)
 ·have hja:j<a.length:=by omega
  obtain⟨R,hjR,hR,hR'⟩:=Zk9 ZcP Yu Zf (k:=k) hja
  have hge2:=Znq Yu (a:=a) (k:=k) (j:=j+1)
  rw[Uv Yu hja] at hge2
  have hge3:=Znr Yu (a:=a) (k:=k) (j:=j)
  rw[hR]
  try simp only[Yu] at hge2
  have hb:=hB _ (List.getElem_mem hja)
  obtain⟨b0,b1⟩:=hb
  try simp only[Jp hne,QW hne,YC,QH,hst,hgp,ZaQ hjR,Zb1 hv hjR,Nat.zero_add,hja,List.length_map,Zf,EVA,seval]
  refine⟨by rw[Zd];omega,⟨by rw[Zd];omega,⟨by rw[Zd];omega,?_⟩⟩⟩
  simp only[Zig]
  refine ZpH Zjx hid hv (by omega) (by omega) b0 b1 hjR rfl (by simp only[List.length_map]) ?_
  simp only[List.set_cons_succ,List.set_cons_zero,Yj hne,EVA,seval]
  refine⟨by rw[Zd];omega,Ze () hja ?_ trivial⟩
  rw[Uv Yu hja,hR']
  simp only[Yu,ZcP,Zf,Int.natCast_add,Int.natCast_one,Int.add_assoc]
  try rfl
 ·have:j=a.length:=by omega
  subst this
  rw[ZiK,Zk8]
  exact⟨rfl,rfl⟩
end Go.Fd

namespace Go.Fd
def U3:F2 :=
 { nt:=23,res:=[.t 2 [4]],body :=
  (.sq (rg [om 2 (.k (.slice none 0 0))])
 (.sq (rg [om 5 (.t 0),
 oo 6 (.ln (.t 5)),
 oo 7 (.ms 3 [.string ⟨#[]⟩,.int .i64 0,.int .i64 0] (.t 6)),
 om 3 (.t 7)])
 (.sq (.sq (rg [om 4 (i6 0)])
 (.bl 0 (.lp [0,3,4] [224] (.sq (.sq (rg [om 8 (.t 4),
 om 9 (.t 0),
 oo 10 (.ln (.t 9)),
 oo 11 (.bi .lss 0 (.t 8) (.t 10))])
 (.cd (.t 11) (.sk)
 (.ex 0)))
 (.sq (.bl 1 (rg [om 14 (.t 3),
 om 15 (.t 4),
 om 16 (.t 0),
 om 17 (.t 4),
 oo 18 (.ia 3 (.t 16) (.t 17)),
 oo 19 (.ld (some 3) (.t 18)),
 oo 20 (.ca .pure true (.f Q3) [.t 19]),
 oo 21 (.ia 3 (.t 14) (.t 15)),
 on1 (.st 3 (.t 21) (.t 20))]))
 (rg [om 12 (.t 4),
 oo 13 (.bi .add 0 (.t 12) (i6 1)),
 om 4 (.t 13)]))))))
 (.sq (rg [om 22 (.t 3),
 om 2 (.t 22)])
 (.rt))))) }
theorem Zdr:ZI Go.Proofs.Tryz.prog Jy U3=true:=by kernel_rfl
def Ut:F2 :=
 { nt:=23,res:=[.t 2 [5]],body :=
  (.sq (rg [om 2 (.k (.slice none 0 0))])
 (.sq (rg [om 5 (.t 0),
 oo 6 (.ln (.t 5)),
 oo 7 (.ms 4 [.int .i64 0,.int .i64 0,.int .i64 0,.slice none 0 0] (.t 6)),
 om 3 (.t 7)])
 (.sq (.sq (rg [om 4 (i6 0)])
 (.bl 0 (.lp [0,3,4] [224,640] (.sq (.sq (rg [om 8 (.t 4),
 om 9 (.t 0),
 oo 10 (.ln (.t 9)),
 oo 11 (.bi .lss 0 (.t 8) (.t 10))])
 (.cd (.t 11) (.sk)
 (.ex 0)))
 (.sq (.bl 1 (rg [om 14 (.t 3),
 om 15 (.t 4),
 om 16 (.t 0),
 om 17 (.t 4),
 oo 18 (.ia 4 (.t 16) (.t 17)),
 oo 19 (.ld (some 4) (.t 18)),
 oo 20 (.ca .pure true (.f Qu) [.t 19]),
 oo 21 (.ia 4 (.t 14) (.t 15)),
 on1 (.st 4 (.t 21) (.t 20))]))
 (rg [om 12 (.t 4),
 oo 13 (.bi .add 0 (.t 12) (i6 1)),
 om 4 (.t 13)]))))))
 (.sq (rg [om 22 (.t 3),
 om 2 (.t 22)])
 (.rt))))) }
theorem ZcQ:ZI Go.Proofs.Tryz.prog Ju Ut=true:=by kernel_rfl
def DM:F2 :=
 { nt:=13,res:=[.t 4 [0]],body :=
  (.sq (rg [oo 2 (.bt (.t 0)),
 om 4 (i6 0)])
 (.sq (rg [om 5 (.t 1),
 oo 6 (.fa 0 (.t 2)),
 oo 7 (.ld none (.t 6)),
 oo 8 (.lg (.t 7)),
 oo 9 (.bi .sub 0 (.t 5) (.t 8)),
 om 1 (.t 9)])
 (.sq (.sq (rg [om 10 (.t 1),
 oo 11 (.bi .lss 0 (.t 10) (i6 0))])
 (.cd (.t 11) (.sq (rg [om 4 (i6 (-1))])
 (.rt))
 (.sk)))
 (.sq (rg [om 12 (.t 1),
 om 4 (.t 12)])
 (.rt))))) }
theorem Zd9:ZI Go.Proofs.Tryz.prog Q1 DM=true:=by kernel_rfl
def U4:F2 :=
 { nt:=12,res:=[.t 4 [0]],body :=
  (.sq (rg [oo 2 (.bt (.t 0)),
 om 4 (i6 0)])
 (.sq (rg [oo 5 (.fa 3 (.t 2)),
 oo 6 (.ld none (.t 5)),
 om 7 (.t 1),
 oo 8 (.ca .pure false (.f Q8) [.t 6,.t 7]),
 om 1 (.t 8)])
 (.sq (.sq (rg [om 9 (.t 1),
 oo 10 (.bi .lss 0 (.t 9) (i6 0))])
 (.cd (.t 10) (.sq (rg [om 4 (i6 (-1))])
 (.rt))
 (.sk)))
 (.sq (rg [om 11 (.t 1),
 om 4 (.t 11)])
 (.rt))))) }
theorem Zds:ZI Go.Proofs.Tryz.prog Qt U4=true:=by kernel_rfl
def DN:F2 :=
 { nt:=14,res:=[.c 2 (some 3) [0,0,0]],body :=
  (.sq (rg [oo 1 (.bt (.t 0)),
 oo 2 (.al [.string ⟨#[]⟩,.int .i64 0,.int .i64 0] [])])
 (.sq (rg [oo 3 (.al [.string ⟨#[]⟩,.int .i64 0,.int .i64 0] [])])
 (.sq (rg [oo 4 (.fa 0 (.t 1)),
 oo 5 (.ld none (.t 4)),
 oo 6 (.fa 0 (.t 3)),
 on1 (.st 1 (.t 6) (.t 5))])
 (.sq (rg [oo 7 (.fa 1 (.t 1)),
 oo 8 (.ld none (.t 7)),
 oo 9 (.fa 1 (.t 3)),
 on1 (.st 1 (.t 9) (.t 8))])
 (.sq (rg [oo 10 (.fa 2 (.t 1)),
 oo 11 (.ld none (.t 10)),
 oo 12 (.fa 2 (.t 3)),
 on1 (.st 1 (.t 12) (.t 11))])
 (.sq (rg [oo 13 (.ld (some 3) (.t 3)),
 on1 (.st 3 (.t 2) (.t 13))])
 (.rt))))))) }
theorem Zea:ZI Go.Proofs.Tryz.prog Q3 DN=true:=by kernel_rfl
def U5:F2 :=
 { nt:=18,res:=[.c 2 (some 4) [0,0,0,2]],body :=
  (.sq (rg [oo 1 (.bt (.t 0)),
 oo 2 (.al [.int .i64 0,.int .i64 0,.int .i64 0,.slice none 0 0] [])])
 (.sq (rg [oo 3 (.al [.int .i64 0,.int .i64 0,.int .i64 0,.slice none 0 0] [])])
 (.sq (rg [oo 4 (.fa 0 (.t 1)),
 oo 5 (.ld none (.t 4)),
 oo 6 (.fa 0 (.t 3)),
 on1 (.st 1 (.t 6) (.t 5))])
 (.sq (rg [oo 7 (.fa 1 (.t 1)),
 oo 8 (.ld none (.t 7)),
 oo 9 (.fa 1 (.t 3)),
 on1 (.st 1 (.t 9) (.t 8))])
 (.sq (rg [oo 10 (.fa 2 (.t 1)),
 oo 11 (.ld none (.t 10)),
 oo 12 (.fa 2 (.t 3)),
 on1 (.st 1 (.t 12) (.t 11))])
 (.sq (rg [oo 13 (.fa 3 (.t 1)),
 oo 14 (.ld none (.t 13)),
 oo 15 (.ca .pure true (.f Q9) [.t 14]),
 oo 16 (.fa 3 (.t 3)),
 on1 (.st 1 (.t 16) (.t 15))])
 (.sq (rg [oo 17 (.ld (some 4) (.t 3)),
 on1 (.st 4 (.t 2) (.t 17))])
 (.rt)))))))) }
theorem Zdt:ZI Go.Proofs.Tryz.prog Qu U5=true:=by kernel_rfl
def DO:F2 :=
 { nt:=20,res:=[.t 4 [0]],body :=
  (.sq (rg [oo 2 (.bt (.t 0)),
 oo 3 (.bt (.t 1)),
 om 4 (.k (.bool false))])
 (.sq (.sq (rg [oo 5 (.fa 0 (.t 2)),
 oo 6 (.ld none (.t 5)),
 oo 7 (.fa 0 (.t 3)),
 oo 8 (.ld none (.t 7)),
 oo 9 (.bi .neq 0 (.t 6) (.t 8))])
 (.cd (.t 9) (.sq (rg [om 4 (.k (.bool false))])
 (.rt))
 (.sk)))
 (.sq (.sq (rg [oo 10 (.fa 1 (.t 2)),
 oo 11 (.ld none (.t 10)),
 oo 12 (.fa 1 (.t 3)),
 oo 13 (.ld none (.t 12)),
 oo 14 (.bi .neq 0 (.t 11) (.t 13))])
 (.cd (.t 14) (.sq (rg [om 4 (.k (.bool false))])
 (.rt))
 (.sk)))
 (.sq (.sq (rg [oo 15 (.fa 2 (.t 2)),
 oo 16 (.ld none (.t 15)),
 oo 17 (.fa 2 (.t 3)),
 oo 18 (.ld none (.t 17)),
 oo 19 (.bi .neq 0 (.t 16) (.t 18))])
 (.cd (.t 19) (.sq (rg [om 4 (.k (.bool false))])
 (.rt))
 (.sk)))
 (.sq (rg [om 4 (.k (.bool true))])
 (.rt)))))) }
theorem Zeb:ZI Go.Proofs.Tryz.prog Q5 DO=true:=by kernel_rfl
def U6:F2 :=
 { nt:=26,res:=[.t 4 [0]],body :=
  (.sq (rg [oo 2 (.bt (.t 0)),
 oo 3 (.bt (.t 1)),
 om 4 (.k (.bool false))])
 (.sq (.sq (rg [oo 5 (.fa 0 (.t 2)),
 oo 6 (.ld none (.t 5)),
 oo 7 (.fa 0 (.t 3)),
 oo 8 (.ld none (.t 7)),
 oo 9 (.bi .neq 0 (.t 6) (.t 8))])
 (.cd (.t 9) (.sq (rg [om 4 (.k (.bool false))])
 (.rt))
 (.sk)))
 (.sq (.sq (rg [oo 10 (.fa 1 (.t 2)),
 oo 11 (.ld none (.t 10)),
 oo 12 (.fa 1 (.t 3)),
 oo 13 (.ld none (.t 12)),
 oo 14 (.bi .neq 0 (.t 11) (.t 13))])
 (.cd (.t 14) (.sq (rg [om 4 (.k (.bool false))])
 (.rt))
 (.sk)))
 (.sq (.sq (rg [oo 15 (.fa 2 (.t 2)),
 oo 16 (.ld none (.t 15)),
 oo 17 (.fa 2 (.t 3)),
 oo 18 (.ld none (.t 17)),
 oo 19 (.bi .neq 0 (.t 16) (.t 18))])
 (.cd (.t 19) (.sq (rg [om 4 (.k (.bool false))])
 (.rt))
 (.sk)))
 (.sq (.sq (rg [oo 20 (.fa 3 (.t 2)),
 oo 21 (.ld none (.t 20)),
 oo 22 (.fa 3 (.t 3)),
 oo 23 (.ld none (.t 22)),
 oo 24 (.ca .pure false (.f Q7) [.t 21,.t 23]),
 oo 25 (.nt (.t 24))])
 (.cd (.t 25) (.sq (rg [om 4 (.k (.bool false))])
 (.rt))
 (.sk)))
 (.sq (rg [om 4 (.k (.bool true))])
 (.rt))))))) }
theorem Zdu:ZI Go.Proofs.Tryz.prog Qv U6=true:=by kernel_rfl
end Go.Fd

namespace Go.Fd
set_option maxRecDepth 20000
theorem Zjy(a:List Int)(k:Int)(hl:a.length<=4294967296)(h0:0<=k)(hk:k+nL Zdq a<=4611686018427387904)(lvl:Nat)(S:Sto):Sem Go.Proofs.Tryz.prog VA lvl [.tr (.sl (rI (mL Zq9 Zdq a k))),iI k] S (iI (k+nL Zdq a)) S:=by
 refine Zb ZfD trivial ?_
 simp only[ZaB,EVA,seval]
 refine Z3 (α:=Unit) a.length (fun j _=>⟨lvl,[(0,.tr (.sl (rI (mL Zq9 Zdq a k)))),(1,iI (kJ Zdq a k j)),(5,iI j)],[],S⟩) (fun _ _=>True) () ⟨by simp only[EVA,seval],by (simp only[ZeT,EVA,seval]) <;> rfl⟩ trivial ?_
 intro j _ hj _
 simp only[List.length_map,XV,EVA,seval]
 refine Zn (fun hlt=>?_) (fun hge=>?_)
 ·have hja:j<a.length:=by omega
  have ga:=Zwc (c:=(fun n:Int=>[tv n])) (m:=Zq9) (n:=Zdq) (k:=k) hja
  have hge2:=Znq Zdq (a:=a) (k:=k) (j:=j+1)
  rw[Uv Zdq hja] at hge2
  have hge3:=Znr Zdq (a:=a) (k:=k) (j:=j)
  try simp only[Zdq] at hge2
  simp only[ga,Zq9,Nat.zero_add,ne_eq,not_true_eq_false,EVA,seval]
  refine⟨by rw[Zd];omega,⟨by rw[Zd];omega,Ze () hja ?_ trivial⟩⟩
  rw[Uv Zdq hja]
  simp only[Zdq,Int.natCast_add,Int.natCast_one]
  try rfl
 ·have:j=a.length:=by omega
  subst this
  rw[ZiK]
end Go.Fd

namespace Go.Fd
theorem ZoQ(x:TControl):Zq 256 (fun l=>J4 x l) (YW x):=Zle (ZvH (by omega) (by omega) (ZvI x.name.size) ZvG) (by simp only[YW];omega)
theorem ZmF(x:TTermStep):Zq 256 (fun l=>Yc x l) (Yu x):=Zle (ZvH (by omega) (by omega) (ZAl (n:=ZlP) (fun y=>Zss y.size) x.names) ZvG) (by simp only[Yu];omega)
end Go.Fd

namespace Go.Fd
theorem Zra:∀(l:List Int),nL Zdq l=l.length
 | []=>rfl
 | x::r=>by simp only[nL,List.length_cons,Zra r,Zdq];omega
end Go.Fd

namespace Go.Fd
set_option maxRecDepth 20000
theorem Zrb{α:Type}{f:α->Int->Int}:∀(a:List α)(l:Int),(∀ x∈a,∀ l:Int,0<=l->l<=1048576->f x l<=l)->0<=l->l<=1048576->szF f a l<=l
 | [],l,_,_,_=>Int.le_refl l
 | x::r,l,hf,h0,h1=>by
  simp only[szF]
  have:=hf x (by simp) l h0 h1
  split
  ·omega
  ·have h2:=Zrb r (f x l) (fun y hy=>hf y (by simp [hy])) (by omega) (by omega)
   omega
theorem ZoR{α:Type}{f:α->Int->Int}(a:List α){l:Int}(hf:∀ x∈a,∀ l:Int,0<=l->l<=1048576->f x l<=l)(h0:0<=l)(h1:l<=1048576):szL f a l<=l:=by
 unfold szL
 split
 ·omega
 ·have:=Zrb a (l-a.length) hf (by omega) (by omega)
  omega
theorem ZoS{l m:Int}{g:Int->Int}(h0:0<=l)(h:m<=l)(hg:0<=m->g m<=m):Zld m g<=l:=by
 unfold Zld
 split
 ·omega
 ·have:=hg (by omega)
  omega
theorem Zky:ZI Go.Proofs.Tryz.prog Q8 ZAj=true:=by kernel_rfl
theorem ZcR(a:List ByteArray)(hl:a.length<=9223372036854775807)(hb:∀ y∈a,y.size<=9223372036854775807)(l:Int)(h0:0<=l)(h1:l<=1048576):szL (fun x m=>m-x.size) a l<=l/\∀ lvl S,Sem Go.Proofs.Tryz.prog Q8 lvl [tS a,iI l] S (iI (szL (fun x m=>m-x.size) a l)) S :=
 ⟨ZoR a (fun x _ l _ _=>by omega) h0 h1,fun lvl S=>ZpJ Zky a l hl h0 h1 hb lvl S⟩
theorem ZcS(x:TControl)(hb:Zr 9223372036854775807 x)(l:Int)(h0:0<=l)(h1:l<=1048576):J4 x l<=l/\∀ lvl S,Sem Go.Proofs.Tryz.prog Q1 lvl [.ag ((Zh x).map .tr),iI l] S (iI (J4 x l)) S:=by
 have b0:x.name.size<=9223372036854775807:=hb
 refine⟨?_,fun lvl S=>?_⟩
 ·unfold J4
  refine ZoS h0 (m:=l-x.name.size) (by omega) (fun p0=>?_)
  have r0:_<=(1048576:Int):=Int.le_trans (show l-x.name.size<=l by omega) h1
  exact Int.le_refl _
 ·refine Zb Zd9 trivial ?_
  simp only[DM,Zh,List.map_cons,List.map_nil,EVA,seval]
  unfold J4
  refine⟨by rw[Zd];omega,?_⟩
  obtain⟨l1,hl1⟩:∃ m:Int,m=l-x.name.size:=⟨_,rfl⟩
  have u1:l1<=l:=by omega
  rw[<-hl1]
  split
  ·rename_i hn;rw[Zld,if_pos hn]
  rename_i hn0
  rw[Zld,if_neg hn0]
theorem Zjz:ZI Go.Proofs.Tryz.prog Qr (Zwy 3 (some 3) Q1)=true:=by kernel_rfl
theorem Zge(a:List TControl)(hl:a.length<=9223372036854775807)(hb:∀ y∈a,Zr 9223372036854775807 y)(l:Int)(h0:0<=l)(h1:l<=1048576):szL J4 a l<=l/\∀ lvl S,Sem Go.Proofs.Tryz.prog Qr lvl [.tr (.sl (a.map Zh)),iI l] S (iI (szL J4 a l)) S :=
 ⟨ZoR a (fun x hx l h0 h1=>(ZcS x (hb x hx) l h0 h1).1) h0 h1,fun lvl S=>Zlb Zjz Zh J4 ZdC a l hl h0 h1 (fun x hx l h0 h1=>ZcS x (hb x hx) l h0 h1) lvl S⟩
theorem Zbw(x:TTermStep)(hb:ZA 9223372036854775807 x)(l:Int)(h0:0<=l)(h1:l<=1048576):Yc x l<=l/\∀ lvl S,Sem Go.Proofs.Tryz.prog Qt lvl [.ag ((Zf x).map .tr),iI l] S (iI (Yc x l)) S:=by
 obtain⟨b0,b1⟩:=hb
 refine⟨?_,fun lvl S=>?_⟩
 ·unfold Yc
  have q0:=ZcR x.names b0 b1 _ h0 h1
  refine ZoS h0 q0.1 (fun p0=>?_)
  have r0:_<=(1048576:Int):=Int.le_trans q0.1 h1
  exact Int.le_refl _
 ·refine Zb Zds trivial ?_
  simp only[U4,Zf,List.map_cons,List.map_nil,EVA,seval,Zj,men]
  unfold Yc
  have q0:=ZcR x.names b0 b1 l h0 h1
  refine Za q0.2 ?_
  simp only[EVA,seval]
  obtain⟨l1,hl1⟩:∃ m:Int,m=(szL (fun x m=>m-x.size) x.names l):=⟨_,rfl⟩
  have u1:l1<=l:=by rw[hl1];exact q0.1
  rw[<-hl1]
  split
  ·rename_i hn;rw[Zld,if_pos hn]
  rename_i hn0
  rw[Zld,if_neg hn0]
theorem Zh7:ZI Go.Proofs.Tryz.prog VN (Zwy 4 (some 4) Qt)=true:=by kernel_rfl
theorem ZfF(a:List TTermStep)(hl:a.length<=9223372036854775807)(hb:∀ y∈a,ZA 9223372036854775807 y)(l:Int)(h0:0<=l)(h1:l<=1048576):szL Yc a l<=l/\∀ lvl S,Sem Go.Proofs.Tryz.prog VN lvl [.tr (.sl (a.map Zf)),iI l] S (iI (szL Yc a l)) S :=
 ⟨ZoR a (fun x hx l h0 h1=>(Zbw x (hb x hx) l h0 h1).1) h0 h1,fun lvl S=>Zlb Zh7 Zf Yc Zhk a l hl h0 h1 (fun x hx l h0 h1=>Zbw x (hb x hx) l h0 h1) lvl S⟩
end Go.Fd

namespace Go.Fd
set_option maxRecDepth 20000
theorem Zqr:ZI Go.Proofs.Tryz.prog Vg Zs2=true:=by kernel_rfl
theorem Zdv(a b:(List Int))(ha:a.length<=9223372036854775807)(lvl:Nat)(S:Sto):Sem Go.Proofs.Tryz.prog Vg lvl [.tr (.sl (rI a)),.tr (.sl (rI b))] S (iB (decide (a=b))) S:=Zsp Zqr a b ha lvl S
theorem Zkz:ZI Go.Proofs.Tryz.prog Q7 Zs2=true:=by kernel_rfl
theorem Zh8(a b:(List ByteArray))(ha:a.length<=9223372036854775807)(lvl:Nat)(S:Sto):Sem Go.Proofs.Tryz.prog Q7 lvl [.tr (.sl (rS a)),.tr (.sl (rS b))] S (iB (decide (a=b))) S:=Zsq Zkz a b ha lvl S
theorem Zh9(x y:TControl)(hb:Zr 9223372036854775807 x)(lvl:Nat)(S:Sto):Sem Go.Proofs.Tryz.prog Q5 lvl [.ag ((Zh x).map .tr),.ag ((Zh y).map .tr)] S (iB (decide (x=y))) S:=by
 have b0:x.name.size<=9223372036854775807:=hb
 refine Zb Zeb trivial ?_
 simp only[DO,Zh,List.map_cons,List.map_nil,EVA,seval]
 refine Zn (fun hne=>?_) (fun heq0=>?_)
 ·have:¬ x=y:=fun e=>(by rw[e] at hne;simp at hne)
  simp [this]
 refine Zn (fun hne=>?_) (fun heq1=>?_)
 ·have:¬ x=y:=fun e=>(by rw[e] at hne;simp at hne)
  simp [this]
 refine Zn (fun hne=>?_) (fun heq2=>?_)
 ·have:¬ x=y:=fun e=>(by rw[e] at hne;simp at hne)
  simp [this]
 have:x=y:=by
  cases x;cases y;simp_all
 simp [this]
theorem ZjA:ZI Go.Proofs.Tryz.prog Qs (Zwz 3 (some 3) Q5)=true:=by kernel_rfl
theorem Zgf(a b:(List TControl))(ha:a.length<=9223372036854775807)(ha2:∀ y∈a,Zr 9223372036854775807 y)(lvl:Nat)(S:Sto):Sem Go.Proofs.Tryz.prog Qs lvl [.tr (.sl (a.map Zh)),.tr (.sl (b.map Zh))] S (iB (decide (a=b))) S :=
 Zlc ZjA Zh (fun _=>rfl) a b ha (fun x hx y _ lvl S=>Zh9 x y (ha2 x hx) lvl S) lvl S
theorem Zgg(x y:TTermStep)(hb:ZA 9223372036854775807 x)(lvl:Nat)(S:Sto):Sem Go.Proofs.Tryz.prog Qv lvl [.ag ((Zf x).map .tr),.ag ((Zf y).map .tr)] S (iB (decide (x=y))) S:=by
 obtain⟨b0,b1⟩:=hb
 refine Zb Zdu trivial ?_
 simp only[U6,Zf,List.map_cons,List.map_nil,EVA,seval,Zj,men]
 refine Zn (fun hne=>?_) (fun heq0=>?_)
 ·have:¬ x=y:=fun e=>(by rw[e] at hne;simp at hne)
  simp [this]
 refine Zn (fun hne=>?_) (fun heq1=>?_)
 ·have:¬ x=y:=fun e=>(by rw[e] at hne;simp at hne)
  simp [this]
 refine Zn (fun hne=>?_) (fun heq2=>?_)
 ·have:¬ x=y:=fun e=>(by rw[e] at hne;simp at hne)
  simp [this]
 refine Za (Zh8 x.names y.names b0) ?_
 simp only[Bool.not_eq_true',EVA,seval]
 refine Zn (fun hne=>?_) (fun heq3=>?_)
 ·have:¬ x=y:=fun e=>(by rw[e] at hne;simp at hne)
  simp [this]
 have:x=y:=by
  cases x;cases y;simp_all
 simp [this]
theorem Zia:ZI Go.Proofs.Tryz.prog VO (Zwz 4 (some 4) Qv)=true:=by kernel_rfl
theorem ZfG(a b:(List TTermStep))(ha:a.length<=9223372036854775807)(ha2:∀ y∈a,ZA 9223372036854775807 y)(lvl:Nat)(S:Sto):Sem Go.Proofs.Tryz.prog VO lvl [.tr (.sl (a.map Zf)),.tr (.sl (b.map Zf))] S (iB (decide (a=b))) S :=
 Zlc Zia Zf (fun _=>rfl) a b ha (fun x hx y _ lvl S=>Zgg x y (ha2 x hx) lvl S) lvl S
end Go.Fd

namespace Go.Fd
set_option maxRecDepth 20000
theorem ZkA:ZI Go.Proofs.Tryz.prog Q9 (ZAk (.string ⟨#[]⟩))=true:=by kernel_rfl
theorem Zib(a:(List ByteArray))(ha:a.length<=4294967296)(lvl:Nat)(S:Sto):Sem Go.Proofs.Tryz.prog Q9 lvl [.tr (.sl (rS a))] S (.ow 1 (rS a) true) S:=Zsr ZkA a ha lvl S
theorem Zic(x:TControl)(hb:Zr 4294967296 x)(lvl:Nat)(S:Sto):Sem Go.Proofs.Tryz.prog Q3 lvl [.ag ((Zh x).map .tr)] S (Zhj x) S:=by
 have b0:x.name.size<=4294967296:=hb
 refine Zb Zea (by simp [Zhj,low,men,Zj]) ?_
 simp only[DN,Zh,zfill,zobs,List.map_cons,List.map_nil,Zej,Zek,List.set_cons_zero,List.set_cons_succ,EVA,seval]
 rfl
theorem XR(a:(List TControl))(ha:a.length<=4294967296)(hb:∀ y∈a,Zr 4294967296 y)(lvl:Nat)(S:Sto):Sem Go.Proofs.Tryz.prog Jy lvl [.tr (.sl (a.map Zh))] S (.ow 3 (a.map Zh) true) S:=by
 refine Zb Zdr trivial ?_
 simp only[U3,List.length_map,bigN,EVA,seval]
 refine⟨by omega,?_⟩
 refine Z3 (α:=Unit) a.length (fun j _=>⟨lvl,[(0,.tr (.sl (a.map Zh))),(3,.hd (lvl,224) [] 0 a.length none a.length),(4,iI j)],[(224,.ar 3 (QZ Zh [ts ⟨#[]⟩,tv 0,tv 0] a j) true a.length (j*0))],S⟩) (fun _ _=>True) () ⟨by simp only[EVA,seval],by (simp only[ZbB,EVA,seval]) <;> rfl⟩ trivial ?_
 intro j _ hj _
 simp only[List.length_map,EVA,seval]
 refine Zn (fun hlt=>?_) (fun hge=>?_)
 ·have hja:j<a.length:=by omega
  have ga:(a.map Zh)[j]? = some (Zh a[j]):=by simp [hja]
  have gz:(QZ Zh [ts ⟨#[]⟩,tv 0,tv 0] a j)[j]? = some [ts ⟨#[]⟩,tv 0,tv 0]:=Zc8 hja
  have hfl:(QZ Zh [ts ⟨#[]⟩,tv 0,tv 0] a j).length=a.length:=Zb4 hj
  have hsem:=fun lvl S=>Zic a[j] (hb a[j] (List.getElem_mem hja)) lvl S
  simp only[ga,Zh,EVA,seval,Zj,men]
  refine Za hsem ?_
  simp only[Zhj,gz,hja,hfl,YK,List.getElem?_set_self,List.set_set,List.set_cons_zero,List.set_cons_succ,EVA,seval]
  refine⟨by rw[Zd];omega,Ze () hja ?_ trivial⟩
  have hse:=Zc9 (c:=Zh) (z:=[ts ⟨#[]⟩,tv 0,tv 0]) (e:=[ts a[j].name,tv a[j].ports,tv a[j].kind_]) hja rfl
  rw[hse,show (j+1)*0=j*0 from by omega]
  rfl
 ·have:j=a.length:=by omega
  subst this
  rw[Zc7]
  simp
theorem Zgh(x:TTermStep)(hb:ZA 4294967296 x)(lvl:Nat)(S:Sto):Sem Go.Proofs.Tryz.prog Qu lvl [.ag ((Zf x).map .tr)] S (ZeV x) S:=by
 obtain⟨b0,b1⟩:=hb
 refine Zb Zdt (by simp [ZeV,low,men,Zj]) ?_
 simp only[U5,Zf,zfill,zobs,List.map_cons,List.map_nil,Zej,Zek,List.set_cons_zero,List.set_cons_succ,EVA,seval,Zj,men]
 refine Za (Zib x.names b0) ?_
 simp only[Zej,Zek,List.set_cons_zero,List.set_cons_succ,Prod.mk.injEq,EVA,seval]
 rfl
theorem Xr(a:(List TTermStep))(ha:a.length<=4294967296)(hb:∀ y∈a,ZA 4294967296 y)(lvl:Nat)(S:Sto):Sem Go.Proofs.Tryz.prog Ju lvl [.tr (.sl (a.map Zf))] S (.ow 4 (a.map Zf) true) S:=by
 refine Zb ZcQ trivial ?_
 simp only[Ut,List.length_map,bigN,EVA,seval]
 refine⟨by omega,?_⟩
 refine Z3 (α:=Unit) a.length (fun j _=>⟨lvl,[(0,.tr (.sl (a.map Zf))),(3,.hd (lvl,224) [] 0 a.length none a.length),(4,iI j)],[(224,.ar 4 (QZ Zf [tv 0,tv 0,tv 0,.sl []] a j) true a.length (j*1))],S⟩) (fun _ _=>True) () ⟨by simp only[EVA,seval],by (simp only[ZbB,EVA,seval]) <;> rfl⟩ trivial ?_
 intro j _ hj _
 simp only[List.length_map,EVA,seval]
 refine Zn (fun hlt=>?_) (fun hge=>?_)
 ·have hja:j<a.length:=by omega
  have ga:(a.map Zf)[j]? = some (Zf a[j]):=by simp [hja]
  have gz:(QZ Zf [tv 0,tv 0,tv 0,.sl []] a j)[j]? = some [tv 0,tv 0,tv 0,.sl []]:=Zc8 hja
  have hfl:(QZ Zf [tv 0,tv 0,tv 0,.sl []] a j).length=a.length:=Zb4 hj
  have hsem:=fun lvl S=>Zgh a[j] (hb a[j] (List.getElem_mem hja)) lvl S
  simp only[ga,Zf,EVA,seval,Zj,men]
  refine Za hsem ?_
  simp only[ZeV,gz,hja,hfl,YK,List.getElem?_set_self,List.set_set,List.set_cons_zero,List.set_cons_succ,Prod.mk.injEq,ne_eq,not_false_eq_true,EVA,seval]
  refine⟨by rw[Zd];omega,Ze () hja ?_ trivial⟩
  have hse:=Zc9 (c:=Zf) (z:=[tv 0,tv 0,tv 0,.sl []]) (e:=[tv a[j].kind_,tv a[j].control,tv a[j].site,.sl (rS a[j].names)]) hja rfl
  rw[hse,show (j+1)*1=j*1+1 from by omega]
  rfl
 ·have:j=a.length:=by omega
  subst this
  rw[Zc7]
  simp
end Go.Fd

namespace Go.Fd
theorem ZjB(sig:List TControl)(t:List TTermStep)(_hn:sig.length<=4294967296)(_hbs:∀ y∈sig,Zr 4294967296 y)(ht:t.length<=4294967296)(_hbt:∀ y∈t,ZA 4294967296 y):(ZM sig t).length<=4294967296/\1+(nL Zdq (ZM sig t):Int)<=4611686018427387904:=by
 have h:(ZM sig t).length<=4294967296:=by
  unfold ZM
  split
  ·rw[stS_one];exact ht
  ·simp
 rw[Zra]
 exact⟨h,by omega⟩
end Go.Fd

namespace Go.Fd
set_option maxRecDepth 20000
theorem Za7(x0:(List TControl))(x1:(List TTermStep))(hb0_0:x0.length<=9223372036854775807)(hb0_1:∀ y∈x0,Zr 9223372036854775807 y)(hb1_0:x1.length<=9223372036854775807)(hb1_1:∀ y∈x1,ZA 9223372036854775807 y)(lvl:Nat)(S:Sto):Sem Go.Proofs.Tryz.prog V6 lvl [.tr (.sl (x0.map Zh)),.tr (.sl (x1.map Zf))] S (iB true) S:=by
 refine Zb Dz trivial ?_
 simp only[Xq,EVA,seval,Zj,men]
 have ul:(1048576:Int)<=1048576:=Int.le_refl _
 obtain⟨_,ha0⟩:=Zge x0 hb0_0 hb0_1 (1048576) (by omega) (by omega)
 refine Za ha0 ?_
 simp only[EVA,seval,Zj,men]
 refine Zn (fun _=>trivial) (fun hz0=>?_)
 have zp0:=(ZAn (f:=J4) (fun y=>(ZnB y)) x0) (1048576) (by omega) (by omega)
 have zq0:=(ZAl (f:=J4) (n:=YW) (fun y=>Zle (ZoQ y) (by omega)) x0) (1048576) (by omega) (by omega)
 simp only at zp0 zq0
 have hp0:=zp0.2 (by omega)
 have hq0:=zq0.2 (by omega)
 obtain⟨hs0_0,hs0_1⟩:=hp0
 obtain⟨_,ha1⟩:=ZfF x1 hb1_0 hb1_1 (szL J4 x0 (1048576)) (by omega) (by omega)
 refine Za ha1 ?_
 simp only[EVA,seval,Zj,men]
 refine Zn (fun _=>trivial) (fun hz1=>?_)
 have zp1:=(ZAn (f:=Yc) (fun y=>(ZlZ y)) x1) (szL J4 x0 (1048576)) (by omega) (by omega)
 have zq1:=(ZAl (f:=Yc) (n:=Yu) (fun y=>Zle (ZmF y) (by omega)) x1) (szL J4 x0 (1048576)) (by omega) (by omega)
 simp only at zp1 zq1
 have hp1:=zp1.2 (by omega)
 have hq1:=zq1.2 (by omega)
 obtain⟨hs1_0,hs1_1⟩:=hp1
 refine Za (XR x0 hs0_0 hs0_1) ?_
 simp only[EVA,seval,Zj,men]
 refine Za (Xr x1 hs1_0 hs1_1) ?_
 simp only[EVA,seval,Zj,men]
 refine Za (ZcN x0 x1 hs0_0 hs0_1 hs1_0 hs1_1) ?_
 simp only[EVA,seval,Zj,men]
 refine Za (XR x0 hs0_0 hs0_1) ?_
 simp only[List.length_map,EVA,seval,Zj,men]
 refine Za (Xr x1 hs1_0 hs1_1) ?_
 simp only[List.length_map,QE,EVA,seval,Zj,men]
 refine Za (Ur x0 x1 hs0_0 hs0_1 hs1_0 hs1_1) ?_
 simp only[List.length_map,QE,EVA,seval,Zj,men]
 obtain⟨hr0_0,hrn⟩:=ZjB x0 x1 hs0_0 hs0_1 hs1_0 hs1_1
 refine Za (Zdv (ZM x0 x1) (ZM x0 x1) (by omega)) ?_
 simp only[bne_self_eq_false,EVA,seval,Zj,men]
 refine Za (XR x0 hs0_0 hs0_1) ?_
 simp only[List.length_map,QE,EVA,seval,Zj,men]
 refine Za (Zgf x0 x0 hb0_0 hb0_1) ?_
 simp only[EVA,seval,Zj,men]
 refine Za (Xr x1 hs1_0 hs1_1) ?_
 simp only[List.length_map,QE,EVA,seval,Zj,men]
 refine Za (ZfG x1 x1 hb1_0 hb1_1) ?_
 simp only[EVA,seval]
 simp only[Zig]
 refine ZeU Zh6 (a:=x0) rfl (by omega) (by omega) hs0_0 hs0_1 ?_
 simp only[EVA,seval]
 simp only[Zig]
 refine ZeU Zgd (a:=x1) rfl (by omega) (by omega) hs1_0 hs1_1 ?_
 simp only[List.length_map,QE,EVA,seval,Zj,men]
 have hk0:¬ (1+(nL YW x0:Nat)+(nL Yu x1:Nat)<(0:Int)):=by omega
 simp only[hk0,EVA,seval]
 refine Za (Zdv (ZM x0 x1) (ZM x0 x1) (by omega)) ?_
 simp only[bne_self_eq_false,EVA,seval]
 simp only[Zig]
 refine ZeU ZoP (a:=(ZM x0 x1)) rfl (by omega) (by omega) hr0_0 (fun _ _=>trivial) ?_
 simp only[List.length_map,Zq3,XV,EVA,seval,Zj,men]
 refine Za (Zjy (ZM x0 x1) (1) hr0_0 (by omega) (by omega)) ?_
 have hh0:¬ (1+(nL Zdq (ZM x0 x1):Nat)<(0:Int)):=by omega
 simp only[hh0,ne_eq,not_true_eq_false,EVA,seval,Zj,men]
 refine Za (XR x0 hs0_0 hs0_1) ?_
 simp only[EVA,seval,Zj,men]
 refine Za (Xr x1 hs1_0 hs1_1) ?_
 simp only[EVA,seval,Zj,men]
 refine Za (Ur x0 x1 hs0_0 hs0_1 hs1_0 hs1_1) ?_
 simp only[EVA,seval,Zj,men]
 refine Za (Zdv (ZM x0 x1) (ZM x0 x1) (by omega)) ?_
 simp only[List.length_map,Zq3,XV,bne_self_eq_false,EVA,seval,Zj,men]
 refine Za (Zjy (ZM x0 x1) (1) hr0_0 (by omega) (by omega)) ?_
 have hh0:¬ (1+(nL Zdq (ZM x0 x1):Nat)<(0:Int)):=by omega
 simp only[hh0,ne_eq,not_true_eq_false,EVA,seval]
end Go.Fd

namespace Go.Fd
set_option maxRecDepth 20000
theorem ZA6:DP Go.Proofs.Tryz.prog 9 (fun n:ByteArray=>[ts n]) (fun n=>n.size<=9223372036854775807):=ZiC Go.Proofs.Tryz.underlying9
theorem Zwq:DP Go.Proofs.Tryz.prog 3 (fun n:Int=>[tv n]) (Xt .i64):=Znn Go.Proofs.Tryz.underlying3
theorem ZAx:DP Go.Proofs.Tryz.prog 77 Zh (fun x=>Zr 9223372036854775807 x/\ZiQ x):=Zk4 (ZdA Go.Proofs.Tryz.underlying77 (show Zgs Go.Proofs.Tryz.prog 0 [(0,9),(1,3),(2,3)] _ _ from (Qq (k:=1) (by kernel_rfl) (fun _=>rfl) ZA6 (Qq (k:=1) (by kernel_rfl) (fun _=>rfl) Zwq (Qq (k:=1) (by kernel_rfl) (fun _=>rfl) Zwq Zgt))))) (fun p=>TControl.mk p.1 p.2.1 p.2.2.1) (fun _=>rfl) (fun x h=>⟨h.1,⟨h.2.1,h.2.2.1⟩⟩)
theorem ZAy:DP Go.Proofs.Tryz.prog 22 (fun l:List TControl=>[Tr.sl (l.map Zh)]) (fun l=>l.length<=9223372036854775807/\∀ x∈l,(fun x=>Zr 9223372036854775807 x/\ZiQ x) x):=Zbz (k:=2) Go.Proofs.Tryz.underlying22 (by kernel_rfl) (fun _=>rfl) ZAx
theorem ZAz:DP Go.Proofs.Tryz.prog 45 (fun l:List ByteArray=>[Tr.sl (l.map (fun n:ByteArray=>[ts n]))]) (fun l=>l.length<=9223372036854775807/\∀ x∈l,(fun n=>n.size<=9223372036854775807) x):=Zbz (k:=0) Go.Proofs.Tryz.underlying45 (by kernel_rfl) (fun _=>rfl) ZA6
theorem ZAA:DP Go.Proofs.Tryz.prog 80 Zf (fun x=>ZA 9223372036854775807 x/\Zgu x):=Zk4 (ZdA Go.Proofs.Tryz.underlying80 (show Zgs Go.Proofs.Tryz.prog 0 [(0,3),(1,3),(2,3),(3,45)] _ _ from (Qq (k:=1) (by kernel_rfl) (fun _=>rfl) Zwq (Qq (k:=1) (by kernel_rfl) (fun _=>rfl) Zwq (Qq (k:=1) (by kernel_rfl) (fun _=>rfl) Zwq (Qq (k:=1) (by kernel_rfl) (fun _=>rfl) ZAz Zgt)))))) (fun p=>TTermStep.mk p.1 p.2.1 p.2.2.1 p.2.2.2.1) (fun _=>rfl) (fun x h=>⟨⟨h.2.2.2.1.1,(fun y hy=>(h.2.2.2.1.2 y hy))⟩,⟨h.1,h.2.1,h.2.2.1⟩⟩)
theorem ZAB:DP Go.Proofs.Tryz.prog 23 (fun l:List TTermStep=>[Tr.sl (l.map Zf)]) (fun l=>l.length<=9223372036854775807/\∀ x∈l,(fun x=>ZA 9223372036854775807 x/\Zgu x) x):=Zbz (k:=3) Go.Proofs.Tryz.underlying23 (by kernel_rfl) (fun _=>rfl) ZAA
end Go.Fd
