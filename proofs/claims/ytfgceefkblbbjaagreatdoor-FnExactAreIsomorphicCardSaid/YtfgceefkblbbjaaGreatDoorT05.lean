/-
  The annotated codes of the functions, printed by a program of mine (gen.py), and the check that they belong to the program.
-/
import Derived.Test.YtfgceefkblbbjaaGreatDoorT04
import Derived.KernelRfl
import Derived.Shelf.Sort.AssemblysIn
import Derived.Shelf.Strings.SlTrimAscii
import Derived.Test.YtfgceefkblbbjaaGreatDoorProg
import Derived.Sort.Row
import Derived.Sort.Grow
import Derived.Shelf.Sort.Plain
set_option linter.all false
namespace Go.Fd
def DU:F2 :=
 { nt:=98,res:=[.t 4 [0]],body :=
  (.sq (rg [oo 3 (.bt (.t 1)),
 om 4 (.k (.bool false))])
 (.sq (.sq (rg [om 8 (.t 0),
 oo 9 (.ca .pure false (.f XD) [.t 8]),
 oo 10 (.nt (.t 9)),
 om 11 (.t 10),
 og 12 11 false (.fa 0 (.t 3)),
 og 13 11 false (.ld none (.t 12)),
 og 14 11 false (.ca .pure false (.f Z7) [.t 13,i6 0,i6 4]),
 og 15 11 false (.nt (.t 14)),
 oo 16 (.pk (.t 11) (.k (.bool true)) (.t 15)),
 om 17 (.t 16),
 og 18 17 false (.fa 1 (.t 3)),
 og 19 17 false (.ld none (.t 18)),
 og 20 17 false (.ln (.t 19)),
 og 21 17 false (.bi .gtr 0 (.t 20) (i6 8)),
 oo 22 (.pk (.t 17) (.k (.bool true)) (.t 21)),
 om 23 (.t 22),
 og 24 23 false (.fa 2 (.t 3)),
 og 25 23 false (.ld none (.t 24)),
 og 26 23 false (.ln (.t 25)),
 og 27 23 false (.bi .gtr 0 (.t 26) (i6 4)),
 oo 28 (.pk (.t 23) (.k (.bool true)) (.t 27)),
 om 29 (.t 28),
 og 30 29 false (.fa 3 (.t 3)),
 og 31 29 false (.ld none (.t 30)),
 og 32 29 false (.ca .pure false (.f Z7) [.t 31,i6 0,i6 8]),
 og 33 29 false (.nt (.t 32)),
 oo 34 (.pk (.t 29) (.k (.bool true)) (.t 33))])
 (.cd (.t 34) (.sq (rg [om 4 (.k (.bool false))])
 (.rt))
 (.sk)))
 (.sq (.sq (rg [oo 35 (.fa 4 (.t 3)),
 oo 36 (.ld none (.t 35)),
 oo 37 (.ca .pure false (.f Y3) [.t 36]),
 oo 38 (.nt (.t 37)),
 om 39 (.t 38),
 og 40 39 false (.fa 5 (.t 3)),
 og 41 39 false (.ld none (.t 40)),
 og 42 39 false (.ln (.t 41)),
 og 43 39 false (.bi .gtr 0 (.t 42) (i6 16)),
 oo 44 (.pk (.t 39) (.k (.bool true)) (.t 43)),
 om 45 (.t 44),
 og 46 45 false (.ld (some 6) (.t 3)),
 og 47 45 false (.ca .pure false (.f J3) [.t 46]),
 og 48 45 false (.ca .pure false (.f Y3) [.t 47]),
 og 49 45 false (.nt (.t 48)),
 oo 50 (.pk (.t 45) (.k (.bool true)) (.t 49))])
 (.cd (.t 50) (.sq (rg [om 4 (.k (.bool false))])
 (.rt))
 (.sk)))
 (.sq (.sq (rg [om 5 (i6 0)])
 (.bl 0 (.lp [0,3,5] [] (.sq (.sq (rg [om 51 (.t 5),
 oo 52 (.fa 1 (.t 3)),
 oo 53 (.ld none (.t 52)),
 oo 54 (.ln (.t 53)),
 oo 55 (.bi .lss 0 (.t 51) (.t 54))])
 (.cd (.t 55) (.sk)
 (.ex 0)))
 (.sq (.bl 1 (.sq (rg [om 58 (.t 0),
 oo 59 (.ld (some 6) (.t 3)),
 om 60 (.t 5),
 oo 61 (.ca .pure false (.f Xd) [.t 58,.t 59,.t 60]),
 oo 62 (.nt (.t 61))])
 (.cd (.t 62) (.sq (rg [om 4 (.k (.bool false))])
 (.rt))
 (.sk))))
 (rg [om 56 (.t 5),
 oo 57 (.bi .add 0 (.t 56) (i6 1)),
 om 5 (.t 57)]))))))
 (.sq (.sq (rg [om 6 (i6 0)])
 (.bl 2 (.lp [0,3,6] [] (.sq (.sq (rg [om 63 (.t 6),
 oo 64 (.fa 2 (.t 3)),
 oo 65 (.ld none (.t 64)),
 oo 66 (.ln (.t 65)),
 oo 67 (.bi .lss 0 (.t 63) (.t 66))])
 (.cd (.t 67) (.sk)
 (.ex 2)))
 (.sq (.bl 3 (.sq (.rg (some 0) [om 70 (.t 0),
 oo 71 (.ld (some 6) (.t 3)),
 oo 72 (.fa 2 (.t 3)),
 oo 73 (.ld none (.t 72)),
 om 74 (.t 6),
 oo 75 (.ia 1 (.t 73) (.t 74)),
 oo 76 (.ld none (.t 75)),
 oo 77 (.fa 1 (.t 3)),
 oo 78 (.ld none (.t 77)),
 oo 79 (.ln (.t 78)),
 oo 80 (.ca .pure false (.f Y4) [.t 70,.t 71,.t 76,.t 79]),
 oo 81 (.nt (.t 80))])
 (.cd (.t 81) (.sq (rg [om 4 (.k (.bool false))])
 (.rt))
 (.sk))))
 (rg [om 68 (.t 6),
 oo 69 (.bi .add 0 (.t 68) (i6 1)),
 om 6 (.t 69)]))))))
 (.sq (.sq (rg [om 7 (i6 0)])
 (.bl 4 (.lp [3,7] [] (.sq (.sq (rg [om 82 (.t 7),
 oo 83 (.fa 5 (.t 3)),
 oo 84 (.ld none (.t 83)),
 oo 85 (.ln (.t 84)),
 oo 86 (.bi .lss 0 (.t 82) (.t 85))])
 (.cd (.t 86) (.sk)
 (.ex 4)))
 (.sq (.bl 5 (.sq (.rg (some 0) [oo 89 (.ld (some 6) (.t 3)),
 oo 90 (.fa 5 (.t 3)),
 oo 91 (.ld none (.t 90)),
 om 92 (.t 7),
 oo 93 (.ia 2 (.t 91) (.t 92)),
 oo 94 (.fa 1 (.t 93)),
 oo 95 (.ld none (.t 94)),
 oo 96 (.ca .pure false (.f VP) [.t 89,.t 95]),
 oo 97 (.nt (.t 96))])
 (.cd (.t 97) (.sq (rg [om 4 (.k (.bool false))])
 (.rt))
 (.sk))))
 (rg [om 87 (.t 7),
 oo 88 (.bi .add 0 (.t 87) (i6 1)),
 om 7 (.t 88)]))))))
 (.sq (rg [om 4 (.k (.bool true))])
 (.rt)))))))) }
theorem ZdS:ZS Go.Proofs.Tryz.prog VH DU=true:=by kernel_rfl
def J9:F2 :=
 { nt:=49,res:=[.t 4 [0]],body :=
  (.sq (rg [oo 2 (.bt (.t 0)),
 oo 3 (.bt (.t 1)),
 om 4 (.k (.bool false))])
 (.sq (.rg (some 0) [oo 5 (.fa 0 (.t 2)),
 oo 6 (.ld none (.t 5)),
 oo 7 (.fa 0 (.t 3)),
 oo 8 (.ld none (.t 7)),
 oo 9 (.bi .eql 0 (.t 6) (.t 8)),
 om 10 (.t 9),
 og 11 10 true (.fa 3 (.t 2)),
 og 12 10 true (.ld none (.t 11)),
 og 13 10 true (.fa 3 (.t 3)),
 og 14 10 true (.ld none (.t 13)),
 og 15 10 true (.bi .eql 0 (.t 12) (.t 14)),
 oo 16 (.pk (.t 10) (.t 15) (.k (.bool false))),
 om 17 (.t 16),
 og 18 17 true (.fa 1 (.t 2)),
 og 19 17 true (.ld none (.t 18)),
 og 20 17 true (.ln (.t 19)),
 og 21 17 true (.fa 1 (.t 3)),
 og 22 17 true (.ld none (.t 21)),
 og 23 17 true (.ln (.t 22)),
 og 24 17 true (.bi .eql 0 (.t 20) (.t 23)),
 oo 25 (.pk (.t 17) (.t 24) (.k (.bool false))),
 om 26 (.t 25),
 og 27 26 true (.fa 2 (.t 2)),
 og 28 26 true (.ld none (.t 27)),
 og 29 26 true (.ln (.t 28)),
 og 30 26 true (.fa 2 (.t 3)),
 og 31 26 true (.ld none (.t 30)),
 og 32 26 true (.ln (.t 31)),
 og 33 26 true (.bi .eql 0 (.t 29) (.t 32)),
 oo 34 (.pk (.t 26) (.t 33) (.k (.bool false))),
 om 35 (.t 34),
 og 36 35 true (.fa 4 (.t 2)),
 og 37 35 true (.ld none (.t 36)),
 og 38 35 true (.fa 4 (.t 3)),
 og 39 35 true (.ld none (.t 38)),
 og 40 35 true (.ca .pure false (.f JN) [.t 37,.t 39]),
 oo 41 (.pk (.t 35) (.t 40) (.k (.bool false))),
 om 42 (.t 41),
 og 43 42 true (.ld (some 6) (.t 2)),
 og 44 42 true (.ca .pure false (.f J3) [.t 43]),
 og 45 42 true (.ld (some 6) (.t 3)),
 og 46 42 true (.ca .pure false (.f J3) [.t 45]),
 og 47 42 true (.ca .pure false (.f JN) [.t 44,.t 46]),
 oo 48 (.pk (.t 42) (.t 47) (.k (.bool false))),
 om 4 (.t 48)])
 (.rt))) }
set_option maxRecDepth 1000000 in
theorem ZcB:ZS Go.Proofs.Tryz.prog Y2 J9=true:=by kernel_rfl
def DV:F2 :=
 { nt:=15,res:=[.t 2 [2]],body :=
  (.sq (rg [om 2 (.k (.slice none 0 0))])
 (.sq (rg [oo 5 (.bs 1 0 [] []),
 om 3 (.t 5)])
 (.sq (.sq (rg [om 4 (i6 0)])
 (.bl 0 (.lp [0,3,4] [160,416] (.sq (.sq (rg [om 6 (.t 4),
 om 7 (.t 0),
 oo 8 (.bi .lss 0 (.t 6) (.t 7))])
 (.cd (.t 8) (.sk)
 (.ex 0)))
 (.sq (.bl 1 (rg [om 11 (.t 3),
 oo 12 (.bs 1 1 [.int .i64 0] [(0,i6 (-1))]),
 oo 13 (.ap 1 0 (.t 11) (.t 12)),
 om 3 (.t 13)]))
 (rg [om 9 (.t 4),
 oo 10 (.bi .add 0 (.t 9) (i6 1)),
 om 4 (.t 10)]))))))
 (.sq (rg [om 14 (.t 3),
 om 2 (.t 14)])
 (.rt))))) }
theorem ZdT:ZS Go.Proofs.Tryz.prog VI DV=true:=by kernel_rfl
def DW:F2 :=
 { nt:=42,res:=[.t 8 [0]],body :=
  (.sq (rg [oo 4 (.bt (.t 0)),
 oo 5 (.bt (.t 1)),
 om 8 (.k (.bool false))])
 (.sq (.rg (some 0) [oo 11 (.fa 1 (.t 4)),
 oo 12 (.ld none (.t 11)),
 om 13 (.t 2),
 oo 14 (.ln (.t 13)),
 oo 15 (.ia 3 (.t 12) (.t 14)),
 oo 16 (.ld (some 3) (.t 15)),
 oo 17 (.fa 1 (.t 5)),
 oo 18 (.lt none (.t 17)),
 om 19 (.t 3),
 oo 20 (.it 3 (.t 18) (.t 19)),
 oo 21 (.lt (some 3) (.t 20)),
 oo 9 (.al [.int .i64 0,.int .i64 0,.slice none 0 0] []),
 oo 10 (.al [.int .i64 0,.int .i64 0,.slice none 0 0] []),
 on1 (.s0 3 (.t 9) (.t 16)),
 on1 (.st 3 (.t 10) (.t 21))])
 (.sq (.rg (some 0) [om 22 (.t 2),
 om 23 (.t 3),
 oo 24 (.ca .pure false (.f J8) [.t 22,.t 23]),
 oo 25 (.nt (.t 24)),
 om 26 (.t 25),
 og 27 26 true (.fa 0 (.t 9)),
 og 28 26 true (.ld none (.t 27)),
 og 29 26 true (.fa 0 (.t 10)),
 og 30 26 true (.ld none (.t 29)),
 og 31 26 true (.bi .eql 0 (.t 28) (.t 30)),
 oo 32 (.pk (.t 26) (.t 31) (.k (.bool false))),
 om 33 (.t 32),
 og 34 33 true (.fa 1 (.t 9)),
 og 35 33 true (.ld none (.t 34)),
 og 36 33 true (.mv (.t 2) none),
 og 37 33 true (.ca .pure false (.f VQ) [.t 35,.t 36]),
 og 38 33 true (.fa 1 (.t 10)),
 og 39 33 true (.ld none (.t 38)),
 og 40 33 true (.bi .eql 0 (.t 37) (.t 39)),
 oo 41 (.pk (.t 33) (.t 40) (.k (.bool false))),
 om 8 (.t 41)])
 (.rt)))) }
theorem ZdU:ZS Go.Proofs.Tryz.prog VJ DW=true:=by kernel_rfl
def DX:F2 :=
 { nt:=41,res:=[.t 10 [0],.t 11 [0]],body :=
  (.sq (rg [oo 5 (.bt (.t 0)),
 oo 6 (.bt (.t 1)),
 om 10 (.k (.slice none 0 0)),
 om 11 (.k (.bool false))])
 (.sq (.sq (rg [om 12 (i6 0)])
 (.bl 0 (.lp [2,3,4,5,6,12] [] (.sq (.sq (rg [om 15 (.t 12),
 om 16 (.t 3),
 oo 17 (.ln (.t 16)),
 oo 18 (.bi .lss 0 (.t 15) (.t 17))])
 (.cd (.t 18) (.sk)
 (.ex 0)))
 (.sq (.bl 1 (.sq (.rg (some 0) [oo 22 (.ld (some 6) (.t 5)),
 oo 23 (.ld (some 6) (.t 6)),
 om 24 (.t 2),
 om 25 (.t 3),
 om 26 (.t 12),
 oo 27 (.ia 1 (.t 25) (.t 26)),
 oo 28 (.ld none (.t 27)),
 om 29 (.t 4),
 om 30 (.t 12),
 oo 31 (.ia 1 (.t 29) (.t 30)),
 oo 32 (.ld none (.t 31)),
 oo 33 (.ca .pure false (.f XF) [.t 22,.t 23,.t 24,.t 28,.t 32]),
 om 21 (.t 33),
 oo 34 (.ex 0 (.t 21)),
 oo 35 (.ex 1 (.t 21)),
 om 13 (.t 34),
 om 14 (.t 35)])
 (.sq (.sq (rg [om 36 (.t 14),
 oo 37 (.nt (.t 36))])
 (.cd (.t 37) (.sq (rg [om 38 (.t 2),
 om 10 (.t 38),
 om 11 (.k (.bool false))])
 (.rt))
 (.sk)))
 (rg [om 39 (.t 13),
 om 2 (.t 39)]))))
 (rg [om 19 (.t 12),
 oo 20 (.bi .add 0 (.t 19) (i6 1)),
 om 12 (.t 20)]))))))
 (.sq (rg [om 40 (.t 2),
 om 10 (.t 40),
 om 11 (.k (.bool true))])
 (.rt)))) }
theorem ZdV:ZS Go.Proofs.Tryz.prog Yo DX=true:=by kernel_rfl
def DY:F2 :=
 { nt:=70,res:=[.t 8 [0],.t 9 [0]],body :=
  (.sq (rg [oo 4 (.bt (.t 0)),
 oo 5 (.bt (.t 1)),
 om 8 (.k (.slice none 0 0)),
 om 9 (.k (.bool false))])
 (.sq (.sq (rg [om 10 (i6 0)])
 (.bl 0 (.lp [2,3,4,5,10] [] (.sq (.sq (rg [om 14 (.t 10),
 oo 15 (.fa 2 (.t 4)),
 oo 16 (.ld none (.t 15)),
 oo 17 (.ln (.t 16)),
 oo 18 (.bi .lss 0 (.t 14) (.t 17))])
 (.cd (.t 18) (.sk)
 (.ex 0)))
 (.sq (.bl 1 (.sq (.rg (some 0) [oo 21 (.fa 2 (.t 4)),
 oo 22 (.ld none (.t 21)),
 om 23 (.t 10),
 oo 24 (.ia 1 (.t 22) (.t 23)),
 oo 25 (.ld none (.t 24)),
 om 26 (.t 2),
 oo 27 (.ca .pure false (.f VQ) [.t 25,.t 26]),
 oo 28 (.fa 2 (.t 5)),
 oo 29 (.ld none (.t 28)),
 om 30 (.t 10),
 oo 31 (.ia 1 (.t 29) (.t 30)),
 oo 32 (.ld none (.t 31)),
 oo 33 (.bi .neq 0 (.t 27) (.t 32))])
 (.cd (.t 33) (.sq (rg [om 34 (.t 3),
 om 8 (.t 34),
 om 9 (.k (.bool false))])
 (.rt))
 (.sk))))
 (rg [om 19 (.t 10),
 oo 20 (.bi .add 0 (.t 19) (i6 1)),
 om 10 (.t 20)]))))))
 (.sq (rg [oo 35 (.bs 1 0 [] []),
 oo 36 (.bs 1 0 [] []),
 om 11 (.t 35),
 om 12 (.t 36)])
 (.sq (.sq (rg [om 13 (i6 0)])
 (.bl 2 (.lp [3,4,5,11,12,13] [1120,1152,1664,1952] (.sq (.sq (rg [om 37 (.t 13),
 oo 38 (.fa 5 (.t 4)),
 oo 39 (.ld none (.t 38)),
 oo 40 (.ln (.t 39)),
 oo 41 (.bi .lss 0 (.t 37) (.t 40))])
 (.cd (.t 41) (.sk)
 (.ex 2)))
 (.sq (.bl 3 (.sq (rg [om 44 (.t 11),
 oo 45 (.fa 5 (.t 4)),
 oo 46 (.ld none (.t 45)),
 om 47 (.t 13),
 oo 48 (.ia 2 (.t 46) (.t 47)),
 oo 49 (.fa 1 (.t 48)),
 oo 50 (.ld none (.t 49)),
 oo 51 (.bs 1 1 [.int .i64 0] [(0,.t 50)]),
 oo 52 (.ap 1 0 (.t 44) (.t 51)),
 om 11 (.t 52)])
 (rg [om 53 (.t 12),
 oo 54 (.fa 5 (.t 5)),
 oo 55 (.ld none (.t 54)),
 om 56 (.t 13),
 oo 57 (.ia 2 (.t 55) (.t 56)),
 oo 58 (.fa 1 (.t 57)),
 oo 59 (.ld none (.t 58)),
 oo 60 (.bs 1 1 [.int .i64 0] [(0,.t 59)]),
 oo 61 (.ap 1 0 (.t 53) (.t 60)),
 om 12 (.t 61)])))
 (rg [om 42 (.t 13),
 oo 43 (.bi .add 0 (.t 42) (i6 1)),
 om 13 (.t 43)]))))))
 (.sq (rg [oo 62 (.ld (some 6) (.t 4)),
 oo 63 (.ld (some 6) (.t 5)),
 om 64 (.t 3),
 oo 65 (.fz (.t 11)),
 oo 66 (.fz (.t 12)),
 oo 67 (.ca .pure false (.f Yo) [.t 62,.t 63,.t 64,.t 65,.t 66]),
 oo 68 (.ex 0 (.t 67)),
 oo 69 (.ex 1 (.t 67)),
 om 8 (.t 68),
 om 9 (.t 69)])
 (.rt)))))) }
theorem ZdW:ZS Go.Proofs.Tryz.prog VK DY=true:=by kernel_rfl
def DZ:F2 :=
 { nt:=29,res:=[.t 2 [2]],body :=
  (.sq (rg [om 2 (.k (.slice none 0 0))])
 (.sq (rg [om 6 (.t 0),
 oo 7 (.ca .pure true (.f J7) [.t 6]),
 om 3 (.t 7)])
 (.sq (rg [om 4 (i6 0)])
 (.sq (.sq (rg [om 5 (i6 0)])
 (.bl 0 (.lp [3,4,5] [224] (.sq (.sq (rg [om 8 (.t 5),
 om 9 (.t 3),
 oo 10 (.ln (.t 9)),
 oo 11 (.bi .lss 0 (.t 8) (.t 10))])
 (.cd (.t 11) (.sk)
 (.ex 0)))
 (.sq (.bl 1 (.sq (rg [om 14 (.t 3),
 om 15 (.t 5),
 oo 16 (.ia 1 (.t 14) (.t 15)),
 oo 17 (.ld none (.t 16)),
 oo 18 (.bi .lss 0 (.t 17) (i6 0))])
 (.cd (.t 18) (.sq (.bl 2 (.lp [3,4,5] [224] (.sq (.sq (rg [om 19 (.t 3),
 om 20 (.t 4),
 oo 21 (.ca .pure false (.f J8) [.t 19,.t 20])])
 (.cd (.t 21) (.sk)
 (.ex 2)))
 (.bl 3 (rg [om 22 (.t 4),
 oo 23 (.bi .add 0 (.t 22) (i6 1)),
 om 4 (.t 23)])))))
 (rg [om 24 (.t 3),
 om 25 (.t 5),
 om 26 (.t 4),
 oo 27 (.ia 1 (.t 24) (.t 25)),
 on1 (.st 1 (.t 27) (.t 26))]))
 (.sk))))
 (rg [om 12 (.t 5),
 oo 13 (.bi .add 0 (.t 12) (i6 1)),
 om 5 (.t 13)]))))))
 (.sq (rg [om 28 (.t 3),
 om 2 (.t 28)])
 (.rt)))))) }
theorem ZdX:ZS Go.Proofs.Tryz.prog Xa DZ=true:=by kernel_rfl
def WL:F2 :=
 { nt:=101,res:=[.t 4 [0]],body :=
  (.sq (rg [oo 2 (.bt (.t 0)),
 oo 3 (.bt (.t 1)),
 om 4 (.k (.bool false))])
 (.sq (.sq (rg [oo 7 (.ld none (.t 2)),
 oo 8 (.ca .pure false (.f YI) [.t 7]),
 oo 9 (.nt (.t 8)),
 om 10 (.t 9),
 og 11 10 false (.fa 0 (.t 3)),
 og 12 10 false (.ld none (.t 11)),
 og 13 10 false (.ca .pure false (.f ZT) [.t 12,i6 0,i6 4]),
 og 14 10 false (.nt (.t 13)),
 oo 15 (.pk (.t 10) (.k (.bool true)) (.t 14)),
 om 16 (.t 15),
 og 17 16 false (.fa 1 (.t 3)),
 og 18 16 false (.ld none (.t 17)),
 og 19 16 false (.ln (.t 18)),
 og 20 16 false (.bi .gtr 0 (.t 19) (i6 8)),
 oo 21 (.pk (.t 16) (.k (.bool true)) (.t 20)),
 om 22 (.t 21),
 og 23 22 false (.fa 2 (.t 3)),
 og 24 22 false (.ld none (.t 23)),
 og 25 22 false (.ln (.t 24)),
 og 26 22 false (.bi .gtr 0 (.t 25) (i6 4)),
 oo 27 (.pk (.t 22) (.k (.bool true)) (.t 26)),
 om 28 (.t 27),
 og 29 28 false (.fa 3 (.t 3)),
 og 30 28 false (.ld none (.t 29)),
 og 31 28 false (.ca .pure false (.f ZT) [.t 30,i6 0,i6 8]),
 og 32 28 false (.nt (.t 31)),
 oo 33 (.pk (.t 28) (.k (.bool true)) (.t 32)),
 om 34 (.t 33),
 og 35 34 false (.fa 4 (.t 3)),
 og 36 34 false (.ld none (.t 35)),
 og 37 34 false (.ca .pure false (.f Yz) [.t 36]),
 og 38 34 false (.nt (.t 37)),
 oo 39 (.pk (.t 34) (.k (.bool true)) (.t 38)),
 om 40 (.t 39),
 og 41 40 false (.ld (some 6) (.t 3)),
 og 42 40 false (.ca .pure false (.f ZI) [.t 41]),
 og 43 40 false (.ca .pure false (.f Yz) [.t 42]),
 og 44 40 false (.nt (.t 43)),
 oo 45 (.pk (.t 40) (.k (.bool true)) (.t 44))])
 (.cd (.t 45) (.sq (rg [om 4 (.k (.bool false))])
 (.rt))
 (.sk)))
 (.sq (.sq (rg [oo 46 (.fa 1 (.t 3)),
 oo 47 (.ld none (.t 46)),
 oo 48 (.ln (.t 47)),
 om 49 (i6 0)])
 (.bl 0 (.lp [2,3,47,48,49] [] (.sq (rg [oo 50 (.bi .lss 0 (.t 49) (.t 48))])
 (.sq (.cd (.t 50) (.sk)
 (.ex 0))
 (.sq (.bl 1 (.sq (rg [om 51 (.t 49),
 oo 52 (.ia 3 (.t 47) (.t 49)),
 oo 53 (.ld (some 3) (.t 52)),
 oo 6 (.al [.int .i64 0,.int .i64 0,.slice none 0 0] []),
 om 5 (.t 51),
 on1 (.st 3 (.t 6) (.t 53))])
 (.sq (.rg (some 0) [oo 54 (.fa 0 (.t 6)),
 oo 55 (.ld none (.t 54)),
 oo 56 (.ld none (.t 2)),
 oo 57 (.ln (.t 56)),
 oo 58 (.bi .sub 0 (.t 57) (i6 1)),
 oo 59 (.ca .pure false (.f ZT) [.t 55,i6 0,.t 58]),
 oo 60 (.nt (.t 59)),
 om 61 (.t 60),
 og 62 61 false (.ld (some 6) (.t 3)),
 og 63 61 false (.ld none (.t 2)),
 og 64 61 false (.fa 1 (.t 6)),
 og 65 61 false (.ld none (.t 64)),
 og 66 61 false (.mv (.t 5) none),
 og 67 61 false (.ca .pure false (.f Jh) [.t 62,.t 63,.t 65,.t 66]),
 og 68 61 false (.nt (.t 67)),
 oo 69 (.pk (.t 61) (.k (.bool true)) (.t 68)),
 om 70 (.t 69),
 og 71 70 false (.fa 2 (.t 6)),
 og 72 70 false (.ld none (.t 71)),
 og 73 70 false (.ln (.t 72)),
 og 74 70 false (.ld none (.t 2)),
 og 75 70 false (.fa 0 (.t 6)),
 og 76 70 false (.ld none (.t 75)),
 og 77 70 false (.ia 3 (.t 74) (.t 76)),
 og 78 70 false (.fa 1 (.t 77)),
 og 79 70 false (.ld none (.t 78)),
 og 80 70 false (.bi .neq 0 (.t 73) (.t 79)),
 oo 81 (.pk (.t 70) (.k (.bool true)) (.t 80)),
 om 82 (.t 81),
 og 83 82 false (.fa 2 (.t 6)),
 og 84 82 false (.ld none (.t 83)),
 og 85 82 false (.mf YK [.t 3]),
 og 86 82 false (.ca .pure false (.f Je) [.t 84,.t 85]),
 oo 87 (.pk (.t 82) (.k (.bool true)) (.t 86))])
 (.cd (.t 87) (.sq (rg [om 4 (.k (.bool false))])
 (.rt))
 (.sk)))))
 (rg [oo 88 (.bi .add 0 (.t 49) (i6 1)),
 om 49 (.t 88)])))))))
 (.sq (rg [oo 89 (.fa 2 (.t 3)),
 oo 90 (.ld none (.t 89)),
 oo 91 (.mf YL [.t 3,.t 2]),
 oo 92 (.ca .pure false (.f Je) [.t 90,.t 91]),
 oo 93 (.nt (.t 92)),
 om 94 (.t 93),
 og 95 94 true (.fa 5 (.t 3)),
 og 96 94 true (.ld none (.t 95)),
 og 97 94 true (.mf YM [.t 3]),
 og 98 94 true (.ca .pure false (.f Ja) [.t 96,.t 97]),
 og 99 94 true (.nt (.t 98)),
 oo 100 (.pk (.t 94) (.t 99) (.k (.bool false))),
 om 4 (.t 100)])
 (.rt))))) }
theorem Zba:ZS Go.Proofs.Tryz.prog Yi WL=true:=by kernel_rfl
def YX:F2 :=
 { nt:=21,res:=[.t 2 [2]],body :=
  (.sq (rg [oo 1 (.bt (.t 0)),
 om 2 (.k (.slice none 0 0))])
 (.sq (rg [oo 6 (.bs 1 0 [] []),
 om 3 (.t 6)])
 (.sq (.sq (rg [oo 7 (.fa 5 (.t 1)),
 oo 8 (.ld none (.t 7)),
 oo 9 (.ln (.t 8)),
 om 10 (i6 0)])
 (.bl 0 (.lp [3,8,9,10] [192,576] (.sq (rg [oo 11 (.bi .lss 0 (.t 10) (.t 9))])
 (.sq (.cd (.t 11) (.sk)
 (.ex 0))
 (.sq (.bl 1 (.sq (rg [oo 12 (.ia 2 (.t 8) (.t 10)),
 oo 13 (.ld (some 2) (.t 12)),
 oo 5 (.al [.string ⟨#[]⟩,.int .i64 0] []),
 on1 (.st 2 (.t 5) (.t 13))])
 (rg [om 14 (.t 3),
 oo 15 (.fa 0 (.t 5)),
 oo 16 (.ld none (.t 15)),
 oo 17 (.bs 1 1 [.string ⟨#[]⟩] [(0,.t 16)]),
 oo 18 (.ap 1 0 (.t 14) (.t 17)),
 om 3 (.t 18)])))
 (rg [oo 19 (.bi .add 0 (.t 10) (i6 1)),
 om 10 (.t 19)])))))))
 (.sq (rg [om 20 (.t 3),
 om 2 (.t 20)])
 (.rt))))) }
theorem XJ:ZS Go.Proofs.Tryz.prog ZI YX=true:=by kernel_rfl
def VT:F2 :=
 { nt:=48,res:=[.t 4 [2]],body :=
  (.sq (rg [om 4 (.k (.slice none 0 0))])
 (.sq (.sq (rg [om 9 (.t 1),
 oo 10 (.bi .lss 0 (.t 9) (i6 0))])
 (.cd (.t 10) (rg [oo 11 (.xx),
 on1 (.xx)])
 (.sk)))
 (.sq (rg [om 13 (.t 0),
 oo 14 (.ln (.t 13)),
 oo 15 (.cv (.int .u64) (.t 14)),
 om 16 (.t 1),
 oo 17 (.cv (.int .u64) (.t 16)),
 oo 18 (.ca .pure false (.f X5) [.t 15,.t 17]),
 om 12 (.t 18),
 oo 19 (.ex 0 (.t 12)),
 oo 20 (.ex 1 (.t 12)),
 om 5 (.t 19),
 om 6 (.t 20)])
 (.sq (.sq (rg [om 21 (.t 5),
 oo 22 (.bi .gtr 0 (.t 21) (.k (.int .u64 0))),
 om 23 (.t 22),
 og 24 23 false (.mv (.t 6) none),
 og 25 23 false (.bi .gtr 0 (.t 24) (.k (.int .u64 9223372036854775807))),
 oo 26 (.pk (.t 23) (.k (.bool true)) (.t 25))])
 (.cd (.t 26) (rg [oo 27 (.xx),
 on1 (.xx)])
 (.sk)))
 (.sq (rg [om 28 (.t 6),
 oo 29 (.cv (.int .i64) (.t 28)),
 oo 30 (.ms 1 [.int .i64 0] (.t 29)),
 om 7 (.t 30)])
 (.sq (rg [om 31 (.t 7),
 om 32 (.t 0),
 oo 33 (.cy 1 (.t 31) (.t 32)),
 om 8 (.t 33)])
 (.sq (.bl 0 (.lp [7,8] [960] (.sq (.sq (rg [om 34 (.t 8),
 om 35 (.t 7),
 oo 36 (.ln (.t 35)),
 oo 37 (.bi .lss 0 (.t 34) (.t 36))])
 (.cd (.t 37) (.sk)
 (.ex 0)))
 (.bl 1 (.rg (some 0) [om 38 (.t 8),
 om 39 (.t 7),
 om 40 (.t 8),
 oo 41 (.sx 1 (.t 39) (some (.t 40)) none none),
 om 42 (.t 7),
 om 43 (.t 8),
 oo 44 (.sx 1 (.t 42) none (some (.t 43)) none),
 oo 45 (.c0 1 (.t 41) (.t 44)),
 oo 46 (.bi .add 0 (.t 38) (.t 45)),
 om 8 (.t 46)])))))
 (.sq (rg [om 47 (.t 7),
 om 4 (.t 47)])
 (.rt))))))))) }
theorem Ww:ZS Go.Proofs.Tryz.prog JJ VT=true:=by kernel_rfl
def Jo:F2 :=
 { nt:=42,res:=[.t 7 [0]],body :=
  (.sq (rg [om 7 (.k (.bool false))])
 (.sq (.sq (rg [om 8 (.t 0),
 oo 9 (.fa 3 (.t 2)),
 oo 10 (.ld none (.t 9)),
 oo 11 (.bi .geq 0 (.t 8) (.t 10)),
 om 12 (.t 11),
 og 13 12 false (.mv (.t 1) none),
 og 14 12 false (.fa 3 (.t 3)),
 og 15 12 false (.ld none (.t 14)),
 og 16 12 false (.bi .geq 0 (.t 13) (.t 15)),
 oo 17 (.pk (.t 12) (.k (.bool true)) (.t 16))])
 (.cd (.t 17) (.sq (rg [om 18 (.t 0),
 om 19 (.t 1),
 oo 20 (.bi .eql 0 (.t 18) (.t 19)),
 om 7 (.t 20)])
 (.rt))
 (.sk)))
 (.sq (.sq (rg [oo 21 (.ld none (.t 4)),
 om 22 (.t 0),
 oo 23 (.ia 1 (.t 21) (.t 22)),
 oo 24 (.ld none (.t 23)),
 oo 25 (.bi .lss 0 (.t 24) (i6 0)),
 om 26 (.t 25),
 og 27 26 true (.ld none (.t 4)),
 og 28 26 true (.mv (.t 1) none),
 og 29 26 true (.ca .pure false (.f ZJ) [.t 27,.t 28]),
 og 30 26 true (.nt (.t 29)),
 oo 31 (.pk (.t 26) (.t 30) (.k (.bool false)))])
 (.cd (.t 31) (rg [oo 32 (.ld none (.t 4)),
 om 33 (.t 0),
 om 34 (.t 1),
 oo 35 (.ia 1 (.t 32) (.t 33)),
 on1 (.st 1 (.t 35) (.t 34))])
 (.sk)))
 (.sq (rg [oo 36 (.ld none (.t 4)),
 om 37 (.t 0),
 oo 38 (.ia 1 (.t 36) (.t 37)),
 oo 39 (.ld none (.t 38)),
 om 40 (.t 1),
 oo 41 (.bi .eql 0 (.t 39) (.t 40)),
 om 7 (.t 41)])
 (.rt))))) }
theorem Zbb:ZS Go.Proofs.Tryz.prog VL Jo=true:=by kernel_rfl
def YY:F2 :=
 { nt:=9,res:=[.t 4 [0]],body :=
  (.sq (rg [om 4 (.k (.bool false))])
 (.sq (rg [om 5 (.t 0),
 om 6 (.t 1),
 oo 7 (.ca .pure false (.f JQ) [.t 5,.t 6]),
 oo 8 (.bi .geq 0 (.t 7) (i6 0)),
 om 4 (.t 8)])
 (.rt))) }
theorem XK:ZS Go.Proofs.Tryz.prog ZJ YY=true:=by kernel_rfl
def Qx:F2 :=
 { nt:=11,res:=[.t 3 [0]],body :=
  (.sq (rg [om 3 (i6 0)])
 (.sq (.sq (rg [om 4 (.t 0),
 oo 5 (.bi .geq 0 (.t 4) (i6 0))])
 (.cd (.t 5) (.sq (rg [oo 6 (.ld none (.t 1)),
 om 7 (.t 0),
 oo 8 (.ia 1 (.t 6) (.t 7)),
 oo 9 (.ld none (.t 8)),
 om 3 (.t 9)])
 (.rt))
 (.sk)))
 (.sq (rg [om 10 (.t 0),
 om 3 (.t 10)])
 (.rt)))) }
theorem Zbc:ZS Go.Proofs.Tryz.prog VM Qx=true:=by kernel_rfl
def WM:F2 :=
 { nt:=35,res:=[.t 6 [2],.t 7 [0]],body :=
  (.sq (rg [oo 3 (.bt (.t 0)),
 oo 4 (.bt (.t 1)),
 om 6 (.k (.slice none 0 0)),
 om 7 (.k (.bool false))])
 (.sq (.sq (rg [om 10 (.t 2),
 oo 11 (.ln (.t 10)),
 om 12 (i6 0)])
 (.bl 0 (.lp [2,4,11,12] [] (.sq (rg [oo 13 (.bi .lss 0 (.t 12) (.t 11))])
 (.sq (.cd (.t 13) (.sk)
 (.ex 0))
 (.sq (.bl 1 (.sq (rg [om 14 (.t 12),
 om 8 (.t 14)])
 (.sq (.sq (rg [om 15 (.t 2),
 om 16 (.t 8),
 oo 17 (.ia 1 (.t 15) (.t 16)),
 oo 18 (.ld none (.t 17)),
 oo 19 (.bi .geq 0 (.t 18) (i6 0))])
 (.cd (.t 19) (.ex 1)
 (.sk)))
 (.sq (rg [om 9 (i6 0)])
 (.sq (.bl 2 (.lp [2,4,8,9,11,12] [] (.sq (.sq (rg [om 20 (.t 2),
 om 21 (.t 9),
 oo 22 (.ca .pure false (.f ZJ) [.t 20,.t 21])])
 (.cd (.t 22) (.sk)
 (.ex 2)))
 (.bl 3 (rg [om 23 (.t 9),
 oo 24 (.bi .add 0 (.t 23) (i6 1)),
 om 9 (.t 24)])))))
 (.sq (.sq (rg [oo 25 (.ld (some 6) (.t 4)),
 om 26 (.t 9),
 oo 27 (.ca .pure false (.f JV) [.t 25,.t 26]),
 oo 28 (.nt (.t 27))])
 (.cd (.t 28) (.sq (rg [om 6 (.k (.slice none 0 0)),
 om 7 (.k (.bool false))])
 (.rt))
 (.sk)))
 (rg [om 29 (.t 2),
 om 30 (.t 8),
 om 31 (.t 9),
 oo 32 (.ia 1 (.t 29) (.t 30)),
 on1 (.st 1 (.t 32) (.t 31))])))))))
 (rg [oo 33 (.bi .add 0 (.t 12) (i6 1)),
 om 12 (.t 33)])))))))
 (.sq (rg [om 34 (.t 2),
 om 6 (.t 34),
 om 7 (.k (.bool true))])
 (.rt)))) }
theorem Zbd:ZS Go.Proofs.Tryz.prog VN WM=true:=by kernel_rfl
def Wx:F2 :=
 { nt:=93,res:=[.t 10 [2]],body :=
  (.sq (rg [oo 5 (.bt (.t 0)),
 oo 6 (.bt (.t 1)),
 om 10 (.k (.slice none 0 0))])
 (.sq (.sq (rg [om 17 (.t 2),
 oo 18 (.ln (.t 17)),
 oo 19 (.fa 1 (.t 5)),
 oo 20 (.ld none (.t 19)),
 oo 21 (.ln (.t 20)),
 oo 22 (.bi .eql 0 (.t 18) (.t 21))])
 (.cd (.t 22) (.sq (.sq (rg [oo 24 (.ld (some 6) (.t 5)),
 oo 25 (.ld (some 6) (.t 6)),
 om 26 (.t 2),
 om 27 (.t 3),
 oo 28 (.ca .pure false (.f VK) [.t 24,.t 25,.t 26,.t 27]),
 om 23 (.t 28),
 oo 29 (.ex 0 (.t 23)),
 oo 30 (.ex 1 (.t 23)),
 om 11 (.t 29),
 om 12 (.t 30)])
 (.sq (rg [om 31 (.t 12)])
 (.cd (.t 31) (.sq (rg [om 32 (.t 2),
 oo 33 (.ca .pure true (.f J7) [.t 32]),
 oo 34 (.bw 1 1 [.slice none 0 0] [(0,.t 33)]),
 om 10 (.t 34)])
 (.rt))
 (.sk))))
 (.sq (rg [oo 35 (.bs 1 0 [] []),
 om 10 (.t 35)])
 (.rt)))
 (.sk)))
 (.sq (rg [oo 36 (.bs 1 0 [] []),
 om 13 (.t 36)])
 (.sq (.sq (rg [om 14 (i6 0)])
 (.bl 0 (.lp [2,3,4,5,6,13,14] [1152,2912] (.sq (.sq (rg [om 37 (.t 14),
 oo 38 (.fa 1 (.t 6)),
 oo 39 (.ld none (.t 38)),
 oo 40 (.ln (.t 39)),
 oo 41 (.bi .lss 0 (.t 37) (.t 40)),
 om 42 (.t 41),
 og 43 42 true (.mv (.t 13) none),
 og 44 42 true (.ln (.t 43)),
 og 45 42 true (.mv (.t 4) none),
 og 46 42 true (.bi .lss 0 (.t 44) (.t 45)),
 oo 47 (.pk (.t 42) (.t 46) (.k (.bool false)))])
 (.cd (.t 47) (.sk)
 (.ex 0)))
 (.sq (.bl 1 (.sq (.sq (rg [oo 50 (.ld (some 6) (.t 5)),
 oo 51 (.ld (some 6) (.t 6)),
 om 52 (.t 2),
 om 53 (.t 14),
 oo 54 (.ca .pure false (.f VJ) [.t 50,.t 51,.t 52,.t 53]),
 oo 55 (.nt (.t 54))])
 (.cd (.t 55) (.ex 1)
 (.sk)))
 (.sq (.rg (some 0) [oo 57 (.ld (some 6) (.t 5)),
 oo 58 (.ld (some 6) (.t 6)),
 om 59 (.t 3),
 oo 60 (.fa 1 (.t 5)),
 oo 61 (.ld none (.t 60)),
 om 62 (.t 2),
 oo 63 (.ln (.t 62)),
 oo 64 (.ia 3 (.t 61) (.t 63)),
 oo 65 (.fa 2 (.t 64)),
 oo 66 (.ld none (.t 65)),
 oo 67 (.fa 1 (.t 6)),
 oo 68 (.ld none (.t 67)),
 om 69 (.t 14),
 oo 70 (.ia 3 (.t 68) (.t 69)),
 oo 71 (.fa 2 (.t 70)),
 oo 72 (.ld none (.t 71)),
 oo 73 (.ca .pure false (.f Yo) [.t 57,.t 58,.t 59,.t 66,.t 72]),
 om 56 (.t 73),
 oo 74 (.ex 0 (.t 56)),
 oo 75 (.ex 1 (.t 56)),
 om 15 (.t 74),
 om 16 (.t 75)])
 (.sq (rg [om 76 (.t 16)])
 (.cd (.t 76) (.rg (some 0) [om 77 (.t 13),
 oo 78 (.lt (some 6) (.t 5)),
 oo 79 (.lt (some 6) (.t 6)),
 om 80 (.t 2),
 oo 81 (.ca .pure true (.f J7) [.t 80]),
 om 82 (.t 14),
 oo 83 (.bs 1 1 [.int .i64 0] [(0,.t 82)]),
 oo 84 (.a0 1 (.t 81) (.t 83)),
 om 85 (.t 15),
 om 86 (.t 4),
 om 87 (.t 13),
 oo 88 (.ln (.t 87)),
 oo 89 (.bi .sub 0 (.t 86) (.t 88)),
 oo 90 (.ca .pure true (.f VO) [.t 78,.t 79,.t 84,.t 85,.t 89]),
 oo 91 (.ap 1 2 (.t 77) (.t 90)),
 om 13 (.t 91)])
 (.sk))))))
 (rg [om 48 (.t 14),
 oo 49 (.bi .add 0 (.t 48) (i6 1)),
 om 14 (.t 49)]))))))
 (.sq (rg [om 92 (.t 13),
 om 10 (.t 92)])
 (.rt)))))) }
theorem D0:ZS Go.Proofs.Tryz.prog VO Wx=true:=by kernel_rfl
def Vf:F2 :=
 { nt:=84,res:=[.t 8 [0]],body :=
  (.sq (rg [oo 4 (.bt (.t 0)),
 oo 5 (.bt (.t 1)),
 om 8 (.k (.bool false))])
 (.sq (rg [om 15 (.t 2),
 oo 16 (.ln (.t 15)),
 om 9 (.t 16)])
 (.sq (.sq (rg [om 17 (.t 9),
 oo 18 (.fa 1 (.t 4)),
 oo 19 (.ld none (.t 18)),
 oo 20 (.ln (.t 19)),
 oo 21 (.bi .eql 0 (.t 17) (.t 20))])
 (.cd (.t 21) (.sq (.sq (rg [oo 23 (.ld (some 6) (.t 4)),
 oo 24 (.ld (some 6) (.t 5)),
 om 25 (.t 2),
 oo 26 (.ca .pure false (.f J2) [.t 23,.t 24,.t 25]),
 om 22 (.t 26),
 oo 27 (.ex 0 (.t 22)),
 oo 28 (.ex 1 (.t 22)),
 om 10 (.t 27),
 om 11 (.t 28)])
 (.sq (rg [om 29 (.t 11)])
 (.cd (.t 29) (.sq (rg [om 30 (.t 3),
 om 31 (.t 2),
 oo 32 (.ca .any false (.t 30) [.t 31]),
 om 8 (.t 32)])
 (.rt))
 (.sk))))
 (.sq (rg [om 8 (.k (.bool true))])
 (.rt)))
 (.sk)))
 (.sq (rg [oo 33 (.fa 1 (.t 4)),
 oo 34 (.ld none (.t 33)),
 om 35 (.t 9),
 oo 36 (.ia 3 (.t 34) (.t 35)),
 oo 37 (.fa 1 (.t 36)),
 oo 38 (.ld none (.t 37)),
 om 12 (.t 38)])
 (.sq (.sq (rg [om 39 (.t 12),
 oo 40 (.bi .geq 0 (.t 39) (i6 0))])
 (.cd (.t 40) (rg [om 41 (.t 2),
 om 42 (.t 12),
 oo 43 (.ia 1 (.t 41) (.t 42)),
 oo 44 (.ld none (.t 43)),
 om 12 (.t 44)])
 (.sk)))
 (.sq (.sq (rg [oo 45 (.fa 1 (.t 5)),
 oo 46 (.ld none (.t 45)),
 oo 47 (.ln (.t 46)),
 om 48 (i6 0)])
 (.bl 0 (.lp [2,3,4,5,9,12,46,47,48] [] (.sq (rg [oo 49 (.bi .lss 0 (.t 48) (.t 47))])
 (.sq (.cd (.t 49) (.sk)
 (.ex 0))
 (.sq (.bl 1 (.sq (rg [om 50 (.t 48),
 oo 51 (.ia 3 (.t 46) (.t 48)),
 oo 52 (.ld (some 3) (.t 51)),
 oo 14 (.al [.int .i64 0,.int .i64 0,.slice none 0 0] []),
 om 13 (.t 50),
 on1 (.st 3 (.t 14) (.t 52))])
 (.sq (.sq (.rg (some 0) [oo 53 (.fa 0 (.t 14)),
 oo 54 (.ld none (.t 53)),
 oo 55 (.fa 1 (.t 4)),
 oo 56 (.ld none (.t 55)),
 om 57 (.t 9),
 oo 58 (.ia 3 (.t 56) (.t 57)),
 oo 59 (.fa 0 (.t 58)),
 oo 60 (.ld none (.t 59)),
 oo 61 (.bi .neq 0 (.t 54) (.t 60)),
 om 62 (.t 61),
 og 63 62 false (.fa 1 (.t 14)),
 og 64 62 false (.ld none (.t 63)),
 og 65 62 false (.mv (.t 12) none),
 og 66 62 false (.bi .neq 0 (.t 64) (.t 65)),
 oo 67 (.pk (.t 62) (.k (.bool true)) (.t 66)),
 om 68 (.t 67),
 og 69 68 false (.mv (.t 2) none),
 og 70 68 false (.mv (.t 13) none),
 og 71 68 false (.ca .pure false (.f ZJ) [.t 69,.t 70]),
 oo 72 (.pk (.t 68) (.k (.bool true)) (.t 71))])
 (.cd (.t 72) (.ex 1)
 (.sk)))
 (.sq (.rg (some 0) [oo 73 (.lt (some 6) (.t 4)),
 oo 74 (.lt (some 6) (.t 5)),
 om 75 (.t 2),
 oo 76 (.ca .pure true (.f JW) [.t 75]),
 om 77 (.t 13),
 oo 78 (.bs 1 1 [.int .i64 0] [(0,.t 77)]),
 oo 79 (.a3 1 (.t 76) (.t 78)),
 om 80 (.t 3),
 oo 81 (.ca .any false (.f JE) [.t 73,.t 74,.t 79,.t 80]),
 oo 82 (.nt (.t 81))])
 (.cd (.t 82) (.sq (rg [om 8 (.k (.bool false))])
 (.rt))
 (.sk))))))
 (rg [oo 83 (.bi .add 0 (.t 48) (i6 1)),
 om 48 (.t 83)])))))))
 (.sq (rg [om 8 (.k (.bool true))])
 (.rt)))))))) }
theorem Xe:ZS Go.Proofs.Tryz.prog JE Vf=true:=by kernel_rfl
def YZ:F2 :=
 { nt:=6,res:=[.t 3 [0]],body :=
  (.sq (rg [om 3 (.k (.bool false))])
 (.sq (rg [om 4 (.t 0),
 oo 5 (.ca .pure false (.f Jn) [.t 4]),
 on1 (.st 1 (.t 1) (.t 5))])
 (.sq (rg [om 3 (.k (.bool false))])
 (.rt)))) }
theorem XL:ZS Go.Proofs.Tryz.prog Z8 YZ=true:=by kernel_rfl
def V0:F2 :=
 { nt:=8,res:=[.t 2 [2]],body :=
  (.sq (rg [om 2 (.k (.slice none 0 0))])
 (.sq (.sq (rg [om 3 (.t 0),
 oo 4 (.nl false (.t 3))])
 (.cd (.t 4) (.sq (rg [om 2 (.k (.slice none 0 0))])
 (.rt))
 (.sk)))
 (.sq (rg [oo 5 (.bs 1 0 [] []),
 om 6 (.t 0),
 oo 7 (.ap 1 0 (.t 5) (.t 6)),
 om 2 (.t 7)])
 (.rt)))) }
theorem WY:ZS Go.Proofs.Tryz.prog Jn V0=true:=by kernel_rfl
def Za4:F2 :=
 { nt:=18,res:=[.t 4 [0]],body :=
  (.sq (rg [om 4 (.k (.bool false))])
 (.sq (.sq (rg [om 5 (i6 0)])
 (.bl 0 (.lp [0,1,5] [] (.sq (.sq (rg [om 6 (.t 5),
 om 7 (.t 0),
 oo 8 (.ln (.t 7)),
 oo 9 (.bi .lss 0 (.t 6) (.t 8))])
 (.cd (.t 9) (.sk)
 (.ex 0)))
 (.sq (.bl 1 (.sq (rg [om 12 (.t 0),
 om 13 (.t 5),
 oo 14 (.ia 1 (.t 12) (.t 13)),
 oo 15 (.ld none (.t 14)),
 om 16 (.t 1),
 oo 17 (.bi .eql 0 (.t 15) (.t 16))])
 (.cd (.t 17) (.sq (rg [om 4 (.k (.bool true))])
 (.rt))
 (.sk))))
 (rg [om 10 (.t 5),
 oo 11 (.bi .add 0 (.t 10) (i6 1)),
 om 5 (.t 11)]))))))
 (.sq (rg [om 4 (.k (.bool false))])
 (.rt)))) }
theorem Ze7:ZS Go.Proofs.Tryz.prog J8 Za4=true:=by kernel_rfl
def Qg:F2 :=
 { nt:=11,res:=[],body :=
  (.sq (rg [om 3 (.t 0),
 oo 4 (.ln (.t 3)),
 om 2 (.t 4)])
 (rg [om 5 (.t 0),
 om 6 (.t 2),
 om 7 (.t 2),
 oo 8 (.cv (.int .u64) (.t 7)),
 oo 9 (.ca .pure false (.f V4) [.t 8]),
 oo 10 (.ca .any false (.f ZE) [.t 5,i6 0,.t 6,.t 9])])) }
theorem Ul:ZS Go.Proofs.Tryz.prog Z9 Qg=true:=by kernel_rfl
def Df:F2 :=
 { nt:=35,res:=[.t 2 [0]],body :=
  (.sq (rg [om 2 (.k (.bool false))])
 (.sq (.sq (rg [om 3 (i6 0)])
 (.bl 0 (.lp [0,3] [] (.sq (.sq (rg [om 4 (.t 3),
 om 5 (.t 0),
 oo 6 (.ln (.t 5)),
 oo 7 (.bi .lss 0 (.t 4) (.t 6))])
 (.cd (.t 7) (.sk)
 (.ex 0)))
 (.sq (.bl 1 (.sq (.rg (some 0) [om 10 (.t 0),
 om 11 (.t 3),
 oo 12 (.ia 1 (.t 10) (.t 11)),
 oo 13 (.ld none (.t 12)),
 oo 14 (.ca .pure false (.f VF) [.t 13]),
 oo 15 (.nt (.t 14)),
 om 16 (.t 15),
 og 17 16 false (.mv (.t 3) none),
 og 18 16 false (.bi .gtr 0 (.t 17) (i6 0)),
 og 19 16 false (.mv (.t 18) none),
 og 20 19 true (.mv (.t 0) none),
 og 21 19 true (.mv (.t 3) none),
 og 22 19 true (.bi .sub 0 (.t 21) (i6 1)),
 og 23 19 true (.ia 1 (.t 20) (.t 22)),
 og 24 19 true (.ld none (.t 23)),
 og 25 19 true (.mv (.t 0) none),
 og 26 19 true (.mv (.t 3) none),
 og 27 19 true (.ia 1 (.t 25) (.t 26)),
 og 28 19 true (.ld none (.t 27)),
 og 29 19 true (.bi .geq 0 (.t 24) (.t 28)),
 og 30 16 false (.pk (.t 19) (.t 29) (.k (.bool false))),
 oo 31 (.pk (.t 16) (.k (.bool true)) (.t 30))])
 (.cd (.t 31) (.sq (rg [om 2 (.k (.bool false))])
 (.rt))
 (.sk))))
 (rg [om 8 (.t 3),
 oo 9 (.bi .add 0 (.t 8) (i6 1)),
 om 3 (.t 9)]))))))
 (.sq (rg [om 32 (.t 0),
 oo 33 (.ln (.t 32)),
 oo 34 (.bi .leq 0 (.t 33) (i6 16)),
 om 2 (.t 34)])
 (.rt)))) }
theorem ZcC:ZS Go.Proofs.Tryz.prog Y3 Df=true:=by kernel_rfl
def Dg:F2 :=
 { nt:=23,res:=[.t 2 [2]],body :=
  (.sq (rg [oo 1 (.bt (.t 0)),
 om 2 (.k (.slice none 0 0))])
 (.sq (rg [oo 5 (.bs 1 0 [] []),
 om 3 (.t 5)])
 (.sq (.sq (rg [om 4 (i6 0)])
 (.bl 0 (.lp [1,3,4] [160,672] (.sq (.sq (rg [om 6 (.t 4),
 oo 7 (.fa 5 (.t 1)),
 oo 8 (.ld none (.t 7)),
 oo 9 (.ln (.t 8)),
 oo 10 (.bi .lss 0 (.t 6) (.t 9))])
 (.cd (.t 10) (.sk)
 (.ex 0)))
 (.sq (.bl 1 (rg [om 13 (.t 3),
 oo 14 (.fa 5 (.t 1)),
 oo 15 (.ld none (.t 14)),
 om 16 (.t 4),
 oo 17 (.ia 2 (.t 15) (.t 16)),
 oo 18 (.fa 0 (.t 17)),
 oo 19 (.ld none (.t 18)),
 oo 20 (.bs 1 1 [.string ⟨#[]⟩] [(0,.t 19)]),
 oo 21 (.ap 1 0 (.t 13) (.t 20)),
 om 3 (.t 21)]))
 (rg [om 11 (.t 4),
 oo 12 (.bi .add 0 (.t 11) (i6 1)),
 om 4 (.t 12)]))))))
 (.sq (rg [om 22 (.t 3),
 om 2 (.t 22)])
 (.rt))))) }
theorem ZcD:ZS Go.Proofs.Tryz.prog J3 Dg=true:=by kernel_rfl
def D7:F2 :=
 { nt:=57,res:=[.t 6 [0]],body :=
  (.sq (rg [oo 4 (.bt (.t 1)),
 om 6 (.k (.bool false))])
 (.sq (rg [oo 9 (.fa 1 (.t 4)),
 oo 10 (.ld none (.t 9)),
 om 11 (.t 2),
 oo 12 (.ia 3 (.t 10) (.t 11)),
 oo 13 (.ld (some 3) (.t 12)),
 oo 7 (.al [.int .i64 0,.int .i64 0,.slice none 0 0] []),
 on1 (.st 3 (.t 7) (.t 13))])
 (.sq (.sq (.rg (some 0) [oo 14 (.fa 0 (.t 7)),
 oo 15 (.ld none (.t 14)),
 om 16 (.t 0),
 oo 17 (.ln (.t 16)),
 oo 18 (.bi .sub 0 (.t 17) (i6 1)),
 oo 19 (.ca .pure false (.f Z7) [.t 15,i6 0,.t 18]),
 oo 20 (.nt (.t 19)),
 om 21 (.t 20),
 og 22 21 false (.mv (.t 0) none),
 og 23 21 false (.ld (some 6) (.t 4)),
 og 24 21 false (.fa 1 (.t 7)),
 og 25 21 false (.ld none (.t 24)),
 og 26 21 false (.mv (.t 2) none),
 og 27 21 false (.ca .pure false (.f Y4) [.t 22,.t 23,.t 25,.t 26]),
 og 28 21 false (.nt (.t 27)),
 oo 29 (.pk (.t 21) (.k (.bool true)) (.t 28)),
 om 30 (.t 29),
 og 31 30 false (.fa 2 (.t 7)),
 og 32 30 false (.ld none (.t 31)),
 og 33 30 false (.ln (.t 32)),
 og 34 30 false (.mv (.t 0) none),
 og 35 30 false (.fa 0 (.t 7)),
 og 36 30 false (.ld none (.t 35)),
 og 37 30 false (.ia 3 (.t 34) (.t 36)),
 og 38 30 false (.fa 1 (.t 37)),
 og 39 30 false (.ld none (.t 38)),
 og 40 30 false (.bi .neq 0 (.t 33) (.t 39)),
 oo 41 (.pk (.t 30) (.k (.bool true)) (.t 40))])
 (.cd (.t 41) (.sq (rg [om 6 (.k (.bool false))])
 (.rt))
 (.sk)))
 (.sq (.sq (rg [om 8 (i6 0)])
 (.bl 0 (.lp [4,7,8] [224] (.sq (.sq (rg [om 42 (.t 8),
 oo 43 (.fa 2 (.t 7)),
 oo 44 (.ld none (.t 43)),
 oo 45 (.ln (.t 44)),
 oo 46 (.bi .lss 0 (.t 42) (.t 45))])
 (.cd (.t 46) (.sk)
 (.ex 0)))
 (.sq (.bl 1 (.sq (.rg (some 0) [oo 49 (.ld (some 6) (.t 4)),
 oo 50 (.fa 2 (.t 7)),
 oo 51 (.ld none (.t 50)),
 om 52 (.t 8),
 oo 53 (.ia 1 (.t 51) (.t 52)),
 oo 54 (.ld none (.t 53)),
 oo 55 (.ca .pure false (.f VP) [.t 49,.t 54]),
 oo 56 (.nt (.t 55))])
 (.cd (.t 56) (.sq (rg [om 6 (.k (.bool false))])
 (.rt))
 (.sk))))
 (rg [om 47 (.t 8),
 oo 48 (.bi .add 0 (.t 47) (i6 1)),
 om 8 (.t 48)]))))))
 (.sq (rg [om 6 (.k (.bool true))])
 (.rt)))))) }
theorem ZdY:ZS Go.Proofs.Tryz.prog Xd D7=true:=by kernel_rfl
def Dh:F2 :=
 { nt:=33,res:=[.t 8 [0]],body :=
  (.sq (rg [oo 5 (.bt (.t 1)),
 om 8 (.k (.bool false))])
 (.sq (.sq (rg [om 9 (.t 2),
 oo 10 (.bi .lss 0 (.t 9) (i6 0))])
 (.cd (.t 10) (.sq (rg [om 11 (.t 2),
 oo 12 (.bi .sub 0 (i6 (-1)) (.t 11)),
 oo 13 (.fa 0 (.t 5)),
 oo 14 (.ld none (.t 13)),
 oo 15 (.bi .sub 0 (.t 14) (i6 1)),
 oo 16 (.ca .pure false (.f Z7) [.t 12,i6 0,.t 15]),
 om 8 (.t 16)])
 (.rt))
 (.sk)))
 (.sq (rg [om 17 (.t 2),
 om 18 (.t 3),
 oo 19 (.bi .lss 0 (.t 17) (.t 18)),
 om 20 (.t 19),
 og 21 20 true (.mv (.t 0) none),
 og 22 20 true (.fa 1 (.t 5)),
 og 23 20 true (.ld none (.t 22)),
 og 24 20 true (.mv (.t 2) none),
 og 25 20 true (.ia 3 (.t 23) (.t 24)),
 og 26 20 true (.fa 0 (.t 25)),
 og 27 20 true (.ld none (.t 26)),
 og 28 20 true (.ia 3 (.t 21) (.t 27)),
 og 29 20 true (.fa 2 (.t 28)),
 og 30 20 true (.ld none (.t 29)),
 og 31 20 true (.bi .neq 0 (.t 30) (i6 2)),
 oo 32 (.pk (.t 20) (.t 31) (.k (.bool false))),
 om 8 (.t 32)])
 (.rt)))) }
theorem ZcE:ZS Go.Proofs.Tryz.prog Y4 Dh=true:=by kernel_rfl
def D8:F2 :=
 { nt:=14,res:=[.t 4 [0]],body :=
  (.sq (rg [oo 2 (.bt (.t 0)),
 om 4 (.k (.bool false))])
 (.sq (rg [om 5 (.t 1),
 oo 6 (.fa 3 (.t 2)),
 oo 7 (.ld none (.t 6)),
 oo 8 (.fa 4 (.t 2)),
 oo 9 (.ld none (.t 8)),
 oo 10 (.ln (.t 9)),
 oo 11 (.bi .add 0 (.t 7) (.t 10)),
 oo 12 (.bi .sub 0 (.t 11) (i6 1)),
 oo 13 (.ca .pure false (.f Z7) [.t 5,i6 0,.t 12]),
 om 4 (.t 13)])
 (.rt))) }
theorem ZdZ:ZS Go.Proofs.Tryz.prog VP D8=true:=by kernel_rfl
def Xu:F2 :=
 { nt:=32,res:=[.t 4 [0]],body :=
  (.sq (rg [om 4 (.k (.bool false))])
 (.sq (.sq (rg [om 5 (i6 0)])
 (.bl 0 (.lp [0,1,5] [] (.sq (.sq (rg [om 6 (.t 5),
 om 7 (.t 0),
 oo 8 (.ln (.t 7)),
 oo 9 (.bi .lss 0 (.t 6) (.t 8)),
 om 10 (.t 9),
 og 11 10 true (.mv (.t 5) none),
 og 12 10 true (.mv (.t 1) none),
 og 13 10 true (.ln (.t 12)),
 og 14 10 true (.bi .lss 0 (.t 11) (.t 13)),
 oo 15 (.pk (.t 10) (.t 14) (.k (.bool false)))])
 (.cd (.t 15) (.sk)
 (.ex 0)))
 (.sq (.bl 1 (.sq (.rg (some 0) [om 18 (.t 0),
 om 19 (.t 5),
 oo 20 (.ia 1 (.t 18) (.t 19)),
 oo 21 (.ld none (.t 20)),
 om 22 (.t 1),
 om 23 (.t 5),
 oo 24 (.ia 1 (.t 22) (.t 23)),
 oo 25 (.ld none (.t 24)),
 oo 26 (.bi .neq 0 (.t 21) (.t 25))])
 (.cd (.t 26) (.sq (rg [om 4 (.k (.bool false))])
 (.rt))
 (.sk))))
 (rg [om 16 (.t 5),
 oo 17 (.bi .add 0 (.t 16) (i6 1)),
 om 5 (.t 17)]))))))
 (.sq (rg [om 27 (.t 0),
 oo 28 (.ln (.t 27)),
 om 29 (.t 1),
 oo 30 (.ln (.t 29)),
 oo 31 (.bi .eql 0 (.t 28) (.t 30)),
 om 4 (.t 31)])
 (.rt)))) }
theorem D9:ZS Go.Proofs.Tryz.prog JN Xu=true:=by kernel_rfl
def Wy:F2 :=
 { nt:=12,res:=[.t 4 [0]],body :=
  (.sq (rg [om 4 (i6 0)])
 (.sq (.sq (rg [om 5 (.t 0),
 oo 6 (.bi .lss 0 (.t 5) (i6 0))])
 (.cd (.t 6) (.sq (rg [om 7 (.t 0),
 om 4 (.t 7)])
 (.rt))
 (.sk)))
 (.sq (rg [om 8 (.t 1),
 om 9 (.t 0),
 oo 10 (.ia 1 (.t 8) (.t 9)),
 oo 11 (.ld none (.t 10)),
 om 4 (.t 11)])
 (.rt)))) }
theorem Zd0:ZS Go.Proofs.Tryz.prog VQ Wy=true:=by kernel_rfl
def JF:F2 :=
 { nt:=57,res:=[.t 10 [0],.t 11 [0]],body :=
  (.sq (rg [oo 5 (.bt (.t 0)),
 oo 6 (.bt (.t 1)),
 om 10 (.k (.slice none 0 0)),
 om 11 (.k (.bool false))])
 (.sq (.sq (rg [om 13 (.t 3),
 oo 14 (.fa 3 (.t 5)),
 oo 15 (.ld none (.t 14)),
 oo 16 (.bi .geq 0 (.t 13) (.t 15)),
 om 17 (.t 16),
 og 18 17 false (.mv (.t 4) none),
 og 19 17 false (.fa 3 (.t 6)),
 og 20 17 false (.ld none (.t 19)),
 og 21 17 false (.bi .geq 0 (.t 18) (.t 20)),
 oo 22 (.pk (.t 17) (.k (.bool true)) (.t 21))])
 (.cd (.t 22) (.sq (.rg (some 0) [om 23 (.t 2),
 om 24 (.t 3),
 oo 25 (.fa 3 (.t 5)),
 oo 26 (.ld none (.t 25)),
 oo 27 (.bi .sub 0 (.t 24) (.t 26)),
 om 28 (.t 4),
 oo 29 (.fa 3 (.t 6)),
 oo 30 (.ld none (.t 29)),
 oo 31 (.bi .sub 0 (.t 28) (.t 30)),
 oo 32 (.bi .eql 0 (.t 27) (.t 31)),
 om 10 (.t 23),
 om 11 (.t 32)])
 (.rt))
 (.sk)))
 (.sq (.sq (rg [om 33 (.t 2),
 om 34 (.t 3),
 oo 35 (.ia 1 (.t 33) (.t 34)),
 oo 36 (.ld none (.t 35)),
 oo 37 (.bi .geq 0 (.t 36) (i6 0)),
 om 38 (.t 37),
 og 39 38 false (.mv (.t 2) none),
 og 40 38 false (.mv (.t 4) none),
 og 41 38 false (.ca .pure false (.f J8) [.t 39,.t 40]),
 oo 42 (.pk (.t 38) (.k (.bool true)) (.t 41))])
 (.cd (.t 42) (.sq (.rg (some 0) [om 43 (.t 2),
 om 44 (.t 2),
 om 45 (.t 3),
 oo 46 (.ia 1 (.t 44) (.t 45)),
 oo 47 (.ld none (.t 46)),
 om 48 (.t 4),
 oo 49 (.bi .eql 0 (.t 47) (.t 48)),
 om 10 (.t 43),
 om 11 (.t 49)])
 (.rt))
 (.sk)))
 (.sq (rg [om 50 (.t 2),
 oo 51 (.ca .pure true (.f J7) [.t 50]),
 om 12 (.t 51)])
 (.sq (rg [om 52 (.t 12),
 om 53 (.t 3),
 om 54 (.t 4),
 oo 55 (.ia 1 (.t 52) (.t 53)),
 on1 (.st 1 (.t 55) (.t 54))])
 (.sq (rg [om 56 (.t 12),
 om 10 (.t 56),
 om 11 (.k (.bool true))])
 (.rt))))))) }
theorem Ze8:ZS Go.Proofs.Tryz.prog XF JF=true:=by kernel_rfl
def Um:F2 :=
 { nt:=32,res:=[.t 2 [0]],body :=
  (.sq (rg [om 2 (.k (.bool false))])
 (.sq (.sq (rg [om 5 (.t 0),
 oo 6 (.ln (.t 5)),
 om 7 (i6 0)])
 (.bl 0 (.lp [0,5,6,7] [] (.sq (rg [oo 8 (.bi .lss 0 (.t 7) (.t 6))])
 (.sq (.cd (.t 8) (.sk)
 (.ex 0))
 (.sq (.bl 1 (.sq (rg [om 9 (.t 7),
 oo 10 (.ia 1 (.t 5) (.t 7)),
 oo 11 (.ld none (.t 10)),
 om 3 (.t 9),
 om 4 (.t 11)])
 (.sq (rg [om 12 (.t 4),
 oo 13 (.ca .pure false (.f VG) [.t 12]),
 oo 14 (.nt (.t 13)),
 om 15 (.t 14),
 og 16 15 false (.mv (.t 3) none),
 og 17 15 false (.bi .gtr 0 (.t 16) (i6 0)),
 og 18 15 false (.mv (.t 17) none),
 og 19 18 true (.mv (.t 4) none),
 og 20 18 true (.mv (.t 0) none),
 og 21 18 true (.mv (.t 3) none),
 og 22 18 true (.bi .sub 0 (.t 21) (i6 1)),
 og 23 18 true (.ia 1 (.t 20) (.t 22)),
 og 24 18 true (.ld none (.t 23)),
 og 25 18 true (.bi .leq 0 (.t 19) (.t 24)),
 og 26 15 false (.pk (.t 18) (.t 25) (.k (.bool false))),
 oo 27 (.pk (.t 15) (.k (.bool true)) (.t 26))])
 (.cd (.t 27) (.sq (rg [om 2 (.k (.bool false))])
 (.rt))
 (.sk)))))
 (rg [oo 28 (.bi .add 0 (.t 7) (i6 1)),
 om 7 (.t 28)])))))))
 (.sq (rg [om 29 (.t 0),
 oo 30 (.ln (.t 29)),
 oo 31 (.bi .leq 0 (.t 30) (i6 16)),
 om 2 (.t 31)])
 (.rt)))) }
theorem Zb1:ZS Go.Proofs.Tryz.prog Yz Um=true:=by kernel_rfl
def VU:F2 :=
 { nt:=32,res:=[.t 8 [0]],body :=
  (.sq (rg [oo 4 (.bt (.t 0)),
 om 8 (.k (.bool false))])
 (.sq (.sq (rg [om 9 (.t 2),
 oo 10 (.bi .lss 0 (.t 9) (i6 0))])
 (.cd (.t 10) (.sq (rg [om 11 (.t 2),
 oo 12 (.fa 0 (.t 4)),
 oo 13 (.ld none (.t 12)),
 oo 14 (.ng (.t 13)),
 oo 15 (.bi .geq 0 (.t 11) (.t 14)),
 om 8 (.t 15)])
 (.rt))
 (.sk)))
 (.sq (rg [om 16 (.t 2),
 om 17 (.t 3),
 oo 18 (.bi .lss 0 (.t 16) (.t 17)),
 om 19 (.t 18),
 og 20 19 true (.mv (.t 1) none),
 og 21 19 true (.fa 1 (.t 4)),
 og 22 19 true (.ld none (.t 21)),
 og 23 19 true (.mv (.t 2) none),
 og 24 19 true (.ia 3 (.t 22) (.t 23)),
 og 25 19 true (.fa 0 (.t 24)),
 og 26 19 true (.ld none (.t 25)),
 og 27 19 true (.ia 3 (.t 20) (.t 26)),
 og 28 19 true (.fa 2 (.t 27)),
 og 29 19 true (.ld none (.t 28)),
 og 30 19 true (.bi .neq 0 (.t 29) (i6 2)),
 oo 31 (.pk (.t 19) (.t 30) (.k (.bool false))),
 om 8 (.t 31)])
 (.rt)))) }
theorem Wz:ZS Go.Proofs.Tryz.prog Jh VU=true:=by kernel_rfl
def Xv:F2 :=
 { nt:=8,res:=[.t 3 [0]],body :=
  (.sq (rg [om 3 (.k (.bool false))])
 (.sq (rg [oo 4 (.ld (some 6) (.t 1)),
 om 5 (.t 0),
 oo 6 (.ca .pure false (.f Jq) [.t 4,.t 5]),
 oo 7 (.nt (.t 6)),
 om 3 (.t 7)])
 (.rt))) }
theorem Zaa:ZS Go.Proofs.Tryz.prog YK Xv=true:=by kernel_rfl
def Qh:F2 :=
 { nt:=14,res:=[.t 4 [0]],body :=
  (.sq (rg [oo 2 (.bt (.t 0)),
 om 4 (.k (.bool false))])
 (.sq (rg [om 5 (.t 1),
 oo 6 (.fa 3 (.t 2)),
 oo 7 (.ld none (.t 6)),
 oo 8 (.fa 4 (.t 2)),
 oo 9 (.ld none (.t 8)),
 oo 10 (.ln (.t 9)),
 oo 11 (.bi .add 0 (.t 7) (.t 10)),
 oo 12 (.bi .sub 0 (.t 11) (i6 1)),
 oo 13 (.ca .pure false (.f ZT) [.t 5,i6 0,.t 12]),
 om 4 (.t 13)])
 (.rt))) }
theorem Un:ZS Go.Proofs.Tryz.prog Jq Qh=true:=by kernel_rfl
def Xw:F2 :=
 { nt:=13,res:=[.t 4 [0]],body :=
  (.sq (rg [om 4 (.k (.bool false))])
 (.sq (rg [oo 5 (.ld (some 6) (.t 1)),
 oo 6 (.ld none (.t 2)),
 om 7 (.t 0),
 oo 8 (.fa 1 (.t 1)),
 oo 9 (.ld none (.t 8)),
 oo 10 (.ln (.t 9)),
 oo 11 (.ca .pure false (.f Jh) [.t 5,.t 6,.t 7,.t 10]),
 oo 12 (.nt (.t 11)),
 om 4 (.t 12)])
 (.rt))) }
theorem Zab:ZS Go.Proofs.Tryz.prog YL Xw=true:=by kernel_rfl
def Xx:F2 :=
 { nt:=9,res:=[.t 3 [0]],body :=
  (.sq (rg [oo 2 (.bt (.t 0)),
 om 3 (.k (.bool false))])
 (.sq (rg [oo 4 (.ld (some 6) (.t 1)),
 oo 5 (.fa 1 (.t 2)),
 oo 6 (.ld none (.t 5)),
 oo 7 (.ca .pure false (.f Jq) [.t 4,.t 6]),
 oo 8 (.nt (.t 7)),
 om 3 (.t 8)])
 (.rt))) }
theorem Zac:ZS Go.Proofs.Tryz.prog YM Xx=true:=by kernel_rfl
def V1:F2 :=
 { nt:=19,res:=[.t 4 [0]],body :=
  (.sq (rg [om 4 (i6 0)])
 (.sq (.sq (rg [om 6 (.t 0),
 oo 7 (.ln (.t 6)),
 om 8 (i6 0)])
 (.bl 0 (.lp [0,1,7,8] [] (.sq (rg [oo 9 (.bi .lss 0 (.t 8) (.t 7))])
 (.sq (.cd (.t 9) (.sk)
 (.ex 0))
 (.sq (.bl 1 (.sq (rg [om 10 (.t 8),
 om 5 (.t 10)])
 (.sq (rg [om 11 (.t 1),
 om 12 (.t 0),
 om 13 (.t 5),
 oo 14 (.ia 1 (.t 12) (.t 13)),
 oo 15 (.ld none (.t 14)),
 oo 16 (.bi .eql 0 (.t 11) (.t 15))])
 (.cd (.t 16) (.sq (rg [om 17 (.t 5),
 om 4 (.t 17)])
 (.rt))
 (.sk)))))
 (rg [oo 18 (.bi .add 0 (.t 8) (i6 1)),
 om 8 (.t 18)])))))))
 (.sq (rg [om 4 (i6 (-1))])
 (.rt)))) }
theorem WZ:ZS Go.Proofs.Tryz.prog JQ V1=true:=by kernel_rfl
def Qi:F2 :=
 { nt:=19,res:=[.t 4 [0]],body :=
  (.sq (rg [oo 2 (.bt (.t 0)),
 om 4 (.k (.bool false))])
 (.sq (rg [oo 8 (.ld (some 6) (.t 2)),
 om 9 (.t 1),
 oo 10 (.ca .pure false (.f JK) [.t 8,.t 9]),
 om 7 (.t 10),
 oo 11 (.ex 0 (.t 7)),
 oo 12 (.ex 1 (.t 7)),
 om 5 (.t 11),
 om 6 (.t 12)])
 (.sq (rg [om 13 (.t 5),
 oo 14 (.ln (.t 13)),
 om 15 (.t 6),
 oo 16 (.ln (.t 15)),
 oo 17 (.bi .add 0 (.t 14) (.t 16)),
 oo 18 (.bi .eql 0 (.t 17) (i6 0)),
 om 4 (.t 18)])
 (.rt)))) }
theorem Uo:ZS Go.Proofs.Tryz.prog JV Qi=true:=by kernel_rfl
def Qj:F2 :=
 { nt:=9,res:=[.k 2],body :=
  (.sq (rg [om 2 (.k (.slice none 0 0))])
 (.sq (rg [om 3 (.t 0),
 om 4 (.t 0),
 oo 5 (.ln (.t 4)),
 om 6 (.t 0),
 oo 7 (.ln (.t 6)),
 oo 8 (.sx 1 (.t 3) none (some (.t 5)) (some (.t 7))),
 om 2 (.t 8)])
 (.rt))) }
theorem Up:ZS Go.Proofs.Tryz.prog JW Qj=true:=by kernel_rfl
def Yp:F2 :=
 { nt:=134,res:=[],body :=
  (.sq (rg [om 8 (.k (.bool true))])
 (.sq (rg [om 9 (.k (.bool true))])
 (.bl 0 (.lp [0,1,2,3,8,9] [] (.bl 1 (.sq (rg [om 19 (.t 2),
 om 20 (.t 1),
 oo 21 (.bi .sub 0 (.t 19) (.t 20)),
 om 10 (.t 21)])
 (.sq (.sq (rg [om 22 (.t 10),
 oo 23 (.bi .leq 0 (.t 22) (i6 12))])
 (.cd (.t 23) (.sq (rg [om 24 (.t 0),
 om 25 (.t 1),
 om 26 (.t 2),
 oo 27 (.ca .any false (.f ZY) [.t 24,.t 25,.t 26])])
 (.rt))
 (.sk)))
 (.sq (.sq (rg [om 28 (.t 3),
 oo 29 (.bi .eql 0 (.t 28) (i6 0))])
 (.cd (.t 29) (.sq (rg [om 30 (.t 0),
 om 31 (.t 1),
 om 32 (.t 2),
 oo 33 (.ca .pure false (.f Qf) [.t 30,.t 31,.t 32])])
 (.rt))
 (.sk)))
 (.sq (.sq (rg [om 34 (.t 8),
 oo 35 (.nt (.t 34))])
 (.cd (.t 35) (.sq (rg [om 36 (.t 0),
 om 37 (.t 1),
 om 38 (.t 2),
 oo 39 (.ca .pure false (.f Vd) [.t 36,.t 37,.t 38])])
 (rg [om 40 (.t 3),
 oo 41 (.bi .sub 0 (.t 40) (i6 1)),
 om 3 (.t 41)]))
 (.sk)))
 (.sq (rg [om 43 (.t 0),
 om 44 (.t 1),
 om 45 (.t 2),
 oo 46 (.ca .pure false (.f VS) [.t 43,.t 44,.t 45]),
 om 42 (.t 46),
 oo 47 (.ex 0 (.t 42)),
 oo 48 (.ex 1 (.t 42)),
 om 11 (.t 47),
 om 12 (.t 48)])
 (.sq (.sq (rg [om 49 (.t 12),
 oo 50 (.bi .eql 0 (.t 49) (i6 2))])
 (.cd (.t 50) (.sq (rg [om 51 (.t 0),
 om 52 (.t 1),
 om 53 (.t 2),
 oo 54 (.ca .pure false (.f Vm) [.t 51,.t 52,.t 53])])
 (.sq (rg [om 55 (.t 2),
 oo 56 (.bi .sub 0 (.t 55) (i6 1)),
 om 57 (.t 11),
 om 58 (.t 1),
 oo 59 (.bi .sub 0 (.t 57) (.t 58)),
 oo 60 (.bi .sub 0 (.t 56) (.t 59)),
 om 11 (.t 60)])
 (rg [om 12 (i6 1)])))
 (.sk)))
 (.sq (.sq (rg [om 61 (.t 8),
 om 62 (.t 61),
 og 63 62 true (.mv (.t 9) none),
 oo 64 (.pk (.t 62) (.t 63) (.k (.bool false))),
 om 65 (.t 64),
 og 66 65 true (.mv (.t 12) none),
 og 67 65 true (.bi .eql 0 (.t 66) (i6 1)),
 oo 68 (.pk (.t 65) (.t 67) (.k (.bool false)))])
 (.cd (.t 68) (.sq (rg [om 69 (.t 0),
 om 70 (.t 1),
 om 71 (.t 2),
 oo 72 (.ca .pure false (.f J4) [.t 69,.t 70,.t 71])])
 (.cd (.t 72) (.rt)
 (.sk)))
 (.sk)))
 (.sq (.sq (.rg (some 0) [om 73 (.t 1),
 oo 74 (.bi .gtr 0 (.t 73) (i6 0)),
 om 75 (.t 74),
 og 76 75 true (.mv (.t 0) none),
 og 77 75 true (.mv (.t 1) none),
 og 78 75 true (.bi .sub 0 (.t 77) (i6 1)),
 og 79 75 true (.ia 1 (.t 76) (.t 78)),
 og 80 75 true (.ld none (.t 79)),
 og 81 75 true (.mv (.t 0) none),
 og 82 75 true (.mv (.t 11) none),
 og 83 75 true (.ia 1 (.t 81) (.t 82)),
 og 84 75 true (.ld none (.t 83)),
 og 85 75 true (.ca .pure false (.f Y5) [.t 80,.t 84]),
 og 86 75 true (.nt (.t 85)),
 oo 87 (.pk (.t 75) (.t 86) (.k (.bool false)))])
 (.cd (.t 87) (.sq (rg [om 88 (.t 0),
 om 89 (.t 1),
 om 90 (.t 2),
 om 91 (.t 11),
 oo 92 (.ca .pure false (.f YU) [.t 88,.t 89,.t 90,.t 91]),
 om 13 (.t 92)])
 (.sq (rg [om 93 (.t 13),
 om 1 (.t 93)])
 (.ex 1)))
 (.sk)))
 (.sq (rg [om 95 (.t 0),
 om 96 (.t 1),
 om 97 (.t 2),
 om 98 (.t 11),
 oo 99 (.ca .pure false (.f V5) [.t 95,.t 96,.t 97,.t 98]),
 om 94 (.t 99),
 oo 100 (.ex 0 (.t 94)),
 oo 101 (.ex 1 (.t 94)),
 om 14 (.t 100),
 om 15 (.t 101)])
 (.sq (rg [om 102 (.t 15),
 om 9 (.t 102)])
 (.sq (rg [om 103 (.t 14),
 om 104 (.t 1),
 oo 105 (.bi .sub 0 (.t 103) (.t 104)),
 om 106 (.t 2),
 om 107 (.t 14),
 oo 108 (.bi .sub 0 (.t 106) (.t 107)),
 om 16 (.t 105),
 om 17 (.t 108)])
 (.sq (rg [om 109 (.t 10),
 oo 110 (.bi .quo 0 (.t 109) (i6 8)),
 om 18 (.t 110)])
 (.sq (rg [om 111 (.t 16),
 om 112 (.t 17),
 oo 113 (.bi .lss 0 (.t 111) (.t 112))])
 (.cd (.t 113) (.sq (rg [om 114 (.t 16),
 om 115 (.t 18),
 oo 116 (.bi .geq 0 (.t 114) (.t 115)),
 om 8 (.t 116)])
 (.sq (rg [om 117 (.t 0),
 om 118 (.t 1),
 om 119 (.t 14),
 om 120 (.t 3),
 oo 121 (.ca .any false (.f ZE) [.t 117,.t 118,.t 119,.t 120])])
 (rg [om 122 (.t 14),
 oo 123 (.bi .add 0 (.t 122) (i6 1)),
 om 1 (.t 123)])))
 (.sq (rg [om 124 (.t 17),
 om 125 (.t 18),
 oo 126 (.bi .geq 0 (.t 124) (.t 125)),
 om 8 (.t 126)])
 (.sq (rg [om 127 (.t 0),
 om 128 (.t 14),
 oo 129 (.bi .add 0 (.t 128) (i6 1)),
 om 130 (.t 2),
 om 131 (.t 3),
 oo 132 (.ca .any false (.f ZE) [.t 127,.t 129,.t 130,.t 131])])
 (rg [om 133 (.t 14),
 om 2 (.t 133)])))))))))))))))))))))) }
theorem Xf:ZS Go.Proofs.Tryz.prog ZE Yp=true:=by kernel_rfl
def Uq:F2 :=
 { nt:=8,res:=[.t 2 [0]],body :=
  (.sq (rg [om 2 (i6 0)])
 (.sq (.cd (.k (.bool false)) (.sq (rg [om 3 (.t 0),
 oo 4 (.cv (.int .u32) (.t 3)),
 oo 5 (.ca .pure false (.f Dm) [.t 4]),
 om 2 (.t 5)])
 (.rt))
 (.sk))
 (.sq (rg [om 6 (.t 0),
 oo 7 (.ca .pure false (.f Ve) [.t 6]),
 om 2 (.t 7)])
 (.rt)))) }
theorem Zb2:ZS Go.Proofs.Tryz.prog V4 Uq=true:=by kernel_rfl
def VV:F2 :=
 { nt:=62,res:=[.t 4 [3],.t 5 [2]],body :=
  (.sq (rg [oo 2 (.bt (.t 0)),
 om 4 (.k (.slice none 0 0)),
 om 5 (.k (.slice none 0 0))])
 (.sq (rg [oo 14 (.bs 2 0 [] []),
 oo 15 (.bs 1 0 [] []),
 om 6 (.t 14),
 om 7 (.t 15)])
 (.sq (.sq (rg [oo 16 (.fa 1 (.t 2)),
 oo 17 (.ld none (.t 16)),
 oo 18 (.ln (.t 17)),
 om 19 (i6 0)])
 (.bl 0 (.lp [1,2,6,7,17,18,19] [448,480,1280,1856] (.sq (rg [oo 20 (.bi .lss 0 (.t 19) (.t 18))])
 (.sq (.cd (.t 20) (.sk)
 (.ex 0))
 (.sq (.bl 1 (.sq (rg [om 21 (.t 19),
 oo 22 (.ia 3 (.t 17) (.t 19)),
 oo 23 (.ld (some 3) (.t 22)),
 oo 9 (.al [.int .i64 0,.int .i64 0,.slice none 0 0] []),
 om 8 (.t 21),
 on1 (.st 3 (.t 9) (.t 23))])
 (.sq (rg [oo 24 (.fa 2 (.t 9)),
 oo 25 (.ld none (.t 24)),
 oo 26 (.ln (.t 25)),
 om 27 (i6 0)])
 (.bl 2 (.lp [1,2,6,7,8,17,18,19,25,26,27] [288,448,480,1280,1856] (.sq (rg [oo 28 (.bi .lss 0 (.t 27) (.t 26))])
 (.sq (.cd (.t 28) (.sk)
 (.ex 2))
 (.sq (.bl 3 (.sq (rg [om 29 (.t 27),
 oo 30 (.ia 1 (.t 25) (.t 27)),
 oo 31 (.ld none (.t 30)),
 om 10 (.t 29),
 om 11 (.t 31)])
 (.sq (rg [om 32 (.t 11),
 om 33 (.t 1),
 oo 34 (.bi .eql 0 (.t 32) (.t 33))])
 (.cd (.t 34) (rg [om 35 (.t 6),
 om 36 (.t 8),
 om 37 (.t 10),
 oo 38 (.bd [.int .i64 0,.int .i64 0] [(0,1,.t 36),(1,1,.t 37)] []),
 oo 39 (.bs 2 1 [.int .i64 0,.int .i64 0] [(0,.t 38)]),
 oo 40 (.ap 2 0 (.t 35) (.t 39)),
 om 6 (.t 40)])
 (.sk)))))
 (rg [oo 41 (.bi .add 0 (.t 27) (i6 1)),
 om 27 (.t 41)])))))))))
 (rg [oo 42 (.bi .add 0 (.t 19) (i6 1)),
 om 19 (.t 42)])))))))
 (.sq (.sq (rg [oo 43 (.fa 5 (.t 2)),
 oo 44 (.ld none (.t 43)),
 oo 45 (.ln (.t 44)),
 om 46 (i6 0)])
 (.bl 4 (.lp [1,6,7,44,45,46] [448,480,1280,1856] (.sq (rg [oo 47 (.bi .lss 0 (.t 46) (.t 45))])
 (.sq (.cd (.t 47) (.sk)
 (.ex 4))
 (.sq (.bl 5 (.sq (rg [oo 48 (.ia 2 (.t 44) (.t 46)),
 oo 49 (.ld (some 2) (.t 48)),
 oo 13 (.al [.string ⟨#[]⟩,.int .i64 0] []),
 on1 (.st 2 (.t 13) (.t 49))])
 (.sq (rg [oo 50 (.fa 1 (.t 13)),
 oo 51 (.ld none (.t 50)),
 om 52 (.t 1),
 oo 53 (.bi .eql 0 (.t 51) (.t 52))])
 (.cd (.t 53) (rg [om 54 (.t 7),
 oo 55 (.fa 0 (.t 13)),
 oo 56 (.ld none (.t 55)),
 oo 57 (.bs 1 1 [.string ⟨#[]⟩] [(0,.t 56)]),
 oo 58 (.ap 1 0 (.t 54) (.t 57)),
 om 7 (.t 58)])
 (.sk)))))
 (rg [oo 59 (.bi .add 0 (.t 46) (i6 1)),
 om 46 (.t 59)])))))))
 (.sq (rg [om 60 (.t 6),
 om 61 (.t 7),
 om 4 (.t 60),
 om 5 (.t 61)])
 (.rt)))))) }
theorem WA:ZS Go.Proofs.Tryz.prog JK VV=true:=by kernel_rfl
def JG:F2 :=
 { nt:=49,res:=[],body :=
  (.sq (rg [om 8 (.t 1),
 oo 9 (.bi .add 0 (.t 8) (i6 1)),
 om 6 (.t 9)])
 (.bl 0 (.lp [0,1,2,6] [] (.sq (.sq (rg [om 10 (.t 6),
 om 11 (.t 2),
 oo 12 (.bi .lss 0 (.t 10) (.t 11))])
 (.cd (.t 12) (.sk)
 (.ex 0)))
 (.sq (.bl 1 (.sq (rg [om 15 (.t 6),
 om 7 (.t 15)])
 (.bl 2 (.lp [0,1,2,6,7] [] (.sq (.sq (.rg (some 0) [om 16 (.t 7),
 om 17 (.t 1),
 oo 18 (.bi .gtr 0 (.t 16) (.t 17)),
 om 19 (.t 18),
 og 20 19 true (.mv (.t 0) none),
 og 21 19 true (.mv (.t 7) none),
 og 22 19 true (.ia 1 (.t 20) (.t 21)),
 og 23 19 true (.ld none (.t 22)),
 og 24 19 true (.mv (.t 0) none),
 og 25 19 true (.mv (.t 7) none),
 og 26 19 true (.bi .sub 0 (.t 25) (i6 1)),
 og 27 19 true (.ia 1 (.t 24) (.t 26)),
 og 28 19 true (.ld none (.t 27)),
 og 29 19 true (.ca .pure false (.f Y5) [.t 23,.t 28]),
 oo 30 (.pk (.t 19) (.t 29) (.k (.bool false)))])
 (.cd (.t 30) (.sk)
 (.ex 2)))
 (.sq (.bl 3 (.rg (some 0) [om 33 (.t 0),
 om 34 (.t 7),
 om 35 (.t 0),
 om 36 (.t 7),
 oo 37 (.bi .sub 0 (.t 36) (i6 1)),
 om 38 (.t 0),
 om 39 (.t 7),
 oo 40 (.bi .sub 0 (.t 39) (i6 1)),
 oo 41 (.ia 1 (.t 38) (.t 40)),
 oo 42 (.ld none (.t 41)),
 om 43 (.t 0),
 om 44 (.t 7),
 oo 45 (.ia 1 (.t 43) (.t 44)),
 oo 46 (.ld none (.t 45)),
 oo 47 (.ia 1 (.t 33) (.t 34)),
 on1 (.s0 1 (.t 47) (.t 42)),
 oo 48 (.ia 1 (.t 35) (.t 37)),
 on1 (.st 1 (.t 48) (.t 46))]))
 (rg [om 31 (.t 7),
 oo 32 (.bi .sub 0 (.t 31) (i6 1)),
 om 7 (.t 32)])))))))
 (rg [om 13 (.t 6),
 oo 14 (.bi .add 0 (.t 13) (i6 1)),
 om 6 (.t 14)])))))) }
theorem VW:ZS Go.Proofs.Tryz.prog ZY JG=true:=by kernel_rfl
end Go.Fd

/-
  The annotated codes of the functions, printed by a program of mine (gen.py), and the check that they belong to the program.
-/
namespace Go.Fd
def Di:F2 :=
 { nt:=17,res:=[.t 4 [0]],body :=
  (.sq (rg [om 4 (.k (.bool false))])
 (.sq (rg [om 5 (.t 0),
 oo 6 (.ca .pure false (.f YA) [.t 5]),
 om 7 (.t 6),
 og 8 7 true (.mv (.t 1) none),
 og 9 7 true (.ca .pure false (.f YA) [.t 8]),
 og 10 7 true (.nt (.t 9)),
 oo 11 (.pk (.t 7) (.t 10) (.k (.bool false))),
 om 12 (.t 11),
 og 13 12 false (.mv (.t 0) none),
 og 14 12 false (.mv (.t 1) none),
 og 15 12 false (.bi .lss 0 (.t 13) (.t 14)),
 oo 16 (.pk (.t 12) (.k (.bool true)) (.t 15)),
 om 4 (.t 16)])
 (.rt))) }
theorem ZcF:ZS Go.Proofs.Tryz.prog Y5 Di=true:=by kernel_rfl
def Zw:F2 :=
 { nt:=25,res:=[.t 2 [0]],body :=
  (.sq (rg [om 2 (i6 0)])
 (.sq (.sq (rg [om 3 (.t 0),
 oo 4 (.bi .geq 0 (.t 3) (.k (.int .u64 4294967296)))])
 (.cd (.t 4) (.sq (rg [om 5 (.t 0),
 oo 6 (.bi .shr 0 (.t 5) (.k (.int .u64 32))),
 om 0 (.t 6)])
 (rg [om 2 (i6 32)]))
 (.sk)))
 (.sq (.sq (rg [om 7 (.t 0),
 oo 8 (.bi .geq 0 (.t 7) (.k (.int .u64 65536)))])
 (.cd (.t 8) (.sq (rg [om 9 (.t 0),
 oo 10 (.bi .shr 0 (.t 9) (.k (.int .u64 16))),
 om 0 (.t 10)])
 (rg [om 11 (.t 2),
 oo 12 (.bi .add 0 (.t 11) (i6 16)),
 om 2 (.t 12)]))
 (.sk)))
 (.sq (.sq (rg [om 13 (.t 0),
 oo 14 (.bi .geq 0 (.t 13) (.k (.int .u64 256)))])
 (.cd (.t 14) (.sq (rg [om 15 (.t 0),
 oo 16 (.bi .shr 0 (.t 15) (.k (.int .u64 8))),
 om 0 (.t 16)])
 (rg [om 17 (.t 2),
 oo 18 (.bi .add 0 (.t 17) (i6 8)),
 om 2 (.t 18)]))
 (.sk)))
 (.sq (rg [om 19 (.t 2),
 om 20 (.t 0),
 oo 21 (.cv (.int .u8) (.t 20)),
 oo 22 (.ix (.k (.string ⟨#[0,1,2,2,3,3,3,3,4,4,4,4,4,4,4,4,5,5,5,5,5,5,5,5,5,5,5,5,5,5,5,5,6,6,6,6,6,6,6,6,6,6,6,6,6,6,6,6,6,6,6,6,6,6,6,6,6,6,6,6,6,6,6,6,7,7,7,7,7,7,7,7,7,7,7,7,7,7,7,7,7,7,7,7,7,7,7,7,7,7,7,7,7,7,7,7,7,7,7,7,7,7,7,7,7,7,7,7,7,7,7,7,7,7,7,7,7,7,7,7,7,7,7,7,7,7,7,7,8,8,8,8,8,8,8,8,8,8,8,8,8,8,8,8,8,8,8,8,8,8,8,8,8,8,8,8,8,8,8,8,8,8,8,8,8,8,8,8,8,8,8,8,8,8,8,8,8,8,8,8,8,8,8,8,8,8,8,8,8,8,8,8,8,8,8,8,8,8,8,8,8,8,8,8,8,8,8,8,8,8,8,8,8,8,8,8,8,8,8,8,8,8,8,8,8,8,8,8,8,8,8,8,8,8,8,8,8,8,8,8,8,8,8,8,8,8,8,8,8,8,8,8,8,8,8,8]⟩)) (.t 21)),
 oo 23 (.cv (.int .i64) (.t 22)),
 oo 24 (.bi .add 0 (.t 19) (.t 23)),
 om 2 (.t 24)])
 (.rt)))))) }
theorem Zz:ZS Go.Proofs.Tryz.prog Ve Zw=true:=by kernel_rfl
def Ur:F2 :=
 { nt:=6,res:=[.t 2 [0]],body :=
  (.sq (rg [om 2 (.k (.bool false))])
 (.sq (rg [om 3 (.t 0),
 om 4 (.t 0),
 oo 5 (.bi .neq 0 (.t 3) (.t 4)),
 om 2 (.t 5)])
 (.rt))) }
theorem Zb3:ZS Go.Proofs.Tryz.prog YA Ur=true:=by kernel_rfl
end Go.Fd

/-
  The annotated codes of the functions, printed by a program of mine (gen.py), and the check that they belong to the program.
-/
namespace Go.Fd
end Go.Fd

/-
  ANNOTATED CODES OF GO'S GENERIC FUNCTIONS ON SLICES, AT ANY ELEMENT (printed by generic.py out of one instance each). Own work.
-/
namespace Go.Fd
def ZjT(k:Nat)(m:Option Nat):F2 :=
 { nt:=19,res:=[.t 4 [0]],body :=
  (.sq (.rg none [⟨some 4,none,.mv (.k (.int .i64 0)) none⟩])
  (.sq (.sq (.rg none [⟨some 6,none,.mv (.t 0) none⟩,
    ⟨some 7,none,.ln (.t 6)⟩,
    ⟨some 8,none,.mv (.k (.int .i64 0)) none⟩])
  (.bl 0 (.lp [0,1,7,8] [] (.sq (.rg none [⟨some 9,none,.bi .lss 0 (.t 8) (.t 7)⟩])
   (.sq (.cd (.t 9) (.sk)
    (.ex 0))
   (.sq (.bl 1 (.sq (.rg none [⟨some 10,none,.mv (.t 8) none⟩,
      ⟨some 5,none,.mv (.t 10) none⟩])
    (.sq (.rg none [⟨some 11,none,.mv (.t 1) none⟩,
      ⟨some 12,none,.mv (.t 0) none⟩,
      ⟨some 13,none,.mv (.t 5) none⟩,
      ⟨some 14,none,.ia k (.t 12) (.t 13)⟩,
      ⟨some 15,none,.ld m (.t 14)⟩,
      ⟨some 16,none,.ca .pure false (.t 11) [.t 15]⟩])
    (.cd (.t 16) (.sq (.rg none [⟨some 17,none,.mv (.t 5) none⟩,
      ⟨some 4,none,.mv (.t 17) none⟩])
     (.rt))
    (.sk)))))
   (.rg none [⟨some 18,none,.bi .add 0 (.t 8) (.k (.int .i64 1))⟩,
    ⟨some 8,none,.mv (.t 18) none⟩])))))))
  (.sq (.rg none [⟨some 4,none,.mv (.k (.int .i64 (-1))) none⟩])
  (.rt)))) }
def Zmn(fi:FuncId):F2 :=
 { nt:=9,res:=[.t 4 [0]],body :=
  (.sq (.rg none [⟨some 4,none,.mv (.k (.bool false)) none⟩])
  (.sq (.rg none [⟨some 5,none,.mv (.t 0) none⟩,
   ⟨some 6,none,.mv (.t 1) none⟩,
   ⟨some 7,none,.ca .pure false (.f fi) [.t 5,.t 6]⟩,
   ⟨some 8,none,.bi .geq 0 (.t 7) (.k (.int .i64 0))⟩,
   ⟨some 4,none,.mv (.t 8) none⟩])
  (.rt))) }
def ZtM  : F2 :=
 { nt:=26,res:=[.t 4 [0]],body :=
  (.sq (.rg none [⟨some 4,none,.mv (.k (.bool false)) none⟩])
  (.sq (.sq (.rg none [⟨some 6,none,.mv (.t 0) none⟩,
    ⟨some 7,none,.ln (.t 6)⟩,
    ⟨some 8,none,.mv (.t 1) none⟩,
    ⟨some 9,none,.ln (.t 8)⟩,
    ⟨some 10,none,.bi .neq 0 (.t 7) (.t 9)⟩])
  (.cd (.t 10) (.sq (.rg none [⟨some 4,none,.mv (.k (.bool false)) none⟩])
   (.rt))
  (.sk)))
  (.sq (.sq (.rg none [⟨some 11,none,.mv (.t 0) none⟩,
    ⟨some 12,none,.ln (.t 11)⟩,
    ⟨some 13,none,.mv (.k (.int .i64 0)) none⟩])
  (.bl 0 (.lp [0,1,12,13] [] (.sq (.rg none [⟨some 14,none,.bi .lss 0 (.t 13) (.t 12)⟩])
   (.sq (.cd (.t 14) (.sk)
    (.ex 0))
   (.sq (.bl 1 (.sq (.rg none [⟨some 15,none,.mv (.t 13) none⟩,
      ⟨some 5,none,.mv (.t 15) none⟩])
    (.sq (.rg (some 0) [⟨some 16,none,.mv (.t 0) none⟩,
      ⟨some 17,none,.mv (.t 5) none⟩,
      ⟨some 18,none,.ia 1 (.t 16) (.t 17)⟩,
      ⟨some 19,none,.ld none (.t 18)⟩,
      ⟨some 20,none,.mv (.t 1) none⟩,
      ⟨some 21,none,.mv (.t 5) none⟩,
      ⟨some 22,none,.ia 1 (.t 20) (.t 21)⟩,
      ⟨some 23,none,.ld none (.t 22)⟩,
      ⟨some 24,none,.bi .neq 0 (.t 19) (.t 23)⟩])
    (.cd (.t 24) (.sq (.rg none [⟨some 4,none,.mv (.k (.bool false)) none⟩])
     (.rt))
    (.sk)))))
   (.rg none [⟨some 25,none,.bi .add 0 (.t 13) (.k (.int .i64 1))⟩,
    ⟨some 13,none,.mv (.t 25) none⟩])))))))
  (.sq (.rg none [⟨some 4,none,.mv (.k (.bool true)) none⟩])
  (.rt))))) }
end Go.Fd

/-
  GO'S GENERIC FUNCTIONS ON SLICES, AT ANY ELEMENT. Own work.
-/
namespace Go.Fd
set_option maxRecDepth 20000
section rules
variable {L:Sto} {F:List IV->Prop} {lvl:Nat}
theorem ZgN:∀{l:List (List Tr)} {F:List IV->Prop},Jc L (l.map IV.ta) F=F (l.map IV.ta)
 | [],F=>Zlw
 | x::r,F=>by
  simp only[List.map_cons]
  rw[ZnY,ZgN]
  rfl
theorem WB{Pd:Oid->Prop}:∀{l:List (List Tr)},Zl Pd (l.map IV.ta)=True
 | []=>rfl
 | x::r=>by
  simp only[List.map_cons,Zl,men,true_and]
  exact WB
theorem ZgO{js:List Nat}{l:List (List Tr)}:Zg4 lvl js (l.map IV.ta)=True:=WB
end rules
section
variable {P:Program} {α:Type}
theorem Wd{α β:Type}{c:α->β}{l:List α}{j:Nat}(h:j<l.length):(l.map c)[j]? = some (c l[j]):=by simp [h]
theorem Zil{α:Type}{c:α->List Tr}{l:List α}{j:Nat}:cut (l.map c) 0 (j-0)=(l.take j).map c:=by
 simp only[cut,List.drop_zero,Nat.sub_zero,List.map_take]
theorem Ze9{α:Type}{l:List α}{j:Nat}(h:j<l.length):l.drop j=l[j]::l.drop (j+1):=List.drop_eq_getElem_cons h
def ixF(f:α->Bool):List α->Int->Int
 | [],_=>-1
 | x::r,j=>if f x=true then j else ixF f r (j+1)
theorem Zd1{f:α->Bool}{x:α}{r:List α}{j:Int}:ixF f (x::r) j=if f x=true then j else ixF f r (j+1):=rfl
theorem Zim{f:α->Bool}:∀{l:List α} {j:Int},0<=j->(0<=ixF f l j↔l.any f=true)
 | [],j,_=>by simp [ixF]
 | x::r,j,h=>by
  rw[Zd1,List.any_cons]
  cases hx:f x with
  | true=>simp [h]
  | false =>
   simp only[Bool.false_eq_true,if_false,Bool.false_or]
   exact Zim (by omega)
theorem ZjU{fid:FuncId}(hc:ZS P fid (ZjT 1 none)=true){t:α->Tr}{f:α->Bool}{fe:FuncId}{cs:List (List Tr)}(l:List α)(hl:l.length<=9223372036854775807)
  (hf:∀ x∈l,∀ lvl S,Sem P fe lvl (.tr (t x)::cs.map IV.ta) S (iB (f x)) S) (lvl:Nat) (S:Sto):Sem P fid lvl [.tr (.sl (l.map fun x=>[t x])),.fn fe (cs.map IV.ta)] S (iI (ixF f l 0)) S:=by
 refine Zb hc trivial ?_
 simp only[ZjT,List.length_map,EVA,seval]
 refine Ji (α:=Unit) l.length (fun j _=>[(8,iI j)]) (fun _ _=>[]) (fun j _=>ixF f (l.drop j) j=ixF f l 0) () (by simp only[ZgO,EVA,seval]) (by (simp only[EVA,seval]) <;> rfl) rfl ?_
 intro j _ hj hA
 simp only[EVA,seval]
 refine Zp (fun hlt=>?_) (fun hge=>?_)
 ·have hja:j<l.length:=by omega
  have ga:=Wd (c:=fun x=>[t x]) hja
  rw[Ze9 hja,Zd1] at hA
  simp only[ga,ZgN,WB,EVA,seval,Zl,men]
  refine Za (hf _ (List.getElem_mem hja)) ?_
  simp only[WB,EVA,seval]
  refine Zp (fun h=>?_) (fun h=>?_)
  ·rw[if_pos h] at hA
   rw[<-hA]
  ·rw[if_neg h] at hA
   exact⟨by rw[Zd];omega,Ze () hja rfl hA⟩
 ·have:j=l.length:=by omega
  subst this
  rw[List.drop_length] at hA
  rw[<-hA]
  rfl
theorem ZjV{k:Nat}{fid:FuncId}(hc:ZS P fid (ZjT k (some k))=true){c:α->List Tr}(hk:∀ x,(c x).length=k){f:α->Bool}{fe:FuncId}{cs:List (List Tr)}(l:List α)(hl:l.length<=9223372036854775807)
  (hf:∀ x∈l,∀ lvl S,Sem P fe lvl (.ag ((c x).map .tr)::cs.map IV.ta) S (iB (f x)) S) (lvl:Nat) (S:Sto):Sem P fid lvl [.tr (.sl (l.map c)),.fn fe (cs.map IV.ta)] S (iI (ixF f l 0)) S:=by
 refine Zb hc trivial ?_
 simp only[ZjT,List.length_map,EVA,seval]
 refine Ji (α:=Unit) l.length (fun j _=>[(8,iI j)]) (fun _ _=>[]) (fun j _=>ixF f (l.drop j) j=ixF f l 0) () (by simp only[ZgO,EVA,seval]) (by (simp only[EVA,seval]) <;> rfl) rfl ?_
 intro j _ hj hA
 simp only[EVA,seval]
 refine Zp (fun hlt=>?_) (fun hge=>?_)
 ·have hja:j<l.length:=by omega
  have ga:=Wd (c:=c) hja
  have hkk:=hk l[j]
  have htk:(c l[j]).take k=c l[j]:=List.take_of_length_le (by omega)
  rw[Ze9 hja,Zd1] at hA
  simp only[ga,hkk,htk,ZgN,Zl4,WB,ZfR,EVA,seval,Zl,men]
  refine Za (hf _ (List.getElem_mem hja)) ?_
  simp only[WB,EVA,seval]
  refine Zp (fun h=>?_) (fun h=>?_)
  ·rw[if_pos h] at hA
   rw[<-hA]
  ·rw[if_neg h] at hA
   exact⟨by rw[Zd];omega,Ze () hja rfl hA⟩
 ·have:j=l.length:=by omega
  subst this
  rw[List.drop_length] at hA
  rw[<-hA]
  rfl
theorem Zin{fid fi:FuncId}(hc:ZS P fid (Zmn fi)=true){es:Row}{f:α->Bool}{fe:FuncId}{cs:List (List Tr)}{l:List α}
  (hi:∀ lvl S,Sem P fi lvl [.tr (.sl es),.fn fe (cs.map IV.ta)] S (iI (ixF f l 0)) S) (lvl:Nat) (S:Sto):Sem P fid lvl [.tr (.sl es),.fn fe (cs.map IV.ta)] S (iB (l.any f)) S:=by
 refine Zb hc trivial ?_
 simp only[Zmn,ZgN,WB,EVA,seval,Zl,men]
 refine Za hi ?_
 simp only[EVA,seval]
 have:=Zim (f:=f) (l:=l) (Int.le_refl 0)
 by_cases h:l.any f=true
 ·simp [h,this.2 h]
 ·simp [h,mt this.1 h]
theorem ZgP{fid fi:FuncId}(hc:ZS P fid (Zmn fi)=true)(hi:ZS P fi (ZjT 1 none)=true){t:α->Tr}{f:α->Bool}{fe:FuncId}{cs:List (List Tr)}(l:List α)(hl:l.length<=9223372036854775807)
  (hf:∀ x∈l,∀ lvl S,Sem P fe lvl (.tr (t x)::cs.map IV.ta) S (iB (f x)) S) (lvl:Nat) (S:Sto):Sem P fid lvl [.tr (.sl (l.map fun x=>[t x])),.fn fe (cs.map IV.ta)] S (iB (l.any f)) S :=
 Zin hc (ZjU hi l hl hf) lvl S
theorem ZgQ{k:Nat}{fid fi:FuncId}(hc:ZS P fid (Zmn fi)=true)(hi:ZS P fi (ZjT k (some k))=true){c:α->List Tr}(hk:∀ x,(c x).length=k){f:α->Bool}{fe:FuncId}{cs:List (List Tr)}(l:List α)(hl:l.length<=9223372036854775807)
  (hf:∀ x∈l,∀ lvl S,Sem P fe lvl (.ag ((c x).map .tr)::cs.map IV.ta) S (iB (f x)) S) (lvl:Nat) (S:Sto):Sem P fid lvl [.tr (.sl (l.map c)),.fn fe (cs.map IV.ta)] S (iB (l.any f)) S :=
 Zin hc (ZjV hi hk l hl hf) lvl S
structure Cmp (t:α->Tr):Prop where
 neq:∀(x y:α) (F:IV->Prop),bi2 .neq 0 (.tr (t x)) (.tr (t y)) F=F (iB (!(@decide (x=y) (Classical.propDecidable _))))
 eql:∀(x y:α) (F:IV->Prop),bi2 .eql 0 (.tr (t x)) (.tr (t y)) F=F (iB (@decide (x=y) (Classical.propDecidable _)))
theorem ZtN:Cmp ts:=⟨fun x y F=>by rw[ZnG];congr 2;by_cases h:x=y <;> simp [h],fun x y F=>by rw[ZnF];congr 2;by_cases h:x=y <;> simp [h]⟩
theorem Zmo{fid:FuncId}(hc:ZS P fid ZtM=true)[DecidableEq α]{t:α->Tr}(hT:Cmp t)(a b:List α)(ha:a.length<=9223372036854775807)(lvl:Nat)(S:Sto):Sem P fid lvl [.tr (.sl (a.map fun x=>[t x])),.tr (.sl (b.map fun x=>[t x]))] S (iB (decide (a=b))) S:=by
 refine Zb hc trivial ?_
 simp only[ZtM,List.length_map,EVA,seval]
 refine Zp (fun h=>?_) (fun h=>?_)
 ·have:¬ a=b:=fun e=>h (by rw[e])
  simp [this]
 have hlen:a.length=b.length:=by omega
 refine Ji (α:=Unit) a.length (fun j _=>[(13,iI j)]) (fun _ _=>[]) (fun j _=>a.take j=b.take j) () (by simp only[EVA,seval]) (by (simp only[EVA,seval]) <;> rfl) rfl ?_
 intro j _ hj hA
 simp only[EVA,seval]
 refine Zp (fun hlt=>?_) (fun hge=>?_)
 ·have hja:j<a.length:=by omega
  have hjb:j<b.length:=by omega
  have ga:=Wd (c:=fun x=>[t x]) hja
  have gb:=Wd (c:=fun x=>[t x]) hjb
  have hq:=hT.neq a[j] b[j]
  simp only[ga,gb,hq,EVA,seval]
  refine Zp (fun hne=>?_) (fun he=>?_)
  ·have:¬ a=b:=UR hja hjb (by simpa using hne)
   simp [this]
  ·exact⟨by rw[Zd];omega,Ze () hja rfl (Xs hja hjb hA (by simpa using he))⟩
 ·have:j=a.length:=by omega
  subst this
  have:a=b:=Ws hlen hA
  simp [this]
end
end Go.Fd

/-
  WHAT HOLDS OF THE PROGRAM'S AND THE REFERENCE'S SMALL FUNCTIONS ON NUMBERS. Own work.
-/
namespace Go.Fd
set_option maxRecDepth 20000
noncomputable def dc(p:Prop):Bool:=@decide p (Classical.propDecidable p)
theorem dc_iff{p:Prop}:dc p=true↔p:=by unfold dc;simp
theorem ZK{p:Prop}(h:p):dc p=true:=dc_iff.2 h
theorem Zf{p:Prop}(h:¬ p):dc p=false:=by
 cases hh:dc p with
 | false=>rfl
 | true=>exact absurd (dc_iff.1 hh) h
theorem dc_not{p:Prop}:dc p=false ↔ ¬ p:=⟨fun h hp=>(by rw[ZK hp] at h;cases h),Zf⟩
theorem JY{p q:Prop}(h:p↔q):dc p=dc q:=by rw[propext h]
theorem Yq{p:Prop}[Decidable p]:dc p=decide p:=by
 by_cases h:p
 ·rw[ZK h];simp [h]
 ·rw[Zf h];simp [h]
abbrev g0(l:List Int)(i:Nat):Int:=l.getD i 0
abbrev A3:=Int×Int×Int
abbrev g3(l:List A3)(i:Nat):A3:=l.getD i (0,0,0)
theorem JL{l:List Int}{i:Nat}(h:i<l.length):(rI l)[i]? = some [tv (g0 l i)]:=by simp [h]
def inB(n a b:Int):Bool:=decide (a<=n)&&decide (n<=b)
theorem inB_iff{n a b:Int}:inB n a b=true↔a<=n/\n<=b:=by simp [inB]
theorem inB_not{n a b:Int}:inB n a b=false ↔ ¬ (a<=n/\n<=b):=by
 rw[<-inB_iff];cases inB n a b <;> simp
theorem QM(n a b:Int)(lvl:Nat)(S:Sto):Sem Go.Proofs.Tryz.prog Z7 lvl [iI n,iI a,iI b] S (iB (inB n a b)) S:=by
 refine Zb ZfW trivial ?_
 simp only[Zb0,EVA,seval]
 refine Zp (fun h=>?_) (fun h=>?_) <;> simp [inB,h]
theorem Vk(n a b:Int)(lvl:Nat)(S:Sto):Sem Go.Proofs.Tryz.prog ZT lvl [iI n,iI a,iI b] S (iB (inB n a b)) S:=by
 refine Zb ZdN trivial ?_
 simp only[DP,EVA,seval]
 refine Zp (fun h=>?_) (fun h=>?_) <;> simp [inB,h]
theorem X6(l:List Int)(n:Int)(hl:l.length<=9223372036854775807)(lvl:Nat)(S:Sto):Sem Go.Proofs.Tryz.prog J8 lvl [tI l,iI n] S (iB (decide (n∈l))) S:=by
 refine Zb Ze7 trivial ?_
 simp only[Za4,EVA,seval]
 refine ZW (α:=Unit) l.length (fun j _=>⟨lvl,[(0,tI l),(1,iI n),(5,iI j)],[],S⟩) (fun j _=>n ∉ l.take j) () ⟨by simp only[EVA,seval],by (simp only[EVA,seval]) <;> rfl⟩ (by simp) ?_
 intro j _ hj hA
 simp only[List.length_map,EVA,seval]
 refine Zp (fun hlt=>?_) (fun hge=>?_)
 ·have hja:j<l.length:=by omega
  have ga:=JL hja
  simp only[ga,EVA,seval]
  have hg:g0 l j=l[j]:=by simp [hja]
  refine Zp (fun he=>?_) (fun hne=>?_)
  ·have:n∈l:=by rw[<-he,hg];exact List.getElem_mem hja
   simp [this]
  ·refine⟨by rw[Zd];omega,Ze () hja rfl ?_⟩
   rw[List.take_succ_eq_append_getElem hja]
   simp only[List.mem_append,List.mem_singleton,not_or]
   exact⟨hA,fun e=>hne (by rw[hg,e])⟩
 ·have:j=l.length:=by omega
  subst this
  rw[List.take_length] at hA
  simp [hA]
def ZpA(l:List Int)(v:Int):Int:=if v∈l then (l.idxOf v:Int) else -1
theorem ZjW{l:List Int}{v:Int}:0<=ZpA l v↔v∈l:=by
 unfold ZpA;split
 ·rename_i h;simp [h]
 ·rename_i h;simp [h]
theorem Zio(l:List Int)(n:Int)(hl:l.length<=9223372036854775807)(lvl:Nat)(S:Sto):Sem Go.Proofs.Tryz.prog JQ lvl [tI l,iI n] S (iI (ZpA l n)) S:=by
 refine Zb WZ trivial ?_
 simp only[V1,List.length_map,EVA,seval]
 refine ZW (α:=Unit) l.length (fun j _=>⟨lvl,[(0,tI l),(1,iI n),(7,iI l.length),(8,iI j)],[],S⟩) (fun j _=>n ∉ l.take j) () ⟨by simp only[EVA,seval],by (simp only[EVA,seval]) <;> rfl⟩ (by simp) ?_
 intro j _ hj hA
 simp only[EVA,seval]
 refine Zp (fun hlt=>?_) (fun hge=>?_)
 ·have hja:j<l.length:=by omega
  have ga:=JL hja
  simp only[ga,EVA,seval]
  have hg:g0 l j=l[j]:=by simp [hja]
  refine Zp (fun he=>?_) (fun hne=>?_)
  ·have hm:n∈l:=by rw[he,hg];exact List.getElem_mem hja
   unfold ZpA
   rw[if_pos hm]
   have:l.idxOf n=j:=by
    have h1:l.take j++l.drop j=l:=List.take_append_drop j l
    rw[<-h1,List.idxOf_append,if_neg hA,List.drop_eq_getElem_cons hja,List.idxOf_cons]
    rw[he,hg]
    simp
    omega
   rw[this]
  ·refine⟨by rw[Zd];omega,Ze () hja rfl ?_⟩
   rw[List.take_succ_eq_append_getElem hja]
   simp only[List.mem_append,List.mem_singleton,not_or]
   exact⟨hA,fun e=>hne (by rw[hg,e])⟩
 ·have:j=l.length:=by omega
  subst this
  rw[List.take_length] at hA
  simp [ZpA,hA]
theorem Us(l:List Int)(n:Int)(hl:l.length<=9223372036854775807)(lvl:Nat)(S:Sto):Sem Go.Proofs.Tryz.prog ZJ lvl [tI l,iI n] S (iB (decide (n∈l))) S:=by
 refine Zb XK trivial ?_
 simp only[YY,EVA,seval,Zl,men]
 refine Za (Zio l n hl) ?_
 simp only[ZjW,EVA,seval]
theorem Zip(x:Int)(lvl:Nat)(S:Sto):Sem Go.Proofs.Tryz.prog YA lvl [iI x] S (iB false) S:=by
 refine Zb Zb3 trivial ?_
 simp only[Ur,EVA,seval]
end Go.Fd

/-
  NUMBERS OF LIBRARY FUNCTIONS IN THIS PROGRAM, as the guide's shelf lays them (printed by lay.py out of the kit's own command).
-/
namespace Go.Proofs
open Go.Shelf
def Tryz.lays160_ren:Go.Shelf.Ren:=⟨fun | 160=>170 | 232=>220 | 231=>219 | 227=>221 | 234=>223 | 233=>222 | 236=>225 | 235=>224 | 228=>258 | 271=>261 | 151=>260 | 197=>259 | 120=>314 | 152=>313 | 260=>312 | 137=>340 | 119=>341 | 224=>310 | 225=>309 | 217=>308 | 266=>338 | n=>n,fun | 9=>9 | 4=>4 | 3=>3 | 5=>5 | 117=>224 | 116=>223 | 0=>0 | 124=>227 | 21=>21 | 105=>255 | 46=>217 | 119=>321 | 139=>324 | 138=>323 | n=>n,fun | 3=>3 | 4=>4 | n=>n⟩
theorem Tryz.lays160:Go.Proofs.Lays.n160 Tryz.prog Tryz.lays160_ren:={
  mixed:=by kernel_rfl,
  f119:=Tryz.func341.trans (congrArg some (by kernel_rfl)),
  f120:=Tryz.func314.trans (congrArg some (by kernel_rfl)),
  f137:=Tryz.func340.trans (congrArg some (by kernel_rfl)),
  f151:=Tryz.func260.trans (congrArg some (by kernel_rfl)),
  f152:=Tryz.func313.trans (congrArg some (by kernel_rfl)),
  f160:=Tryz.func170.trans (congrArg some (by kernel_rfl)),
  f197:=Tryz.func259.trans (congrArg some (by kernel_rfl)),
  f217:=Tryz.func308.trans (congrArg some (by kernel_rfl)),
  f224:=Tryz.func310.trans (congrArg some (by kernel_rfl)),
  f225:=Tryz.func309.trans (congrArg some (by kernel_rfl)),
  f227:=Tryz.func221.trans (congrArg some (by kernel_rfl)),
  f228:=Tryz.func258.trans (congrArg some (by kernel_rfl)),
  f231:=Tryz.func219.trans (congrArg some (by kernel_rfl)),
  f232:=Tryz.func220.trans (congrArg some (by kernel_rfl)),
  f233:=Tryz.func222.trans (congrArg some (by kernel_rfl)),
  f234:=Tryz.func223.trans (congrArg some (by kernel_rfl)),
  f235:=Tryz.func224.trans (congrArg some (by kernel_rfl)),
  f236:=Tryz.func225.trans (congrArg some (by kernel_rfl)),
  f260:=Tryz.func312.trans (congrArg some (by kernel_rfl)),
  f266:=Tryz.func338.trans (congrArg some (by kernel_rfl)),
  f271:=Tryz.func261.trans (congrArg some (by kernel_rfl)),
  t0:=Tryz.underlying0,
  a0:=Tryz.isAgg0,
  z0:=Tryz.sizeOf0,
  v0:=Tryz.zeroValue0,
  t3:=Tryz.underlying3,
  a3:=Tryz.isAgg3,
  z3:=Tryz.sizeOf3,
  v3:=Tryz.zeroValue3,
  t4:=Tryz.underlying4,
  a4:=Tryz.isAgg4,
  z4:=Tryz.sizeOf4,
  v4:=Tryz.zeroValue4,
  t5:=Tryz.underlying5,
  a5:=Tryz.isAgg5,
  z5:=Tryz.sizeOf5,
  v5:=Tryz.zeroValue5,
  t9:=Tryz.underlying9,
  a9:=Tryz.isAgg9,
  z9:=Tryz.sizeOf9,
  v9:=Tryz.zeroValue9,
  t21:=Tryz.underlying21,
  a21:=Tryz.isAgg21,
  z21:=Tryz.sizeOf21,
  v21:=Tryz.zeroValue21,
  t46:=Tryz.underlying217,
  a46:=Tryz.isAgg217,
  z46:=Tryz.sizeOf217,
  v46:=Tryz.zeroValue217,
  t105:=Tryz.underlying255,
  a105:=Tryz.isAgg255,
  z105:=Tryz.sizeOf255,
  v105:=Tryz.zeroValue255,
  t116:=Tryz.underlying223,
  a116:=Tryz.isAgg223,
  z116:=Tryz.sizeOf223,
  t117:=Tryz.underlying224,
  a117:=Tryz.isAgg224,
  z117:=Tryz.sizeOf224,
  v117:=Tryz.zeroValue224,
  t119:=Tryz.underlying321,
  a119:=Tryz.isAgg321,
  z119:=Tryz.sizeOf321,
  t124:=Tryz.underlying227,
  a124:=Tryz.isAgg227,
  z124:=Tryz.sizeOf227,
  v124:=Tryz.zeroValue227,
  t138:=Tryz.underlying323,
  a138:=Tryz.isAgg323,
  z138:=Tryz.sizeOf323,
  v138:=Tryz.zeroValue323,
  t139:=Tryz.underlying324,
  a139:=Tryz.isAgg324,
  z139:=Tryz.sizeOf324,
  v139:=Tryz.zeroValue324,
  g3:=by kernel_rfl,
  g4:=by kernel_rfl }
end Go.Proofs

/-
  NAMES AND SIGNATURES, BOTH SIDES. Own work.
-/
namespace Go.Fd
set_option maxRecDepth 20000
def ZpB(P:Program)(f:FuncId):Bool:=match P.funcs[f]? with | some fn=>fn.body.isSome && !(fn.name == "runtime.NumGoroutine") | none=>false
theorem Zd2{P:Program}{f:FuncId}(h:ZpB P f=true):UK P f:=by
 unfold ZpB at h
 split at h
 ·rename_i fn hf
  simp only[Bool.and_eq_true,Bool.not_eq_true'] at h
  exact⟨fn,hf,h.1,h.2⟩
 ·cases h
abbrev AZ:ByteArray:=⟨#[97,98,99,100,101,102,103,104,105,106,107,108,109,110,111,112,113,114,115,116,117,118,119,120,121,122]⟩
theorem ZjX(s:ByteArray)(hs:s.size<=9223372036854775807)(lvl:Nat)(S:Sto):Sem Go.Proofs.Tryz.prog WK lvl [iS s,iS AZ] S (iS ⟨(Lib.trimS s.data.toList AZ.data.toList).toArray⟩) S :=
 ZfU (xs:=[.string s,.string AZ]) (Zd2 (by kernel_rfl)) rfl (fun w=>Go.Proofs.Any.strings_Trim_laid Go.Proofs.Tryz.lays160 (by kernel_rfl) s AZ w hs (by decide) (Go.Proofs.ascii_of_all (by decide)))
def Ziq(s:ByteArray):Prop:=(∀ b∈s.data.toList,97<=b.toNat/\b.toNat<=122)/\1<=s.size/\s.size<=4
theorem Zfa(s:ByteArray):s.size=s.data.toList.length:=by rw[Array.length_toList];rfl
theorem ZkN(b:UInt8):b∈AZ.data.toList↔97<=b.toNat/\b.toNat<=122:=by
 have:∀ n:Fin 256,(UInt8.ofNat n.val)∈AZ.data.toList↔97<=n.val/\n.val<=122:=by decide +kernel
 have h:UInt8.ofNat b.toNat∈AZ.data.toList↔97<=b.toNat/\b.toNat<=122:=this ⟨b.toNat,b.toNat_lt⟩
 rw[show UInt8.ofNat b.toNat=b from UInt8.ofNat_toNat] at h
 exact h
theorem Zir{p:UInt8->Bool}:∀{l:List UInt8},l.dropWhile p=[]↔∀ b∈l,p b=true
 | []=>by simp
 | x::r=>by
  simp only[List.dropWhile_cons,List.mem_cons,forall_eq_or_imp]
  cases h:p x with
  | true=>simp [Zir (l:=r)]
  | false=>simp
theorem ZkO{p:UInt8->Bool}{b:UInt8}:∀{l:List UInt8},b∈l.takeWhile p->p b=true
 | [],h=>by simp at h
 | x::r,h=>by
  rw[List.takeWhile_cons] at h
  split at h
  ·rename_i hx
   rcases List.mem_cons.1 h with rfl | h
   ·exact hx
   ·exact ZkO h
  ·cases h
theorem ZjY{l cs:List UInt8}(h:∀ b∈l,b∈cs):l.dropWhile (cs.contains ·)=[]:=by
 rw[Zir]
 intro b hb
 simpa using h b hb
theorem trimS_nil{l cs:List UInt8}:Lib.trimS l cs=[]↔∀ b∈l,b∈cs:=by
 unfold Lib.trimS Lib.trimLeftS Lib.trimRightS
 constructor
 ·intro h b hb
  rw[Zir] at h
  have hrev:∀ x∈(l.reverse.dropWhile (cs.contains ·)),x∈cs:=fun x hx=>by
   have:=h x (by simpa using hx)
   simpa using this
  have hsplit:l.reverse=l.reverse.takeWhile (cs.contains ·)++l.reverse.dropWhile (cs.contains ·):=(List.takeWhile_append_dropWhile).symm
  have hb2:b∈l.reverse:=by simpa using hb
  rw[hsplit] at hb2
  rcases List.mem_append.1 hb2 with h1 | h1
  ·have:=ZkO h1
   simpa using this
  ·exact hrev b h1
 ·intro h
  rw[ZjY (l:=l.reverse) (fun b hb=>h b (by simpa using hb))]
  rfl
theorem ZcW(s:ByteArray)(hs:s.size<=9223372036854775807)(lvl:Nat)(S:Sto):Sem Go.Proofs.Tryz.prog VF lvl [iS s] S (iB (dc (Ziq s))) S:=by
 refine Zb ZdQ trivial ?_
 simp only[DS,EVA,seval]
 refine Ji (α:=Unit) s.size (fun j _=>[(3,iI j)]) (fun _ _=>[]) (fun j _=>∀ b∈s.data.toList.take j,97<=b.toNat/\b.toNat<=122) () (by simp only[EVA,seval]) (by (simp only[EVA,seval]) <;> rfl) (fun b hb=>by simp at hb) ?_
 intro j _ hj hA
 simp only[EVA,seval,Zl,men]
 refine Zp (fun hlt=>?_) (fun hge=>?_)
 ·have hja:j<s.data.toList.length:=by rw[<-Zfa];omega
  have ga:s.data.toList[j]? = some (s.data.toList[j]):=List.getElem?_eq_getElem hja
  have hno:¬ (97<=(s.data.toList[j]).toNat/\(s.data.toList[j]).toNat<=122) -> ¬ Ziq s:=fun h hn=>h (hn.1 _ (List.getElem_mem hja))
  by_cases h1:((s.data.toList[j]).toNat:Int)<97
  ·simp only[ga,h1,EVA,seval]
   rw[Zf (hno (by omega))]
  by_cases h2:(122:Int)<(s.data.toList[j]).toNat
  ·simp only[ga,h1,h2,EVA,seval]
   rw[Zf (hno (by omega))]
  ·simp only[ga,h1,h2,EVA,seval]
   refine⟨by rw[Zd];omega,Ze () (by omega) rfl ?_⟩
   intro b hb
   rw[List.take_succ_eq_append_getElem hja] at hb
   rcases List.mem_append.1 hb with h | h
   ·exact hA b h
   ·have:b=s.data.toList[j]:=by simpa using h
    subst this
    omega
 ·have:j=s.size:=by omega
  subst this
  rw[Zfa,List.take_length] at hA
  refine Za (QM s.size 1 4) ?_
  simp only[EVA,seval]
  rw[JY (q:=1<=s.size/\s.size<=4) ⟨fun h=>h.2,fun h=>⟨hA,h⟩⟩]
  by_cases h:1<=s.size/\s.size<=4
  ·rw[ZK h,inB_iff.2 (by omega)]
  ·rw[Zf h,inB_not.2 (by omega)]
theorem ZcX(s:ByteArray)(hs:s.size<=9223372036854775807)(lvl:Nat)(S:Sto):Sem Go.Proofs.Tryz.prog VG lvl [iS s] S (iB (dc (Ziq s))) S:=by
 refine Zb ZdR trivial ?_
 simp only[DT,EVA,seval,Zl,men]
 refine Za (Vk s.size 1 4) ?_
 simp only[EVA,seval,Zl,men]
 cases hin:inB (s.size:Int) 1 4 with
 | false =>
  have:¬ Ziq s:=fun h=>(inB_not.1 hin) (by have:=h.2;omega)
  rw[Zf this]
  simp only[EVA,seval]
 | true =>
  have hin':=inB_iff.1 hin
  simp only[seval]
  refine Za (ZjX s hs) ?_
  simp only[EVA,seval]
  by_cases h:Ziq s
  ·have:Lib.trimS s.data.toList AZ.data.toList=[]:=trimS_nil.2 (fun b hb=>(ZkN b).2 (h.1 b hb))
   rw[ZK h,this]
   rfl
  ·have:¬ Lib.trimS s.data.toList AZ.data.toList=[]:=fun e=>h ⟨fun b hb=>(ZkN b).1 (trimS_nil.1 e b hb),by omega,by omega⟩
   rw[Zf h]
   have h2:¬ (⟨(Lib.trimS s.data.toList AZ.data.toList).toArray⟩:ByteArray)=⟨#[]⟩:=fun e=>this (by
    have:=congrArg (fun b:ByteArray=>b.data.toList) e
    simpa using this)
   simp [h2]
def Zmp(c:TControl):Prop:=Ziq c.name/\(0<=c.ports/\c.ports<=3)/\0<=c.kind_/\c.kind_<=2
def Zis(sig:List TControl)(i:Nat):Prop:=∀ h:i<sig.length,Zmp sig[i]/\∀ k (hk:k<i),(sig[k]'(by omega)).name≠sig[i].name
def Zbe(sig:List TControl):Prop:=(∀ i,Zis sig i)/\1<=sig.length/\sig.length<=6
theorem ZaI(c d:TControl)(lvl:Nat)(S:Sto):Sem Go.Proofs.Tryz.prog Jz lvl [.ag ((Zi d).map .tr),.ta (Zi c)] S (iB (decide (d.name=c.name))) S:=by
 refine Zb U6 trivial ?_
 simp only[QH,Zi,EVA,seval]
theorem Zfb:ZS Go.Proofs.Tryz.prog ZX (ZjT 3 (some 3))=true:=by kernel_rfl
theorem Zfc:ZS Go.Proofs.Tryz.prog ZL (Zmn ZX)=true:=by kernel_rfl
theorem Zit(sig:List TControl)(hl:sig.length<=9223372036854775807)(hb:∀ y∈sig,ZA 9223372036854775807 y)(lvl:Nat)(S:Sto):Sem Go.Proofs.Tryz.prog XD lvl [.tr (.sl (sig.map Zi))] S (iB (dc (Zbe sig))) S:=by
 refine Zb Ze3 trivial ?_
 simp only[Za0,EVA,seval]
 refine Ji (α:=Unit) sig.length (fun j _=>[(3,iI j)]) (fun _ _=>[]) (fun j _=>∀ i,i<j->Zis sig i) () (by simp only[EVA,seval]) (by (simp only[EVA,seval]) <;> rfl) (fun i hi=>by omega) ?_
 intro j _ hj hA
 simp only[List.length_map,EVA,seval,Zl,men]
 refine Zp (fun hlt=>?_) (fun hge=>?_)
 ·have hja:j<sig.length:=by omega
  have ga:=Wd (c:=Zi) hja
  have hbj:sig[j].name.size<=9223372036854775807:=hb _ (List.getElem_mem hja)
  have hno:¬ Zmp sig[j] -> ¬ Zbe sig:=fun h hs=>h (hs.1 j hja).1
  simp only[ga,Zi,EVA,seval,Zl,men]
  refine Za (ZcW sig[j].name hbj) ?_
  simp only[ga,Zi,EVA,seval,Zl,men]
  cases hn:dc (Ziq sig[j].name) with
  | false =>
   simp only[EVA,seval]
   rw[Zf (hno fun h=>dc_not.1 hn h.1)]
  | true =>
   have hn':=dc_iff.1 hn
   simp only[EVA,seval]
   refine Za (QM sig[j].ports 0 3) ?_
   simp only[ga,Zi,EVA,seval,Zl,men]
   cases hp:inB sig[j].ports 0 3 with
   | false =>
    simp only[EVA,seval]
    rw[Zf (hno fun h=>inB_not.1 hp h.2.1)]
   | true =>
    have hp':=inB_iff.1 hp
    simp only[EVA,seval]
    refine Za (QM sig[j].kind_ 0 2) ?_
    simp only[EVA,seval]
    cases hk:inB sig[j].kind_ 0 2 with
    | false =>
     simp only[seval]
     rw[Zf (hno fun h=>inB_not.1 hk h.2.2)]
    | true =>
     have hk':=inB_iff.1 hk
     simp only[EVA,seval]
     refine Ji (α:=Unit) j (fun k _=>[(4,iI k)]) (fun _ _=>[]) (fun k _=>∀ i (hi:i<k),k<=j->∀ hi2:i<sig.length,(sig[i]'hi2).name≠sig[j].name) () (by simp only[EVA,seval]) (by (simp only[EVA,seval]) <;> rfl) (fun i hi=>by omega) ?_
     intro k _ hkj hB
     simp only[EVA,seval]
     refine Zp (fun hlt2=>?_) (fun hge2=>?_)
     ·have hka:k<sig.length:=by omega
      have gb:=Wd (c:=Zi) hka
      simp only[ga,gb,Zi,EVA,seval]
      refine Zp (fun he=>?_) (fun hne=>?_)
      ·rw[Zf (fun hs:Zbe sig=>(hs.1 j hja).2 k (by omega) he)]
      ·refine⟨by rw[Zd];omega,Ze () (by omega) rfl (fun i hi _ hi2=>?_)⟩
       by_cases e:i=k
       ·subst e;exact hne
       ·exact hB i (by omega) (by omega) hi2
     ·have:k=j:=by omega
      subst this
      refine⟨by rw[Zd];omega,Ze () hja rfl (fun i hi=>?_)⟩
      by_cases e:i=k
      ·subst e
       exact fun h=>⟨⟨hn',hp',hk'⟩,fun q hq=>hB q hq (Nat.le_refl _) (by omega)⟩
      ·exact hA i (by omega)
 ·have:j=sig.length:=by omega
  subst this
  refine Za (QM sig.length 1 6) ?_
  simp only[EVA,seval]
  have hall:∀ i,Zis sig i:=fun i h=>hA i h h
  rw[JY (q:=1<=sig.length/\sig.length<=6) ⟨fun h=>h.2,fun h=>⟨hall,h⟩⟩]
  by_cases h:1<=sig.length/\sig.length<=6
  ·rw[ZK h,inB_iff.2 (by omega)]
  ·rw[Zf h,inB_not.2 (by omega)]
theorem U7(sig:List TControl)(hl:sig.length<=9223372036854775807)(hb:∀ y∈sig,ZA 9223372036854775807 y)(lvl:Nat)(S:Sto):Sem Go.Proofs.Tryz.prog YI lvl [.tr (.sl (sig.map Zi))] S (iB (dc (Zbe sig))) S:=by
 refine Zb DO trivial ?_
 simp only[Xt,List.length_map,EVA,seval,Zl,men]
 refine Za (Vk sig.length 1 6) ?_
 simp only[List.length_map,EVA,seval]
 refine Zp (fun h=>?_) (fun h=>?_)
 ·rw[Zf (fun hs:Zbe sig=>(inB_not.1 h) (by have:=hs.2;omega))]
 have hln:=inB_iff.1 (by simpa using h)
 refine Ji (α:=Unit) sig.length (fun j _=>[(11,iI j)]) (fun _ _=>[]) (fun j _=>∀ i,i<j->Zis sig i) () (by simp only[EVA,seval]) (by (simp only[EVA,seval]) <;> rfl) (fun i hi=>by omega) ?_
 intro j _ hj hA
 simp only[EVA,seval]
 refine Zp (fun hlt=>?_) (fun hge=>?_)
 ·have hja:j<sig.length:=by omega
  have ga:=Wd (c:=Zi) hja
  have hbj:sig[j].name.size<=9223372036854775807:=hb _ (List.getElem_mem hja)
  have hno:¬ Zmp sig[j] -> ¬ Zbe sig:=fun h hs=>h (hs.1 j hja).1
  simp only[ga,Zi,EVA,seval,Zl,men]
  refine Za (ZcX sig[j].name hbj) ?_
  simp only[EVA,seval,Zl,men]
  cases hn:dc (Ziq sig[j].name) with
  | false =>
   simp only[EVA,seval]
   rw[Zf (hno fun h=>dc_not.1 hn h.1)]
  | true =>
   have hn':=dc_iff.1 hn
   simp only[EVA,seval]
   refine Za (Vk sig[j].ports 0 3) ?_
   simp only[EVA,seval,Zl,men]
   cases hp:inB sig[j].ports 0 3 with
   | false =>
    simp only[EVA,seval]
    rw[Zf (hno fun h=>inB_not.1 hp h.2.1)]
   | true =>
    have hp':=inB_iff.1 hp
    simp only[EVA,seval]
    refine Za (Vk sig[j].kind_ 0 2) ?_
    simp only[EVA,seval,Zl,men]
    cases hk:inB sig[j].kind_ 0 2 with
    | false =>
     simp only[EVA,seval]
     rw[Zf (hno fun h=>inB_not.1 hk h.2.2)]
    | true =>
     have hk':=inB_iff.1 hk
     have hjl:j<=sig.length:=by omega
     simp only[hjl,EVA,seval]
     have hc:=ZgQ (P:=Go.Proofs.Tryz.prog) Zfc Zfb ZaZ (f:=fun d:TControl=>decide (d.name=sig[j].name)) (fe:=Jz) (cs:=[Zi sig[j]]) (sig.take j) (by rw[List.length_take];omega) (fun d _ lvl S=>ZaI sig[j] d lvl S)
     rw[<-Zil] at hc
     refine⟨fun h=>h.elim,Nat.zero_le _,Za hc ?_⟩
     simp only[EVA,seval]
     cases ha:(sig.take j).any (fun d:TControl=>decide (d.name=sig[j].name)) with
     | true =>
      simp only[seval]
      obtain⟨d,hd,he⟩:=List.any_eq_true.1 ha
      obtain⟨q,hq,rfl⟩:=List.getElem_of_mem hd
      rw[List.length_take] at hq
      rw[Zf (fun hs:Zbe sig=>(hs.1 j hja).2 q (by omega) (by simpa using he))]
     | false =>
      simp only[EVA,seval]
      refine⟨by rw[Zd];omega,Ze () hja rfl (fun i hi=>?_)⟩
      by_cases e:i=j
      ·subst e
       refine fun h=>⟨⟨hn',hp',hk'⟩,fun q hq=>?_⟩
       have:=(List.any_eq_false.1 ha) sig[q] (by
        rw[List.mem_take_iff_getElem]
        exact⟨q,by omega,rfl⟩)
       simpa using this
      ·exact hA i (by omega)
 ·have:j=sig.length:=by omega
  subst this
  have hall:∀ i,Zis sig i:=fun i h=>hA i h h
  rw[ZK (p:=Zbe sig) ⟨hall,by omega,by omega⟩]
theorem ZkP(a b:List Int):rI (a++b)=rI a++rI b:=List.map_append
theorem ZkQ:ZS Go.Proofs.Tryz.prog Yj (ZjT 1 none)=true:=by kernel_rfl
theorem ZkR:ZS Go.Proofs.Tryz.prog Je (Zmn Yj)=true:=by kernel_rfl
end Go.Fd

/-
  WHAT A SIZE THAT IS LEFT SAYS OF BOUNDS (printed by lawgen.py). Own work.
-/
namespace Go.Fd
def Zm(s:Int->Int)(P:Prop):Prop:=∀ l:Int,0<=l->l<=1048576->s l<=l/\(0<=s l->P)
theorem ZjZ:Zm (fun l=>l) True:=fun _ _ _=>⟨Int.le_refl _,fun _=>trivial⟩
theorem ZfX{s g:Int->Int}{P Q:Prop}(hs:Zm s P)(hg:Zm g Q):Zm (fun l=>DN (s l) g) (P/\Q):=fun l h0 h1=>by
 have a:=hs l h0 h1
 by_cases h:s l<0
 ·simp only[DN,if_pos h]
  exact⟨by omega,fun h=>by omega⟩
 ·simp only[DN,if_neg h]
  have b:=hg (s l) (by omega) (by omega)
  exact⟨by omega,fun h2=>⟨a.2 (by omega),b.2 h2⟩⟩
theorem Zuo(n:Nat):Zm (fun l=>szN n l) (n<=4294967296):=fun l h0 h1=>by
 simp only[szN]
 split
 ·exact⟨by omega,fun h=>by omega⟩
 ·exact⟨by omega,fun h=>by omega⟩
theorem Ziu(n:Nat):Zm (fun l=>l-n) (n<=4294967296):=fun l h0 h1=>⟨by simp only;omega,fun h=>by simp only at h;omega⟩
theorem Zup{α:Type}{f:α->Int->Int}{P:α->Prop}(hf:∀ x,Zm (f x) (P x)):∀(a:List α),Zm (fun l=>szF f a l) (∀ y∈a,P y)
 | []=>fun l _ _=>⟨Int.le_refl l,fun _ y hy=>by cases hy⟩
 | x::r=>fun l h0 h1=>by
  simp only[szF]
  have a:=hf x l h0 h1
  split
  ·exact⟨by omega,fun h=>by omega⟩
  ·have b:=Zup hf r (f x l) (by omega) (by omega)
   refine⟨by simp only at b;omega,fun h y hy=>?_⟩
   cases hy with
   | head=>exact a.2 (by omega)
   | tail _ hy=>exact b.2 h y hy
theorem ZmU{α:Type}{f:α->Int->Int}{P:α->Prop}(hf:∀ x,Zm (f x) (P x))(a:List α):Zm (fun l=>szL f a l) (a.length<=4294967296/\∀ y∈a,P y):=fun l h0 h1=>by
 simp only[szL]
 split
 ·exact⟨by omega,fun h=>by omega⟩
 ·have b:=Zup hf a (l-a.length) (by omega) (by omega)
  simp only at b
  exact⟨by omega,fun h=>⟨by omega,b.2 h⟩⟩
theorem ZgR{s:Int->Int}{P Q:Prop}(h:Zm s P)(hq:P->Q):Zm s Q:=fun l h0 h1=>⟨(h l h0 h1).1,fun h2=>hq ((h l h0 h1).2 h2)⟩
theorem ZpC(x:TNode):Zm (fun l=>WI x l) (WH 4294967296 x):=by
 unfold WI
 exact ZgR (ZfX (Zuo _) ZjZ) (fun h=>by unfold WH;simp only[and_true] at h ⊢;try exact h)
theorem ZpD(x:TWire):Zm (fun l=>WJ x l) (X4 4294967296 x):=by
 unfold WJ
 exact ZgR (ZfX (Ziu _) ZjZ) (fun h=>by unfold X4;simp only[and_true] at h ⊢;try exact h)
theorem X7(x:TBigraph):Zm (fun l=>JD x l) (Zv 4294967296 x):=by
 unfold JD
 exact ZgR (ZfX (ZmU (fun y=>(ZpC _)) _) (ZfX (Zuo _) (ZfX (ZmU (fun y=>(Ziu _)) _) (ZfX (ZmU (fun y=>(ZpD _)) _) ZjZ)))) (fun h=>by unfold Zv;simp only[and_assoc,and_true] at h ⊢;try exact h)
theorem Zb4(x:TControl):Zm (fun l=>ZB x l) (ZA 4294967296 x):=by
 unfold ZB
 exact ZgR (ZfX (Ziu _) ZjZ) (fun h=>by unfold ZA;simp only[and_true] at h ⊢;try exact h)
theorem Zmq{a:Nat}(h:a<=4294967296):a<=9223372036854775807:=by omega
theorem Zb5{x:TControl}(h:ZA 4294967296 x):ZA 9223372036854775807 x:=by
 exact(Zmq h)
end Go.Fd

/-
  WHAT A VALID BIGRAPH IS, BOTH SIDES. Own work.
-/
namespace Go.Fd
set_option maxRecDepth 20000
theorem Zi6{P:Nat->Prop}{j:Nat}(h:∀ k,k<j->P k)(hj:P j):∀ k,k<j+1->P k:=fun k hk=>by
 by_cases e:k=j
 ·subst e;exact hj
 ·exact h k (by omega)
theorem Ziv{n a b:Int}:inB n a b=dc (a<=n/\n<=b):=by
 unfold inB
 rw[Yq,Bool.decide_and]
theorem ZkS:∀(x y:List UInt8),(!Op.bytesLess x y)=(Op.bytesLess y x || decide (x=y))
 | [],[]=>by simp [Op.bytesLess]
 | [],_::_=>by simp [Op.bytesLess]
 | _::_,[]=>by simp [Op.bytesLess]
 | a::x,b::y=>by
  have ih:=ZkS x y
  simp only[Op.bytesLess]
  by_cases h:a=b
  ·subst h
   have e:¬ a<a:=UInt8.lt_irrefl a
   simp [e,ih]
  ·by_cases h1:a<b
   ·have h2:¬ b<a:=fun h2=>UInt8.lt_irrefl a (UInt8.lt_trans h1 h2)
    have h3:¬ b=a:=fun e=>h e.symm
    simp [h,h1,h2,h3]
   ·have h2:b<a:=by
     rcases UInt8.lt_or_lt_of_ne h with h | h
     ·exact absurd h h1
     ·exact h
    simp [h,h1,h2]
def ltS(s t:ByteArray):Prop:=Op.bytesLess s.data.toList t.data.toList=true
theorem Zmr{s t:ByteArray}:(!Op.bytesLess s.data.toList t.data.toList) = !dc (ltS s t):=by
 unfold ltS
 rw[Yq,Bool.decide_eq_true]
theorem Zms{s t:ByteArray}:(Op.bytesLess t.data.toList s.data.toList || decide (t=s)) = !dc (ltS s t):=by
 rw[<-Zmr,ZkS]
 congr 1
 have:t=s↔s.data.toList=t.data.toList:=⟨fun h=>by rw[h],fun h=>by
  cases s with | mk s=>cases t with | mk t=>exact congrArg ByteArray.mk (Array.toList_inj.1 h.symm)⟩
 simp only[this]
def ZpE(l:List ByteArray)(i:Nat):Prop:=∀ h:i<l.length,Ziq l[i]/\∀ _:0<i,ltS (l[i-1]'(by omega)) l[i]
def Qy(l:List ByteArray):Prop:=(∀ i,ZpE l i)/\l.length<=16
theorem Zb6(l:List ByteArray)(hl:l.length<=4294967296)(hb:∀ y∈l,y.size<=4294967296)(lvl:Nat)(S:Sto):Sem Go.Proofs.Tryz.prog Y3 lvl [.tr (.sl (rS l))] S (iB (dc (Qy l))) S:=by
 refine Zb ZcC trivial ?_
 simp only[Df,EVA,seval]
 refine Ji (α:=Unit) l.length (fun j _=>[(3,iI j)]) (fun j _=>[]) (fun j _=>∀ k,k<j->ZpE l k) () (by simp only[EVA,seval]) (by (simp only[EVA,seval]) <;> rfl) (fun k hk=>absurd hk (Nat.not_lt_zero k)) ?_
 intro j _ hj hA
 simp only[List.length_map,EVA,seval]
 refine Zp (fun hlt=>?_) (fun hge=>?_)
 ·have hja:j<l.length:=by omega
  have ga:=Wd (c:=fun s=>[ts s]) hja
  have hno:¬ ZpE l j->dc (Qy l)=false:=fun h=>Zf fun g=>h (g.1 j)
  simp only[ga,EVA,seval,Zl,men]
  refine Za (ZcW l[j] (by have:=hb _ (List.getElem_mem hja);omega)) ?_
  cases h1:dc (Ziq l[j])
  ·simp only[EVA,seval]
   rw[hno fun h=>dc_not.1 h1 (h hja).1]
  by_cases q:0<j
  ·have e1:((j:Int)-1).toNat=j-1:=by omega
   have e2:(0:Int)<=j-1:=by omega
   have q5:(0:Int)<j:=by omega
   have gb:=Wd (c:=fun s=>[ts s]) (l:=l) (j:=j-1) (by omega)
   simp only[q5,e1,e2,ga,gb,EVA,seval]
   cases hc:Op.bytesLess (l[j-1]'(by omega)).data.toList l[j].data.toList
   ·simp only[seval]
    exact⟨by rw[Zd];omega,by rw[hno fun h=>by have:=(h hja).2 q;unfold ltS at this;rw[this] at hc;cases hc]⟩
   ·simp only[EVA,seval]
    exact⟨by rw[Zd];omega,by rw[Zd];omega,Ze () hja rfl (Zi6 hA fun _=>⟨dc_iff.1 h1,fun _=>hc⟩)⟩
  ·have q5:¬ (0:Int)<j:=by omega
   simp only[q5,EVA,seval]
   exact⟨by rw[Zd];omega,Ze () hja rfl (Zi6 hA fun _=>⟨dc_iff.1 h1,fun h=>absurd h q⟩)⟩
 ·have hj1:j=l.length:=by omega
  subst hj1
  rw[JY (p:=Qy l) (q:=(l.length:Int)<=16) ⟨fun g=>by have:=g.2;omega,fun g=>⟨fun i h=>hA i h h,by omega⟩⟩,Yq]
theorem Za5(l:List ByteArray)(hl:l.length<=4294967296)(hb:∀ y∈l,y.size<=4294967296)(lvl:Nat)(S:Sto):Sem Go.Proofs.Tryz.prog Yz lvl [.tr (.sl (rS l))] S (iB (dc (Qy l))) S:=by
 refine Zb Zb1 trivial ?_
 simp only[Um,List.length_map,EVA,seval]
 refine Ji (α:=Unit) l.length (fun j _=>[(7,iI j)]) (fun j _=>[]) (fun j _=>∀ k,k<j->ZpE l k) () (by simp only[EVA,seval]) (by (simp only[EVA,seval]) <;> rfl) (fun k hk=>absurd hk (Nat.not_lt_zero k)) ?_
 intro j _ hj hA
 simp only[List.length_map,EVA,seval]
 refine Zp (fun hlt=>?_) (fun hge=>?_)
 ·have hja:j<l.length:=by omega
  have ga:=Wd (c:=fun s=>[ts s]) hja
  have hno:¬ ZpE l j->dc (Qy l)=false:=fun h=>Zf fun g=>h (g.1 j)
  simp only[ga,EVA,seval,Zl,men]
  refine Za (ZcX l[j] (by have:=hb _ (List.getElem_mem hja);omega)) ?_
  cases h1:dc (Ziq l[j])
  ·simp only[EVA,seval]
   rw[hno fun h=>dc_not.1 h1 (h hja).1]
  by_cases q:0<j
  ·have e1:((j:Int)-1).toNat=j-1:=by omega
   have e2:(0:Int)<=j-1:=by omega
   have q5:(0:Int)<j:=by omega
   have gb:=Wd (c:=fun s=>[ts s]) (l:=l) (j:=j-1) (by omega)
   simp only[q5,e1,e2,gb,EVA,seval]
   rw[Zms]
   cases hc:dc (ltS (l[j-1]'(by omega)) l[j])
   ·simp only[EVA,seval]
    exact⟨by rw[Zd];omega,by rw[hno fun h=>dc_not.1 hc ((h hja).2 q)]⟩
   ·simp only[EVA,seval]
    exact⟨by rw[Zd];omega,by rw[Zd];omega,Ze () hja rfl (Zi6 hA fun _=>⟨dc_iff.1 h1,fun _=>dc_iff.1 hc⟩)⟩
  ·have q5:¬ (0:Int)<j:=by omega
   simp only[q5,EVA,seval]
   exact⟨by rw[Zd];omega,Ze () hja rfl (Zi6 hA fun _=>⟨dc_iff.1 h1,fun h=>absurd h q⟩)⟩
 ·have hj1:j=l.length:=by omega
  subst hj1
  rw[JY (p:=Qy l) (q:=(l.length:Int)<=16) ⟨fun g=>by have:=g.2;omega,fun g=>⟨fun i h=>hA i h h,by omega⟩⟩,Yq]
def Xg(b:TBigraph)(l:Int):Prop:=0<=l/\l<=b.edges+b.outer.length-1
theorem ZcY(b:TBigraph)(l:Int)(he:0<=b.edges/\b.edges<=8)(ho:b.outer.length<=4294967296)(lvl:Nat)(S:Sto):Sem Go.Proofs.Tryz.prog VP lvl [.ag ((Zc b).map .tr),iI l] S (iB (dc (Xg b l))) S:=by
 refine Zb ZdZ trivial ?_
 simp only[D8,Zc,List.length_map,EVA,seval,Zl,men]
 refine⟨by rw[Zd];omega,by rw[Zd];omega,?_⟩
 refine Za (QM l 0 (b.edges+b.outer.length-1)) ?_
 simp only[EVA,seval]
 rw[Ziv]
 rfl
theorem ZcZ(b:TBigraph)(l:Int)(he:0<=b.edges/\b.edges<=8)(ho:b.outer.length<=4294967296)(lvl:Nat)(S:Sto):Sem Go.Proofs.Tryz.prog Jq lvl [.ag ((Zc b).map .tr),iI l] S (iB (dc (Xg b l))) S:=by
 refine Zb Un trivial ?_
 simp only[Qh,Zc,List.length_map,EVA,seval,Zl,men]
 refine⟨by rw[Zd];omega,by rw[Zd];omega,?_⟩
 refine Za (Vk l 0 (b.edges+b.outer.length-1)) ?_
 simp only[EVA,seval]
 rw[Ziv]
 rfl
def Zfd(sig:List TControl)(c:Int):Int:=((sig[c.toNat]?).map TControl.kind_).getD 0
def Dn(sig:List TControl)(c:Int):Int:=((sig[c.toNat]?).map TControl.ports).getD 0
def Ziw(b:TBigraph)(p:Int):Int:=((b.nodes[p.toNat]?).map TNode.control).getD 0
def W0(sig:List TControl)(b:TBigraph)(p Za9:Int):Prop:=(p<0/\-b.roots<=p)\/(0<=p/\p<Za9/\¬ Zfd sig (Ziw b p)=2)
def Zfe(sig:List TControl)(b:TBigraph)(n:Nat):Prop:=∀ i,i<n->∀ h:i<b.nodes.length,0<=b.nodes[i].control/\b.nodes[i].control<=(sig.length:Int)-1
theorem Zb7(sig:List TControl)(b:TBigraph)(p:Int)(k:Nat)(hp:QO .i64 p)(hr:0<=b.roots/\b.roots<=4)(hk:k<=b.nodes.length)(hc:Zfe sig b k)(lvl:Nat)(S:Sto):Sem Go.Proofs.Tryz.prog Y4 lvl [.tr (.sl (sig.map Zi)),.ag ((Zc b).map .tr),iI p,iI k] S (iB (dc (W0 sig b p k))) S:=by
 rw[Zd] at hp
 refine Zb ZcE trivial ?_
 simp only[Dh,Zc,EVA,seval,Zl,men]
 refine Zp (fun hneg=>?_) (fun hpos=>?_)
 ·refine⟨by rw[Zd];omega,by rw[Zd];omega,?_⟩
  refine Za (QM (-1-p) 0 (b.roots-1)) ?_
  simp only[EVA,seval]
  have hiff:(0 <= -1-p/\-1-p<=b.roots-1)↔W0 sig b p k:=⟨fun h=>.inl (by omega),fun h=>by rcases h with h | h <;> omega⟩
  rw[Ziv,JY hiff]
 ·refine Zp (fun hb=>?_) (fun hb=>?_)
  ·obtain⟨q,rfl⟩:∃ q:Nat,p=q:=⟨p.toNat,by omega⟩
   have hq:q<b.nodes.length:=by omega
   have ga:=Wd (c:=ZR) hq
   obtain⟨m1,m2⟩:=hc q (by omega) hq
   obtain⟨m,hm⟩:∃ m:Nat,b.nodes[q].control=m:=⟨b.nodes[q].control.toNat,by omega⟩
   have hms:m<sig.length:=by omega
   have gs:=Wd (c:=Zi) hms
   simp only[hb,ga,gs,ZR,Zi,hm,Int.toNat_natCast,EVA,seval]
   have e:Zfd sig (Ziw b q)=sig[m].kind_:=by simp [Zfd,Ziw,hq,hm,hms]
   have hiff:W0 sig b q k ↔ ¬ sig[m].kind_=2:=by
    constructor
    ·intro h
     rcases h with h | h
     ·omega
     ·rw[<-e];exact h.2.2
    ·intro h
     exact .inr ⟨by omega,hb,by rw[e];exact h⟩
   rw[JY hiff,Yq]
  ·rw[Zf fun h:W0 sig b p k=>by rcases h with h | h <;> omega]
theorem Za6(sig:List TControl)(b:TBigraph)(p:Int)(k:Nat)(hr:0<=b.roots/\b.roots<=4)(hk:k<=b.nodes.length)(hc:Zfe sig b k)(lvl:Nat)(S:Sto):Sem Go.Proofs.Tryz.prog Jh lvl [.ag ((Zc b).map .tr),.tr (.sl (sig.map Zi)),iI p,iI k] S (iB (dc (W0 sig b p k))) S:=by
 refine Zb Wz trivial ?_
 simp only[VU,Zc,EVA,seval]
 refine Zp (fun hneg=>?_) (fun hpos=>?_)
 ·refine⟨by rw[Zd];omega,?_⟩
  have hiff:W0 sig b p k ↔ -b.roots<=p:=⟨fun h=>by rcases h with h | h <;> omega,fun h=>.inl (by omega)⟩
  rw[JY hiff,Yq]
 ·refine Zp (fun hb=>?_) (fun hb=>?_)
  ·obtain⟨q,rfl⟩:∃ q:Nat,p=q:=⟨p.toNat,by omega⟩
   have hq:q<b.nodes.length:=by omega
   have ga:=Wd (c:=ZR) hq
   obtain⟨m1,m2⟩:=hc q (by omega) hq
   obtain⟨m,hm⟩:∃ m:Nat,b.nodes[q].control=m:=⟨b.nodes[q].control.toNat,by omega⟩
   have hms:m<sig.length:=by omega
   have gs:=Wd (c:=Zi) hms
   simp only[hb,ga,gs,ZR,Zi,hm,Int.toNat_natCast,EVA,seval]
   have e:Zfd sig (Ziw b q)=sig[m].kind_:=by simp [Zfd,Ziw,hq,hm,hms]
   have hiff:W0 sig b q k ↔ ¬ sig[m].kind_=2:=by
    constructor
    ·intro h
     rcases h with h | h
     ·omega
     ·rw[<-e];exact h.2.2
    ·intro h
     exact .inr ⟨by omega,hb,by rw[e];exact h⟩
   rw[JY hiff,Yq]
  ·rw[Zf fun h:W0 sig b p k=>by rcases h with h | h <;> omega]
structure nodeOK (sig:List TControl) (b:TBigraph) (x:TNode) (i:Nat):Prop where
 ctl:0<=x.control/\x.control<=(sig.length:Int)-1
 par:W0 sig b x.parent i
 ports:(x.links.length:Int)=Dn sig x.control
 links:∀ l∈x.links,Xg b l
theorem Zhf(sig:List TControl)(b:TBigraph)(i:Nat)(hi:i<b.nodes.length)(hn:sig.length<=4294967296)(hl:b.nodes[i].links.length<=4294967296)(hp:QO .i64 b.nodes[i].parent)(hr:0<=b.roots/\b.roots<=4)(he:0<=b.edges/\b.edges<=8)(ho:b.outer.length<=4294967296)(hc:Zfe sig b i)(lvl:Nat)(S:Sto):Sem Go.Proofs.Tryz.prog Xd lvl [.tr (.sl (sig.map Zi)),.ag ((Zc b).map .tr),iI i] S (iB (dc (nodeOK sig b b.nodes[i] i))) S:=by
 refine Zb ZdY trivial ?_
 have ga:=Wd (c:=ZR) hi
 simp only[D7,Zc,List.length_map,ga,ZR,EVA,seval,Zl,men]
 refine⟨by rw[Zd];omega,?_⟩
 refine Za (QM b.nodes[i].control 0 ((sig.length:Int)-1)) ?_
 cases h1:inB b.nodes[i].control 0 ((sig.length:Int)-1)
 ·simp only[EVA,seval]
  rw[Zf fun h:nodeOK sig b b.nodes[i] i=>inB_not.1 h1 h.ctl]
 have r1:=inB_iff.1 h1
 simp only[EVA,seval,Zl,men]
 refine Za (Zb7 sig b b.nodes[i].parent i hp hr (by omega) hc) ?_
 cases h2:dc (W0 sig b b.nodes[i].parent i)
 ·simp only[EVA,seval]
  rw[Zf fun h:nodeOK sig b b.nodes[i] i=>dc_not.1 h2 h.par]
 obtain⟨m,hm⟩:∃ m:Nat,b.nodes[i].control=m:=⟨b.nodes[i].control.toNat,by omega⟩
 have hms:m<sig.length:=by omega
 have gs:=Wd (c:=Zi) hms
 have e:Dn sig b.nodes[i].control=sig[m].ports:=by simp [Dn,hm,hms]
 simp only[hm,gs,Zi,List.length_map,EVA,seval]
 refine Zp (fun hne=>?_) (fun heq=>?_)
 ·rw[Zf fun h:nodeOK sig b b.nodes[i] i=>by have:=h.ports;rw[e] at this;exact hne this]
 refine Ji (α:=Unit) b.nodes[i].links.length (fun j _=>[(8,iI j)]) (fun j _=>[]) (fun j _=>∀ k,k<j->Xg b (g0 b.nodes[i].links k)) () (by simp only[EVA,seval]) (by (simp only[EVA,seval]) <;> rfl) (fun k hk=>absurd hk (Nat.not_lt_zero k)) ?_
 intro j _ hj hA
 simp only[List.length_map,EVA,seval]
 refine Zp (fun hlt=>?_) (fun hge=>?_)
 ·have hja:j<b.nodes[i].links.length:=by omega
  have gl:=JL hja
  simp only[gl,EVA,seval,Zl,men]
  refine Za (ZcY b (g0 b.nodes[i].links j) he ho) ?_
  cases hc:dc (Xg b (g0 b.nodes[i].links j))
  ·simp only[EVA,seval]
   rw[Zf fun h:nodeOK sig b b.nodes[i] i=>dc_not.1 hc (h.links _ (by simp [hja]))]
  ·simp only[EVA,seval]
   exact⟨by rw[Zd];omega,Ze () hja rfl (Zi6 hA (dc_iff.1 hc))⟩
 ·have hj1:j=b.nodes[i].links.length:=by omega
  subst hj1
  have:nodeOK sig b b.nodes[i] i:=⟨r1,dc_iff.1 h2,by rw[e];omega,fun l hl=>by
   obtain⟨k,hk,rfl⟩:=List.getElem_of_mem hl
   have:=hA k hk
   simpa [hk] using this⟩
  rw[ZK this]
def inn(b:TBigraph):List ByteArray:=b.inner.map TWire.name
theorem Zix(a b:List ByteArray):rS (a++b)=rS a++rS b:=List.map_append
theorem Do(b:TBigraph)(hn:b.inner.length<=4294967296)(lvl:Nat)(S:Sto):Sem Go.Proofs.Tryz.prog J3 lvl [.ag ((Zc b).map .tr)] S (.ow 1 (rS (inn b)) true) S:=by
 refine Zb ZcD trivial ?_
 simp only[Dg,Zc,EVA,seval]
 refine Ji (α:=Unit) b.inner.length (fun j _=>[(3,.hd (lvl,160) [] 0 j none j),(4,iI j)]) (fun j _=>[(160,.ar 1 (rS ((inn b).take j)) true j 0)]) (fun _ _=>True) () (by simp only[EVA,seval]) (by (simp only[EVA,seval]) <;> rfl) trivial ?_
 intro j _ hj _
 have hil:(inn b).length=b.inner.length:=by simp [inn]
 simp only[List.length_map,EVA,seval]
 refine Zp (fun hlt=>?_) (fun hge=>?_)
 ·have hja:j<b.inner.length:=by omega
  have ga:=Wd (c:=Jj) hja
  have hlN:(rS ((inn b).take j)).length=j:=by rw[List.length_map,List.length_take];omega
  simp only[ga,Jj,hlN,EVA,seval]
  have hstep:rS ((inn b).take j)++[[ts b.inner[j].name]]=rS ((inn b).take (j+1)):=by
   rw[List.take_succ_eq_append_getElem (by omega),Zix]
   simp [inn]
  refine⟨by omega,by rw[Zd];omega,Ze () hja ?_ trivial⟩
  rw[<-hstep]
  rfl
 ·have:j=b.inner.length:=by omega
  subst this
  rw[List.take_of_length_le (by omega)]
  exact⟨hil.symm,rfl⟩
end Go.Fd

/-
  A VALID BIGRAPH: THE WHOLE, BOTH SIDES. Own work.
-/
namespace Go.Fd
set_option maxRecDepth 20000
theorem XM(b:TBigraph)(hn:b.inner.length<=4294967296)(lvl:Nat)(S:Sto):Sem Go.Proofs.Tryz.prog ZI lvl [.ag ((Zc b).map .tr)] S (.ow 1 (rS (inn b)) true) S:=by
 refine Zb XJ trivial ?_
 simp only[YX,List.length_map,Zc,EVA,seval]
 refine Ji (α:=Unit) b.inner.length (fun j _=>[(3,.hd (lvl,192) [] 0 j none j),(10,iI j)]) (fun j _=>[(192,.ar 1 (rS ((inn b).take j)) true j 0)]) (fun _ _=>True) () (by simp only[EVA,seval]) (by (simp only[EVA,seval]) <;> rfl) trivial ?_
 intro j _ hj _
 have hil:(inn b).length=b.inner.length:=by simp [inn]
 simp only[List.length_map,EVA,seval]
 refine Zp (fun hlt=>?_) (fun hge=>?_)
 ·have hja:j<b.inner.length:=by omega
  have ga:=Wd (c:=Jj) hja
  have hlN:(rS ((inn b).take j)).length=j:=by rw[List.length_map,List.length_take];omega
  simp only[ga,Jj,hlN,EVA,seval]
  have hstep:rS ((inn b).take j)++[[ts b.inner[j].name]]=rS ((inn b).take (j+1)):=by
   rw[List.take_succ_eq_append_getElem (by omega),Zix]
   simp [inn]
  refine⟨by omega,by rw[Zd];omega,Ze () hja ?_ trivial⟩
  rw[<-hstep]
  rfl
 ·have:j=b.inner.length:=by omega
  subst this
  rw[List.take_of_length_le (by omega)]
  exact⟨hil.symm,rfl⟩
def ZgS(sig:List TControl)(b:TBigraph)(i:Nat):Prop:=∀ h:i<b.nodes.length,nodeOK sig b b.nodes[i] i
structure bigOK (sig:List TControl) (b:TBigraph):Prop where
 sg:Zbe sig
 roots:0<=b.roots/\b.roots<=4
 nodesL:b.nodes.length<=8
 sitesL:b.sites.length<=4
 edges:0<=b.edges/\b.edges<=8
 outer:Qy b.outer
 inn:Qy (inn b)
 nodes:∀ i,ZgS sig b i
 sites:∀ p∈b.sites,W0 sig b p b.nodes.length
 inner:∀ w∈b.inner,Xg b w.link
theorem Zd3{sig:List TControl}{b:TBigraph}{j:Nat}(h:∀ k,k<j->ZgS sig b k):Zfe sig b j:=fun i hi hl=>(h i hi hl).ctl
theorem Dp{b:TBigraph}:(inn b).length=b.inner.length:=by simp [inn]
theorem Ziy{b:TBigraph}{n:Nat}(h:∀ y∈b.inner,X4 n y):∀ y∈inn b,y.size<=n:=fun y hy=>by
 obtain⟨w,hw,rfl⟩:=List.mem_map.1 hy
 exact h w hw
theorem Zc0(sig:List TControl)(b:TBigraph)(hn:sig.length<=4294967296)(hbs:∀ y∈sig,ZA 4294967296 y)(hb:Zv 4294967296 b)(hf:ZG b)(lvl:Nat)(S:Sto):Sem Go.Proofs.Tryz.prog VH lvl [.tr (.sl (sig.map Zi)),.ag ((Zc b).map .tr)] S (iB (dc (bigOK sig b))) S:=by
 obtain⟨b1,b2,b3,b4,b5,b6,b7⟩:=hb
 obtain⟨f1,f2,f3,f4,f5⟩:=hf
 refine Zb ZdS trivial ?_
 simp only[DU,Zc,EVA,seval,Zl,men]
 refine Za (Zit sig (by omega) (fun y hy=>Zb5 (hbs y hy))) ?_
 cases h1:dc (Zbe sig)
 ·simp only[EVA,seval]
  rw[Zf fun h:bigOK sig b=>dc_not.1 h1 h.sg]
 simp only[EVA,seval,Zl,men]
 refine Za (QM b.roots 0 4) ?_
 cases h2:inB b.roots 0 4
 ·simp only[EVA,seval]
  rw[Zf fun h:bigOK sig b=>inB_not.1 h2 h.roots]
 by_cases h3:(8:Int)<b.nodes.length
 ·simp only[h3,List.length_map,EVA,seval]
  rw[Zf fun h:bigOK sig b=>by have:=h.nodesL;omega]
 by_cases h4:(4:Int)<b.sites.length
 ·simp only[h3,h4,List.length_map,EVA,seval]
  rw[Zf fun h:bigOK sig b=>by have:=h.sitesL;omega]
 simp only[h3,h4,List.length_map,EVA,seval,Zl,men]
 refine Za (QM b.edges 0 8) ?_
 cases h5:inB b.edges 0 8
 ·simp only[EVA,seval]
  rw[Zf fun h:bigOK sig b=>inB_not.1 h5 h.edges]
 have r2:=inB_iff.1 h2
 have r5:=inB_iff.1 h5
 simp only[EVA,seval,Zl,men]
 refine Za (Zb6 b.outer (by assumption) (by assumption)) ?_
 cases h6:dc (Qy b.outer)
 ·simp only[EVA,seval]
  rw[Zf fun h:bigOK sig b=>dc_not.1 h6 h.outer]
 by_cases h7:(16:Int)<b.inner.length
 ·simp only[h7,List.length_map,EVA,seval]
  rw[Zf fun h:bigOK sig b=>by have:=h.inn.2;rw[Dp] at this;omega]
 simp only[h7,List.length_map,EVA,seval,Zl,men]
 refine Za (Do b (by omega)) ?_
 simp only[EVA,seval,Zl,men]
 refine Za (Zb6 (inn b) (by rw[Dp];omega) (Ziy (by assumption))) ?_
 cases h8:dc (Qy (inn b))
 ·simp only[EVA,seval]
  rw[Zf fun h:bigOK sig b=>dc_not.1 h8 h.inn]
 simp only[EVA,seval]
 have ho:=(dc_iff.1 h6).2
 refine Ji (α:=Unit) b.nodes.length (fun j _=>[(5,iI j)]) (fun j _=>[]) (fun j _=>∀ k,k<j->ZgS sig b k) () (by simp only[EVA,seval]) (by (simp only[EVA,seval]) <;> rfl) (fun k hk=>absurd hk (Nat.not_lt_zero k)) ?_
 intro j _ hj hA
 simp only[List.length_map,EVA,seval,Zl,men]
 refine Zp (fun hlt=>?_) (fun hge=>?_)
 ·have hja:j<b.nodes.length:=by omega
  have hm:=List.getElem_mem hja
  refine Za (Zhf sig b j hja hn (by first | exact(b2 _ hm) | exact(b3 _ hm)) (by first | exact(f1 _ hm).2.1 | exact(f2 _ hm).2.1) r2 r5 (by omega) (Zd3 hA)) ?_
  cases hc:dc (nodeOK sig b b.nodes[j] j)
  ·simp only[EVA,seval]
   rw[Zf fun h:bigOK sig b=>dc_not.1 hc (h.nodes j hja)]
  ·simp only[EVA,seval]
   exact⟨by rw[Zd];omega,Ze () hja rfl (Zi6 hA fun _=>dc_iff.1 hc)⟩
 have hj1:j=b.nodes.length:=by omega
 subst hj1
 refine Ji (α:=Unit) b.sites.length (fun j _=>[(6,iI j)]) (fun j _=>[]) (fun j _=>∀ k,k<j->W0 sig b (g0 b.sites k) b.nodes.length) () (by simp only[EVA,seval]) (by (simp only[EVA,seval]) <;> rfl) (fun k hk=>absurd hk (Nat.not_lt_zero k)) ?_
 intro j _ hj hB
 simp only[List.length_map,EVA,seval]
 refine Zp (fun hlt=>?_) (fun hge=>?_)
 ·have hja:j<b.sites.length:=by omega
  have ga:=JL hja
  have hg:g0 b.sites j∈b.sites:=by simp [hja]
  simp only[ga,List.length_map,EVA,seval,Zl,men]
  refine Za (Zb7 sig b (g0 b.sites j) b.nodes.length (by first | exact f3 _ hg | exact f2 _ hg | exact f4 _ hg) r2 (Nat.le_refl _) (Zd3 hA)) ?_
  cases hc:dc (W0 sig b (g0 b.sites j) b.nodes.length)
  ·simp only[EVA,seval]
   rw[Zf fun h:bigOK sig b=>dc_not.1 hc (h.sites _ hg)]
  ·simp only[EVA,seval]
   exact⟨by rw[Zd];omega,Ze () hja rfl (Zi6 hB (dc_iff.1 hc))⟩
 have hj1:j=b.sites.length:=by omega
 subst hj1
 refine Ji (α:=Unit) b.inner.length (fun j _=>[(7,iI j)]) (fun j _=>[]) (fun j _=>∀ k,k<j->∀ h:k<b.inner.length,Xg b b.inner[k].link) () (by simp only[EVA,seval]) (by (simp only[EVA,seval]) <;> rfl) (fun k hk=>absurd hk (Nat.not_lt_zero k)) ?_
 intro j _ hj hC
 simp only[List.length_map,EVA,seval]
 refine Zp (fun hlt=>?_) (fun hge=>?_)
 ·have hja:j<b.inner.length:=by omega
  have ga:=Wd (c:=Jj) hja
  simp only[ga,Jj,EVA,seval,Zl,men]
  refine Za (ZcY b b.inner[j].link r5 (by omega)) ?_
  cases hc:dc (Xg b b.inner[j].link)
  ·simp only[EVA,seval]
   rw[Zf fun h:bigOK sig b=>dc_not.1 hc (h.inner _ (List.getElem_mem hja))]
  ·simp only[EVA,seval]
   exact⟨by rw[Zd];omega,Ze () hja rfl (Zi6 hC fun _=>dc_iff.1 hc)⟩
 have hj1:j=b.inner.length:=by omega
 subst hj1
 have:bigOK sig b:=⟨dc_iff.1 h1,r2,by omega,by omega,r5,dc_iff.1 h6,dc_iff.1 h8,fun i h=>hA i h h,fun p hp=>by
  obtain⟨k,hk,rfl⟩:=List.getElem_of_mem hp
  have:=hB k hk
  simpa [hk] using this,fun w hw=>by
  obtain⟨k,hk,rfl⟩:=List.getElem_of_mem hw
  exact hC k hk hk⟩
 rw[ZK this]
theorem Zb8(l:Int)(b:TBigraph)(he:0<=b.edges/\b.edges<=8)(ho:b.outer.length<=4294967296)(lvl:Nat)(S:Sto):Sem Go.Proofs.Tryz.prog YK lvl [iI l,.ta (Zc b)] S (iB (!dc (Xg b l))) S:=by
 refine Zb Zaa trivial ?_
 simp only[Xv,Zc,EVA,seval,Zl,men]
 refine Za (ZcZ b l he ho) ?_
 simp only[EVA,seval]
theorem Zb9(p:Int)(sig:List TControl)(b:TBigraph)(hr:0<=b.roots/\b.roots<=4)(hc:Zfe sig b b.nodes.length)(lvl:Nat)(S:Sto):Sem Go.Proofs.Tryz.prog YL lvl [iI p,.ta (Zc b),.ta [Tr.sl (sig.map Zi)]] S (iB (!dc (W0 sig b p b.nodes.length))) S:=by
 refine Zb Zab trivial ?_
 simp only[Xw,Zc,List.length_map,EVA,seval,Zl,men]
 refine Za (Za6 sig b p b.nodes.length hr (Nat.le_refl _) hc) ?_
 simp only[EVA,seval]
theorem Zca(w:TWire)(b:TBigraph)(he:0<=b.edges/\b.edges<=8)(ho:b.outer.length<=4294967296)(lvl:Nat)(S:Sto):Sem Go.Proofs.Tryz.prog YM lvl [.ag ((Jj w).map .tr),.ta (Zc b)] S (iB (!dc (Xg b w.link))) S:=by
 refine Zb Zac trivial ?_
 simp only[Xx,Zc,Jj,EVA,seval,Zl,men]
 refine Za (ZcZ b w.link he ho) ?_
 simp only[EVA,seval]
theorem ZpF:ZS Go.Proofs.Tryz.prog Jf (ZjT 2 (some 2))=true:=by kernel_rfl
theorem ZpG:ZS Go.Proofs.Tryz.prog Ja (Zmn Jf)=true:=by kernel_rfl
theorem any_no{α:Type}{l:List α}{p:α->Prop}:(l.any fun n=>!dc (p n))=false↔∀ n∈l,p n:=by
 simp only[List.any_eq_false,Bool.not_eq_true',Bool.not_eq_false,dc_iff]
theorem Xy(sig:List TControl)(b:TBigraph)(hn:sig.length<=4294967296)(hbs:∀ y∈sig,ZA 4294967296 y)(hb:Zv 4294967296 b)(lvl:Nat)(S:Sto):Sem Go.Proofs.Tryz.prog Yi lvl [.tr (.sl (sig.map Zi)),.ag ((Zc b).map .tr)] S (iB (dc (bigOK sig b))) S:=by
 obtain⟨b1,b2,b3,b4,b5,b6,b7⟩:=hb
 refine Zb Zba trivial ?_
 simp only[WL,Zc,EVA,seval,Zl,men]
 refine Za (U7 sig (by omega) (fun y hy=>Zb5 (hbs y hy))) ?_
 cases h1:dc (Zbe sig)
 ·simp only[EVA,seval]
  rw[Zf fun h:bigOK sig b=>dc_not.1 h1 h.sg]
 simp only[EVA,seval,Zl,men]
 refine Za (Vk b.roots 0 4) ?_
 cases h2:inB b.roots 0 4
 ·simp only[EVA,seval]
  rw[Zf fun h:bigOK sig b=>inB_not.1 h2 h.roots]
 by_cases h3:(8:Int)<b.nodes.length
 ·simp only[h3,List.length_map,EVA,seval]
  rw[Zf fun h:bigOK sig b=>by have:=h.nodesL;omega]
 by_cases h4:(4:Int)<b.sites.length
 ·simp only[h3,h4,List.length_map,EVA,seval]
  rw[Zf fun h:bigOK sig b=>by have:=h.sitesL;omega]
 simp only[h3,h4,List.length_map,EVA,seval,Zl,men]
 refine Za (Vk b.edges 0 8) ?_
 cases h5:inB b.edges 0 8
 ·simp only[EVA,seval]
  rw[Zf fun h:bigOK sig b=>inB_not.1 h5 h.edges]
 have r2:=inB_iff.1 h2
 have r5:=inB_iff.1 h5
 simp only[EVA,seval,Zl,men]
 refine Za (Za5 b.outer (by assumption) (by assumption)) ?_
 cases h6:dc (Qy b.outer)
 ·simp only[EVA,seval]
  rw[Zf fun h:bigOK sig b=>dc_not.1 h6 h.outer]
 simp only[EVA,seval,Zl,men]
 refine Za (XM b (by omega)) ?_
 simp only[EVA,seval,Zl,men]
 refine Za (Za5 (inn b) (by rw[Dp];omega) (Ziy (by assumption))) ?_
 cases h8:dc (Qy (inn b))
 ·simp only[EVA,seval]
  rw[Zf fun h:bigOK sig b=>dc_not.1 h8 h.inn]
 simp only[List.length_map,EVA,seval]
 have ho:=(dc_iff.1 h6).2
 refine Ji (α:=Unit) b.nodes.length (fun j _=>[(49,iI j)]) (fun j _=>[]) (fun j _=>∀ k,k<j->ZgS sig b k) () (by simp only[EVA,seval]) (by (simp only[EVA,seval]) <;> rfl) (fun k hk=>absurd hk (Nat.not_lt_zero k)) ?_
 intro j _ hj hA
 simp only[EVA,seval,Zl,men]
 refine Zp (fun hlt=>?_) (fun hge=>?_)
 ·have hja:j<b.nodes.length:=by omega
  have hm:=List.getElem_mem hja
  have ga:=Wd (c:=ZR) hja
  have hll:b.nodes[j].links.length<=4294967296:=by first | exact(b2 _ hm) | exact(b3 _ hm)
  have hno:¬ nodeOK sig b b.nodes[j] j->dc (bigOK sig b)=false:=fun h=>Zf fun g=>h (g.nodes j hja)
  simp only[ga,ZR,List.length_map,EVA,seval,Zl,men]
  refine⟨by rw[Zd];omega,?_⟩
  refine Za (Vk b.nodes[j].control 0 ((sig.length:Int)-1)) ?_
  cases p1:inB b.nodes[j].control 0 ((sig.length:Int)-1)
  ·simp only[EVA,seval]
   rw[hno fun h=>inB_not.1 p1 h.ctl]
  have q1:=inB_iff.1 p1
  simp only[EVA,seval,Zl,men]
  refine Za (Za6 sig b b.nodes[j].parent j r2 (by omega) (Zd3 hA)) ?_
  cases p2:dc (W0 sig b b.nodes[j].parent j)
  ·simp only[EVA,seval]
   rw[hno fun h=>dc_not.1 p2 h.par]
  obtain⟨m,hmm⟩:∃ m:Nat,b.nodes[j].control=m:=⟨b.nodes[j].control.toNat,by omega⟩
  have hms:m<sig.length:=by omega
  have gs:=Wd (c:=Zi) hms
  have e:Dn sig b.nodes[j].control=sig[m].ports:=by simp [Dn,hmm,hms]
  by_cases p3:(b.nodes[j].links.length:Int)=sig[m].ports
  case neg =>
   simp only[p3,hmm,gs,Int.toNat_natCast,Zi,List.length_map,EVA,seval]
   rw[hno fun h=>p3 (by rw[<-e];exact h.ports)]
  simp only[p3,hmm,gs,Int.toNat_natCast,Zi,List.length_map,EVA,seval,Zl,men]
  refine Za (ZgP (t:=tv) (cs:=[Zc b]) ZkR ZkQ b.nodes[j].links (by omega) (fun x _ lvl S=>Zb8 x b r5 (by omega) lvl S)) ?_
  cases p4:b.nodes[j].links.any fun l=>!dc (Xg b l)
  ·simp only[EVA,seval]
   exact⟨by rw[Zd];omega,Ze () hja rfl (Zi6 hA fun _=>⟨q1,dc_iff.1 p2,by rw[e];exact p3,any_no.1 p4⟩)⟩
  ·simp only[EVA,seval]
   rw[hno fun h=>by rw[any_no.2 h.links] at p4;cases p4]
 have hj1:j=b.nodes.length:=by omega
 subst hj1
 refine Za (ZgP (t:=tv) (cs:=[Zc b,[Tr.sl (sig.map Zi)]]) ZkR ZkQ b.sites (by omega) (fun x _ lvl S=>Zb9 x sig b r2 (Zd3 hA) lvl S)) ?_
 cases h9:b.sites.any fun p=>!dc (W0 sig b p b.nodes.length)
 case true =>
  simp only[EVA,seval]
  rw[Zf fun h:bigOK sig b=>by rw[any_no.2 h.sites] at h9;cases h9]
 simp only[EVA,seval,Zl,men]
 refine Za (ZgQ (cs:=[Zc b]) ZpG ZpF (fun x=>rfl) b.inner (by omega) (fun x _ lvl S=>Zca x b r5 (by omega) lvl S)) ?_
 cases h10:b.inner.any fun w=>!dc (Xg b w.link)
 case true =>
  simp only[EVA,seval]
  rw[Zf fun h:bigOK sig b=>by rw[(any_no (p:=fun w:TWire=>Xg b w.link)).2 h.inner] at h10;cases h10]
 simp only[EVA,seval]
 have:bigOK sig b:=⟨dc_iff.1 h1,r2,by omega,by omega,r5,dc_iff.1 h6,dc_iff.1 h8,fun i h=>hA i h h,any_no.1 h9,any_no.1 h10⟩
 rw[ZK this]
end Go.Fd

/-
  LISTS IN ORDER, OF ANY KIND: SORTED, EACH ONCE; CALLS THAT CHANGE ONE OBJECT. Own work.
-/
namespace Go.Fd
set_option maxRecDepth 20000
theorem Zd4{C:Zg}{env:List (Nat×IV)}{loc:List (Nat×Ob)}{out:Sto}{d:Option Nat}{K:St->Prop}{fid:FuncId}{imp:Bool}{lvl:Nat}{args:List IV}{r:IV}(key:Nat)(o:Ob)(h:C fid (lvl+1) args (Zu lvl loc out) r (ZF (Zu lvl loc out) (lvl,key) o))
  (hk:freshK (keyOf d) (ptO key o loc) (impv imp lvl (keyOf d) 0 r).2.length/\K ⟨lvl,ptd d (impv imp lvl (keyOf d) 0 r).1 env,addO (keyOf d) (impv imp lvl (keyOf d) 0 r).2 (ptO key o loc),out⟩):kcy C fid imp lvl env loc out d K args :=
 Vv (ptO key o loc) out (fun _ _=>rfl) (by rw[Q4];exact h) hk
section
variable {α:Type} {e0:α} {lt:α->α->Prop}
def gx(e0:α)(l:List α)(i:Nat):α:=l.getD i e0
end
structure Ords {α:Type} (lt:α->α->Prop):Prop where
 irr:∀ a,¬ lt a a
 tr:∀ a b c,lt a b->lt b c->lt a c
 tri:∀ a b,lt a b\/a=b\/lt b a
theorem Ords.asym{α:Type}{lt:α->α->Prop}(O:Ords lt)(a b:α)(h:lt a b):¬ lt b a:=fun g=>O.irr a (O.tr _ _ _ h g)
section
variable {α:Type} {e0:α} {lt:α->α->Prop}
theorem Zd5(O:Ords lt):∀{x y:List α},x.Pairwise (fun a b=>¬ lt b a)->y.Pairwise (fun a b=>¬ lt b a)->x.Perm y->x=y
 | [],y,_,_,h=>by rw[List.nil_perm.1 h]
 | a::r,[],_,_,h=>by have:=h.length_eq;simp at this
 | a::r,b::s,hx,hy,h=>by
  rw[List.pairwise_cons] at hx hy
  have e:a=b:=by
   rcases List.mem_cons.1 (h.mem_iff.1 (List.mem_cons_self (a:=a) (l:=r))) with e | h1
   ·exact e
   ·rcases List.mem_cons.1 (h.mem_iff.2 (List.mem_cons_self (a:=b) (l:=s))) with e | h2
    ·exact e.symm
    ·rcases O.tri a b with g | g | g
     ·exact absurd g (hy.1 a h1)
     ·exact g
     ·exact absurd g (hx.1 b h2)
  subst e
  congr 1
  exact Zd5 O hx.2 hy.2 h.cons_inv
noncomputable def ZkT(lt:α->α->Prop)(l:List α):List α:=l.mergeSort fun a b=>@decide (¬ lt b a) (Classical.propDecidable _)
theorem srtG_perm{l:List α}:(ZkT lt l).Perm l:=List.mergeSort_perm ..
theorem ZfY(O:Ords lt){l:List α}:(ZkT lt l).Pairwise (fun a b=>¬ lt b a):=by
 classical
 have h:=List.pairwise_mergeSort (le:=fun a b=>@decide (¬ lt b a) (Classical.propDecidable _)) (fun a b c h1 h2=>by
  simp only[decide_eq_true_eq] at *
  intro g
  rcases O.tri a b with k | k | k
  ·exact h2 (O.tr _ _ _ g k)
  ·subst k;exact h2 g
  ·exact h1 k) (fun a b=>by
  simp only[Bool.or_eq_true,decide_eq_true_eq]
  by_cases g:lt b a
  ·exact .inr (O.asym _ _ g)
  ·exact .inl g) l
 exact h.imp (fun h=>by simpa using h)
end
end Go.Fd

/-
  SORTING A FEW STRINGS: slices.Sort, slices.Compact ON ANOTHER'S ROW. Own work.
-/
namespace Go.Fd
set_option maxRecDepth 20000
theorem Ziz{v:Int}(h0:0<=v)(h:v<=12):∃ r:Int,∀(lvl:Nat) (S:Sto),Sem Go.Proofs.Tryz.prog Ve lvl [.tr (.v (.int .u64 v))] S (iI r) S:=by
 have:v=0\/v=1\/v=2\/v=3\/v=4\/v=5\/v=6\/v=7\/v=8\/v=9\/v=10\/v=11\/v=12:=by omega
 rcases this with rfl | rfl | rfl | rfl | rfl | rfl | rfl | rfl | rfl | rfl | rfl | rfl | rfl
 ·refine⟨0,fun lvl S=>Zb Zz trivial ?_⟩
  simp only[Zw,EVA,seval]
  simp [QO,IntKind.min,IntKind.max,IntKind.signed,IntKind.bits]
 ·refine⟨1,fun lvl S=>Zb Zz trivial ?_⟩
  simp only[Zw,EVA,seval]
  simp [QO,IntKind.min,IntKind.max,IntKind.signed,IntKind.bits]
 ·refine⟨2,fun lvl S=>Zb Zz trivial ?_⟩
  simp only[Zw,EVA,seval]
  simp [QO,IntKind.min,IntKind.max,IntKind.signed,IntKind.bits]
 ·refine⟨2,fun lvl S=>Zb Zz trivial ?_⟩
  simp only[Zw,EVA,seval]
  simp [QO,IntKind.min,IntKind.max,IntKind.signed,IntKind.bits]
 ·refine⟨3,fun lvl S=>Zb Zz trivial ?_⟩
  simp only[Zw,EVA,seval]
  simp [QO,IntKind.min,IntKind.max,IntKind.signed,IntKind.bits]
 ·refine⟨3,fun lvl S=>Zb Zz trivial ?_⟩
  simp only[Zw,EVA,seval]
  simp [QO,IntKind.min,IntKind.max,IntKind.signed,IntKind.bits]
 ·refine⟨3,fun lvl S=>Zb Zz trivial ?_⟩
  simp only[Zw,EVA,seval]
  simp [QO,IntKind.min,IntKind.max,IntKind.signed,IntKind.bits]
 ·refine⟨3,fun lvl S=>Zb Zz trivial ?_⟩
  simp only[Zw,EVA,seval]
  simp [QO,IntKind.min,IntKind.max,IntKind.signed,IntKind.bits]
 ·refine⟨4,fun lvl S=>Zb Zz trivial ?_⟩
  simp only[Zw,EVA,seval]
  simp [QO,IntKind.min,IntKind.max,IntKind.signed,IntKind.bits]
 ·refine⟨4,fun lvl S=>Zb Zz trivial ?_⟩
  simp only[Zw,EVA,seval]
  simp [QO,IntKind.min,IntKind.max,IntKind.signed,IntKind.bits]
 ·refine⟨4,fun lvl S=>Zb Zz trivial ?_⟩
  simp only[Zw,EVA,seval]
  simp [QO,IntKind.min,IntKind.max,IntKind.signed,IntKind.bits]
 ·refine⟨4,fun lvl S=>Zb Zz trivial ?_⟩
  simp only[Zw,EVA,seval]
  simp [QO,IntKind.min,IntKind.max,IntKind.signed,IntKind.bits]
 ·refine⟨4,fun lvl S=>Zb Zz trivial ?_⟩
  simp only[Zw,EVA,seval]
  simp [QO,IntKind.min,IntKind.max,IntKind.signed,IntKind.bits]
theorem Zmt{v:Int}(h0:0<=v)(h:v<=12):∃ r:Int,∀(lvl:Nat) (S:Sto),Sem Go.Proofs.Tryz.prog V4 lvl [.tr (.v (.int .u64 v))] S (iI r) S:=by
 obtain⟨r,hr⟩:=Ziz h0 h
 refine⟨r,fun lvl S=>Zb Zb2 trivial ?_⟩
 simp only[Uq,EVA,seval,Zl,men]
 refine Za hr ?_
 simp only[EVA,seval]
end Go.Fd

/-
  FOUNDATION 55: a function of the library that orders a row of scalars in place, by the guide's contract. Own work.
-/
namespace Go.Fd
open Go.Sort
section
variable {P:Program} {α:Type} [Inhabited α] {enc:α->Value}
abbrev ZkU(enc:α->Value)(l:List α):Row:=l.map fun x=>[.v (enc x)]
theorem Zad{l:List α}{p:Pth}{es2:Row}(hp:p≠[]):getp (ZkU enc l) p≠some es2:=fun h=>by
 cases p with
 | nil=>exact hp rfl
 | cons cd q =>
  obtain⟨c,d⟩:=cd
  obtain⟨e,x,h1,h2,_⟩:=Jt h
  obtain⟨n,_,rfl⟩:=List.mem_map.1 (List.mem_of_getElem? h1)
  have:=List.mem_of_getElem? h2
  simp at this
theorem ZfZ{l:List α}:UnR 1 (ZkU enc l):=ZfS (fun x=>[.v (enc x)]) (fun _=>rfl) l
theorem Zd6{d:Array α}{off:Nat}{c:Array Value}:(putCells enc off d c).size=c.size:=by simp [putCells]
theorem Zff{d:List α}{c:Array Value}{i:Nat}(h:i<d.length)(hc:i<c.size):(putCells enc 0 d.toArray c)[i]? = some (enc d[i]):=by
 simp [putCells,hc,h]
theorem Zfg{f:FuncId}{lvl:Nat}{S:Sto}{id:Oid}{xs ys:List α}{u:Bool}{hw ver:Nat}(hc:UK P f)(hid:id.1<lvl)(hS:S id=some (.ar 1 (ZkU enc xs) u hw ver))
  (hsc:∀ x:α,WX (enc x)=true) (hl:ys.length=xs.length)
  (h0:xs=[]->∀(a:Option Addr) (cap:Nat) (w:World),Calls P f #[.slice a 0 cap] w fun e w' => e = .returned (.tuple #[])/\∃ n,w'=Sort.ahead w n)
  (h1:xs≠[]->∀(b cap:Nat) (w:World),Holds enc w b 0 xs.toArray->b<w.heap.size->Calls P f #[.slice (some ⟨b,0,none⟩) xs.length cap] w fun e w' => e = .returned (.tuple #[])/\∃ n os,w'=grow (putRow enc (Sort.ahead w n) b 0 ys.toArray) os) :
  Sem P f lvl [.hd id [] 0 xs.length none hw] S (.tu []) (ZF S id (.ar 1 (ZkU enc ys) u hw ver)):=by
 refine⟨trivial,hc,fun hlow G w vs hok hv=>?_⟩
 simp only[VRs] at hv
 obtain⟨v,vr,rfl,hv,rfl⟩:=hv
 simp only[VR] at hv
 obtain⟨⟨a0,c0,hv0,hlc0⟩,k2,es2,u2,hw2,ver2,hs2,_,hrel⟩:=hv
 rw[hS] at hs2;cases hs2
 obtain⟨es3,k',a,c,hg3,hk,hun,rfl,hlc,hcap,hcap2,hor⟩:=hrel rfl
 cases hg3
 have hk1:=hk rfl
 subst hk1
 by_cases hx:xs=[]
 ·subst hx
  have hy:ys=[]:=List.length_eq_zero_iff.1 (by simpa using hl)
  subst hy
  rw[X2 hS]
  refine(h0 rfl a c w).mono ?_
  rintro e w' ⟨rfl,n,rfl⟩
  have e:Ext w (Sort.ahead w n):=⟨Nat.le_refl _,fun _ _=>rfl,rfl,rfl,rfl⟩
  exact⟨_,G,rfl,hok.ext e,by simp [impv,impvs,VR,VRs],hlow,Frm.of_ext e⟩
 ·have hpos:0<xs.length:=List.length_pos_iff.2 hx
  rcases hor with hz | ⟨hz,_⟩ | ⟨b,cc,hG,rfl,hoc⟩
  ·omega
  ·exact absurd rfl hz
  ·obtain⟨o1,o2,o3,o4,o5⟩:=hok.obs _ _ hS
   have hr:=o4 [] _ (.inl rfl) rfl
   unfold QA at hr
   rw[hG] at hr
   obtain⟨k3,cells,ty,g1,g2,g3,g4,g5,g6⟩:=hr
   have hk3:=g1 rfl
   subst hk3
   have hbs:b<w.heap.size:=by
    rcases Nat.lt_or_ge b w.heap.size with h | h
    ·exact h
    ·rw[Array.getElem?_eq_none h] at g3;cases g3
   have hH:Holds enc w b 0 xs.toArray:=fun j hj=>by
    have hj:j<xs.length:=by simpa using hj
    obtain⟨x,hx1,hx2⟩:=g6 j [.v (enc xs[j])] 0 (.v (enc xs[j])) (by simp [hj]) rfl
    simp only[JO] at hx2
    obtain⟨rfl,_⟩:=hx2
    refine⟨?_,by simp [World.frozen?,g3]⟩
    have:(xs.toArray)[j]! = xs[j]:=by simp [hj]
    rw[this,cell_of_row w b (0+j) cells ty (0,0) g3]
    simpa using hx1
   refine(h1 hx b c w hH hbs).mono ?_
   rintro e w' ⟨rfl,n,os,rfl⟩
   have hsz:w.heap.size<=(grow (putRow enc (Sort.ahead w n) b 0 ys.toArray) os).heap.size:=by simp [grow,putRow,mapBlock,Sort.ahead]
   have hheap:∀ b2,b2<w.heap.size->b2≠b->(grow (putRow enc (Sort.ahead w n) b 0 ys.toArray) os).heap[b2]? = w.heap[b2]?:=fun b2 h2 hne=>by
    simp only[grow,putRow,mapBlock,Sort.ahead]
    rw[Array.getElem?_append_left (by simpa using h2),Array.getElem?_modify,if_neg (fun e=>hne e.symm)]
   have hrow:(grow (putRow enc (Sort.ahead w n) b 0 ys.toArray) os).heap[b]? = some (.cells (putCells enc 0 ys.toArray cells) ty (0,0)):=by
    simp only[grow,putRow,mapBlock,Sort.ahead]
    rw[Array.getElem?_append_left (by simpa using hbs),Array.getElem?_modify,if_pos rfl,g3]
    rfl
   have hown:∀ ob b2,ob=(.ar 1 (ZkU enc ys) u hw ver:Ob)->YE G id ob b2->b2=b:=fun ob b2 ho h=>by
    subst ho
    obtain⟨p,c2,hp,hq,hg⟩:=h
    by_cases hp0:p=[]
    ·subst hp0
     rw[hG] at hg
     cases hg
     rfl
    ·obtain⟨e2,he2⟩:=Option.isSome_iff_exists.1 hq
     exact absurd he2 (Zad hp0)
   have hbown:YE G id (.ar 1 (ZkU enc xs) u hw ver) b:=⟨[],cc,.inl rfl,rfl,hG⟩
   have t:Trn G G S (ZF S id (.ar 1 (ZkU enc ys) u hw ver)) w (grow (putRow enc (Sort.ahead w n) b 0 ys.toArray) os) (· = id) (fun _=>False):=by
    refine⟨fun _ _=>rfl,fun i ob hi _ hs=>⟨ob,by unfold ZF;rw[if_neg hi];exact hs,Wk.refl ob⟩,fun i ob hi hs=>⟨fun h=>h,ob,by unfold ZF at hs;rw[if_neg hi] at hs;exact hs,Wk.refl ob⟩,hsz,fun b2 h2 hn=>hheap b2 h2 fun e=>hn id _ rfl hS (e ▸ hbown),fun i ob b2 hi hs ho=>?_,fun i ob hi _ hs=>?_⟩
    ·subst hi
     unfold ZF at hs;rw[if_pos rfl] at hs;cases hs
     have:=hown _ b2 rfl ho
     subst this
     exact .inl ⟨i,_,.inl rfl,hS,hbown⟩
    ·subst hi
     rw[hS] at hs;cases hs
     refine⟨.ar 1 (ZkU enc ys) u hw ver,by unfold ZF;rw[if_pos rfl],rfl,Nat.le_refl _,Nat.le_refl _,fun p st _ hst=>⟨hst,fun es' he=>?_⟩⟩
     by_cases hp0:p=[]
     ·subst hp0
      exact⟨rfl,_,rfl,fun k' hkk _=>by rw[hkk rfl];exact ZfZ⟩
     ·exact absurd he (Zad hp0)
   refine⟨_,G,rfl,t.ok hok (fun i ob hi hs=>?_) (fun i ob j ob' b hi hj _ _ _ _=>hi.trans hj.symm) (fun i cells hi hs=>?_),by simp [impv,impvs,VR,VRs],fun i ob hs=>?_,t.frm (fun _ h=>h.elim) rfl rfl rfl⟩
   ·subst hi
    simp only[impv,impvs,Vb,ZF,if_true] at hs;cases hs
    refine⟨by rw[List.length_map] at *;omega,ZfZ,o3,fun p es2 hp he=>?_,fun p p' b1 c1 c2 hp hp' g1 g2 g3 g4=>?_⟩
    ·by_cases hp0:p=[]
     ·subst hp0
      cases he
      unfold QA
      rw[hG]
      refine⟨1,_,ty,fun _=>rfl,ZfZ,hrow,by rw[Zd6];exact g4,by rw[List.length_map] at *;omega,fun i e f t hi hf=>?_⟩
      rw[List.getElem?_map] at hi
      obtain⟨y,hy,rfl⟩:=Option.map_eq_some_iff.1 hi
      obtain⟨hil,hyy⟩:=List.getElem?_eq_some_iff.1 hy
      have hf0:f=0/\t = .v (enc y):=by
       cases f with
       | zero=>simp at hf;exact⟨rfl,hf.symm⟩
       | succ f=>simp at hf
      obtain⟨rfl,rfl⟩:=hf0
      refine⟨enc y,?_,rfl,hsc y⟩
      rw[List.length_map] at g5
      rw[show i*1+0=i from by omega,Zff hil (by omega),hyy]
     ·exact absurd he (Zad hp0)
    ·by_cases hp0:p=[]
     ·by_cases hp1:p'=[]
      ·rw[hp0,hp1]
      ·obtain⟨e2,he2⟩:=Option.isSome_iff_exists.1 g2
       exact absurd he2 (Zad hp1)
     ·obtain⟨e2,he2⟩:=Option.isSome_iff_exists.1 g1
      exact absurd he2 (Zad hp0)
   ·subst hi
    simp only[impv,impvs,Vb,ZF,if_true] at hs;cases hs
   ·simp only[ZF] at hs
    split at hs
    ·rename_i h;rw[h];exact hid
    ·exact hlow i ob hs
end
end Go.Fd

/-
  SORTING STRINGS, ANY NUMBER OF THEM, BY THE GUIDE'S CONTRACT. Own work.
-/
namespace Go.Fd
set_option maxRecDepth 20000
end Go.Fd

/-
  CHILDREN, POINTS, REDEXES, BOTH SIDES. Own work.
-/
namespace Go.Fd
set_option maxRecDepth 20000
def cP2(x:Int×Int):List Tr:=[tv x.1,tv x.2]
def Zfh(l:Int)(i:Nat)(ls:List Int):Nat->List (Int×Int)
 | 0=>[]
 | k+1=>if g0 ls k=l then Zfh l i ls k++[((i:Int),(k:Int))] else Zfh l i ls k
theorem Zf0{l:Int}{i:Nat}{ls:List Int}:∀{k:Nat},(Zfh l i ls k).length<=k
 | 0=>Nat.le_refl 0
 | k+1=>by
  unfold Zfh
  have:=Zf0 (l:=l) (i:=i) (ls:=ls) (k:=k)
  split
  ·rw[List.length_append,List.length_singleton];omega
  ·omega
theorem Zj0{l:Int}{i:Nat}{ls:List Int}{k:Nat}(h:g0 ls k=l):Zfh l i ls (k+1)=Zfh l i ls k++[((i:Int),(k:Int))]:=by rw[Zfh,if_pos h]
theorem ZiA{l:Int}{i:Nat}{ls:List Int}{k:Nat}(h:¬ g0 ls k=l):Zfh l i ls (k+1)=Zfh l i ls k:=by rw[Zfh,if_neg h]
def ZaJ(b:TBigraph)(j:Nat):List Int:=((b.nodes[j]?).map TNode.links).getD []
theorem ZaK{b:TBigraph}{j:Nat}(h:j<b.nodes.length):ZaJ b j=b.nodes[j].links:=by simp [ZaJ,h]
def QI(b:TBigraph)(l:Int):Nat->List (Int×Int)
 | 0=>[]
 | i+1=>QI b l i++Zfh l i (ZaJ b i) (ZaJ b i).length
def ports(b:TBigraph)(l:Int):List (Int×Int):=QI b l b.nodes.length
theorem Zcb{b:TBigraph}{l:Int}(h:∀ x∈b.nodes,x.links.length<=1000):∀{j:Nat},j<=b.nodes.length->(QI b l j).length<=j*1000
 | 0,_=>Nat.zero_le _
 | j+1,hj=>by
  have ih:=Zcb h (l:=l) (j:=j) (by omega)
  have h1:=Zf0 (l:=l) (i:=j) (ls:=ZaJ b j) (k:=(ZaJ b j).length)
  have h2:=h _ (List.getElem_mem (show j<b.nodes.length by omega))
  rw[QI,List.length_append]
  rw[ZaK (by omega)] at h1 ⊢
  omega
def ZpH(b:TBigraph)(j:Nat):Int:=((b.inner[j]?).map TWire.link).getD 0
def Zp8(b:TBigraph)(j:Nat):ByteArray:=((b.inner[j]?).map TWire.name).getD ⟨#[]⟩
theorem Zf1{b:TBigraph}{j:Nat}(h:j<b.inner.length):ZpH b j=b.inner[j].link:=by simp [ZpH,h]
theorem Zmu{b:TBigraph}{j:Nat}(h:j<b.inner.length):Zp8 b j=b.inner[j].name:=by simp [Zp8,h]
def Ut(b:TBigraph)(l:Int):Nat->List ByteArray
 | 0=>[]
 | j+1=>if ZpH b j=l then Ut b l j++[Zp8 b j] else Ut b l j
theorem Zd7{b:TBigraph}{l:Int}:∀{j:Nat},(Ut b l j).length<=j
 | 0=>Nat.le_refl 0
 | j+1=>by
  unfold Ut
  have:=Zd7 (b:=b) (l:=l) (j:=j)
  split
  ·rw[List.length_append,List.length_singleton];omega
  ·omega
theorem ZiB{b:TBigraph}{l:Int}{j:Nat}(h:ZpH b j=l):Ut b l (j+1)=Ut b l j++[Zp8 b j]:=by rw[Ut,if_pos h]
theorem Zj1{b:TBigraph}{l:Int}{j:Nat}(h:¬ ZpH b j=l):Ut b l (j+1)=Ut b l j:=by rw[Ut,if_neg h]
def ZpI(b:TBigraph)(l:Int):List ByteArray:=Ut b l b.inner.length
theorem Zmv(a b:List (Int×Int)):(a++b).map cP2=a.map cP2++b.map cP2:=List.map_append
theorem Zfi(b:TBigraph)(l:Int)(hn:b.nodes.length<=1000)(hk:∀ x∈b.nodes,x.links.length<=1000)(hi:b.inner.length<=4294967296)(lvl:Nat)(S:Sto):Sem Go.Proofs.Tryz.prog JK lvl [.ag ((Zc b).map .tr),iI l] S (.tu [.ow 2 ((ports b l).map cP2) true,.ow 1 (rS (ZpI b l)) true]) S:=by
 refine Zb WA ⟨trivial,trivial,trivial⟩ ?_
 simp only[VV,Zc,List.length_map,EVA,seval]
 refine Ji (α:=Unit) b.nodes.length (fun j _=>[(6,.hd (lvl,448) [] 0 (QI b l j).length none (QI b l j).length),(19,iI j)]) (fun j _=>[(448,.ar 2 ((QI b l j).map cP2) true (QI b l j).length 0)]) (fun _ _=>True) () (by simp only[EVA,seval]) (by (simp only[EVA,seval]) <;> rfl) trivial ?_
 intro j _ hj _
 simp only[List.length_map,EVA,seval]
 refine Zp (fun hlt=>?_) (fun hge=>?_)
 ·have hja:j<b.nodes.length:=by omega
  have ga:=Wd (c:=ZR) hja
  have hle:=Zcb hk (l:=l) hj
  have hlk:=hk _ (List.getElem_mem hja)
  simp only[ga,ZR,List.length_map,EVA,seval]
  refine Ji (α:=Unit) b.nodes[j].links.length (fun k _=>[(6,.hd (lvl,448) [] 0 (QI b l j++Zfh l j b.nodes[j].links k).length none (QI b l j++Zfh l j b.nodes[j].links k).length),(27,iI k)]) (fun k _=>[(448,.ar 2 ((QI b l j++Zfh l j b.nodes[j].links k).map cP2) true (QI b l j++Zfh l j b.nodes[j].links k).length 0)]) (fun _ _=>True) () (by simp only[EVA,seval]) (by (simp only[Zfh,List.append_nil,EVA,seval]) <;> rfl) trivial ?_
  intro k _ hkk _
  simp only[EVA,seval]
  refine Zp (fun hlt2=>?_) (fun hge2=>?_)
  ·have hka:k<b.nodes[j].links.length:=by omega
   have gl:=JL hka
   have hr:=Zf0 (l:=l) (i:=j) (ls:=b.nodes[j].links) (k:=k)
   simp only[gl,List.length_map,EVA,seval]
   refine Zp (fun he=>?_) (fun hne=>?_)
   ·refine⟨by rw[List.length_append];omega,by rw[Zd];omega,Ze () hka ?_ trivial⟩
    rw[Zj0 he,<-List.append_assoc,List.length_append (bs:=[_]),Zmv (QI b l j++_)]
    rfl
   ·refine⟨by rw[Zd];omega,Ze () hka ?_ trivial⟩
    rw[ZiA hne]
    rfl
  ·have:k=b.nodes[j].links.length:=by omega
   subst this
   refine⟨by rw[Zd];omega,Ze () hja ?_ trivial⟩
   rw[QI,ZaK hja]
   rfl
 have:j=b.nodes.length:=by omega
 subst this
 refine Ji (α:=Unit) b.inner.length (fun j _=>[(7,.hd (lvl,480) [] 0 (Ut b l j).length none (Ut b l j).length),(46,iI j)]) (fun j _=>[(480,.ar 1 (rS (Ut b l j)) true (Ut b l j).length 0)]) (fun _ _=>True) () (by simp only[EVA,seval]) (by (simp only[EVA,seval]) <;> rfl) trivial ?_
 intro j _ hj _
 simp only[List.length_map,EVA,seval]
 refine Zp (fun hlt=>?_) (fun hge=>?_)
 ·have hja:j<b.inner.length:=by omega
  have ga:=Wd (c:=Jj) hja
  have hle:=Zd7 (b:=b) (l:=l) (j:=j)
  simp only[ga,Jj,List.length_map,EVA,seval]
  refine Zp (fun he=>?_) (fun hne=>?_)
  ·refine⟨by omega,by rw[Zd];omega,Ze () hja ?_ trivial⟩
   rw[ZiB (by rw[Zf1 hja];exact he),List.length_append,Zix,Zmu hja]
   rfl
  ·refine⟨by rw[Zd];omega,Ze () hja ?_ trivial⟩
   rw[Zj1 (by rw[Zf1 hja];exact hne)]
   rfl
 ·have:j=b.inner.length:=by omega
  subst this
  rfl
end Go.Fd

/-
  REDEXES, BOTH SIDES. Own work.
-/
namespace Go.Fd
set_option maxRecDepth 20000
def idle(b:TBigraph)(l:Int):Prop:=(ports b l).length=0/\(ZpI b l).length=0
structure small (b:TBigraph):Prop where
 nodes:b.nodes.length<=8
 links:∀ x∈b.nodes,x.links.length<=1000
 sites:b.sites.length<=4
 outer:b.outer.length<=16
 inner:b.inner.length<=16
 roots:0<=b.roots/\b.roots<=4
 edges:0<=b.edges/\b.edges<=8
theorem Zhg{sig:List TControl}(h:Zbe sig)(c:Int):Dn sig c<=3:=by
 unfold Dn
 cases e:sig[c.toNat]? with
 | none=>decide
 | some x =>
  obtain⟨hl,rfl⟩:=List.getElem?_eq_some_iff.1 e
  exact((h.1 _ hl).1).2.1.2
theorem bigOK.small{sig:List TControl}{b:TBigraph}(h:bigOK sig b):small b :=
 ⟨h.nodesL,fun x hx=>by
  obtain⟨k,hk,rfl⟩:=List.getElem_of_mem hx
  have h1:=(h.nodes k hk).ports
  have h2:=Zhg h.sg b.nodes[k].control
  omega,h.sitesL,h.outer.2,by have:=h.inn.2;rw[Dp] at this;exact this,h.roots,h.edges⟩
theorem Zhh(b:TBigraph)(l:Int)(hs:small b)(lvl:Nat)(S:Sto):Sem Go.Proofs.Tryz.prog JV lvl [.ag ((Zc b).map .tr),iI l] S (iB (dc (idle b l))) S:=by
 have s1:=hs.nodes
 have s2:=hs.inner
 have e1:(ports b l).length<=b.nodes.length*1000:=Zcb hs.links (Nat.le_refl _)
 have e2:(ZpI b l).length<=b.inner.length:=Zd7
 refine Zb Uo trivial ?_
 simp only[Qi,Zc,EVA,seval,Zl,men]
 refine Za (Zfi b l (by omega) hs.links (by omega)) ?_
 simp only[List.length_map,EVA,seval]
 refine⟨by rw[Zd];omega,?_⟩
 have hiff:idle b l↔((ports b l).length:Int)+(ZpI b l).length=0:=⟨fun h=>by have:=h.1;have:=h.2;omega,fun h=>⟨by omega,by omega⟩⟩
 rw[JY hiff,Yq]
end Go.Fd

/-
  SORTINGS, BOTH SIDES: VALID, FREE, FINER. Own work.
-/
namespace Go.Fd
set_option maxRecDepth 20000
def Zcr(n:Nat):List Int:=(List.range n).map fun i:Nat=>(i:Int)
theorem UV{n:Nat}:(Zcr n).length=n:=by simp [Zcr]
theorem ZiC{n:Nat}:Zcr (n+1)=Zcr n++[(n:Int)]:=by simp [Zcr,List.range_succ]
theorem Uu{es:Row}{n:Nat}(h:es.length=n):cut es 0 n=es:=by
 simp only[cut,List.drop_zero]
 exact List.take_of_length_le (by omega)
end Go.Fd

/-
  LINKS THAT ARE TURNED: WHAT COMPOSITION COMPUTES, IN PLAIN TERMS. Own work.
-/
namespace Go.Fd
set_option maxRecDepth 20000
end Go.Fd

/-
  LINKS THAT ARE TURNED, THE PROGRAM'S SIDE. Own work.
-/
namespace Go.Fd
set_option maxRecDepth 20000
theorem Zj2{l:List Int}:ScR (rI l)=True:=eq_true fun e he t ht=>by
 obtain⟨n,_,rfl⟩:=List.mem_map.1 he
 simp only[List.mem_cons,List.not_mem_nil,or_false] at ht
 subst ht
 rfl
theorem Zj3{l:List Int}:UnR 1 (rI l)=True:=eq_true (ZfS (fun n:Int=>[tv n]) (fun _=>rfl) l)
theorem Zcc(l:List Int)(hl:l.length<=4294967296)(lvl:Nat)(S:Sto):Sem Go.Proofs.Tryz.prog Jn lvl [tI l] S (.ow 1 (rI l) true) S:=by
 refine Zb WY trivial ?_
 simp only[V0,List.length_map,Zj2,Zj3,EVA,seval]
 exact⟨hl,fun h=>by rw[h]⟩
end Go.Fd

/-
  LINKS THAT ARE TURNED, THE REFERENCE'S SIDE. Own work.
-/
namespace Go.Fd
set_option maxRecDepth 20000
end Go.Fd

/-
  A LINK IS TURNED: relinked AND ITS CLOSURE. Own work.
-/
namespace Go.Fd
set_option maxRecDepth 20000
end Go.Fd

/-
  A NAME BECOMES AN EDGE, AN EDGE A NAME: THE PROGRAM'S SIDE. Own work.
-/
namespace Go.Fd
set_option maxRecDepth 20000
end Go.Fd

/-
  A NAME BECOMES AN EDGE: BOTH SIDES. Own work.
-/
namespace Go.Fd
set_option maxRecDepth 20000
end Go.Fd

/-
  A NAME BECOMES AN EDGE: BOTH ANSWERS. Own work.
-/
namespace Go.Fd
set_option maxRecDepth 20000
end Go.Fd

/-
  TWO NAMES BECOME ONE: THE PROGRAM'S SIDE; A COPY BY NUMBERING ANEW. Own work.
-/
namespace Go.Fd
set_option maxRecDepth 20000
end Go.Fd

/-
  NAMES IN ORDER, AND THEIR LINKS, AS THE REFERENCE HAS THEM. Own work.
-/
namespace Go.Fd
set_option maxRecDepth 20000
end Go.Fd

/-
  OpenName: BOTH ANSWERS OF THE REFERENCE. Own work.
-/
namespace Go.Fd
end Go.Fd

/-
  ONE BIGRAPH UNDER ANOTHER: WHAT COMPOSITION COMPUTES, IN PLAIN TERMS. Own work.
-/
namespace Go.Fd
set_option maxRecDepth 20000
end Go.Fd

/-
  EACH NUMBER ONCE. Own work.
-/
namespace Go.Fd
set_option maxRecDepth 20000
def Xh(n:Nat)(l:List Int):Prop:=l.length=n/\∀ i:Nat,i<n->(i:Int)∈l
theorem Zhi:Ords (fun a b:Int=>a<b):=⟨fun a=>Int.lt_irrefl a,fun a b c=>Int.lt_trans,fun a b=>Int.lt_trichotomy a b⟩
theorem upto_mem{n:Nat}{x:Int}:x∈Zcr n↔0<=x/\x<n:=by
 unfold Zcr
 rw[List.mem_map]
 constructor
 ·rintro⟨i,hi,rfl⟩
  have:=List.mem_range.1 hi
  omega
 ·rintro⟨h1,h2⟩
  exact⟨x.toNat,List.mem_range.2 (by omega),by omega⟩
theorem upto_pw{n:Nat}:(Zcr n).Pairwise (fun a b=>a<b):=by
 unfold Zcr
 rw[List.pairwise_map]
 exact List.pairwise_lt_range.imp fun h=>by omega
theorem upto_nodup{n:Nat}:(Zcr n).Nodup:=upto_pw.imp fun h e=>by omega
theorem Zae:∀{x y:List Int},x.Nodup->(∀ c∈x,c∈y)->x.length<=y.length/\(y.length<=x.length->x.Perm y)
 | [],y,_,_=>⟨Nat.zero_le _,fun h=>by rw[List.length_eq_zero_iff.1 (Nat.le_zero.1 h)]⟩
 | a::r,y,hd,hs=>by
  have hc:=List.nodup_cons.1 hd
  have ha:a∈y:=hs a (by simp)
  have hp:=List.perm_cons_erase ha
  obtain⟨h1,h2⟩:=Zae (x:=r) (y:=y.erase a) hc.2 fun c hcr=>(List.mem_erase_of_ne (fun e=>hc.1 (by rw[<-e];exact hcr))).2 (hs c (by simp [hcr]))
  have hl:=hp.length_eq
  simp only[List.length_cons] at hl ⊢
  exact⟨by omega,fun h=>((h2 (by omega)).cons a).trans hp.symm⟩
theorem ordOK_perm{n:Nat}{l:List Int}:Xh n l↔l.Perm (Zcr n):=by
 constructor
 ·rintro⟨h1,h2⟩
  refine((Zae (x:=Zcr n) (y:=l) upto_nodup fun x hx=>?_).2 (by rw[h1,UV];exact Nat.le_refl _)).symm
  have:=upto_mem.1 hx
  have h3:=h2 x.toNat (by omega)
  rwa [show ((x.toNat:Nat):Int)=x by omega] at h3
 ·intro h
  refine⟨by rw[h.length_eq,UV],fun i hi=>h.mem_iff.2 (upto_mem.2 (by omega))⟩
theorem ZiD{n:Nat}{l:List Int}:Xh n l↔ZkT (fun a b:Int=>a<b) l=Zcr n:=by
 rw[ordOK_perm]
 constructor
 ·intro h
  exact Zd5 Zhi (ZfY Zhi) (upto_pw.imp fun h=>by omega) (srtG_perm.trans h)
 ·intro h
  rw[<-h]
  exact srtG_perm.symm
theorem Zcd{n:Nat}{l:List Int}(h:Xh n l){x:Int}(hx:x∈l):0<=x/\x<n:=upto_mem.1 ((ordOK_perm.1 h).mem_iff.1 hx)
theorem Zf2{n:Nat}{l:List Int}(h:Xh n l):l.Nodup:=(ordOK_perm.1 h).nodup_iff.2 upto_nodup
theorem Zj4{n:Nat}{l:List Int}(hd:l.Nodup)(hm:∀ x∈l,0<=x/\x<n)(hl:l.length=n):Xh n l:=by
 rw[ordOK_perm]
 exact(Zae hd fun x hx=>upto_mem.2 (hm x hx)).2 (by rw[hl,UV];exact Nat.le_refl _)
theorem ZiE{n:Nat}{l:List Int}(hd:l.Nodup)(hm:∀ x∈l,0<=x/\x<n):l.length<=n:=by
 have:=(Zae hd fun x hx=>upto_mem.2 (hm x hx)).1
 rwa [UV] at this
end Go.Fd

/-
  TRANSLATIONS, IN PLAIN TERMS. Own work.
-/
namespace Go.Fd
set_option maxRecDepth 20000
def Zcs(E:Int)(es:List Int)(x y:Int):Option (List Int) :=
 if E<=x\/E<=y then (if x=y then some es else none)
 else if 0<=g0 es x.toNat\/y∈es then (if g0 es x.toNat=y then some es else none)
 else some (es.set x.toNat y)
def Qk(E:Int)(es x y:List Int):Nat->Option (List Int)
 | 0=>some es
 | j+1=>(Qk E es x y j).bind fun z=>Zcs E z (g0 x j) (g0 y j)
def QN(E:Int)(es x y:List Int):Option (List Int):=Qk E es x y x.length
def Jk(b:TBigraph)(k:Nat):TNode:=(b.nodes[k]?).getD ⟨0,0,[]⟩
def mvP(ns:List Int)(p:Int):Int:=if p<0 then p else g0 ns p.toNat
def Zav(a b:TBigraph)(ns:List Int)(m:Int):Prop:=m ∉ ns/\(Jk a ns.length).control=(Jk b m.toNat).control/\mvP ns (Jk a ns.length).parent=(Jk b m.toNat).parent
open Classical in
noncomputable def edJ(a b:TBigraph)(ns:List Int):Nat->Option (List Int)
 | 0=>some (List.replicate a.edges.toNat (-1))
 | k+1=>(edJ a b ns k).bind fun es=>if Zav a b (ns.take k) (g0 ns k) then QN a.edges es (Jk a k).links (Jk b (g0 ns k).toNat).links else none
def lnk(b:TBigraph):List Int:=b.inner.map TWire.link
open Classical in
noncomputable def Zew(a b:TBigraph)(ns es:List Int):Option (List Int) :=
 if a.sites.map (mvP ns)=b.sites then QN a.edges es (lnk a) (lnk b) else none
def nxt(l:List Int):Nat->Nat->Nat
 | 0,k=>k
 | f+1,k=>if (k:Int)∈l then nxt l f (k+1) else k
def Jr(es:List Int):Nat->List Int
 | 0=>es
 | j+1=>if g0 (Jr es j) j<0 then (Jr es j).set j (nxt (Jr es j) es.length 0:Nat) else Jr es j
def Zf3(es:List Int):List Int:=Jr es es.length
def Vl(a b:TBigraph):Prop:=a.roots=b.roots/\a.edges=b.edges/\a.nodes.length=b.nodes.length/\a.sites.length=b.sites.length/\a.outer=b.outer/\inn a=inn b
noncomputable def Zfv(a b:TBigraph)(ns:List Int):Option (List Int):=(edJ a b ns a.nodes.length).bind fun es=>Zew a b ns es
open Classical in
noncomputable def trT(a b:TBigraph)(ns:List Int):Option (List Int):=if Vl a b/\Xh a.nodes.length ns then (Zfv a b ns).map Zf3 else none
theorem ZgT{E:Int}{es z:List Int}{x y:Int}(h:Zcs E es x y=some z):z.length=es.length:=by
 unfold Zcs at h
 split at h
 ·split at h
  ·cases h;rfl
  ·cases h
 split at h
 ·split at h
  ·cases h;rfl
  ·cases h
 ·cases h;exact List.length_set
theorem Yr{E:Int}{es x y:List Int}:∀{j:Nat} {z:List Int},Qk E es x y j=some z->z.length=es.length
 | 0,z,h=>by cases h;rfl
 | j+1,z,h=>by
  rw[Qk] at h
  cases hp:Qk E es x y j with
  | none=>rw[hp] at h;cases h
  | some w =>
   rw[hp] at h
   rw[ZgT h,Yr hp]
theorem UW{E:Int}{es x y:List Int}{j k:Nat}(h:Qk E es x y j=none)(hk:j<=k):Qk E es x y k=none:=by
 induction k with
 | zero=>rw[show j=0 by omega] at h;exact h
 | succ k ih =>
  by_cases e:j=k+1
  ·subst e;exact h
  ·rw[Qk,ih (by omega)];rfl
theorem ZgU{a b:TBigraph}{ns:List Int}{j k:Nat}(h:edJ a b ns j=none)(hk:j<=k):edJ a b ns k=none:=by
 induction k with
 | zero=>rw[show j=0 by omega] at h;exact h
 | succ k ih =>
  by_cases e:j=k+1
  ·subst e;exact h
  ·rw[edJ,ih (by omega)];rfl
theorem Uv{a b:TBigraph}{ns:List Int}:∀{k:Nat} {z:List Int},edJ a b ns k=some z->z.length=a.edges.toNat
 | 0,z,h=>by cases h;exact List.length_replicate
 | k+1,z,h=>by
  rw[edJ] at h
  cases hp:edJ a b ns k with
  | none=>rw[hp] at h;cases h
  | some w =>
   rw[hp] at h
   have h:(@ite _ (Zav a b (ns.take k) (g0 ns k)) (Classical.propDecidable _) (QN a.edges w (Jk a k).links (Jk b (g0 ns k).toNat).links) none)=some z:=h
   split at h
   ·rw[Yr h,Uv hp]
   ·cases h
theorem ZiF{l:List Int}{i k:Nat}(h:i<k):g0 (l.take k) i=g0 l i:=by
 show (l.take k).getD i 0=l.getD i 0
 rw[List.getD_eq_getElem?_getD,List.getD_eq_getElem?_getD,List.getElem?_take_of_lt h]
theorem ZgV{a b:TBigraph}{ns:List Int}{n:Nat}:∀{k:Nat},k<=n->edJ a b (ns.take n) k=edJ a b ns k
 | 0,_=>rfl
 | k+1,h=>by
  rw[edJ,edJ,ZgV (by omega),ZiF (by omega),List.take_take,Nat.min_eq_left (by omega)]
theorem Zmw{a b:TBigraph}{ns:List Int}{m:Int}{k:Nat}(h:k<=ns.length):edJ a b (ns++[m]) k=edJ a b ns k:=by
 have e:(ns++[m]).take ns.length=ns:=List.take_left ..
 rw[<-ZgV (ns:=ns++[m]) h,e]
theorem ZpJ{ns:List Int}{m:Int}:g0 (ns++[m]) ns.length=m:=by
 show (ns++[m]).getD _ 0=m
 rw[List.getD_eq_getElem?_getD,List.getElem?_append_right (Nat.le_refl _)]
 simp
theorem ZgW{a b:TBigraph}{ns:List Int}{m:Int}:edJ a b (ns++[m]) (ns.length+1)=(edJ a b ns ns.length).bind fun es=>@ite _ (Zav a b ns m) (Classical.propDecidable _) (QN a.edges es (Jk a ns.length).links (Jk b m.toNat).links) none:=by
 rw[edJ,Zmw (Nat.le_refl _),ZpJ,List.take_left]
open Classical in
noncomputable def Zbf(a b:TBigraph):Nat->List Int->List (List Int)
 | 0,ns=>if (trT a b ns).isSome then [ns] else []
 | r+1,ns=>(Zcr b.nodes.length).flatMap fun m=>if Zav a b ns m then Zbf a b r (ns++[m]) else []
open Classical in
noncomputable def Zhj(a b:TBigraph):Nat->List Int->List Int->List (List Int)
 | 0,ns,es=>if (Zew a b ns es).isSome then [ns] else []
 | r+1,ns,es=>(Zcr b.nodes.length).flatMap fun m=>if Zav a b ns m then
   (match QN a.edges es (Jk a ns.length).links (Jk b m.toNat).links with
   | some z=>Zhj a b r (ns++[m]) z
   | none=>[]) else []
theorem Zfj{a b:TBigraph}:∀{r:Nat} {ns:List Int},ns.length+r=a.nodes.length->edJ a b ns ns.length=none->Zbf a b r ns=[]
 | 0,ns,hl,h=>by
  rw[Zbf]
  have e:ns.length=a.nodes.length:=by omega
  rw[if_neg]
  unfold trT Zfv
  split
  ·rw[<-e,h];simp
  ·simp
 | r+1,ns,hl,h=>by
  rw[Zbf,List.flatMap_eq_nil_iff]
  intro m _
  split
  ·refine Zfj (by rw[List.length_append,List.length_singleton];omega) ?_
   rw[List.length_append,List.length_singleton,ZgW,h]
   rfl
  ·rfl
theorem Zce{α β:Type}{f g:α->List β}:∀{l:List α},(∀ x∈l,f x=g x)->l.flatMap f=l.flatMap g
 | [],_=>rfl
 | x::r,h=>by rw[List.flatMap_cons,List.flatMap_cons,h x (by simp),Zce fun y hy=>h y (by simp [hy])]
theorem ZiG{a b:TBigraph}(ha:Vl a b):∀{r:Nat} {ns es:List Int},ns.length+r=a.nodes.length->ns.Nodup->(∀ x∈ns,0<=x/\x<b.nodes.length)->edJ a b ns ns.length=some es->Zhj a b r ns es=Zbf a b r ns
 | 0,ns,es,hl,hd,hm,h=>by
  rw[Zhj,Zbf]
  have e:ns.length=a.nodes.length:=by omega
  have ho:Xh a.nodes.length ns:=Zj4 hd (fun x hx=>by have:=hm x hx;have:=ha.2.2.1;omega) e
  have h2:(trT a b ns).isSome=(Zew a b ns es).isSome:=by
   unfold trT Zfv
   rw[if_pos ⟨ha,ho⟩,<-e,h]
   simp
  rw[h2]
 | r+1,ns,es,hl,hd,hm,h=>by
  rw[Zhj,Zbf]
  refine Zce fun m hmm=>?_
  have hm2:=upto_mem.1 hmm
  by_cases hf:Zav a b ns m
  ·rw[if_pos hf,if_pos hf]
   have hn:=ZgW (a:=a) (b:=b) (ns:=ns) (m:=m)
   rw[h] at hn
   simp only[Option.bind_some,if_pos hf] at hn
   have hl2:(ns++[m]).length=ns.length+1:=by rw[List.length_append,List.length_singleton]
   cases ht:QN a.edges es (Jk a ns.length).links (Jk b m.toNat).links with
   | none =>
    rw[ht] at hn
    simp only
    exact(Zfj (by omega) (by rw[hl2];exact hn)).symm
   | some z =>
    rw[ht] at hn
    simp only
    refine ZiG ha (by omega) ?_ ?_ (by rw[hl2];exact hn)
    ·rw[List.nodup_append]
     refine⟨hd,List.pairwise_singleton ..,fun x hx y hy e=>?_⟩
     rw[List.mem_singleton.1 hy] at e
     subst e
     exact hf.1 hx
    ·intro x hx
     rcases List.mem_append.1 hx with hx | hx
     ·exact hm x hx
     ·rw[List.mem_singleton.1 hx];exact hm2
  ·rw[if_neg hf,if_neg hf]
end Go.Fd

/-
  TRANSLATIONS, IN PLAIN TERMS: HOW MANY; WHAT IS LEFT IDLE. Own work.
-/
namespace Go.Fd
set_option maxRecDepth 20000
def ZpK:Nat->Nat
 | 0=>1
 | n+1=>(n+1)*ZpK n
theorem ZgX{α β:Type}{f:α->List β}{p:α->Bool}{B:Nat}:∀{l:List α},(∀ x∈l,p x=false->f x=[])->(∀ x∈l,(f x).length<=B)->(l.flatMap f).length<=(l.filter p).length*B
 | [],_,_=>by simp
 | x::r,h1,h2=>by
  have ih:=ZgX (l:=r) (p:=p) (fun y hy=>h1 y (by simp [hy])) (fun y hy=>h2 y (by simp [hy]))
  rw[List.flatMap_cons,List.length_append,List.filter_cons]
  cases hp:p x
  ·rw[h1 x (by simp) hp]
   simpa using ih
  ·have:=h2 x (by simp)
   simp only[if_true,List.length_cons,Nat.succ_mul]
   omega
theorem Zhk{n:Nat}:∀{ns:List Int},ns.Nodup->(∀ x∈ns,0<=x/\x<n)->((Zcr n).filter fun m=>!decide (m∈ns)).length+ns.length<=n:=fun {ns} hd hm=>by
 have h1:(((Zcr n).filter fun m=>!decide (m∈ns))++ns).Nodup:=by
  rw[List.nodup_append]
  refine⟨upto_nodup.filter _,hd,fun x hx y hy e=>?_⟩
  subst e
  have:=(List.mem_filter.1 hx).2
  simp [hy] at this
 have h2:=ZiE (n:=n) h1 fun x hx=>by
  rcases List.mem_append.1 hx with hx | hx
  ·exact upto_mem.1 (List.mem_filter.1 hx).1
  ·exact hm x hx
 rwa [List.length_append] at h2
theorem ZiH{a b:TBigraph}:∀{r:Nat} {ns:List Int},b.nodes.length<=ns.length+r->ns.Nodup->(∀ x∈ns,0<=x/\x<b.nodes.length)->(Zbf a b r ns).length<=ZpK r
 | 0,ns,_,_,_=>by
  rw[Zbf]
  split <;> simp [ZpK]
 | r+1,ns,hl,hd,hm=>by
  rw[Zbf]
  have h1:=Zhk hd hm
  refine Nat.le_trans (ZgX (p:=fun m=>!decide (m∈ns)) (B:=ZpK r) (fun m _ hp=>?_) (fun m hmm=>?_)) (Nat.mul_le_mul_right _ (by omega:_<=r+1))
  ·rw[if_neg]
   intro hf
   have:m∈ns:=by simpa using hp
   exact hf.1 this
  ·split
   ·rename_i hf
    refine ZiH (by rw[List.length_append,List.length_singleton];omega) ?_ ?_
    ·rw[List.nodup_append]
     refine⟨hd,List.pairwise_singleton ..,fun x hx y hy e=>?_⟩
     rw[List.mem_singleton.1 hy] at e
     subst e
     exact hf.1 hx
    ·intro x hx
     rcases List.mem_append.1 hx with hx | hx
     ·exact hm x hx
     ·rw[List.mem_singleton.1 hx];exact upto_mem.1 hmm
   ·simp
theorem ZiI{β:Type}{x:List β}{m:Nat}(h:m<=(x.take m).length)(y:List β):(x++y).take m=x.take m:=by
 rw[List.length_take] at h
 rw[List.take_append_of_le_length (by omega)]
theorem ZiJ{E:Int}{es z:List Int}{x y:Int}(h:Zcs E es x y=some z){l:Nat}(hl:0<=g0 es l):g0 z l=g0 es l:=by
 unfold Zcs at h
 split at h
 ·split at h
  ·cases h;rfl
  ·cases h
 split at h
 ·split at h
  ·cases h;rfl
  ·cases h
 ·rename_i h1 h2
  cases h
  show (es.set x.toNat y).getD l 0=es.getD l 0
  rw[List.getD_eq_getElem?_getD,List.getElem?_set]
  by_cases e:x.toNat=l
  ·subst e
   exact absurd (.inl hl) h2
  ·rw[if_neg e,List.getD_eq_getElem?_getD]
theorem J5{l:List Int}{i:Nat}(h:i<l.length):g0 l i∈l:=by
 have:g0 l i=l[i]:=by simp [h]
 rw[this]
 exact List.getElem_mem h
theorem Zf4{l:List Int}{i j:Nat}{v:Int}(h:i<l.length):g0 (l.set i v) j=if i=j then v else g0 l j:=by
 show (l.set i v).getD j 0=if i=j then v else l.getD j 0
 rw[List.getD_eq_getElem?_getD,List.getElem?_set,List.getD_eq_getElem?_getD]
 by_cases e:i=j
 ·rw[if_pos e,if_pos e,if_pos (by omega)];rfl
 ·rw[if_neg e,if_neg e]
theorem Zmx{E:Int}{es z:List Int}{x y:Int}(h:Zcs E es x y=some z)(hE:(es.length:Int)=E)(hx:0<=x)(hy:y<E):y∈z:=by
 unfold Zcs at h
 split at h
 ·rename_i h1
  split at h
  ·rename_i h2;omega
  ·cases h
 split at h
 ·rename_i h1 h2
  split at h
  ·rename_i h3
   cases h
   rw[<-h3]
   exact J5 (by omega)
  ·cases h
 ·cases h
  rename_i h1 h2
  have hlt:x.toNat<es.length:=by omega
  have:g0 (es.set x.toNat y) x.toNat=y:=by rw[Zf4 hlt,if_pos rfl]
  have hq:=J5 (l:=es.set x.toNat y) (i:=x.toNat) (by rw[List.length_set];exact hlt)
  rw[this] at hq
  exact hq
theorem ZgY{E:Int}{es z:List Int}{x y:Int}(h:Zcs E es x y=some z){v:Int}(hv:0<=v)(hm:v∈es):v∈z:=by
 obtain⟨l,hl,rfl⟩:=List.getElem_of_mem hm
 have e:g0 es l=es[l]:=by simp [hl]
 have k:=ZiJ h (l:=l) (by rw[e];exact hv)
 rw[e] at k
 rw[<-k]
 exact J5 (by rw[ZgT h];exact hl)
theorem Zcf{E:Int}{es x y:List Int}{v:Int}(hv:0<=v):∀{j:Nat} {z:List Int},Qk E es x y j=some z->v∈es->v∈z
 | 0,z,h,hm=>by cases h;exact hm
 | j+1,z,h,hm=>by
  rw[Qk] at h
  cases hp:Qk E es x y j with
  | none=>rw[hp] at h;cases h
  | some w =>
   rw[hp] at h
   exact ZgY h hv (Zcf hv hp hm)
theorem Zd8{E:Int}{es x y:List Int}(hE:(es.length:Int)=E):∀{j:Nat} {z:List Int},Qk E es x y j=some z->∀ i,i<j->0<=g0 x i->0<=g0 y i->g0 y i<E->g0 y i∈z
 | 0,z,_,i,hi,_,_,_=>by omega
 | j+1,z,h,i,hi,h1,h2,h3=>by
  rw[Qk] at h
  cases hp:Qk E es x y j with
  | none=>rw[hp] at h;cases h
  | some w =>
   rw[hp] at h
   have hw:(w.length:Int)=E:=by rw[Yr hp];exact hE
   by_cases e:i=j
   ·subst e
    exact Zmx h hw h1 h3
   ·exact ZgY h h2 (Zd8 hE hp i (by omega) h1 h2 h3)
def ZmV(es:List Int):Prop:=∀ i j,i<es.length->j<es.length->0<=g0 es i->g0 es i=g0 es j->i=j
def ZmW(E:Int)(es:List Int):Prop:=∀ v∈es,-1<=v/\v<E
theorem Zj5{E:Int}{es z:List Int}{x y:Int}(h:Zcs E es x y=some z)(hE:(es.length:Int)=E)(hx:0<=x)(hi:ZmV es):ZmV z:=by
 unfold Zcs at h
 split at h
 ·split at h
  ·cases h;exact hi
  ·cases h
 split at h
 ·split at h
  ·cases h;exact hi
  ·cases h
 ·rename_i h1 h2
  cases h
  intro i j hi1 hj1 h3 h4
  rw[List.length_set] at hi1 hj1
  have hlt:x.toNat<es.length:=by omega
  rw[Zf4 hlt] at h3
  rw[Zf4 hlt,Zf4 hlt] at h4
  have hy:y ∉ es:=fun g=>h2 (.inr g)
  by_cases e1:x.toNat=i
  ·by_cases e2:x.toNat=j
   ·omega
   ·rw[if_pos e1,if_neg e2] at h4
    exact absurd (by rw[h4];exact J5 hj1) hy
  ·rw[if_neg e1] at h3 h4
   by_cases e2:x.toNat=j
   ·rw[if_pos e2] at h4
    exact absurd (by rw[<-h4];exact J5 hi1) hy
   ·rw[if_neg e2] at h4
    exact hi i j hi1 hj1 h3 h4
theorem Zj6{E:Int}{es z:List Int}{x y:Int}(h:Zcs E es x y=some z)(hy:0<=y)(hi:ZmW E es):ZmW E z:=by
 unfold Zcs at h
 split at h
 ·split at h
  ·cases h;exact hi
  ·cases h
 split at h
 ·split at h
  ·cases h;exact hi
  ·cases h
 ·rename_i h1 h2
  cases h
  intro v hv
  rcases List.mem_or_eq_of_mem_set hv with q | q
  ·exact hi v q
  ·omega
theorem Zd9{E:Int}{es x y:List Int}(hE:(es.length:Int)=E)(hx:∀ v∈x,0<=v)(hy:∀ v∈y,0<=v)(h1:ZmV es)(h2:ZmW E es):∀{j:Nat} {z:List Int},j<=x.length->j<=y.length->Qk E es x y j=some z->ZmV z/\ZmW E z
 | 0,z,_,_,h=>by cases h;exact⟨h1,h2⟩
 | j+1,z,hj,hk,h=>by
  rw[Qk] at h
  cases hp:Qk E es x y j with
  | none=>rw[hp] at h;cases h
  | some w =>
   rw[hp] at h
   obtain⟨q1,q2⟩:=Zd9 hE hx hy h1 h2 (by omega) (by omega) hp
   have hw:(w.length:Int)=E:=by rw[Yr hp];exact hE
   exact⟨Zj5 h hw (hx _ (J5 (by omega))) q1,Zj6 h (hy _ (J5 (by omega))) q2⟩
end Go.Fd

/-
  TRANSLATIONS, IN PLAIN TERMS: WHAT IS LEFT IS IDLE; HOW IT IS FILLED. Own work.
-/
namespace Go.Fd
set_option maxRecDepth 20000
theorem ZgZ{l:Int}{i:Nat}{ls:List Int}(h:l ∉ ls):∀{k:Nat},k<=ls.length->Zfh l i ls k=[]
 | 0,_=>rfl
 | k+1,hk=>by
  rw[ZiA (fun e=>h (by rw[<-e];exact J5 (by omega))),ZgZ h (by omega)]
theorem Zc1{b:TBigraph}{l:Int}(h:∀ x∈b.nodes,l ∉ x.links):∀{j:Nat},j<=b.nodes.length->QI b l j=[]
 | 0,_=>rfl
 | j+1,hj=>by
  have hj2:j<b.nodes.length:=by omega
  rw[QI,Zc1 h (by omega),ZaK hj2,ZgZ (h _ (List.getElem_mem hj2)) (Nat.le_refl _)]
  rfl
theorem Zfk{b:TBigraph}{l:Int}(h:l ∉ lnk b):∀{j:Nat},j<=b.inner.length->Ut b l j=[]
 | 0,_=>rfl
 | j+1,hj=>by
  have hj2:j<b.inner.length:=by omega
  rw[Ut,if_neg,Zfk h (by omega)]
  rw[Zf1 hj2]
  intro e
  exact h (List.mem_map.2 ⟨_,List.getElem_mem hj2,e⟩)
theorem Zmy{b:TBigraph}{l:Int}(h1:∀ x∈b.nodes,l ∉ x.links)(h2:l ∉ lnk b):idle b l:=by
 unfold idle ports ZpI
 rw[Zc1 h1 (Nat.le_refl _),Zfk h2 (Nat.le_refl _)]
 exact⟨rfl,rfl⟩
theorem ZQ{b:TBigraph}{k:Nat}(h:k<b.nodes.length):Jk b k=b.nodes[k]:=by simp [Jk,h]
structure pairOK (sig:List TControl) (a b:TBigraph):Prop where
 big:bigOK sig a
 big2:bigOK sig b
 al:Vl a b
theorem Uw{sig:List TControl}{a b:TBigraph}(ha:bigOK sig a)(hb:bigOK sig b){k m:Nat}(hk:k<a.nodes.length)(hm:m<b.nodes.length)(h:(Jk a k).control=(Jk b m).control):(Jk a k).links.length=(Jk b m).links.length:=by
 rw[ZQ hk,ZQ hm] at *
 have h1:=(ha.nodes k hk).ports
 have h2:=(hb.nodes m hm).ports
 rw[h] at h1
 omega
theorem Zea{sig:List TControl}{b:TBigraph}(hb:bigOK sig b){m:Nat}(hm:m<b.nodes.length):∀ l∈(Jk b m).links,0<=l:=fun l hl=>by
 rw[ZQ hm] at hl
 exact((hb.nodes m hm).links l hl).1
theorem ZiK{sig:List TControl}{b:TBigraph}(hb:bigOK sig b):∀ l∈lnk b,0<=l:=fun l hl=>by
 obtain⟨w,hw,rfl⟩:=List.mem_map.1 hl
 exact(hb.inner w hw).1
theorem Zeb{a b:TBigraph}{ns:List Int}{k:Nat}{z:List Int}(h:edJ a b ns (k+1)=some z):∃ es,edJ a b ns k=some es/\Zav a b (ns.take k) (g0 ns k)/\QN a.edges es (Jk a k).links (Jk b (g0 ns k).toNat).links=some z:=by
 rw[edJ] at h
 cases hp:edJ a b ns k with
 | none=>rw[hp] at h;cases h
 | some w =>
  rw[hp] at h
  have h:(@ite _ (Zav a b (ns.take k) (g0 ns k)) (Classical.propDecidable _) (QN a.edges w (Jk a k).links (Jk b (g0 ns k).toNat).links) none)=some z:=h
  split at h
  ·exact⟨w,rfl,by assumption,h⟩
  ·cases h
theorem ZiL{a b:TBigraph}{ns:List Int}{v:Int}(hv:0<=v){j:Nat}{w:List Int}(hw:edJ a b ns j=some w)(hm:v∈w):∀{k:Nat} {z:List Int},j<=k->edJ a b ns k=some z->v∈z
 | 0,z,hk,h=>by
  rw[show j=0 by omega,h] at hw
  cases hw;exact hm
 | k+1,z,hk,h=>by
  by_cases e:j=k+1
  ·subst e
   rw[h] at hw
   cases hw;exact hm
  ·obtain⟨es,h1,_,h2⟩:=Zeb h
   exact Zcf hv h2 (ZiL hv hw hm (by omega) h1)
theorem ZkV{sig:List TControl}{a b:TBigraph}(h:pairOK sig a b){ns:List Int}(hn:ns.length<=a.nodes.length)(hm:∀ x∈ns,0<=x/\x<b.nodes.length):∀{k:Nat} {z:List Int},k<=ns.length->edJ a b ns k=some z->ZmV z/\ZmW a.edges z
 | 0,z,_,hz=>by
  cases hz
  have hg:∀ i,i<(List.replicate a.edges.toNat (-1:Int)).length->g0 (List.replicate a.edges.toNat (-1:Int)) i = -1:=fun i hi=>by
   have:g0 (List.replicate a.edges.toNat (-1:Int)) i∈List.replicate a.edges.toNat (-1:Int):=J5 hi
   exact(List.mem_replicate.1 this).2
  refine⟨fun i j hi hj h0 _=>?_,fun v hv=>?_⟩
  ·have:=hg i hi;omega
  ·have:=(List.mem_replicate.1 hv).2
   have:=h.big.edges
   omega
 | k+1,z,hk,hz=>by
  obtain⟨es,h1,hf,h2⟩:=Zeb hz
  obtain⟨q1,q2⟩:=ZkV h hn hm (by omega) h1
  have he:=h.big.edges
  have hx:=hm _ (J5 (l:=ns) (i:=k) (by omega))
  have hmb:(g0 ns k).toNat<b.nodes.length:=by omega
  have hl:(Jk a k).links.length=(Jk b (g0 ns k).toNat).links.length:=by
   refine Uw h.big h.big2 (by omega) hmb ?_
   have:=hf.2.1
   rwa [List.length_take,Nat.min_eq_left (by omega)] at this
  exact Zd9 (by rw[Uv h1];omega) (Zea h.big (by omega)) (Zea h.big2 hmb) q1 q2 (Nat.le_refl _) (by omega) h2
theorem Zc2{a b:TBigraph}{ns z:List Int}(h:Zfv a b ns=some z):∃ es,edJ a b ns a.nodes.length=some es/\a.sites.map (mvP ns)=b.sites/\QN a.edges es (lnk a) (lnk b)=some z:=by
 unfold Zfv at h
 cases hp:edJ a b ns a.nodes.length with
 | none=>rw[hp] at h;cases h
 | some w =>
  rw[hp] at h
  have h:Zew a b ns w=some z:=h
  unfold Zew at h
  split at h
  ·exact⟨w,rfl,by assumption,h⟩
  ·cases h
theorem Zf5{a b:TBigraph}(h:Vl a b):(lnk a).length=(lnk b).length:=by
 have:=congrArg List.length h.2.2.2.2.2
 simp only[inn,List.length_map] at this
 simp only[lnk,List.length_map]
 exact this
theorem Zmz{sig:List TControl}{a b:TBigraph}(h:pairOK sig a b){ns z:List Int}(ho:Xh a.nodes.length ns)(hz:Zfv a b ns=some z):z.length=a.edges.toNat/\ZmV z/\ZmW a.edges z/\∀ v,0<=v->v<a.edges->v ∉ z->idle b v:=by
 obtain⟨es,h1,_,h2⟩:=Zc2 hz
 have he:=h.big.edges
 have hab:=h.al.2.2.1
 have hm:∀ x∈ns,0<=x/\x<b.nodes.length:=fun x hx=>by have:=Zcd ho hx;omega
 obtain⟨q1,q2⟩:=ZkV h (by rw[ho.1];exact Nat.le_refl _) hm (by rw[ho.1];exact Nat.le_refl _) h1
 have hE:(es.length:Int)=a.edges:=by rw[Uv h1];omega
 obtain⟨q3,q4⟩:=Zd9 hE (ZiK h.big) (ZiK h.big2) q1 q2 (Nat.le_refl _) (by rw[Zf5 h.al];exact Nat.le_refl _) h2
 refine⟨by rw[Yr h2,Uv h1],q3,q4,fun v h3 h4 h5=>Zmy (fun x hx hxl=>h5 ?_) fun hl=>h5 ?_⟩
 ·obtain⟨m,hmb,rfl⟩:=List.getElem_of_mem hx
  obtain⟨k,hk,hke⟩:=List.getElem_of_mem (ho.2 m (by omega))
  have hk2:k<a.nodes.length:=by rw[<-ho.1];exact hk
  have hgk:g0 ns k=(m:Int):=by rw[<-hke];simp [hk]
  cases hz1:edJ a b ns (k+1) with
  | none=>rw[ZgU hz1 hk2] at h1;cases h1
  | some w =>
   obtain⟨e0,g1,hf,g2⟩:=Zeb hz1
   rw[hgk,Int.toNat_natCast] at g2
   have hlen:(Jk a k).links.length=(Jk b m).links.length:=by
    refine Uw h.big h.big2 hk2 hmb ?_
    have:=hf.2.1
    rwa [List.length_take,Nat.min_eq_left (by rw[ho.1];omega),hgk,Int.toNat_natCast] at this
   obtain⟨i,hi,hie⟩:=List.getElem_of_mem hxl
   rw[<-ZQ hmb] at hi
   have hgi:g0 (Jk b m).links i=v:=by
    have:g0 (Jk b m).links i=(Jk b m).links[i]:=by simp [hi]
    rw[this,<-hie]
    simp only[ZQ hmb]
   have hw:v∈w:=by
    have:=Zd8 (by rw[Uv g1];omega) g2 i (by omega) (Zea h.big hk2 _ (J5 (by omega))) (by omega) (by omega)
    rwa [hgi] at this
   exact Zcf h3 h2 (ZiL h3 hz1 hw (by omega) h1)
 ·obtain⟨i,hi,hie⟩:=List.getElem_of_mem hl
  have hgi:g0 (lnk b) i=v:=by rw[<-hie];simp [hi]
  have hia:i<(lnk a).length:=by rw[Zf5 h.al];exact hi
  have:=Zd8 hE h2 i hia (ZiK h.big _ (J5 hia)) (by omega) (by omega)
  rwa [hgi] at this
theorem Zg0{l:List Int}:∀{f k:Nat},(∃ m:Nat,k<=m/\m<k+f/\(m:Int) ∉ l)->((nxt l f k:Nat):Int) ∉ l/\k<=nxt l f k/\nxt l f k<k+f/\∀ i:Nat,k<=i->i<nxt l f k->(i:Int)∈l
 | 0,k,⟨m,h1,h2,_⟩=>by omega
 | f+1,k,⟨m,h1,h2,h3⟩=>by
  rw[nxt]
  by_cases hk:(k:Int)∈l
  ·rw[if_pos hk]
   have hne:m≠k:=fun e=>h3 (by rw[e];exact hk)
   obtain⟨q1,q2,q3,q4⟩:=Zg0 (l:=l) (f:=f) (k:=k+1) ⟨m,by omega,by omega,h3⟩
   refine⟨q1,by omega,by omega,fun i h4 h5=>?_⟩
   by_cases e:i=k
   ·rw[e];exact hk
   ·exact q4 i (by omega) h5
  ·rw[if_neg hk]
   exact⟨hk,Nat.le_refl _,by omega,fun i h4 h5=>by omega⟩
theorem gap{l:List Int}{j:Nat}(hj:j<l.length)(hn:g0 l j<0):∃ m:Nat,0<=m/\m<0+l.length/\(m:Int) ∉ l:=by
 refine Classical.byContradiction fun h=>?_
 have hall:∀ c∈Zcr l.length,c∈l:=fun c hc=>by
  have:=upto_mem.1 hc
  refine Classical.byContradiction fun g=>h ⟨c.toNat,Nat.zero_le _,by omega,?_⟩
  rwa [show ((c.toNat:Nat):Int)=c by omega]
 have hp:=(Zae upto_nodup hall).2 (by rw[UV];exact Nat.le_refl _)
 have:=upto_mem.1 (hp.mem_iff.2 (J5 hj))
 omega
theorem Jl{es:List Int}:∀{j:Nat},(Jr es j).length=es.length
 | 0=>rfl
 | j+1=>by
  rw[Jr]
  split
  ·rw[List.length_set,Jl]
  ·exact Jl
def WC(es:List Int)(j:Nat):Nat:=nxt (Jr es j) es.length 0
theorem ZaL{es:List Int}{j:Nat}(hj:j<es.length)(hn:g0 (Jr es j) j<0):((WC es j:Nat):Int) ∉ Jr es j/\WC es j<es.length/\∀ i:Nat,i<WC es j->(i:Int)∈Jr es j:=by
 have hl:=Jl (es:=es) (j:=j)
 obtain⟨m,h1,h2,h3⟩:=gap (l:=Jr es j) (by omega) hn
 obtain⟨q1,_,q3,q4⟩:=Zg0 (l:=Jr es j) (f:=es.length) (k:=0) ⟨m,h1,by omega,h3⟩
 exact⟨q1,by unfold WC;omega,fun i hi=>q4 i (Nat.zero_le _) hi⟩
theorem Zaf{es:List Int}{j:Nat}(h:g0 (Jr es j) j<0):Jr es (j+1)=(Jr es j).set j (WC es j:Nat):=by rw[Jr,if_pos h];rfl
theorem Zby{es:List Int}{j:Nat}(h:¬ g0 (Jr es j) j<0):Jr es (j+1)=Jr es j:=by rw[Jr,if_neg h]
theorem Zfl{es:List Int}{v:Int}(hv:0<=v)(hm:v∈es):∀{j:Nat},v∈Jr es j
 | 0=>hm
 | j+1=>by
  have ih:=Zfl hv hm (j:=j)
  by_cases h:g0 (Jr es j) j<0
  ·rw[Zaf h]
   obtain⟨i,hi,hie⟩:=List.getElem_of_mem ih
   have hgi:g0 (Jr es j) i=v:=by rw[<-hie];simp [hi]
   by_cases hj:j<(Jr es j).length
   ·have hne:j≠i:=fun e=>by subst e;omega
    have:=Zf4 (j:=i) (v:=((WC es j:Nat):Int)) hj
    rw[if_neg hne,hgi] at this
    rw[<-this]
    exact J5 (by rw[List.length_set];exact hi)
   ·rw[List.set_eq_of_length_le (by omega)];exact ih
  ·rw[Zby h];exact ih
theorem ZiM{sig:List TControl}{a b:TBigraph}(h:pairOK sig a b){ns z:List Int}(ho:Xh a.nodes.length ns)(hz:Zfv a b ns=some z){j:Nat}(hj:j<z.length)(hn:g0 (Jr z j) j<0):idle b (WC z j:Nat):=by
 obtain⟨h1,_,_,h2⟩:=Zmz h ho hz
 obtain⟨q1,q2,_⟩:=ZaL hj hn
 have he:=h.big.edges
 exact h2 _ (by omega) (by omega) fun hm=>q1 (Zfl (by omega) hm)
end Go.Fd

/-
  TRANSLATIONS: LOOPS THAT STOP EARLY, IN PLAIN TERMS; LOOPS IN WHICH OTHERS' OBJECTS TURN. Own work.
-/
namespace Go.Fd
set_option maxRecDepth 20000
def Ux(E:Int)(es x y:List Int):Nat->List Int
 | 0=>es
 | j+1=>(Qk E es x y (j+1)).getD (Ux E es x y j)
theorem JR{E:Int}{es x y z:List Int}:∀{j:Nat},Qk E es x y j=some z->Ux E es x y j=z
 | 0,h=>by cases h;rfl
 | j+1,h=>by rw[Ux,h];rfl
theorem Zc3{E:Int}{es x y:List Int}{j:Nat}(h:Qk E es x y (j+1)=none):∀{k:Nat},j<=k->Ux E es x y k=Ux E es x y j
 | 0,hk=>by rw[show j=0 by omega]
 | k+1,hk=>by
  by_cases e:j=k+1
  ·rw[e]
  ·rw[Ux,UW h (by omega),Option.getD_none,Zc3 h (by omega)]
theorem ZaM{E:Int}{es x y z:List Int}{j:Nat}(h:Qk E es x y j=some z):Qk E es x y (j+1)=Zcs E z (g0 x j) (g0 y j):=by
 rw[Qk,h];rfl
def jnL{β:Type}(f:Int->List β)(j:Nat):List β:=(Zcr j).flatMap f
theorem Zg1{β:Type}{f:Int->List β}:jnL f 0=[]:=rfl
theorem Xz{β:Type}{f:Int->List β}{j:Nat}:jnL f (j+1)=jnL f j++f j:=by
 unfold jnL
 rw[ZiC,List.flatMap_append]
 simp
theorem Zec{β:Type}{f:Int->List β}{j:Nat}:∀{n:Nat},j<=n->∃ r,jnL f n=jnL f j++r
 | 0,h=>⟨[],by rw[show j=0 by omega];rfl⟩
 | n+1,h=>by
  by_cases e:j=n+1
  ·exact⟨[],by rw[e,List.append_nil]⟩
  ·obtain⟨r,hr⟩:=Zec (f:=f) (show j<=n by omega)
   exact⟨r++f n,by rw[Xz,hr,List.append_assoc]⟩
theorem Zj7{β:Type}{f:Int->List β}{j m:Nat}(h:((jnL f j).take m).length<m):(jnL f (j+1)).take m=(jnL f j).take m++(f j).take (m-((jnL f j).take m).length):=by
 rw[List.length_take] at h
 have hl:(jnL f j).length<m:=by omega
 rw[Xz,List.take_append,List.take_of_length_le (l:=jnL f j) (by omega)]
theorem Zj8{β:Type}{f:Int->List β}{j n m:Nat}(hj:j<=n)(h:m<=((jnL f j).take m).length):(jnL f n).take m=(jnL f j).take m:=by
 obtain⟨r,hr⟩:=Zec (f:=f) hj
 rw[hr]
 exact ZiI h r
def tkB{β:Type}(m:Bool)(L:List β):List β:=if m then L else L.take 1
theorem Zed{β:Type}{m:Bool}:tkB m ([]:List β)=[]:=by cases m <;> rfl
theorem ZmA{β:Type}{m:Bool}{x y:List β}(h:m=false->x=[]):tkB m (x++y)=tkB m x++tkB m y:=by
 cases m
 ·rw[h rfl];rfl
 ·rfl
theorem Zj9{β:Type}{f:Int->List β}{j n:Nat}(hj:j<n)(h:jnL f j=[])(hf:f j≠[]):tkB false (jnL f n)=tkB false (f j)/\(jnL f n).isEmpty=false:=by
 obtain⟨r,hr⟩:=Zec (f:=f) (show j+1<=n by omega)
 rw[Xz,h,List.nil_append] at hr
 rw[hr]
 cases hfj:f j with
 | nil=>exact absurd hfj hf
 | cons a b=>exact⟨rfl,rfl⟩
theorem Zc4{l m:Nat}{x y:List (Nat×Ob)}{S:Sto}(h:l≠m):Zu l x (Zu m y S)=Zu m y (Zu l x S):=by
 funext i
 unfold Zu
 by_cases h1:i.1=l
 ·rw[if_pos h1,if_neg (fun e=>h (by omega)),if_pos h1]
 ·rw[if_neg h1]
  by_cases h2:i.1=m
  ·rw[if_pos h2,if_pos h2]
  ·rw[if_neg h2,if_neg h2,if_neg h1]
theorem Zka{l k:Nat}{x:List (Nat×Ob)}{S:Sto}:Zu l x S (l,k)=lkO k x:=by unfold Zu;rw[if_pos rfl]
theorem Zfm{l:Nat}{x:List (Nat×Ob)}{S:Sto}{i:Oid}(h:i.1≠l):Zu l x S i=S i:=by unfold Zu;rw[if_neg h]
end Go.Fd

/-
  TRANSLATIONS, THE REFERENCE: TIES. Own work.
-/
namespace Go.Fd
set_option maxRecDepth 20000
abbrev cB(b:TBigraph):IV:=.ag ((Zc b).map .tr)
theorem UX(l:List Int)(hl:l.length<=4294967296)(lvl:Nat)(S:Sto):Sem Go.Proofs.Tryz.prog J7 lvl [tI l] S (.ow 1 (rI l) true) S:=by
 refine Zb Ze6 trivial ?_
 simp only[Za3,List.length_map,Zj2,Zj3,EVA,seval]
 exact hl
theorem Zkb{y:List Int}{j:Nat}{v:Int}(h:j<y.length):YG (rI y) [] j 0 (.v (.int .i64 v))=rI (y.set j v):=by
 simp only[YG]
 rw[JL h]
 exact(List.map_set (f:=fun n:Int=>[tv n]) (l:=y) (i:=j) (a:=v)).symm
theorem Zkc{n:Nat}:rI (List.replicate (n+1) (-1:Int))=rI (List.replicate n (-1))++[[tv (-1)]]:=by
 rw[List.replicate_succ']
 simp
theorem Zc5(n:Nat)(hn:n<=100)(lvl:Nat)(S:Sto):Sem Go.Proofs.Tryz.prog VI lvl [iI n] S (.ow 1 (rI (List.replicate n (-1))) true) S:=by
 refine Zb ZdT trivial ?_
 simp only[DV,EVA,seval]
 refine Ji (α:=Unit) n (fun j _=>[(3,.hd (lvl,160) [] 0 j none j),(4,iI j)]) (fun j _=>[(160,.ar 1 (rI (List.replicate j (-1))) true j 0)]) (fun _ _=>True) () (by simp only[EVA,seval]) (by (simp only[EVA,seval]) <;> rfl) trivial ?_
 intro j _ hj _
 simp only[List.length_map,List.length_replicate,EVA,seval]
 refine Zp (fun hlt=>?_) (fun hge=>?_)
 ·have hja:j<n:=by omega
  exact⟨by omega,by rw[Zd];omega,Ze () hja (by rw[Zkc];rfl) trivial⟩
 ·have:j=n:=by omega
  subst this
  rfl
theorem ZiN(a b:TBigraph)(es:List Int)(x y:Int)(ha:0<=a.edges/\a.edges<=8)(hab:a.edges=b.edges)(hes:es.length=a.edges.toNat)(hx:0<=x/\x<=1000)(hy:0<=y/\y<=1000)(lvl:Nat)(S:Sto) :
  Sem Go.Proofs.Tryz.prog XF lvl [cB a,cB b,tI es,iI x,iI y] S (.tu [tI ((Zcs a.edges es x y).getD es),iB (Zcs a.edges es x y).isSome]) S:=by
 refine Zb Ze8 (by simp [low,men,Zl]) ?_
 unfold Zcs
 rw[hab] at ha hes ⊢
 by_cases h1:b.edges<=x
 ·rw[if_pos (.inl h1)]
  by_cases h2:x=y
  ·have e:(x-b.edges=y-b.edges)=True:=eq_true (by omega)
   rw[if_pos h2]
   simp only[JF,Zc,hab,h1,e,EVA,seval]
   exact⟨by rw[Zd];omega,by rw[Zd];omega⟩
  ·have e:(x-b.edges=y-b.edges)=False:=eq_false (by omega)
   rw[if_neg h2]
   simp only[JF,Zc,hab,h1,e,EVA,seval]
   exact⟨by rw[Zd];omega,by rw[Zd];omega⟩
 by_cases h3:b.edges<=y
 ·rw[if_pos (.inr h3)]
  by_cases h2:x=y
  ·omega
  ·have e:(x-b.edges=y-b.edges)=False:=eq_false (by omega)
   rw[if_neg h2]
   simp only[JF,Zc,hab,h1,h3,e,EVA,seval]
   exact⟨by rw[Zd];omega,by rw[Zd];omega⟩
 rw[if_neg (show ¬ (b.edges<=x\/b.edges<=y) by omega)]
 obtain⟨k,rfl⟩:=Int.eq_ofNat_of_zero_le hx.1
 have hk:k<es.length:=by omega
 have ga:=JL hk
 simp only[Int.toNat_natCast]
 by_cases h4:0<=g0 es k
 ·rw[if_pos (.inl h4)]
  by_cases h5:g0 es k=y
  ·have e:(g0 es k=y)=True:=eq_true h5
   rw[if_pos h5]
   simp only[JF,Zc,hab,h1,h3,ga,h4,e,EVA,seval]
   try rfl
  ·have e:(g0 es k=y)=False:=eq_false h5
   rw[if_neg h5]
   simp only[JF,Zc,hab,h1,h3,ga,h4,e,EVA,seval]
   try rfl
 by_cases h6:y∈es
 ·rw[if_pos (.inr h6)]
  by_cases h5:g0 es k=y
  ·have e:(g0 es k=y)=True:=eq_true h5
   rw[if_pos h5]
   simp only[JF,Zc,hab,h1,h3,ga,h4,EVA,seval,Zl,men]
   refine Za (X6 es y (by omega)) ?_
   simp only[h6,ga,e,decide_true,EVA,seval]
   try rfl
  ·have e:(g0 es k=y)=False:=eq_false h5
   rw[if_neg h5]
   simp only[JF,Zc,hab,h1,h3,ga,h4,EVA,seval,Zl,men]
   refine Za (X6 es y (by omega)) ?_
   simp only[h6,ga,e,decide_true,EVA,seval]
   try rfl
 rw[if_neg (show ¬ (0<=g0 es k\/y∈es) from fun h=>h.elim h4 h6)]
 have sp:=Zkb (y:=es) (j:=k) (v:=y) hk
 simp only[JF,Zc,hab,h1,h3,ga,h4,EVA,seval,Zl,men]
 refine Za (X6 es y (by omega)) ?_
 simp only[h6,decide_false,EVA,seval,Zl,men]
 refine Za (UX es (by omega)) ?_
 simp only[hk,ga,sp,List.length_map,EVA,seval]
 refine⟨by rw[List.length_set];exact Nat.le_refl _,?_⟩
 rw[Uu (by simp)]
end Go.Fd

/-
  TRANSLATIONS, THE REFERENCE: LISTS OF TIES, NODES THAT FIT, ENDS. Own work.
-/
namespace Go.Fd
set_option maxRecDepth 20000
theorem ZaN(a b:TBigraph)(es x y:List Int)(ha:0<=a.edges/\a.edges<=8)(hab:a.edges=b.edges)(hes:es.length=a.edges.toNat)(hl:x.length=y.length)(hxl:x.length<=1000)(hx:∀ v∈x,0<=v/\v<=1000)(hy:∀ v∈y,0<=v/\v<=1000)(lvl:Nat)(S:Sto) :
  Sem Go.Proofs.Tryz.prog Yo lvl [cB a,cB b,tI es,tI x,tI y] S (.tu [tI (Ux a.edges es x y x.length),iB (QN a.edges es x y).isSome]) S:=by
 refine Zb ZdV (by simp [low,men,Zl]) ?_
 simp only[DX,Zc,EVA,seval]
 refine Ji (α:=Unit) x.length (fun j _=>[(2,tI (Ux a.edges es x y j)),(12,iI j)]) (fun _ _=>[]) (fun j _=>∃ z,Qk a.edges es x y j=some z) () (by simp only[EVA,seval]) (by (simp only[Ux,EVA,seval]) <;> rfl) ⟨es,rfl⟩ ?_
 intro j _ hj ⟨z,hz⟩
 rw[JR hz]
 simp only[List.length_map,EVA,seval]
 refine Zp (fun hlt=>?_) (fun hge=>?_)
 ·have hja:j<x.length:=by omega
  have hjy:j<y.length:=by omega
  have gx:=JL hja
  have gy:=JL hjy
  have q:=ZiN a b z (g0 x j) (g0 y j) ha hab (by rw[Yr hz];exact hes) (hx _ (J5 hja)) (hy _ (J5 hjy))
  have hsucc:=ZaM hz
  simp only[cB,Zc,List.map_cons,List.map_nil] at q
  simp only[gx,gy,EVA,seval,Zl,men]
  refine Za q ?_
  cases ht:Zcs a.edges z (g0 x j) (g0 y j) with
  | none =>
   rw[ht] at hsucc
   have e1:Ux a.edges es x y x.length=z:=by rw[Zc3 hsucc (by omega),JR hz]
   have e2:(QN a.edges es x y).isSome=false:=by unfold QN;rw[UW hsucc (by omega)];rfl
   rw[e1,e2]
   simp only[Option.isSome_none,EVA,seval]
   try rfl
  | some w =>
   rw[ht] at hsucc
   simp only[Option.isSome_some,Option.getD_some,EVA,seval]
   exact⟨by rw[Zd];omega,Ze () hja (by rw[JR hsucc];rfl) ⟨w,hsucc⟩⟩
 ·have:j=x.length:=by omega
  subst this
  have e2:(QN a.edges es x y).isSome=true:=by unfold QN;rw[hz];rfl
  rw[e2,JR hz]
theorem Zc6(p:Int)(ns:List Int)(h:p<ns.length)(lvl:Nat)(S:Sto):Sem Go.Proofs.Tryz.prog VQ lvl [iI p,tI ns] S (iI (mvP ns p)) S:=by
 refine Zb Zd0 trivial ?_
 unfold mvP
 by_cases h0:p<0
 ·rw[if_pos h0]
  simp only[Wy,h0,EVA,seval]
  try rfl
 ·rw[if_neg h0]
  obtain⟨k,rfl⟩:=Int.eq_ofNat_of_zero_le (show 0<=p by omega)
  have hk:k<ns.length:=by omega
  have ga:=JL hk
  simp only[Wy,h0,ga,EVA,seval]
  try rfl
theorem Zc7(a b:TBigraph)(ns:List Int)(m:Nat)(hk:ns.length<a.nodes.length)(hn:ns.length<=100)(hm:m<b.nodes.length)(hp:(Jk a ns.length).parent<ns.length)(lvl:Nat)(S:Sto) :
  Sem Go.Proofs.Tryz.prog VJ lvl [cB a,cB b,tI ns,iI m] S (iB (dc (Zav a b ns m))) S:=by
 refine Zb ZdU trivial ?_
 have ga:=Wd (c:=ZR) hk
 have gb:=Wd (c:=ZR) hm
 have ea:=ZQ hk
 have eb:=ZQ hm
 rw[ea] at hp
 have key:Zav a b ns m↔(m:Int) ∉ ns/\a.nodes[ns.length].control=b.nodes[m].control/\mvP ns a.nodes[ns.length].parent=b.nodes[m].parent:=by
  unfold Zav
  rw[Int.toNat_natCast,ea,eb]
 rw[JY key]
 generalize a.nodes[ns.length]=x at ga hp ⊢
 generalize b.nodes[m]=y at gb ⊢
 simp only[DW,Zc,ga,gb,ZR,List.length_map,EVA,seval,Zl,men]
 refine Za (X6 ns m (by omega)) ?_
 by_cases h1:(m:Int)∈ns
 ·rw[Zf fun h=>h.1 h1]
  simp only[h1,decide_true,EVA,seval]
  try rfl
 by_cases h2:x.control=y.control
 ·have e2:(x.control=y.control)=True:=eq_true h2
  simp only[h1,decide_false,e2,EVA,seval,Zl,men]
  refine Za (Zc6 x.parent ns hp) ?_
  by_cases h3:mvP ns x.parent=y.parent
  ·have e3:(mvP ns x.parent=y.parent)=True:=eq_true h3
   rw[ZK h3]
   simp only[e3,EVA,seval]
   try rfl
  ·have e3:(mvP ns x.parent=y.parent)=False:=eq_false h3
   rw[Zf h3]
   simp only[e3,EVA,seval]
   try rfl
 ·have e2:(x.control=y.control)=False:=eq_false h2
  rw[Zf fun h=>h2 h.2.1]
  simp only[h1,decide_false,e2,EVA,seval]
  try rfl
open Classical in
noncomputable def ZpL(a b:TBigraph)(ns es:List Int):List Int:=if a.sites.map (mvP ns)=b.sites then Ux a.edges es (lnk a) (lnk b) (lnk a).length else es
theorem Zg2{b:TBigraph}{j:Nat}(h:j<b.inner.length):rI ((lnk b).take j)++[[tv b.inner[j].link]]=rI ((lnk b).take (j+1)):=by
 rw[List.take_succ_eq_append_getElem (by simpa [lnk] using h)]
 simp [lnk]
theorem Zc8(a b:TBigraph)(ns es:List Int)(ha:0<=a.edges/\a.edges<=8)(hab:a.edges=b.edges)(hes:es.length=a.edges.toNat)(hs:a.sites.length=b.sites.length)(hs2:a.sites.length<=100)(hi:a.inner.length=b.inner.length)(hi2:a.inner.length<=100)(hp:∀ p∈a.sites,p<ns.length)
  (hx:∀ v∈lnk a,0<=v/\v<=1000) (hy:∀ v∈lnk b,0<=v/\v<=1000) (lvl:Nat) (S:Sto) :
  Sem Go.Proofs.Tryz.prog VK lvl [cB a,cB b,tI ns,tI es] S (.tu [tI (ZpL a b ns es),iB (Zew a b ns es).isSome]) S:=by
 have hla:(lnk a).length=a.inner.length:=by simp [lnk]
 have hlb:(lnk b).length=b.inner.length:=by simp [lnk]
 refine Zb ZdW (by simp [low,men,Zl]) ?_
 simp only[DY,Zc,EVA,seval]
 refine Ji (α:=Unit) a.sites.length (fun j _=>[(10,iI j)]) (fun _ _=>[]) (fun j _=>∀ i,i<j->mvP ns (g0 a.sites i)=g0 b.sites i) () (by simp only[EVA,seval]) (by (simp only[EVA,seval]) <;> rfl) (fun i hi=>absurd hi (Nat.not_lt_zero i)) ?_
 intro j _ hj hA
 simp only[List.length_map,EVA,seval]
 refine Zp (fun hlt=>?_) (fun hge=>?_)
 ·have hja:j<a.sites.length:=by omega
  have hjb:j<b.sites.length:=by omega
  have gx:=JL hja
  have gy:=JL hjb
  simp only[gx,EVA,seval,Zl,men]
  refine Za (Zc6 (g0 a.sites j) ns (hp _ (J5 hja))) ?_
  by_cases h:mvP ns (g0 a.sites j)=g0 b.sites j
  ·have e:(mvP ns (g0 a.sites j)=g0 b.sites j)=True:=eq_true h
   simp only[gy,e,EVA,seval]
   exact⟨by rw[Zd];omega,Ze () hja rfl (fun i hi=>by
    by_cases e:i=j
    ·subst e;exact h
    ·exact hA i (by omega))⟩
  ·have e:(mvP ns (g0 a.sites j)=g0 b.sites j)=False:=eq_false h
   have hne:¬ a.sites.map (mvP ns)=b.sites:=fun g=>h (by
    rw[<-g]
    show _=(a.sites.map (mvP ns)).getD j 0
    simp [hja])
   unfold ZpL Zew
   rw[if_neg hne,if_neg hne]
   simp only[gy,e,Option.isSome_none,EVA,seval]
   try rfl
 have hj1:j=a.sites.length:=by omega
 subst hj1
 have heq:a.sites.map (mvP ns)=b.sites:=List.ext_getElem (by rw[List.length_map];exact hs) fun i h1 h2=>by
  rw[List.length_map] at h1
  have:=hA i h1
  rw[List.getElem_map]
  simpa [h1,h2] using this
 unfold ZpL Zew
 rw[if_pos heq,if_pos heq]
 refine Ji (α:=Unit) a.inner.length (fun j _=>[(11,.hd (lvl,1120) [] 0 j none j),(12,.hd (lvl,1152) [] 0 j none j),(13,iI j)]) (fun j _=>[(1120,.ar 1 (rI ((lnk a).take j)) true j 0),(1152,.ar 1 (rI ((lnk b).take j)) true j 0)]) (fun _ _=>True) () (by simp only[EVA,seval]) (by (simp only[EVA,seval]) <;> rfl) trivial ?_
 intro j _ hj _
 simp only[List.length_map,EVA,seval,Zl,men]
 refine Zp (fun hlt=>?_) (fun hge=>?_)
 ·have hja:j<a.inner.length:=by omega
  have hjb:j<b.inner.length:=by omega
  have gx:=Wd (c:=Jj) hja
  have gy:=Wd (c:=Jj) hjb
  have l1:(rI ((lnk a).take j)).length=j:=by simp;omega
  have l2:(rI ((lnk b).take j)).length=j:=by simp;omega
  simp only[gx,gy,Jj,l1,l2,EVA,seval]
  exact⟨by omega,by omega,by rw[Zd];omega,Ze () hja (by rw[<-Zg2 hja,<-Zg2 hjb];rfl) trivial⟩
 ·have hj2:j=a.inner.length:=by omega
  subst hj2
  have q:=ZaN a b es (lnk a) (lnk b) ha hab hes (by omega) (by omega) hx hy
  simp only[cB,Zc,List.map_cons,List.map_nil] at q
  have t1:(lnk a).take a.inner.length=lnk a:=List.take_of_length_le (by omega)
  have t2:(lnk b).take a.inner.length=lnk b:=List.take_of_length_le (by omega)
  rw[t1,t2]
  have c1:cut (rI (lnk a)) 0 a.inner.length=rI (lnk a):=Uu (by rw[List.length_map];omega)
  have c2:cut (rI (lnk b)) 0 a.inner.length=rI (lnk b):=Uu (by rw[List.length_map];omega)
  simp only[hla,hlb,EVA,seval]
  refine⟨by omega,?_⟩
  refine Za q ?_
  simp only[hla,EVA,seval]
  try rfl
end Go.Fd
