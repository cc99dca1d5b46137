/-
  The annotated codes of the functions, printed by a program of mine (gen.py), and the check that they belong to the program.
-/
import Derived.Test.YtfgceefkblbbjaaGreatDoorT04
import Derived.KernelRfl
import Derived.Shelf.Sort.AssemblysIn
import Derived.Shelf.Strings.SlTrimAscii
import Derived.Test.YtfgceefkblbbjaaGreatDoorProg
set_option linter.all false
namespace Go.Fd
def Va:F2 :=
 { nt:=8,res:=[.t 2 [2]],body :=
  (.sq (rg [om 2 (.k (.slice none 0 0))])
 (.sq (.sq (rg [om 3 (.t 0),
 oo 4 (.nl false (.t 3))])
 (.cd (.t 4) (.sq (rg [om 2 (.k (.slice none 0 0))])
 (.rt))
 (.sk)))
 (.sq (rg [oo 5 (.bs 1 0 [] []),
 om 6 (.t 0),
 oo 7 (.ap 1 0 (.t 5) (.t 6)),
 om 2 (.t 7)])
 (.rt)))) }
theorem Wt:ZI Go.Proofs.Tryz.prog ZG Va=true:=by kernel_rfl
def Zcb:F2 :=
 { nt:=98,res:=[.t 4 [0]],body :=
  (.sq (rg [oo 3 (.bt (.t 1)),
 om 4 (.k (.bool false))])
 (.sq (.sq (rg [om 8 (.t 0),
 oo 9 (.ca .pure false (.f XJ) [.t 8]),
 oo 10 (.nt (.t 9)),
 om 11 (.t 10),
 og 12 11 false (.fa 0 (.t 3)),
 og 13 11 false (.ld none (.t 12)),
 og 14 11 false (.ca .pure false (.f ZY) [.t 13,i6 0,i6 4]),
 og 15 11 false (.nt (.t 14)),
 oo 16 (.pk (.t 11) (.k (.bool true)) (.t 15)),
 om 17 (.t 16),
 og 18 17 false (.fa 1 (.t 3)),
 og 19 17 false (.ld none (.t 18)),
 og 20 17 false (.ln (.t 19)),
 og 21 17 false (.bi .gtr 0 (.t 20) (i6 8)),
 oo 22 (.pk (.t 17) (.k (.bool true)) (.t 21)),
 om 23 (.t 22),
 og 24 23 false (.fa 2 (.t 3)),
 og 25 23 false (.ld none (.t 24)),
 og 26 23 false (.ln (.t 25)),
 og 27 23 false (.bi .gtr 0 (.t 26) (i6 4)),
 oo 28 (.pk (.t 23) (.k (.bool true)) (.t 27)),
 om 29 (.t 28),
 og 30 29 false (.fa 3 (.t 3)),
 og 31 29 false (.ld none (.t 30)),
 og 32 29 false (.ca .pure false (.f ZY) [.t 31,i6 0,i6 8]),
 og 33 29 false (.nt (.t 32)),
 oo 34 (.pk (.t 29) (.k (.bool true)) (.t 33))])
 (.cd (.t 34) (.sq (rg [om 4 (.k (.bool false))])
 (.rt))
 (.sk)))
 (.sq (.sq (rg [oo 35 (.fa 4 (.t 3)),
 oo 36 (.ld none (.t 35)),
 oo 37 (.ca .pure false (.f Qj) [.t 36]),
 oo 38 (.nt (.t 37)),
 om 39 (.t 38),
 og 40 39 false (.fa 5 (.t 3)),
 og 41 39 false (.ld none (.t 40)),
 og 42 39 false (.ln (.t 41)),
 og 43 39 false (.bi .gtr 0 (.t 42) (i6 16)),
 oo 44 (.pk (.t 39) (.k (.bool true)) (.t 43)),
 om 45 (.t 44),
 og 46 45 false (.ld (some 6) (.t 3)),
 og 47 45 false (.ca .pure false (.f Wc) [.t 46]),
 og 48 45 false (.ca .pure false (.f Qj) [.t 47]),
 og 49 45 false (.nt (.t 48)),
 oo 50 (.pk (.t 45) (.k (.bool true)) (.t 49))])
 (.cd (.t 50) (.sq (rg [om 4 (.k (.bool false))])
 (.rt))
 (.sk)))
 (.sq (.sq (rg [om 5 (i6 0)])
 (.bl 0 (.lp [0,3,5] [] (.sq (.sq (rg [om 51 (.t 5),
 oo 52 (.fa 1 (.t 3)),
 oo 53 (.ld none (.t 52)),
 oo 54 (.ln (.t 53)),
 oo 55 (.bi .lss 0 (.t 51) (.t 54))])
 (.cd (.t 55) (.sk)
 (.ex 0)))
 (.sq (.bl 1 (.sq (rg [om 58 (.t 0),
 oo 59 (.ld (some 6) (.t 3)),
 om 60 (.t 5),
 oo 61 (.ca .pure false (.f WO) [.t 58,.t 59,.t 60]),
 oo 62 (.nt (.t 61))])
 (.cd (.t 62) (.sq (rg [om 4 (.k (.bool false))])
 (.rt))
 (.sk))))
 (rg [om 56 (.t 5),
 oo 57 (.bi .add 0 (.t 56) (i6 1)),
 om 5 (.t 57)]))))))
 (.sq (.sq (rg [om 6 (i6 0)])
 (.bl 2 (.lp [0,3,6] [] (.sq (.sq (rg [om 63 (.t 6),
 oo 64 (.fa 2 (.t 3)),
 oo 65 (.ld none (.t 64)),
 oo 66 (.ln (.t 65)),
 oo 67 (.bi .lss 0 (.t 63) (.t 66))])
 (.cd (.t 67) (.sk)
 (.ex 2)))
 (.sq (.bl 3 (.sq (.rg (some 0) [om 70 (.t 0),
 oo 71 (.ld (some 6) (.t 3)),
 oo 72 (.fa 2 (.t 3)),
 oo 73 (.ld none (.t 72)),
 om 74 (.t 6),
 oo 75 (.ia 1 (.t 73) (.t 74)),
 oo 76 (.ld none (.t 75)),
 oo 77 (.fa 1 (.t 3)),
 oo 78 (.ld none (.t 77)),
 oo 79 (.ln (.t 78)),
 oo 80 (.ca .pure false (.f Qk) [.t 70,.t 71,.t 76,.t 79]),
 oo 81 (.nt (.t 80))])
 (.cd (.t 81) (.sq (rg [om 4 (.k (.bool false))])
 (.rt))
 (.sk))))
 (rg [om 68 (.t 6),
 oo 69 (.bi .add 0 (.t 68) (i6 1)),
 om 6 (.t 69)]))))))
 (.sq (.sq (rg [om 7 (i6 0)])
 (.bl 4 (.lp [3,7] [] (.sq (.sq (rg [om 82 (.t 7),
 oo 83 (.fa 5 (.t 3)),
 oo 84 (.ld none (.t 83)),
 oo 85 (.ln (.t 84)),
 oo 86 (.bi .lss 0 (.t 82) (.t 85))])
 (.cd (.t 86) (.sk)
 (.ex 4)))
 (.sq (.bl 5 (.sq (.rg (some 0) [oo 89 (.ld (some 6) (.t 3)),
 oo 90 (.fa 5 (.t 3)),
 oo 91 (.ld none (.t 90)),
 om 92 (.t 7),
 oo 93 (.ia 2 (.t 91) (.t 92)),
 oo 94 (.fa 1 (.t 93)),
 oo 95 (.ld none (.t 94)),
 oo 96 (.ca .pure false (.f Xc) [.t 89,.t 95]),
 oo 97 (.nt (.t 96))])
 (.cd (.t 97) (.sq (rg [om 4 (.k (.bool false))])
 (.rt))
 (.sk))))
 (rg [om 87 (.t 7),
 oo 88 (.bi .add 0 (.t 87) (i6 1)),
 om 7 (.t 88)]))))))
 (.sq (rg [om 4 (.k (.bool true))])
 (.rt)))))))) }
theorem Zhs:ZI Go.Proofs.Tryz.prog J6 Zcb=true:=by kernel_rfl
def DJ:F2 :=
 { nt:=101,res:=[.t 4 [0]],body :=
  (.sq (rg [oo 2 (.bt (.t 0)),
 oo 3 (.bt (.t 1)),
 om 4 (.k (.bool false))])
 (.sq (.sq (rg [oo 7 (.ld none (.t 2)),
 oo 8 (.ca .pure false (.f JP) [.t 7]),
 oo 9 (.nt (.t 8)),
 om 10 (.t 9),
 og 11 10 false (.fa 0 (.t 3)),
 og 12 10 false (.ld none (.t 11)),
 og 13 10 false (.ca .pure false (.f ZQ) [.t 12,i6 0,i6 4]),
 og 14 10 false (.nt (.t 13)),
 oo 15 (.pk (.t 10) (.k (.bool true)) (.t 14)),
 om 16 (.t 15),
 og 17 16 false (.fa 1 (.t 3)),
 og 18 16 false (.ld none (.t 17)),
 og 19 16 false (.ln (.t 18)),
 og 20 16 false (.bi .gtr 0 (.t 19) (i6 8)),
 oo 21 (.pk (.t 16) (.k (.bool true)) (.t 20)),
 om 22 (.t 21),
 og 23 22 false (.fa 2 (.t 3)),
 og 24 22 false (.ld none (.t 23)),
 og 25 22 false (.ln (.t 24)),
 og 26 22 false (.bi .gtr 0 (.t 25) (i6 4)),
 oo 27 (.pk (.t 22) (.k (.bool true)) (.t 26)),
 om 28 (.t 27),
 og 29 28 false (.fa 3 (.t 3)),
 og 30 28 false (.ld none (.t 29)),
 og 31 28 false (.ca .pure false (.f ZQ) [.t 30,i6 0,i6 8]),
 og 32 28 false (.nt (.t 31)),
 oo 33 (.pk (.t 28) (.k (.bool true)) (.t 32)),
 om 34 (.t 33),
 og 35 34 false (.fa 4 (.t 3)),
 og 36 34 false (.ld none (.t 35)),
 og 37 34 false (.ca .pure false (.f VD) [.t 36]),
 og 38 34 false (.nt (.t 37)),
 oo 39 (.pk (.t 34) (.k (.bool true)) (.t 38)),
 om 40 (.t 39),
 og 41 40 false (.ld (some 6) (.t 3)),
 og 42 40 false (.ca .pure false (.f Z4) [.t 41]),
 og 43 40 false (.ca .pure false (.f VD) [.t 42]),
 og 44 40 false (.nt (.t 43)),
 oo 45 (.pk (.t 40) (.k (.bool true)) (.t 44))])
 (.cd (.t 45) (.sq (rg [om 4 (.k (.bool false))])
 (.rt))
 (.sk)))
 (.sq (.sq (rg [oo 46 (.fa 1 (.t 3)),
 oo 47 (.ld none (.t 46)),
 oo 48 (.ln (.t 47)),
 om 49 (i6 0)])
 (.bl 0 (.lp [2,3,47,48,49] [] (.sq (rg [oo 50 (.bi .lss 0 (.t 49) (.t 48))])
 (.sq (.cd (.t 50) (.sk)
 (.ex 0))
 (.sq (.bl 1 (.sq (rg [om 51 (.t 49),
 oo 52 (.ia 3 (.t 47) (.t 49)),
 oo 53 (.ld (some 3) (.t 52)),
 oo 6 (.al [.int .i64 0,.int .i64 0,.slice none 0 0] []),
 om 5 (.t 51),
 on1 (.st 3 (.t 6) (.t 53))])
 (.sq (.rg (some 0) [oo 54 (.fa 0 (.t 6)),
 oo 55 (.ld none (.t 54)),
 oo 56 (.ld none (.t 2)),
 oo 57 (.ln (.t 56)),
 oo 58 (.bi .sub 0 (.t 57) (i6 1)),
 oo 59 (.ca .pure false (.f ZQ) [.t 55,i6 0,.t 58]),
 oo 60 (.nt (.t 59)),
 om 61 (.t 60),
 og 62 61 false (.ld (some 6) (.t 3)),
 og 63 61 false (.ld none (.t 2)),
 og 64 61 false (.fa 1 (.t 6)),
 og 65 61 false (.ld none (.t 64)),
 og 66 61 false (.mv (.t 5) none),
 og 67 61 false (.ca .pure false (.f JE) [.t 62,.t 63,.t 65,.t 66]),
 og 68 61 false (.nt (.t 67)),
 oo 69 (.pk (.t 61) (.k (.bool true)) (.t 68)),
 om 70 (.t 69),
 og 71 70 false (.fa 2 (.t 6)),
 og 72 70 false (.ld none (.t 71)),
 og 73 70 false (.ln (.t 72)),
 og 74 70 false (.ld none (.t 2)),
 og 75 70 false (.fa 0 (.t 6)),
 og 76 70 false (.ld none (.t 75)),
 og 77 70 false (.ia 3 (.t 74) (.t 76)),
 og 78 70 false (.fa 1 (.t 77)),
 og 79 70 false (.ld none (.t 78)),
 og 80 70 false (.bi .neq 0 (.t 73) (.t 79)),
 oo 81 (.pk (.t 70) (.k (.bool true)) (.t 80)),
 om 82 (.t 81),
 og 83 82 false (.fa 2 (.t 6)),
 og 84 82 false (.ld none (.t 83)),
 og 85 82 false (.mf VQ [.t 3]),
 og 86 82 false (.ca .pure false (.f JA) [.t 84,.t 85]),
 oo 87 (.pk (.t 82) (.k (.bool true)) (.t 86))])
 (.cd (.t 87) (.sq (rg [om 4 (.k (.bool false))])
 (.rt))
 (.sk)))))
 (rg [oo 88 (.bi .add 0 (.t 49) (i6 1)),
 om 49 (.t 88)])))))))
 (.sq (rg [oo 89 (.fa 2 (.t 3)),
 oo 90 (.ld none (.t 89)),
 oo 91 (.mf VS [.t 3,.t 2]),
 oo 92 (.ca .pure false (.f JA) [.t 90,.t 91]),
 oo 93 (.nt (.t 92)),
 om 94 (.t 93),
 og 95 94 true (.fa 5 (.t 3)),
 og 96 94 true (.ld none (.t 95)),
 og 97 94 true (.mf VT [.t 3]),
 og 98 94 true (.ca .pure false (.f Jq) [.t 96,.t 97]),
 og 99 94 true (.nt (.t 98)),
 oo 100 (.pk (.t 94) (.t 99) (.k (.bool false))),
 om 4 (.t 100)])
 (.rt))))) }
theorem Zd2:ZI Go.Proofs.Tryz.prog ZZ DJ=true:=by kernel_rfl
def Qa:F2 :=
 { nt:=21,res:=[.t 2 [2]],body :=
  (.sq (rg [oo 1 (.bt (.t 0)),
 om 2 (.k (.slice none 0 0))])
 (.sq (rg [oo 6 (.bs 1 0 [] []),
 om 3 (.t 6)])
 (.sq (.sq (rg [oo 7 (.fa 5 (.t 1)),
 oo 8 (.ld none (.t 7)),
 oo 9 (.ln (.t 8)),
 om 10 (i6 0)])
 (.bl 0 (.lp [3,8,9,10] [192,576] (.sq (rg [oo 11 (.bi .lss 0 (.t 10) (.t 9))])
 (.sq (.cd (.t 11) (.sk)
 (.ex 0))
 (.sq (.bl 1 (.sq (rg [oo 12 (.ia 2 (.t 8) (.t 10)),
 oo 13 (.ld (some 2) (.t 12)),
 oo 5 (.al [.string ⟨#[]⟩,.int .i64 0] []),
 on1 (.st 2 (.t 5) (.t 13))])
 (rg [om 14 (.t 3),
 oo 15 (.fa 0 (.t 5)),
 oo 16 (.ld none (.t 15)),
 oo 17 (.bs 1 1 [.string ⟨#[]⟩] [(0,.t 16)]),
 oo 18 (.ap 1 0 (.t 14) (.t 17)),
 om 3 (.t 18)])))
 (rg [oo 19 (.bi .add 0 (.t 10) (i6 1)),
 om 10 (.t 19)])))))))
 (.sq (rg [om 20 (.t 3),
 om 2 (.t 20)])
 (.rt))))) }
theorem UA:ZI Go.Proofs.Tryz.prog Z4 Qa=true:=by kernel_rfl
def Xu:F2 :=
 { nt:=8,res:=[.t 2 [2]],body :=
  (.sq (rg [om 2 (.k (.slice none 0 0))])
 (.sq (.sq (rg [om 3 (.t 0),
 oo 4 (.nl false (.t 3))])
 (.cd (.t 4) (.sq (rg [om 2 (.k (.slice none 0 0))])
 (.rt))
 (.sk)))
 (.sq (rg [oo 5 (.bs 1 0 [] []),
 om 6 (.t 0),
 oo 7 (.ap 1 0 (.t 5) (.t 6)),
 om 2 (.t 7)])
 (.rt)))) }
theorem DR:ZI Go.Proofs.Tryz.prog Z2 Xu=true:=by kernel_rfl
def ZdH:F2 :=
 { nt:=18,res:=[.t 4 [0]],body :=
  (.sq (rg [om 4 (.k (.bool false))])
 (.sq (.sq (rg [om 5 (i6 0)])
 (.bl 0 (.lp [0,1,5] [] (.sq (.sq (rg [om 6 (.t 5),
 om 7 (.t 0),
 oo 8 (.ln (.t 7)),
 oo 9 (.bi .lss 0 (.t 6) (.t 8))])
 (.cd (.t 9) (.sk)
 (.ex 0)))
 (.sq (.bl 1 (.sq (rg [om 12 (.t 0),
 om 13 (.t 5),
 oo 14 (.ia 1 (.t 12) (.t 13)),
 oo 15 (.ld none (.t 14)),
 om 16 (.t 1),
 oo 17 (.bi .eql 0 (.t 15) (.t 16))])
 (.cd (.t 17) (.sq (rg [om 4 (.k (.bool true))])
 (.rt))
 (.sk))))
 (rg [om 10 (.t 5),
 oo 11 (.bi .add 0 (.t 10) (i6 1)),
 om 5 (.t 11)]))))))
 (.sq (rg [om 4 (.k (.bool false))])
 (.rt)))) }
theorem ZiV:ZI Go.Proofs.Tryz.prog Ux ZdH=true:=by kernel_rfl
def US:F2 :=
 { nt:=131,res:=[.c 6 (some 6) [0,4,2,0,2,3]],body :=
  (.sq (rg [oo 3 (.bt (.t 0)),
 oo 6 (.al [.int .i64 0,.slice none 0 0,.slice none 0 0,.int .i64 0,.slice none 0 0,.slice none 0 0] [])])
 (.sq (.rg (some 0) [oo 13 (.fa 0 (.t 3)),
 oo 14 (.lt none (.t 13)),
 oo 15 (.fa 1 (.t 3)),
 oo 16 (.lt none (.t 15)),
 oo 17 (.ln (.t 16)),
 oo 18 (.ms 3 [.int .i64 0,.int .i64 0,.slice none 0 0] (.t 17)),
 oo 19 (.fa 3 (.t 3)),
 oo 20 (.lt none (.t 19)),
 oo 21 (.bs 1 0 [] []),
 oo 22 (.fa 4 (.t 3)),
 oo 23 (.ld none (.t 22)),
 oo 24 (.a0 1 (.t 21) (.t 23)),
 oo 25 (.bd [.int .i64 0,.slice none 0 0,.slice none 0 0,.int .i64 0,.slice none 0 0,.slice none 0 0] [(0,1,.t 14),(1,1,.t 18),(3,1,.t 20),(4,1,.t 24)] [(2,1),(5,2)]),
 oo 7 (.al [.int .i64 0,.slice none 0 0,.slice none 0 0,.int .i64 0,.slice none 0 0,.slice none 0 0] []),
 on1 (.st 6 (.t 7) (.t 25))])
 (.sq (.sq (rg [om 8 (i6 0)])
 (.bl 0 (.lp [1,2,3,6,7,8] [192,224,576,672,768,800,801,1056,1888,3200,4096] (.sq (.sq (rg [om 26 (.t 8),
 oo 27 (.fa 1 (.t 3)),
 oo 28 (.ld none (.t 27)),
 oo 29 (.ln (.t 28)),
 oo 30 (.bi .lss 0 (.t 26) (.t 29))])
 (.cd (.t 30) (.sk)
 (.ex 0)))
 (.sq (.bl 1 (.sq (rg [oo 33 (.bs 1 0 [] []),
 om 9 (.t 33)])
 (.sq (.sq (rg [om 10 (i6 0)])
 (.bl 2 (.lp [1,2,3,6,7,8,9,10] [192,224,576,672,768,800,801,1056,1888,3200,4096] (.sq (.sq (rg [om 34 (.t 10),
 oo 35 (.fa 1 (.t 3)),
 oo 36 (.ld none (.t 35)),
 om 37 (.t 8),
 oo 38 (.ia 3 (.t 36) (.t 37)),
 oo 39 (.fa 2 (.t 38)),
 oo 40 (.ld none (.t 39)),
 oo 41 (.ln (.t 40)),
 oo 42 (.bi .lss 0 (.t 34) (.t 41))])
 (.cd (.t 42) (.sk)
 (.ex 2)))
 (.sq (.bl 3 (.rg (some 0) [om 45 (.t 9),
 oo 46 (.ld (some 6) (.t 3)),
 oo 47 (.fa 1 (.t 3)),
 oo 48 (.ld none (.t 47)),
 om 49 (.t 8),
 oo 50 (.ia 3 (.t 48) (.t 49)),
 oo 51 (.fa 2 (.t 50)),
 oo 52 (.ld none (.t 51)),
 om 53 (.t 10),
 oo 54 (.ia 1 (.t 52) (.t 53)),
 oo 55 (.ld none (.t 54)),
 om 56 (.t 2),
 oo 57 (.ca .pure false (.f XL) [.t 46,.t 55,.t 56]),
 oo 58 (.bs 1 1 [.int .i64 0] [(0,.t 57)]),
 oo 59 (.ap 1 0 (.t 45) (.t 58)),
 om 9 (.t 59)]))
 (rg [om 43 (.t 10),
 oo 44 (.bi .add 0 (.t 43) (i6 1)),
 om 10 (.t 44)]))))))
 (.rg (some 0) [oo 60 (.fa 1 (.t 7)),
 oo 61 (.ld none (.t 60)),
 om 62 (.t 1),
 om 63 (.t 8),
 oo 64 (.ia 1 (.t 62) (.t 63)),
 oo 65 (.ld none (.t 64)),
 oo 66 (.fa 1 (.t 3)),
 oo 67 (.ld none (.t 66)),
 om 68 (.t 8),
 oo 69 (.ia 3 (.t 67) (.t 68)),
 oo 70 (.fa 0 (.t 69)),
 oo 71 (.ld none (.t 70)),
 oo 72 (.fa 1 (.t 3)),
 oo 73 (.ld none (.t 72)),
 om 74 (.t 8),
 oo 75 (.ia 3 (.t 73) (.t 74)),
 oo 76 (.fa 1 (.t 75)),
 oo 77 (.ld none (.t 76)),
 om 78 (.t 1),
 oo 79 (.ca .pure false (.f Xd) [.t 77,.t 78]),
 om 80 (.t 9),
 oo 81 (.bd [.int .i64 0,.int .i64 0,.slice none 0 0] [(0,1,.t 71),(1,1,.t 79),(2,1,.t 80)] []),
 oo 82 (.ia 3 (.t 61) (.t 65)),
 on1 (.st 3 (.t 82) (.t 81))]))))
 (rg [om 31 (.t 8),
 oo 32 (.bi .add 0 (.t 31) (i6 1)),
 om 8 (.t 32)]))))))
 (.sq (.sq (rg [om 11 (i6 0)])
 (.bl 4 (.lp [1,2,3,6,7,11] [192,224,576,672,768,800,801,1056,1888,3200,4096] (.sq (.sq (rg [om 83 (.t 11),
 oo 84 (.fa 2 (.t 3)),
 oo 85 (.ld none (.t 84)),
 oo 86 (.ln (.t 85)),
 oo 87 (.bi .lss 0 (.t 83) (.t 86))])
 (.cd (.t 87) (.sk)
 (.ex 4)))
 (.sq (.bl 5 (.rg (some 0) [oo 90 (.fa 2 (.t 7)),
 oo 91 (.ld none (.t 90)),
 oo 92 (.fa 2 (.t 3)),
 oo 93 (.ld none (.t 92)),
 om 94 (.t 11),
 oo 95 (.ia 1 (.t 93) (.t 94)),
 oo 96 (.ld none (.t 95)),
 om 97 (.t 1),
 oo 98 (.ca .pure false (.f Xd) [.t 96,.t 97]),
 oo 99 (.bs 1 1 [.int .i64 0] [(0,.t 98)]),
 oo 100 (.ap 1 0 (.t 91) (.t 99)),
 oo 101 (.fa 2 (.t 7)),
 on1 (.st 1 (.t 101) (.t 100))]))
 (rg [om 88 (.t 11),
 oo 89 (.bi .add 0 (.t 88) (i6 1)),
 om 11 (.t 89)]))))))
 (.sq (.sq (rg [om 12 (i6 0)])
 (.bl 6 (.lp [2,3,6,7,12] [192,224,576,672,768,800,801,1056,1888,3200,4096] (.sq (.sq (rg [om 102 (.t 12),
 oo 103 (.fa 5 (.t 3)),
 oo 104 (.ld none (.t 103)),
 oo 105 (.ln (.t 104)),
 oo 106 (.bi .lss 0 (.t 102) (.t 105))])
 (.cd (.t 106) (.sk)
 (.ex 6)))
 (.sq (.bl 7 (.rg (some 0) [oo 109 (.fa 5 (.t 7)),
 oo 110 (.ld none (.t 109)),
 oo 111 (.fa 5 (.t 3)),
 oo 112 (.ld none (.t 111)),
 om 113 (.t 12),
 oo 114 (.ia 2 (.t 112) (.t 113)),
 oo 115 (.fa 0 (.t 114)),
 oo 116 (.ld none (.t 115)),
 oo 117 (.ld (some 6) (.t 3)),
 oo 118 (.fa 5 (.t 3)),
 oo 119 (.ld none (.t 118)),
 om 120 (.t 12),
 oo 121 (.ia 2 (.t 119) (.t 120)),
 oo 122 (.fa 1 (.t 121)),
 oo 123 (.ld none (.t 122)),
 om 124 (.t 2),
 oo 125 (.ca .pure false (.f XL) [.t 117,.t 123,.t 124]),
 oo 126 (.bd [.string ⟨#[]⟩,.int .i64 0] [(0,1,.t 116),(1,1,.t 125)] []),
 oo 127 (.bs 2 1 [.string ⟨#[]⟩,.int .i64 0] [(0,.t 126)]),
 oo 128 (.ap 2 0 (.t 110) (.t 127)),
 oo 129 (.fa 5 (.t 7)),
 on1 (.st 1 (.t 129) (.t 128))]))
 (rg [om 107 (.t 12),
 oo 108 (.bi .add 0 (.t 107) (i6 1)),
 om 12 (.t 108)]))))))
 (.sq (rg [oo 130 (.ld (some 6) (.t 7)),
 on1 (.st 6 (.t 6) (.t 130))])
 (.rt))))))) }
theorem Zdb:ZI Go.Proofs.Tryz.prog Qw US=true:=by kernel_rfl
def XX:F2 :=
 { nt:=11,res:=[],body :=
  (.sq (rg [om 3 (.t 0),
 oo 4 (.ln (.t 3)),
 om 2 (.t 4)])
 (rg [om 5 (.t 0),
 om 6 (.t 2),
 om 7 (.t 2),
 oo 8 (.cv (.int .u64) (.t 7)),
 oo 9 (.ca .pure false (.f YD) [.t 8]),
 oo 10 (.ca .any false (.f ZU) [.t 5,i6 0,.t 6,.t 9])])) }
theorem Zaf:ZI Go.Proofs.Tryz.prog YP XX=true:=by kernel_rfl
def Ya:F2 :=
 { nt:=8,res:=[.t 2 [3]],body :=
  (.sq (rg [om 2 (.k (.slice none 0 0))])
 (.sq (.sq (rg [om 3 (.t 0),
 oo 4 (.nl false (.t 3))])
 (.cd (.t 4) (.sq (rg [om 2 (.k (.slice none 0 0))])
 (.rt))
 (.sk)))
 (.sq (rg [oo 5 (.bs 2 0 [] []),
 om 6 (.t 0),
 oo 7 (.ap 2 0 (.t 5) (.t 6)),
 om 2 (.t 7)])
 (.rt)))) }
theorem QL:ZI Go.Proofs.Tryz.prog Jd Ya=true:=by kernel_rfl
def Zbe:F2 :=
 { nt:=16,res:=[.t 2 [0]],body :=
  (.sq (rg [om 2 (.k (.bool false))])
 (.sq (.sq (rg [om 3 (i6 0)])
 (.bl 0 (.lp [0,3] [] (.sq (.sq (rg [om 4 (.t 3),
 om 5 (.t 0),
 oo 6 (.ln (.t 5)),
 oo 7 (.bi .lss 0 (.t 4) (.t 6))])
 (.cd (.t 7) (.sk)
 (.ex 0)))
 (.sq (.bl 1 (.sq (rg [om 10 (.t 0),
 om 11 (.t 3),
 oo 12 (.ia 1 (.t 10) (.t 11)),
 oo 13 (.ld none (.t 12)),
 oo 14 (.ca .pure false (.f Vi) [.t 13]),
 oo 15 (.nt (.t 14))])
 (.cd (.t 15) (.sq (rg [om 2 (.k (.bool false))])
 (.rt))
 (.sk))))
 (rg [om 8 (.t 3),
 oo 9 (.bi .add 0 (.t 8) (i6 1)),
 om 3 (.t 9)]))))))
 (.sq (rg [om 2 (.k (.bool true))])
 (.rt)))) }
theorem ZfP:ZI Go.Proofs.Tryz.prog Qi Zbe=true:=by kernel_rfl
def Wu:F2 :=
 { nt:=19,res:=[.c 2 (some 7) [0,0,0,0,0,0,0]],body :=
  (.sq (rg [oo 1 (.bt (.t 0)),
 oo 2 (.al [.int .i64 0,.slice none 0 0,.slice none 0 0,.int .i64 0,.slice none 0 0,.slice none 0 0,.slice none 0 0] [])])
 (.sq (.sq (rg [oo 3 (.fa 0 (.t 1)),
 oo 4 (.ld none (.t 3))])
 (.bl 0 (.sq (rg [oo 6 (.bi .eql 0 (.t 4) (i6 0)),
 om 5 (.t 6)])
 (.cd (.t 5) (.sq (rg [oo 7 (.bd [.int .i64 0,.slice none 0 0,.slice none 0 0,.int .i64 0,.slice none 0 0,.slice none 0 0] [] []),
 oo 8 (.bd [.int .i64 0,.slice none 0 0,.slice none 0 0,.int .i64 0,.slice none 0 0,.slice none 0 0,.slice none 0 0] [(0,6,.t 7)] []),
 on1 (.st 7 (.t 2) (.t 8))])
 (.rt))
 (.sq (rg [oo 10 (.bi .eql 0 (.t 4) (i6 1)),
 om 9 (.t 10)])
 (.cd (.t 9) (.sq (rg [oo 11 (.bd [.int .i64 0,.slice none 0 0,.slice none 0 0,.int .i64 0,.slice none 0 0,.slice none 0 0] [(0,1,i6 1)] []),
 oo 12 (.bd [.int .i64 0,.slice none 0 0,.slice none 0 0,.int .i64 0,.slice none 0 0,.slice none 0 0,.slice none 0 0] [(0,6,.t 11)] []),
 on1 (.st 7 (.t 2) (.t 12))])
 (.rt))
 (.sk)))))))
 (.sq (rg [oo 13 (.bs 1 1 [.int .i64 0] [(0,i6 (-1))]),
 oo 14 (.bd [.int .i64 0,.slice none 0 0,.slice none 0 0,.int .i64 0,.slice none 0 0,.slice none 0 0] [(0,1,i6 1),(2,1,.t 13)] []),
 oo 15 (.fa 2 (.t 1)),
 oo 16 (.ld none (.t 15)),
 oo 17 (.bs 1 1 [.int .i64 0] [(0,.t 16)]),
 oo 18 (.bd [.int .i64 0,.slice none 0 0,.slice none 0 0,.int .i64 0,.slice none 0 0,.slice none 0 0,.slice none 0 0] [(0,6,.t 14),(6,1,.t 17)] []),
 on1 (.st 7 (.t 2) (.t 18))])
 (.rt)))) }
theorem Zht:ZI Go.Proofs.Tryz.prog WK Wu=true:=by kernel_rfl
def Zcc:F2 :=
 { nt:=63,res:=[.c 6 (some 7) [0,0,0,0,0,0,0],.t 7 [0]],body :=
  (.sq (rg [oo 4 (.bt (.t 1)),
 oo 5 (.bt (.t 2)),
 oo 6 (.al [.int .i64 0,.slice none 0 0,.slice none 0 0,.int .i64 0,.slice none 0 0,.slice none 0 0,.slice none 0 0] []),
 om 7 (.k (.bool false))])
 (.sq (.sq (rg [oo 10 (.fa 0 (.t 5)),
 oo 11 (.fa 0 (.t 10)),
 oo 12 (.ld none (.t 11)),
 oo 13 (.bi .neq 0 (.t 12) (i6 1)),
 om 14 (.t 13),
 og 15 14 false (.mv (.t 0) none),
 og 16 14 false (.fa 1 (.t 4)),
 og 17 14 false (.ld none (.t 16)),
 og 18 14 false (.ia 3 (.t 15) (.t 17)),
 og 19 14 false (.fa 2 (.t 18)),
 og 20 14 false (.ld none (.t 19)),
 og 21 14 false (.bi .eql 0 (.t 20) (i6 2)),
 og 22 14 false (.mv (.t 21) none),
 og 23 22 true (.fa 0 (.t 5)),
 og 24 22 true (.fa 1 (.t 23)),
 og 25 22 true (.ld none (.t 24)),
 og 26 22 true (.ln (.t 25)),
 og 27 22 true (.fa 0 (.t 5)),
 og 28 22 true (.fa 2 (.t 27)),
 og 29 22 true (.ld none (.t 28)),
 og 30 22 true (.ln (.t 29)),
 og 31 22 true (.bi .add 0 (.t 26) (.t 30)),
 og 32 22 true (.bi .gtr 0 (.t 31) (i6 0)),
 og 33 14 false (.pk (.t 22) (.t 32) (.k (.bool false))),
 oo 34 (.pk (.t 14) (.k (.bool true)) (.t 33))])
 (.cd (.t 34) (.sq (rg [oo 35 (.bd [.int .i64 0,.slice none 0 0,.slice none 0 0,.int .i64 0,.slice none 0 0,.slice none 0 0,.slice none 0 0] [] []),
 on1 (.st 7 (.t 6) (.t 35)),
 om 7 (.k (.bool false))])
 (.rt))
 (.sk)))
 (.sq (rg [oo 36 (.fa 3 (.t 4)),
 oo 37 (.ld none (.t 36)),
 oo 38 (.ca .pure true (.f JZ) [.t 37]),
 oo 39 (.bd [.int .i64 0,.slice none 0 0,.slice none 0 0,.int .i64 0,.slice none 0 0,.slice none 0 0] [(0,1,i6 1),(4,1,.t 38)] []),
 oo 8 (.al [.int .i64 0,.slice none 0 0,.slice none 0 0,.int .i64 0,.slice none 0 0,.slice none 0 0] []),
 on1 (.st 6 (.t 8) (.t 39))])
 (.sq (.rg (some 0) [oo 40 (.fa 1 (.t 4)),
 oo 41 (.ld none (.t 40)),
 oo 42 (.fa 3 (.t 4)),
 oo 43 (.ld none (.t 42)),
 oo 44 (.fa 4 (.t 8)),
 oo 45 (.ld none (.t 44)),
 oo 46 (.ca .pure true (.f JK) [.t 43,i6 0,.t 45]),
 oo 47 (.bd [.int .i64 0,.int .i64 0,.slice none 0 0] [(0,1,.t 41),(1,1,i6 (-1)),(2,1,.t 46)] []),
 oo 48 (.bw 3 1 [.int .i64 0,.int .i64 0,.slice none 0 0] [(0,.t 47)]),
 oo 49 (.fa 1 (.t 8)),
 on1 (.st 1 (.t 49) (.t 48))])
 (.sq (rg [oo 50 (.bs 1 1 [.int .i64 0] [(0,i6 0)]),
 oo 51 (.fa 2 (.t 8)),
 on1 (.st 1 (.t 51) (.t 50))])
 (.sq (rg [oo 52 (.lz 6 (.t 8)),
 oo 53 (.fa 0 (.t 5)),
 oo 54 (.ld (some 6) (.t 53)),
 oo 55 (.ca .pure false (.f WP) [.t 52,.t 54]),
 oo 9 (.al [.int .i64 0,.slice none 0 0,.slice none 0 0,.int .i64 0,.slice none 0 0,.slice none 0 0] []),
 on1 (.st 6 (.t 9) (.t 55))])
 (.sq (.rg (some 0) [oo 56 (.ld (some 6) (.t 9)),
 oo 57 (.fa 6 (.t 5)),
 oo 58 (.ld none (.t 57)),
 oo 59 (.bd [.int .i64 0,.slice none 0 0,.slice none 0 0,.int .i64 0,.slice none 0 0,.slice none 0 0,.slice none 0 0] [(0,6,.t 56),(6,1,.t 58)] []),
 om 60 (.t 0),
 oo 61 (.ld (some 6) (.t 9)),
 oo 62 (.ca .pure false (.f J6) [.t 60,.t 61]),
 on1 (.st 7 (.t 6) (.t 59)),
 om 7 (.t 62)])
 (.rt)))))))) }
theorem Zhu:ZI Go.Proofs.Tryz.prog WL Zcc=true:=by kernel_rfl
def Qb:F2 :=
 { nt:=47,res:=[.c 6 (some 7) [0,0,0,0,0,0,0],.t 7 [0]],body :=
  (.sq (rg [oo 4 (.bt (.t 1)),
 oo 5 (.bt (.t 2)),
 oo 6 (.al [.int .i64 0,.slice none 0 0,.slice none 0 0,.int .i64 0,.slice none 0 0,.slice none 0 0,.slice none 0 0] []),
 om 7 (.k (.bool false))])
 (.sq (.sq (rg [oo 12 (.fa 0 (.t 4)),
 oo 13 (.ld none (.t 12)),
 oo 14 (.bi .eql 0 (.t 13) (i6 6))])
 (.cd (.t 14) (.sq (.rg (some 0) [om 16 (.t 0),
 oo 17 (.fa 0 (.t 5)),
 oo 18 (.ld (some 6) (.t 17)),
 oo 19 (.fa 3 (.t 4)),
 oo 20 (.ld none (.t 19)),
 oo 21 (.ia 1 (.t 20) (i6 0)),
 oo 22 (.ld none (.t 21)),
 oo 23 (.ca .pure false (.f JJ) [.t 16,.t 18,.t 22]),
 om 15 (.t 23),
 oo 24 (.ex 0 (.t 15)),
 oo 25 (.ex 1 (.t 15)),
 oo 8 (.al [.int .i64 0,.slice none 0 0,.slice none 0 0,.int .i64 0,.slice none 0 0,.slice none 0 0] []),
 on1 (.s0 6 (.t 8) (.t 24)),
 om 9 (.t 25)])
 (.sq (rg [oo 26 (.ld (some 6) (.t 8)),
 oo 27 (.fa 6 (.t 5)),
 oo 28 (.ld none (.t 27)),
 oo 29 (.bd [.int .i64 0,.slice none 0 0,.slice none 0 0,.int .i64 0,.slice none 0 0,.slice none 0 0,.slice none 0 0] [(0,6,.t 26),(6,1,.t 28)] []),
 om 30 (.t 9),
 on1 (.st 7 (.t 6) (.t 29)),
 om 7 (.t 30)])
 (.rt)))
 (.sk)))
 (.sq (.rg (some 0) [om 32 (.t 0),
 oo 33 (.fa 0 (.t 5)),
 oo 34 (.ld (some 6) (.t 33)),
 oo 35 (.fa 3 (.t 4)),
 oo 36 (.ld none (.t 35)),
 oo 37 (.ia 1 (.t 36) (i6 0)),
 oo 38 (.ld none (.t 37)),
 oo 39 (.ca .pure false (.f Wd) [.t 32,.t 34,.t 38]),
 om 31 (.t 39),
 oo 40 (.ex 0 (.t 31)),
 oo 41 (.ex 1 (.t 31)),
 oo 10 (.al [.int .i64 0,.slice none 0 0,.slice none 0 0,.int .i64 0,.slice none 0 0,.slice none 0 0] []),
 on1 (.s0 6 (.t 10) (.t 40)),
 om 11 (.t 41)])
 (.sq (rg [oo 42 (.ld (some 6) (.t 10)),
 oo 43 (.fa 6 (.t 5)),
 oo 44 (.ld none (.t 43)),
 oo 45 (.bd [.int .i64 0,.slice none 0 0,.slice none 0 0,.int .i64 0,.slice none 0 0,.slice none 0 0,.slice none 0 0] [(0,6,.t 42),(6,1,.t 44)] []),
 om 46 (.t 11),
 on1 (.st 7 (.t 6) (.t 45)),
 om 7 (.t 46)])
 (.rt))))) }
theorem XN:ZI Go.Proofs.Tryz.prog Wa Qb=true:=by kernel_rfl
def Zcd:F2 :=
 { nt:=34,res:=[.c 8 (some 7) [0,0,0,0,0,0,0],.t 9 [0]],body :=
  (.sq (rg [oo 5 (.bt (.t 1)),
 oo 6 (.bt (.t 2)),
 oo 7 (.bt (.t 3)),
 oo 8 (.al [.int .i64 0,.slice none 0 0,.slice none 0 0,.int .i64 0,.slice none 0 0,.slice none 0 0,.slice none 0 0] []),
 om 9 (.k (.bool false))])
 (.sq (rg [oo 11 (.fa 0 (.t 6)),
 oo 12 (.ld (some 6) (.t 11)),
 oo 13 (.fa 0 (.t 7)),
 oo 14 (.ld (some 6) (.t 13)),
 oo 15 (.ca .pure false (.f WQ) [.t 12,.t 14]),
 oo 10 (.al [.int .i64 0,.slice none 0 0,.slice none 0 0,.int .i64 0,.slice none 0 0,.slice none 0 0] []),
 on1 (.st 6 (.t 10) (.t 15))])
 (.sq (.sq (rg [om 16 (.t 0),
 oo 17 (.ld (some 6) (.t 10)),
 oo 18 (.ca .pure false (.f J6) [.t 16,.t 17]),
 oo 19 (.nt (.t 18))])
 (.cd (.t 19) (.sq (rg [oo 20 (.bd [.int .i64 0,.slice none 0 0,.slice none 0 0,.int .i64 0,.slice none 0 0,.slice none 0 0,.slice none 0 0] [] []),
 on1 (.st 7 (.t 8) (.t 20)),
 om 9 (.k (.bool false))])
 (.rt))
 (.sk)))
 (.sq (.sq (rg [oo 21 (.fa 0 (.t 5)),
 oo 22 (.ld none (.t 21)),
 oo 23 (.bi .eql 0 (.t 22) (i6 4))])
 (.cd (.t 23) (rg [oo 24 (.ld (some 6) (.t 10)),
 oo 25 (.ca .pure false (.f Uy) [.t 24]),
 on1 (.st 6 (.t 10) (.t 25))])
 (.sk)))
 (.sq (.rg (some 0) [oo 26 (.lb (some 6) (.t 10)),
 oo 27 (.fa 6 (.t 6)),
 oo 28 (.ld none (.t 27)),
 oo 29 (.ca .pure true (.f XK) [.t 28]),
 oo 30 (.fa 6 (.t 7)),
 oo 31 (.ld none (.t 30)),
 oo 32 (.a0 1 (.t 29) (.t 31)),
 oo 33 (.bd [.int .i64 0,.slice none 0 0,.slice none 0 0,.int .i64 0,.slice none 0 0,.slice none 0 0,.slice none 0 0] [(0,6,.t 26),(6,1,.t 32)] []),
 on1 (.st 7 (.t 8) (.t 33)),
 om 9 (.k (.bool true))])
 (.rt)))))) }
theorem Zhv:ZI Go.Proofs.Tryz.prog WM Zcd=true:=by kernel_rfl
def Zag:F2 :=
 { nt:=6,res:=[.t 2 [0]],body :=
  (.sq (rg [om 2 (.k (.bool false))])
 (.sq (rg [om 3 (.t 0),
 oo 4 (.ca .pure false (.f J5) [.t 3]),
 oo 5 (.nt (.t 4)),
 om 2 (.t 5)])
 (.rt))) }
theorem ZeZ:ZI Go.Proofs.Tryz.prog VC Zag=true:=by kernel_rfl
def Xi:F2 :=
 { nt:=32,res:=[.t 8 [0]],body :=
  (.sq (rg [oo 4 (.bt (.t 0)),
 om 8 (.k (.bool false))])
 (.sq (rg [om 9 (.t 1),
 om 10 (.t 9),
 og 11 10 false (.fa 1 (.t 4)),
 og 12 10 false (.ld none (.t 11)),
 og 13 10 false (.bi .eql 0 (.t 12) (i6 0)),
 oo 14 (.pk (.t 10) (.k (.bool true)) (.t 13)),
 om 15 (.t 14),
 og 16 15 true (.mv (.t 2) none),
 og 17 15 true (.mv (.t 16) none),
 og 18 17 false (.fa 2 (.t 4)),
 og 19 17 false (.ld none (.t 18)),
 og 20 17 false (.bi .eql 0 (.t 19) (i6 0)),
 og 21 15 true (.pk (.t 17) (.k (.bool true)) (.t 20)),
 oo 22 (.pk (.t 15) (.t 21) (.k (.bool false))),
 om 23 (.t 22),
 og 24 23 true (.mv (.t 3) none),
 og 25 23 true (.mv (.t 24) none),
 og 26 25 false (.fa 3 (.t 4)),
 og 27 25 false (.ld none (.t 26)),
 og 28 25 false (.ln (.t 27)),
 og 29 25 false (.bi .eql 0 (.t 28) (i6 0)),
 og 30 23 true (.pk (.t 25) (.k (.bool true)) (.t 29)),
 oo 31 (.pk (.t 23) (.t 30) (.k (.bool false))),
 om 8 (.t 31)])
 (.rt))) }
theorem Dm:ZI Go.Proofs.Tryz.prog ZN Xi=true:=by kernel_rfl
def Zce:F2 :=
 { nt:=62,res:=[.c 6 (some 6) [0,4,2,0,2,3],.t 7 [0]],body :=
  (.sq (rg [oo 4 (.bt (.t 1)),
 oo 5 (.bt (.t 2)),
 oo 6 (.al [.int .i64 0,.slice none 0 0,.slice none 0 0,.int .i64 0,.slice none 0 0,.slice none 0 0] []),
 om 7 (.k (.bool false))])
 (.sq (.sq (rg [oo 12 (.fa 0 (.t 5)),
 oo 13 (.ld none (.t 12)),
 oo 14 (.bi .neq 0 (.t 13) (i6 1))])
 (.cd (.t 14) (.sq (rg [oo 15 (.bd [.int .i64 0,.slice none 0 0,.slice none 0 0,.int .i64 0,.slice none 0 0,.slice none 0 0] [] []),
 on1 (.st 6 (.t 6) (.t 15)),
 om 7 (.k (.bool false))])
 (.rt))
 (.sk)))
 (.sq (.sq (rg [om 16 (.t 0),
 oo 17 (.fa 1 (.t 4)),
 oo 18 (.ld none (.t 17)),
 oo 19 (.ia 3 (.t 16) (.t 18)),
 oo 20 (.fa 2 (.t 19)),
 oo 21 (.ld none (.t 20)),
 oo 22 (.bi .neq 0 (.t 21) (i6 2))])
 (.cd (.t 22) (.sq (rg [om 24 (.t 0),
 oo 25 (.fa 1 (.t 4)),
 oo 26 (.ld none (.t 25)),
 oo 27 (.fa 3 (.t 4)),
 oo 28 (.ld none (.t 27)),
 oo 29 (.ca .pure true (.f Uz) [.t 24,.t 26,.t 28]),
 om 23 (.t 29),
 oo 30 (.ex 0 (.t 23)),
 oo 31 (.ex 1 (.t 23)),
 oo 8 (.al [.int .i64 0,.slice none 0 0,.slice none 0 0,.int .i64 0,.slice none 0 0,.slice none 0 0] []),
 on1 (.st 6 (.t 8) (.t 30)),
 om 9 (.t 31)])
 (.sq (rg [om 32 (.t 0),
 oo 33 (.ld (some 6) (.t 8)),
 oo 34 (.ld (some 6) (.t 5)),
 oo 35 (.ca .pure true (.f Vj) [.t 32,.t 33,.t 34]),
 oo 36 (.ex 0 (.t 35)),
 oo 37 (.ex 1 (.t 35)),
 on1 (.st 6 (.t 6) (.t 36)),
 om 7 (.t 37)])
 (.rt)))
 (.sk)))
 (.sq (.sq (rg [oo 38 (.fa 1 (.t 5)),
 oo 39 (.ld none (.t 38)),
 oo 40 (.ln (.t 39)),
 oo 41 (.fa 2 (.t 5)),
 oo 42 (.ld none (.t 41)),
 oo 43 (.ln (.t 42)),
 oo 44 (.bi .add 0 (.t 40) (.t 43)),
 oo 45 (.bi .gtr 0 (.t 44) (i6 0))])
 (.cd (.t 45) (.sq (rg [oo 46 (.bd [.int .i64 0,.slice none 0 0,.slice none 0 0,.int .i64 0,.slice none 0 0,.slice none 0 0] [] []),
 on1 (.st 6 (.t 6) (.t 46)),
 om 7 (.k (.bool false))])
 (.rt))
 (.sk)))
 (.sq (rg [om 48 (.t 0),
 oo 49 (.fa 1 (.t 4)),
 oo 50 (.ld none (.t 49)),
 oo 51 (.fa 3 (.t 4)),
 oo 52 (.ld none (.t 51)),
 oo 53 (.ca .pure true (.f WR) [.t 48,.t 50,.t 52]),
 om 47 (.t 53),
 oo 54 (.ex 0 (.t 47)),
 oo 55 (.ex 1 (.t 47)),
 oo 10 (.al [.int .i64 0,.slice none 0 0,.slice none 0 0,.int .i64 0,.slice none 0 0,.slice none 0 0] []),
 on1 (.st 6 (.t 10) (.t 54)),
 om 11 (.t 55)])
 (.sq (rg [om 56 (.t 0),
 oo 57 (.ld (some 6) (.t 10)),
 oo 58 (.ld (some 6) (.t 5)),
 oo 59 (.ca .pure true (.f Yl) [.t 56,.t 57,.t 58]),
 oo 60 (.ex 0 (.t 59)),
 oo 61 (.ex 1 (.t 59)),
 on1 (.st 6 (.t 6) (.t 60)),
 om 7 (.t 61)])
 (.rt))))))) }
theorem Zhw:ZI Go.Proofs.Tryz.prog WN Zce=true:=by kernel_rfl
def WT:F2 :=
 { nt:=22,res:=[.c 6 (some 6) [0,4,2,0,2,3],.t 7 [0]],body :=
  (.sq (rg [oo 4 (.bt (.t 1)),
 oo 5 (.bt (.t 2)),
 oo 6 (.al [.int .i64 0,.slice none 0 0,.slice none 0 0,.int .i64 0,.slice none 0 0,.slice none 0 0] []),
 om 7 (.k (.bool false))])
 (.sq (rg [om 11 (.t 0),
 oo 12 (.ld (some 6) (.t 4)),
 oo 13 (.ld (some 6) (.t 5)),
 oo 14 (.ca .pure true (.f JI) [.t 11,.t 12,.t 13]),
 om 10 (.t 14),
 oo 15 (.ex 0 (.t 10)),
 oo 16 (.ex 1 (.t 10)),
 oo 8 (.al [.int .i64 0,.slice none 0 0,.slice none 0 0,.int .i64 0,.slice none 0 0,.slice none 0 0] []),
 on1 (.st 6 (.t 8) (.t 15)),
 om 9 (.t 16)])
 (.sq (.sq (rg [om 17 (.t 9),
 oo 18 (.nt (.t 17))])
 (.cd (.t 18) (.sq (rg [oo 19 (.bd [.int .i64 0,.slice none 0 0,.slice none 0 0,.int .i64 0,.slice none 0 0,.slice none 0 0] [] []),
 on1 (.st 6 (.t 6) (.t 19)),
 om 7 (.k (.bool false))])
 (.rt))
 (.sk)))
 (.sq (rg [oo 20 (.ld (some 6) (.t 8)),
 oo 21 (.ca .pure true (.f JS) [.t 20]),
 on1 (.st 6 (.t 6) (.t 21)),
 om 7 (.k (.bool true))])
 (.rt))))) }
theorem ZbD:ZI Go.Proofs.Tryz.prog Yl WT=true:=by kernel_rfl
def Xv:F2 :=
 { nt:=33,res:=[.c 6 (some 6) [0,4,2,0,2,3],.t 7 [0]],body :=
  (.sq (rg [oo 4 (.bt (.t 1)),
 oo 5 (.bt (.t 2)),
 oo 6 (.al [.int .i64 0,.slice none 0 0,.slice none 0 0,.int .i64 0,.slice none 0 0,.slice none 0 0] []),
 om 7 (.k (.bool false))])
 (.sq (.sq (.rg (some 0) [om 8 (.t 0),
 oo 9 (.ld (some 6) (.t 4)),
 oo 10 (.ca .pure false (.f ZZ) [.t 8,.t 9]),
 oo 11 (.nt (.t 10)),
 om 12 (.t 11),
 og 13 12 false (.mv (.t 0) none),
 og 14 12 false (.ld (some 6) (.t 5)),
 og 15 12 false (.ca .pure false (.f ZZ) [.t 13,.t 14]),
 og 16 12 false (.nt (.t 15)),
 oo 17 (.pk (.t 12) (.k (.bool true)) (.t 16)),
 om 18 (.t 17),
 og 19 18 false (.ld (some 6) (.t 4)),
 og 20 18 false (.ca .pure false (.f Z4) [.t 19]),
 og 21 18 false (.ld (some 6) (.t 5)),
 og 22 18 false (.ca .pure false (.f Z4) [.t 21]),
 og 23 18 false (.ca .pure false (.f Qx) [.t 20,.t 22]),
 oo 24 (.pk (.t 18) (.k (.bool true)) (.t 23))])
 (.cd (.t 24) (.sq (rg [oo 25 (.bd [.int .i64 0,.slice none 0 0,.slice none 0 0,.int .i64 0,.slice none 0 0,.slice none 0 0] [] []),
 on1 (.st 6 (.t 6) (.t 25)),
 om 7 (.k (.bool false))])
 (.rt))
 (.sk)))
 (.sq (rg [om 26 (.t 0),
 oo 27 (.ld (some 6) (.t 4)),
 oo 28 (.ld (some 6) (.t 5)),
 oo 29 (.ca .pure false (.f XB) [.t 27,.t 28]),
 oo 30 (.ca .pure true (.f Y3) [.t 26,.t 29]),
 oo 31 (.ex 0 (.t 30)),
 oo 32 (.ex 1 (.t 30)),
 on1 (.st 6 (.t 6) (.t 31)),
 om 7 (.t 32)])
 (.rt)))) }
theorem DS:ZI Go.Proofs.Tryz.prog JI Xv=true:=by kernel_rfl
def DK:F2 :=
 { nt:=27,res:=[.c 6 (some 6) [0,4,2,0,2,3],.t 7 [0]],body :=
  (.sq (rg [oo 4 (.bt (.t 1)),
 oo 6 (.al [.int .i64 0,.slice none 0 0,.slice none 0 0,.int .i64 0,.slice none 0 0,.slice none 0 0] []),
 om 7 (.k (.bool false))])
 (.sq (.sq (rg [om 8 (.t 0),
 oo 9 (.ld (some 6) (.t 4)),
 oo 10 (.ca .pure false (.f ZZ) [.t 8,.t 9]),
 oo 11 (.nt (.t 10)),
 om 12 (.t 11),
 og 13 12 false (.fa 4 (.t 4)),
 og 14 12 false (.ld none (.t 13)),
 og 15 12 false (.mv (.t 2) none),
 og 16 12 false (.ca .pure false (.f ZJ) [.t 14,.t 15]),
 og 17 12 false (.nt (.t 16)),
 oo 18 (.pk (.t 12) (.k (.bool true)) (.t 17))])
 (.cd (.t 18) (.sq (rg [oo 19 (.bd [.int .i64 0,.slice none 0 0,.slice none 0 0,.int .i64 0,.slice none 0 0,.slice none 0 0] [] []),
 on1 (.st 6 (.t 6) (.t 19)),
 om 7 (.k (.bool false))])
 (.rt))
 (.sk)))
 (.sq (rg [om 20 (.t 0),
 oo 21 (.ld (some 6) (.t 4)),
 om 22 (.t 2),
 oo 23 (.ca .pure false (.f J7) [.t 21,.t 22]),
 oo 24 (.ca .pure true (.f Y3) [.t 20,.t 23]),
 oo 25 (.ex 0 (.t 24)),
 oo 26 (.ex 1 (.t 24)),
 on1 (.st 6 (.t 6) (.t 25)),
 om 7 (.t 26)])
 (.rt)))) }
theorem Zd3:ZI Go.Proofs.Tryz.prog Xb DK=true:=by kernel_rfl
def Zbf:F2 :=
 { nt:=38,res:=[.c 6 (some 6) [0,4,2,0,2,3],.t 7 [0]],body :=
  (.sq (rg [oo 4 (.bt (.t 1)),
 oo 6 (.al [.int .i64 0,.slice none 0 0,.slice none 0 0,.int .i64 0,.slice none 0 0,.slice none 0 0] []),
 om 7 (.k (.bool false))])
 (.sq (.sq (rg [om 8 (.t 0),
 oo 9 (.ld (some 6) (.t 4)),
 oo 10 (.ca .pure false (.f ZZ) [.t 8,.t 9]),
 oo 11 (.nt (.t 10)),
 om 12 (.t 11),
 og 13 12 false (.mv (.t 2) none),
 og 14 12 false (.ca .pure false (.f J5) [.t 13]),
 og 15 12 false (.nt (.t 14)),
 oo 16 (.pk (.t 12) (.k (.bool true)) (.t 15)),
 om 17 (.t 16),
 og 18 17 false (.fa 4 (.t 4)),
 og 19 17 false (.ld none (.t 18)),
 og 20 17 false (.mv (.t 2) none),
 og 21 17 false (.ca .pure false (.f ZJ) [.t 19,.t 20]),
 oo 22 (.pk (.t 17) (.k (.bool true)) (.t 21))])
 (.cd (.t 22) (.sq (rg [oo 23 (.bd [.int .i64 0,.slice none 0 0,.slice none 0 0,.int .i64 0,.slice none 0 0,.slice none 0 0] [] []),
 on1 (.st 6 (.t 6) (.t 23)),
 om 7 (.k (.bool false))])
 (.rt))
 (.sk)))
 (.sq (.rg (some 0) [om 24 (.t 0),
 oo 25 (.lt (some 6) (.t 4)),
 oo 26 (.fa 3 (.t 4)),
 oo 27 (.lt none (.t 26)),
 oo 28 (.fa 4 (.t 4)),
 oo 29 (.ld none (.t 28)),
 oo 30 (.ca .pure true (.f ZG) [.t 29]),
 om 31 (.t 2),
 oo 32 (.bs 1 1 [.string ⟨#[]⟩] [(0,.t 31)]),
 oo 33 (.a0 1 (.t 30) (.t 32)),
 oo 34 (.ca .pure false (.f Zw) [.t 25,.t 27,.t 33,.f Ws]),
 oo 35 (.ca .pure true (.f Y3) [.t 24,.t 34]),
 oo 36 (.ex 0 (.t 35)),
 oo 37 (.ex 1 (.t 35)),
 on1 (.st 6 (.t 6) (.t 36)),
 om 7 (.t 37)])
 (.rt)))) }
theorem ZfQ:ZI Go.Proofs.Tryz.prog Wb Zbf=true:=by kernel_rfl
def Dn:F2 :=
 { nt:=18,res:=[.c 2 (some 7) [0,0,0,0,0,0,0]],body :=
  (.sq (rg [oo 1 (.bt (.t 0)),
 oo 2 (.al [.int .i64 0,.slice none 0 0,.slice none 0 0,.int .i64 0,.slice none 0 0,.slice none 0 0,.slice none 0 0] [])])
 (.sq (.sq (rg [oo 3 (.fa 0 (.t 1)),
 oo 4 (.ld none (.t 3))])
 (.bl 0 (.sq (rg [oo 6 (.bi .eql 0 (.t 4) (i6 1)),
 om 5 (.t 6)])
 (.cd (.t 5) (.sq (rg [oo 7 (.bd [.int .i64 0,.slice none 0 0,.slice none 0 0,.int .i64 0,.slice none 0 0,.slice none 0 0] [(0,1,i6 1)] []),
 oo 8 (.bd [.int .i64 0,.slice none 0 0,.slice none 0 0,.int .i64 0,.slice none 0 0,.slice none 0 0,.slice none 0 0] [(0,6,.t 7)] []),
 on1 (.st 7 (.t 2) (.t 8))])
 (.rt))
 (.sq (rg [oo 10 (.bi .eql 0 (.t 4) (i6 2)),
 om 9 (.t 10)])
 (.cd (.t 9) (.sq (rg [oo 11 (.bs 1 1 [.int .i64 0] [(0,i6 (-1))]),
 oo 12 (.bd [.int .i64 0,.slice none 0 0,.slice none 0 0,.int .i64 0,.slice none 0 0,.slice none 0 0] [(0,1,i6 1),(2,1,.t 11)] []),
 oo 13 (.fa 2 (.t 1)),
 oo 14 (.ld none (.t 13)),
 oo 15 (.bs 1 1 [.int .i64 0] [(0,.t 14)]),
 oo 16 (.bd [.int .i64 0,.slice none 0 0,.slice none 0 0,.int .i64 0,.slice none 0 0,.slice none 0 0,.slice none 0 0] [(0,6,.t 12),(6,1,.t 15)] []),
 on1 (.st 7 (.t 2) (.t 16))])
 (.rt))
 (.sk)))))))
 (.sq (rg [oo 17 (.bd [.int .i64 0,.slice none 0 0,.slice none 0 0,.int .i64 0,.slice none 0 0,.slice none 0 0,.slice none 0 0] [] []),
 on1 (.st 7 (.t 2) (.t 17))])
 (.rt)))) }
theorem Zj7:ZI Go.Proofs.Tryz.prog Dk Dn=true:=by kernel_rfl
def Zbg:F2 :=
 { nt:=35,res:=[.t 2 [0]],body :=
  (.sq (rg [om 2 (.k (.bool false))])
 (.sq (.sq (rg [om 3 (i6 0)])
 (.bl 0 (.lp [0,3] [] (.sq (.sq (rg [om 4 (.t 3),
 om 5 (.t 0),
 oo 6 (.ln (.t 5)),
 oo 7 (.bi .lss 0 (.t 4) (.t 6))])
 (.cd (.t 7) (.sk)
 (.ex 0)))
 (.sq (.bl 1 (.sq (.rg (some 0) [om 10 (.t 0),
 om 11 (.t 3),
 oo 12 (.ia 1 (.t 10) (.t 11)),
 oo 13 (.ld none (.t 12)),
 oo 14 (.ca .pure false (.f Vi) [.t 13]),
 oo 15 (.nt (.t 14)),
 om 16 (.t 15),
 og 17 16 false (.mv (.t 3) none),
 og 18 16 false (.bi .gtr 0 (.t 17) (i6 0)),
 og 19 16 false (.mv (.t 18) none),
 og 20 19 true (.mv (.t 0) none),
 og 21 19 true (.mv (.t 3) none),
 og 22 19 true (.bi .sub 0 (.t 21) (i6 1)),
 og 23 19 true (.ia 1 (.t 20) (.t 22)),
 og 24 19 true (.ld none (.t 23)),
 og 25 19 true (.mv (.t 0) none),
 og 26 19 true (.mv (.t 3) none),
 og 27 19 true (.ia 1 (.t 25) (.t 26)),
 og 28 19 true (.ld none (.t 27)),
 og 29 19 true (.bi .geq 0 (.t 24) (.t 28)),
 og 30 16 false (.pk (.t 19) (.t 29) (.k (.bool false))),
 oo 31 (.pk (.t 16) (.k (.bool true)) (.t 30))])
 (.cd (.t 31) (.sq (rg [om 2 (.k (.bool false))])
 (.rt))
 (.sk))))
 (rg [om 8 (.t 3),
 oo 9 (.bi .add 0 (.t 8) (i6 1)),
 om 3 (.t 9)]))))))
 (.sq (rg [om 32 (.t 0),
 oo 33 (.ln (.t 32)),
 oo 34 (.bi .leq 0 (.t 33) (i6 16)),
 om 2 (.t 34)])
 (.rt)))) }
theorem ZfR:ZI Go.Proofs.Tryz.prog Qj Zbg=true:=by kernel_rfl
def Zbh:F2 :=
 { nt:=23,res:=[.t 2 [2]],body :=
  (.sq (rg [oo 1 (.bt (.t 0)),
 om 2 (.k (.slice none 0 0))])
 (.sq (rg [oo 5 (.bs 1 0 [] []),
 om 3 (.t 5)])
 (.sq (.sq (rg [om 4 (i6 0)])
 (.bl 0 (.lp [1,3,4] [160,672] (.sq (.sq (rg [om 6 (.t 4),
 oo 7 (.fa 5 (.t 1)),
 oo 8 (.ld none (.t 7)),
 oo 9 (.ln (.t 8)),
 oo 10 (.bi .lss 0 (.t 6) (.t 9))])
 (.cd (.t 10) (.sk)
 (.ex 0)))
 (.sq (.bl 1 (rg [om 13 (.t 3),
 oo 14 (.fa 5 (.t 1)),
 oo 15 (.ld none (.t 14)),
 om 16 (.t 4),
 oo 17 (.ia 2 (.t 15) (.t 16)),
 oo 18 (.fa 0 (.t 17)),
 oo 19 (.ld none (.t 18)),
 oo 20 (.bs 1 1 [.string ⟨#[]⟩] [(0,.t 19)]),
 oo 21 (.ap 1 0 (.t 13) (.t 20)),
 om 3 (.t 21)]))
 (rg [om 11 (.t 4),
 oo 12 (.bi .add 0 (.t 11) (i6 1)),
 om 4 (.t 12)]))))))
 (.sq (rg [om 22 (.t 3),
 om 2 (.t 22)])
 (.rt))))) }
theorem ZfS:ZI Go.Proofs.Tryz.prog Wc Zbh=true:=by kernel_rfl
def Zcf:F2 :=
 { nt:=57,res:=[.t 6 [0]],body :=
  (.sq (rg [oo 4 (.bt (.t 1)),
 om 6 (.k (.bool false))])
 (.sq (rg [oo 9 (.fa 1 (.t 4)),
 oo 10 (.ld none (.t 9)),
 om 11 (.t 2),
 oo 12 (.ia 3 (.t 10) (.t 11)),
 oo 13 (.ld (some 3) (.t 12)),
 oo 7 (.al [.int .i64 0,.int .i64 0,.slice none 0 0] []),
 on1 (.st 3 (.t 7) (.t 13))])
 (.sq (.sq (.rg (some 0) [oo 14 (.fa 0 (.t 7)),
 oo 15 (.ld none (.t 14)),
 om 16 (.t 0),
 oo 17 (.ln (.t 16)),
 oo 18 (.bi .sub 0 (.t 17) (i6 1)),
 oo 19 (.ca .pure false (.f ZY) [.t 15,i6 0,.t 18]),
 oo 20 (.nt (.t 19)),
 om 21 (.t 20),
 og 22 21 false (.mv (.t 0) none),
 og 23 21 false (.ld (some 6) (.t 4)),
 og 24 21 false (.fa 1 (.t 7)),
 og 25 21 false (.ld none (.t 24)),
 og 26 21 false (.mv (.t 2) none),
 og 27 21 false (.ca .pure false (.f Qk) [.t 22,.t 23,.t 25,.t 26]),
 og 28 21 false (.nt (.t 27)),
 oo 29 (.pk (.t 21) (.k (.bool true)) (.t 28)),
 om 30 (.t 29),
 og 31 30 false (.fa 2 (.t 7)),
 og 32 30 false (.ld none (.t 31)),
 og 33 30 false (.ln (.t 32)),
 og 34 30 false (.mv (.t 0) none),
 og 35 30 false (.fa 0 (.t 7)),
 og 36 30 false (.ld none (.t 35)),
 og 37 30 false (.ia 3 (.t 34) (.t 36)),
 og 38 30 false (.fa 1 (.t 37)),
 og 39 30 false (.ld none (.t 38)),
 og 40 30 false (.bi .neq 0 (.t 33) (.t 39)),
 oo 41 (.pk (.t 30) (.k (.bool true)) (.t 40))])
 (.cd (.t 41) (.sq (rg [om 6 (.k (.bool false))])
 (.rt))
 (.sk)))
 (.sq (.sq (rg [om 8 (i6 0)])
 (.bl 0 (.lp [4,7,8] [224] (.sq (.sq (rg [om 42 (.t 8),
 oo 43 (.fa 2 (.t 7)),
 oo 44 (.ld none (.t 43)),
 oo 45 (.ln (.t 44)),
 oo 46 (.bi .lss 0 (.t 42) (.t 45))])
 (.cd (.t 46) (.sk)
 (.ex 0)))
 (.sq (.bl 1 (.sq (.rg (some 0) [oo 49 (.ld (some 6) (.t 4)),
 oo 50 (.fa 2 (.t 7)),
 oo 51 (.ld none (.t 50)),
 om 52 (.t 8),
 oo 53 (.ia 1 (.t 51) (.t 52)),
 oo 54 (.ld none (.t 53)),
 oo 55 (.ca .pure false (.f Xc) [.t 49,.t 54]),
 oo 56 (.nt (.t 55))])
 (.cd (.t 56) (.sq (rg [om 6 (.k (.bool false))])
 (.rt))
 (.sk))))
 (rg [om 47 (.t 8),
 oo 48 (.bi .add 0 (.t 47) (i6 1)),
 om 8 (.t 48)]))))))
 (.sq (rg [om 6 (.k (.bool true))])
 (.rt)))))) }
theorem Zhx:ZI Go.Proofs.Tryz.prog WO Zcf=true:=by kernel_rfl
def Zbi:F2 :=
 { nt:=33,res:=[.t 8 [0]],body :=
  (.sq (rg [oo 5 (.bt (.t 1)),
 om 8 (.k (.bool false))])
 (.sq (.sq (rg [om 9 (.t 2),
 oo 10 (.bi .lss 0 (.t 9) (i6 0))])
 (.cd (.t 10) (.sq (rg [om 11 (.t 2),
 oo 12 (.bi .sub 0 (i6 (-1)) (.t 11)),
 oo 13 (.fa 0 (.t 5)),
 oo 14 (.ld none (.t 13)),
 oo 15 (.bi .sub 0 (.t 14) (i6 1)),
 oo 16 (.ca .pure false (.f ZY) [.t 12,i6 0,.t 15]),
 om 8 (.t 16)])
 (.rt))
 (.sk)))
 (.sq (rg [om 17 (.t 2),
 om 18 (.t 3),
 oo 19 (.bi .lss 0 (.t 17) (.t 18)),
 om 20 (.t 19),
 og 21 20 true (.mv (.t 0) none),
 og 22 20 true (.fa 1 (.t 5)),
 og 23 20 true (.ld none (.t 22)),
 og 24 20 true (.mv (.t 2) none),
 og 25 20 true (.ia 3 (.t 23) (.t 24)),
 og 26 20 true (.fa 0 (.t 25)),
 og 27 20 true (.ld none (.t 26)),
 og 28 20 true (.ia 3 (.t 21) (.t 27)),
 og 29 20 true (.fa 2 (.t 28)),
 og 30 20 true (.ld none (.t 29)),
 og 31 20 true (.bi .neq 0 (.t 30) (i6 2)),
 oo 32 (.pk (.t 20) (.t 31) (.k (.bool false))),
 om 8 (.t 32)])
 (.rt)))) }
theorem ZfT:ZI Go.Proofs.Tryz.prog Qk Zbi=true:=by kernel_rfl
def Zcg:F2 :=
 { nt:=14,res:=[.t 4 [0]],body :=
  (.sq (rg [oo 2 (.bt (.t 0)),
 om 4 (.k (.bool false))])
 (.sq (rg [om 5 (.t 1),
 oo 6 (.fa 3 (.t 2)),
 oo 7 (.ld none (.t 6)),
 oo 8 (.fa 4 (.t 2)),
 oo 9 (.ld none (.t 8)),
 oo 10 (.ln (.t 9)),
 oo 11 (.bi .add 0 (.t 7) (.t 10)),
 oo 12 (.bi .sub 0 (.t 11) (i6 1)),
 oo 13 (.ca .pure false (.f ZY) [.t 5,i6 0,.t 12]),
 om 4 (.t 13)])
 (.rt))) }
theorem Zhy:ZI Go.Proofs.Tryz.prog Xc Zcg=true:=by kernel_rfl
def Zch:F2 :=
 { nt:=12,res:=[.t 4 [0]],body :=
  (.sq (rg [om 4 (i6 0)])
 (.sq (.sq (rg [om 5 (.t 0),
 oo 6 (.bi .lss 0 (.t 5) (i6 0))])
 (.cd (.t 6) (.sq (rg [om 7 (.t 0),
 om 4 (.t 7)])
 (.rt))
 (.sk)))
 (.sq (rg [om 8 (.t 1),
 om 9 (.t 0),
 oo 10 (.ia 1 (.t 8) (.t 9)),
 oo 11 (.ld none (.t 10)),
 om 4 (.t 11)])
 (.rt)))) }
theorem Zhz:ZI Go.Proofs.Tryz.prog Xd Zch=true:=by kernel_rfl
def Zah:F2 :=
 { nt:=32,res:=[.t 2 [0]],body :=
  (.sq (rg [om 2 (.k (.bool false))])
 (.sq (.sq (rg [om 5 (.t 0),
 oo 6 (.ln (.t 5)),
 om 7 (i6 0)])
 (.bl 0 (.lp [0,5,6,7] [] (.sq (rg [oo 8 (.bi .lss 0 (.t 7) (.t 6))])
 (.sq (.cd (.t 8) (.sk)
 (.ex 0))
 (.sq (.bl 1 (.sq (rg [om 9 (.t 7),
 oo 10 (.ia 1 (.t 5) (.t 7)),
 oo 11 (.ld none (.t 10)),
 om 3 (.t 9),
 om 4 (.t 11)])
 (.sq (rg [om 12 (.t 4),
 oo 13 (.ca .pure false (.f J5) [.t 12]),
 oo 14 (.nt (.t 13)),
 om 15 (.t 14),
 og 16 15 false (.mv (.t 3) none),
 og 17 15 false (.bi .gtr 0 (.t 16) (i6 0)),
 og 18 15 false (.mv (.t 17) none),
 og 19 18 true (.mv (.t 4) none),
 og 20 18 true (.mv (.t 0) none),
 og 21 18 true (.mv (.t 3) none),
 og 22 18 true (.bi .sub 0 (.t 21) (i6 1)),
 og 23 18 true (.ia 1 (.t 20) (.t 22)),
 og 24 18 true (.ld none (.t 23)),
 og 25 18 true (.bi .leq 0 (.t 19) (.t 24)),
 og 26 15 false (.pk (.t 18) (.t 25) (.k (.bool false))),
 oo 27 (.pk (.t 15) (.k (.bool true)) (.t 26))])
 (.cd (.t 27) (.sq (rg [om 2 (.k (.bool false))])
 (.rt))
 (.sk)))))
 (rg [oo 28 (.bi .add 0 (.t 7) (i6 1)),
 om 7 (.t 28)])))))))
 (.sq (rg [om 29 (.t 0),
 oo 30 (.ln (.t 29)),
 oo 31 (.bi .leq 0 (.t 30) (i6 16)),
 om 2 (.t 31)])
 (.rt)))) }
theorem Ze0:ZI Go.Proofs.Tryz.prog VD Zah=true:=by kernel_rfl
def Xj:F2 :=
 { nt:=32,res:=[.t 8 [0]],body :=
  (.sq (rg [oo 4 (.bt (.t 0)),
 om 8 (.k (.bool false))])
 (.sq (.sq (rg [om 9 (.t 2),
 oo 10 (.bi .lss 0 (.t 9) (i6 0))])
 (.cd (.t 10) (.sq (rg [om 11 (.t 2),
 oo 12 (.fa 0 (.t 4)),
 oo 13 (.ld none (.t 12)),
 oo 14 (.ng (.t 13)),
 oo 15 (.bi .geq 0 (.t 11) (.t 14)),
 om 8 (.t 15)])
 (.rt))
 (.sk)))
 (.sq (rg [om 16 (.t 2),
 om 17 (.t 3),
 oo 18 (.bi .lss 0 (.t 16) (.t 17)),
 om 19 (.t 18),
 og 20 19 true (.mv (.t 1) none),
 og 21 19 true (.fa 1 (.t 4)),
 og 22 19 true (.ld none (.t 21)),
 og 23 19 true (.mv (.t 2) none),
 og 24 19 true (.ia 3 (.t 22) (.t 23)),
 og 25 19 true (.fa 0 (.t 24)),
 og 26 19 true (.ld none (.t 25)),
 og 27 19 true (.ia 3 (.t 20) (.t 26)),
 og 28 19 true (.fa 2 (.t 27)),
 og 29 19 true (.ld none (.t 28)),
 og 30 19 true (.bi .neq 0 (.t 29) (i6 2)),
 oo 31 (.pk (.t 19) (.t 30) (.k (.bool false))),
 om 8 (.t 31)])
 (.rt)))) }
theorem Do:ZI Go.Proofs.Tryz.prog JE Xj=true:=by kernel_rfl
def Ui:F2 :=
 { nt:=8,res:=[.t 3 [0]],body :=
  (.sq (rg [om 3 (.k (.bool false))])
 (.sq (rg [oo 4 (.ld (some 6) (.t 1)),
 om 5 (.t 0),
 oo 6 (.ca .pure false (.f JR) [.t 4,.t 5]),
 oo 7 (.nt (.t 6)),
 om 3 (.t 7)])
 (.rt))) }
theorem Zci:ZI Go.Proofs.Tryz.prog VQ Ui=true:=by kernel_rfl
def XY:F2 :=
 { nt:=14,res:=[.t 4 [0]],body :=
  (.sq (rg [oo 2 (.bt (.t 0)),
 om 4 (.k (.bool false))])
 (.sq (rg [om 5 (.t 1),
 oo 6 (.fa 3 (.t 2)),
 oo 7 (.ld none (.t 6)),
 oo 8 (.fa 4 (.t 2)),
 oo 9 (.ld none (.t 8)),
 oo 10 (.ln (.t 9)),
 oo 11 (.bi .add 0 (.t 7) (.t 10)),
 oo 12 (.bi .sub 0 (.t 11) (i6 1)),
 oo 13 (.ca .pure false (.f ZQ) [.t 5,i6 0,.t 12]),
 om 4 (.t 13)])
 (.rt))) }
theorem Zai:ZI Go.Proofs.Tryz.prog JR XY=true:=by kernel_rfl
def Uj:F2 :=
 { nt:=13,res:=[.t 4 [0]],body :=
  (.sq (rg [om 4 (.k (.bool false))])
 (.sq (rg [oo 5 (.ld (some 6) (.t 1)),
 oo 6 (.ld none (.t 2)),
 om 7 (.t 0),
 oo 8 (.fa 1 (.t 1)),
 oo 9 (.ld none (.t 8)),
 oo 10 (.ln (.t 9)),
 oo 11 (.ca .pure false (.f JE) [.t 5,.t 6,.t 7,.t 10]),
 oo 12 (.nt (.t 11)),
 om 4 (.t 12)])
 (.rt))) }
theorem Zcj:ZI Go.Proofs.Tryz.prog VS Uj=true:=by kernel_rfl
def Uk:F2 :=
 { nt:=9,res:=[.t 3 [0]],body :=
  (.sq (rg [oo 2 (.bt (.t 0)),
 om 3 (.k (.bool false))])
 (.sq (rg [oo 4 (.ld (some 6) (.t 1)),
 oo 5 (.fa 1 (.t 2)),
 oo 6 (.ld none (.t 5)),
 oo 7 (.ca .pure false (.f JR) [.t 4,.t 6]),
 oo 8 (.nt (.t 7)),
 om 3 (.t 8)])
 (.rt))) }
theorem Zck:ZI Go.Proofs.Tryz.prog VT Uk=true:=by kernel_rfl
def ZdI:F2 :=
 { nt:=16,res:=[.t 6 [0]],body :=
  (.sq (rg [oo 3 (.bt (.t 0)),
 om 6 (i6 0)])
 (.sq (.sq (rg [om 7 (.t 1),
 oo 8 (.fa 3 (.t 3)),
 oo 9 (.ld none (.t 8)),
 oo 10 (.bi .geq 0 (.t 7) (.t 9))])
 (.cd (.t 10) (.sq (rg [om 11 (.t 1),
 om 6 (.t 11)])
 (.rt))
 (.sk)))
 (.sq (rg [om 12 (.t 2),
 om 13 (.t 1),
 oo 14 (.ia 1 (.t 12) (.t 13)),
 oo 15 (.ld none (.t 14)),
 om 6 (.t 15)])
 (.rt)))) }
theorem ZiW:ZI Go.Proofs.Tryz.prog XL ZdI=true:=by kernel_rfl
def Vo:F2 :=
 { nt:=134,res:=[],body :=
  (.sq (rg [om 8 (.k (.bool true))])
 (.sq (rg [om 9 (.k (.bool true))])
 (.bl 0 (.lp [0,1,2,3,8,9] [] (.bl 1 (.sq (rg [om 19 (.t 2),
 om 20 (.t 1),
 oo 21 (.bi .sub 0 (.t 19) (.t 20)),
 om 10 (.t 21)])
 (.sq (.sq (rg [om 22 (.t 10),
 oo 23 (.bi .leq 0 (.t 22) (i6 12))])
 (.cd (.t 23) (.sq (rg [om 24 (.t 0),
 om 25 (.t 1),
 om 26 (.t 2),
 oo 27 (.ca .any false (.f Jj) [.t 24,.t 25,.t 26])])
 (.rt))
 (.sk)))
 (.sq (.sq (rg [om 28 (.t 3),
 oo 29 (.bi .eql 0 (.t 28) (i6 0))])
 (.cd (.t 29) (.sq (rg [om 30 (.t 0),
 om 31 (.t 1),
 om 32 (.t 2),
 oo 33 (.ca .pure false (.f XW) [.t 30,.t 31,.t 32])])
 (.rt))
 (.sk)))
 (.sq (.sq (rg [om 34 (.t 8),
 oo 35 (.nt (.t 34))])
 (.cd (.t 35) (.sq (rg [om 36 (.t 0),
 om 37 (.t 1),
 om 38 (.t 2),
 oo 39 (.ca .pure false (.f Qy) [.t 36,.t 37,.t 38])])
 (rg [om 40 (.t 3),
 oo 41 (.bi .sub 0 (.t 40) (i6 1)),
 om 3 (.t 41)]))
 (.sk)))
 (.sq (rg [om 43 (.t 0),
 om 44 (.t 1),
 om 45 (.t 2),
 oo 46 (.ca .pure false (.f Xe) [.t 43,.t 44,.t 45]),
 om 42 (.t 46),
 oo 47 (.ex 0 (.t 42)),
 oo 48 (.ex 1 (.t 42)),
 om 11 (.t 47),
 om 12 (.t 48)])
 (.sq (.sq (rg [om 49 (.t 12),
 oo 50 (.bi .eql 0 (.t 49) (i6 2))])
 (.cd (.t 50) (.sq (rg [om 51 (.t 0),
 om 52 (.t 1),
 om 53 (.t 2),
 oo 54 (.ca .pure false (.f QJ) [.t 51,.t 52,.t 53])])
 (.sq (rg [om 55 (.t 2),
 oo 56 (.bi .sub 0 (.t 55) (i6 1)),
 om 57 (.t 11),
 om 58 (.t 1),
 oo 59 (.bi .sub 0 (.t 57) (.t 58)),
 oo 60 (.bi .sub 0 (.t 56) (.t 59)),
 om 11 (.t 60)])
 (rg [om 12 (i6 1)])))
 (.sk)))
 (.sq (.sq (rg [om 61 (.t 8),
 om 62 (.t 61),
 og 63 62 true (.mv (.t 9) none),
 oo 64 (.pk (.t 62) (.t 63) (.k (.bool false))),
 om 65 (.t 64),
 og 66 65 true (.mv (.t 12) none),
 og 67 65 true (.bi .eql 0 (.t 66) (i6 1)),
 oo 68 (.pk (.t 65) (.t 67) (.k (.bool false)))])
 (.cd (.t 68) (.sq (rg [om 69 (.t 0),
 om 70 (.t 1),
 om 71 (.t 2),
 oo 72 (.ca .pure false (.f YY) [.t 69,.t 70,.t 71])])
 (.cd (.t 72) (.rt)
 (.sk)))
 (.sk)))
 (.sq (.sq (.rg (some 0) [om 73 (.t 1),
 oo 74 (.bi .gtr 0 (.t 73) (i6 0)),
 om 75 (.t 74),
 og 76 75 true (.mv (.t 0) none),
 og 77 75 true (.mv (.t 1) none),
 og 78 75 true (.bi .sub 0 (.t 77) (i6 1)),
 og 79 75 true (.ia 1 (.t 76) (.t 78)),
 og 80 75 true (.ld none (.t 79)),
 og 81 75 true (.mv (.t 0) none),
 og 82 75 true (.mv (.t 11) none),
 og 83 75 true (.ia 1 (.t 81) (.t 82)),
 og 84 75 true (.ld none (.t 83)),
 og 85 75 true (.ca .pure false (.f Ql) [.t 80,.t 84]),
 og 86 75 true (.nt (.t 85)),
 oo 87 (.pk (.t 75) (.t 86) (.k (.bool false)))])
 (.cd (.t 87) (.sq (rg [om 88 (.t 0),
 om 89 (.t 1),
 om 90 (.t 2),
 om 91 (.t 11),
 oo 92 (.ca .pure false (.f V7) [.t 88,.t 89,.t 90,.t 91]),
 om 13 (.t 92)])
 (.sq (rg [om 93 (.t 13),
 om 1 (.t 93)])
 (.ex 1)))
 (.sk)))
 (.sq (rg [om 95 (.t 0),
 om 96 (.t 1),
 om 97 (.t 2),
 om 98 (.t 11),
 oo 99 (.ca .pure false (.f XC) [.t 95,.t 96,.t 97,.t 98]),
 om 94 (.t 99),
 oo 100 (.ex 0 (.t 94)),
 oo 101 (.ex 1 (.t 94)),
 om 14 (.t 100),
 om 15 (.t 101)])
 (.sq (rg [om 102 (.t 15),
 om 9 (.t 102)])
 (.sq (rg [om 103 (.t 14),
 om 104 (.t 1),
 oo 105 (.bi .sub 0 (.t 103) (.t 104)),
 om 106 (.t 2),
 om 107 (.t 14),
 oo 108 (.bi .sub 0 (.t 106) (.t 107)),
 om 16 (.t 105),
 om 17 (.t 108)])
 (.sq (rg [om 109 (.t 10),
 oo 110 (.bi .quo 0 (.t 109) (i6 8)),
 om 18 (.t 110)])
 (.sq (rg [om 111 (.t 16),
 om 112 (.t 17),
 oo 113 (.bi .lss 0 (.t 111) (.t 112))])
 (.cd (.t 113) (.sq (rg [om 114 (.t 16),
 om 115 (.t 18),
 oo 116 (.bi .geq 0 (.t 114) (.t 115)),
 om 8 (.t 116)])
 (.sq (rg [om 117 (.t 0),
 om 118 (.t 1),
 om 119 (.t 14),
 om 120 (.t 3),
 oo 121 (.ca .any false (.f ZU) [.t 117,.t 118,.t 119,.t 120])])
 (rg [om 122 (.t 14),
 oo 123 (.bi .add 0 (.t 122) (i6 1)),
 om 1 (.t 123)])))
 (.sq (rg [om 124 (.t 17),
 om 125 (.t 18),
 oo 126 (.bi .geq 0 (.t 124) (.t 125)),
 om 8 (.t 126)])
 (.sq (rg [om 127 (.t 0),
 om 128 (.t 14),
 oo 129 (.bi .add 0 (.t 128) (i6 1)),
 om 130 (.t 2),
 om 131 (.t 3),
 oo 132 (.ca .any false (.f ZU) [.t 127,.t 129,.t 130,.t 131])])
 (rg [om 133 (.t 14),
 om 2 (.t 133)])))))))))))))))))))))) }
theorem WU:ZI Go.Proofs.Tryz.prog ZU Vo=true:=by kernel_rfl
def Zaj:F2 :=
 { nt:=8,res:=[.t 2 [0]],body :=
  (.sq (rg [om 2 (i6 0)])
 (.sq (.cd (.k (.bool false)) (.sq (rg [om 3 (.t 0),
 oo 4 (.cv (.int .u32) (.t 3)),
 oo 5 (.ca .pure false (.f ZbC) [.t 4]),
 om 2 (.t 5)])
 (.rt))
 (.sk))
 (.sq (rg [om 6 (.t 0),
 oo 7 (.ca .pure false (.f Qz) [.t 6]),
 om 2 (.t 7)])
 (.rt)))) }
theorem Ze1:ZI Go.Proofs.Tryz.prog YD Zaj=true:=by kernel_rfl
def Zak:F2 :=
 { nt:=61,res:=[.t 2 [2]],body :=
  (.sq (rg [om 2 (.k (.slice none 0 0))])
 (.sq (rg [oo 6 (.bs 1 0 [] []),
 oo 3 (.rk (.t 6))])
 (.sq (.sq (rg [om 4 (i6 0)])
 (.bl 0 (.lp [0,3,4] [96] (.sq (.sq (rg [om 7 (.t 4),
 om 8 (.t 0),
 oo 9 (.ln (.t 8)),
 oo 10 (.bi .lss 0 (.t 7) (.t 9))])
 (.cd (.t 10) (.sk)
 (.ex 0)))
 (.sq (.bl 1 (.sq (rg [om 5 (i6 0)])
 (.sq (.bl 2 (.lp [0,3,4,5] [96] (.sq (.sq (.rg (some 0) [om 13 (.t 5),
 om 14 (.t 3),
 oo 15 (.ln (.t 14)),
 oo 16 (.bi .lss 0 (.t 13) (.t 15)),
 om 17 (.t 16),
 og 18 17 true (.mv (.t 3) none),
 og 19 17 true (.mv (.t 5) none),
 og 20 17 true (.ia 1 (.t 18) (.t 19)),
 og 21 17 true (.ld none (.t 20)),
 og 22 17 true (.mv (.t 0) none),
 og 23 17 true (.mv (.t 4) none),
 og 24 17 true (.ia 1 (.t 22) (.t 23)),
 og 25 17 true (.ld none (.t 24)),
 og 26 17 true (.bi .lss 0 (.t 21) (.t 25)),
 oo 27 (.pk (.t 17) (.t 26) (.k (.bool false)))])
 (.cd (.t 27) (.sk)
 (.ex 2)))
 (.bl 3 (rg [om 28 (.t 5),
 oo 29 (.bi .add 0 (.t 28) (i6 1)),
 om 5 (.t 29)])))))
 (.sq (.rg (some 0) [om 30 (.t 5),
 om 31 (.t 3),
 oo 32 (.ln (.t 31)),
 oo 33 (.bi .eql 0 (.t 30) (.t 32)),
 om 34 (.t 33),
 og 35 34 false (.mv (.t 3) none),
 og 36 34 false (.mv (.t 5) none),
 og 37 34 false (.ia 1 (.t 35) (.t 36)),
 og 38 34 false (.ld none (.t 37)),
 og 39 34 false (.mv (.t 0) none),
 og 40 34 false (.mv (.t 4) none),
 og 41 34 false (.ia 1 (.t 39) (.t 40)),
 og 42 34 false (.ld none (.t 41)),
 og 43 34 false (.bi .neq 0 (.t 38) (.t 42)),
 oo 44 (.pk (.t 34) (.k (.bool true)) (.t 43))])
 (.cd (.t 44) (.rg (some 0) [oo 45 (.bs 1 0 [] []),
 om 46 (.t 3),
 om 47 (.t 5),
 oo 48 (.sx 1 (.t 46) none (some (.t 47)) none),
 oo 49 (.a0 1 (.t 45) (.t 48)),
 om 50 (.t 0),
 om 51 (.t 4),
 oo 52 (.it 1 (.t 50) (.t 51)),
 oo 53 (.lt none (.t 52)),
 oo 54 (.bs 1 1 [.string ⟨#[]⟩] [(0,.t 53)]),
 oo 55 (.a0 1 (.t 49) (.t 54)),
 om 56 (.t 3),
 om 57 (.t 5),
 oo 58 (.sw 1 (.t 56) (some (.t 57)) none none),
 oo 59 (.ap 1 0 (.t 55) (.t 58)),
 oo 3 (.rk (.t 59))])
 (.sk))))))
 (rg [om 11 (.t 4),
 oo 12 (.bi .add 0 (.t 11) (i6 1)),
 om 4 (.t 12)]))))))
 (.sq (rg [om 60 (.t 3),
 om 2 (.t 60)])
 (.rt))))) }
theorem Ze2:ZI Go.Proofs.Tryz.prog JZ Zak=true:=by kernel_rfl
def Zbj:F2 :=
 { nt:=28,res:=[.t 6 [2]],body :=
  (.sq (rg [om 6 (.k (.slice none 0 0))])
 (.sq (rg [oo 9 (.bs 1 0 [] []),
 om 7 (.t 9)])
 (.sq (.sq (rg [om 8 (i6 0)])
 (.bl 0 (.lp [0,1,2,7,8] [288,832] (.sq (.sq (rg [om 10 (.t 8),
 om 11 (.t 0),
 oo 12 (.ln (.t 11)),
 oo 13 (.bi .lss 0 (.t 10) (.t 12))])
 (.cd (.t 13) (.sk)
 (.ex 0)))
 (.sq (.bl 1 (rg [om 16 (.t 7),
 om 17 (.t 1),
 om 18 (.t 2),
 om 19 (.t 0),
 om 20 (.t 8),
 oo 21 (.ia 1 (.t 19) (.t 20)),
 oo 22 (.ld none (.t 21)),
 oo 23 (.ca .pure false (.f Yk) [.t 18,.t 22]),
 oo 24 (.bi .add 0 (.t 17) (.t 23)),
 oo 25 (.bs 1 1 [.int .i64 0] [(0,.t 24)]),
 oo 26 (.ap 1 0 (.t 16) (.t 25)),
 om 7 (.t 26)]))
 (rg [om 14 (.t 8),
 oo 15 (.bi .add 0 (.t 14) (i6 1)),
 om 8 (.t 15)]))))))
 (.sq (rg [om 27 (.t 7),
 om 6 (.t 27)])
 (.rt))))) }
theorem ZfU:ZI Go.Proofs.Tryz.prog JK Zbj=true:=by kernel_rfl
def Zcl:F2 :=
 { nt:=34,res:=[.c 4 (some 6) [0,4,2,0,2,3]],body :=
  (.sq (rg [oo 2 (.bt (.t 0)),
 oo 3 (.bt (.t 1)),
 oo 4 (.al [.int .i64 0,.slice none 0 0,.slice none 0 0,.int .i64 0,.slice none 0 0,.slice none 0 0] [])])
 (.sq (.rg (some 0) [oo 7 (.bs 1 0 [] []),
 oo 8 (.fa 4 (.t 2)),
 oo 9 (.ld none (.t 8)),
 oo 10 (.a0 1 (.t 7) (.t 9)),
 oo 11 (.fa 4 (.t 3)),
 oo 12 (.lt none (.t 11)),
 oo 13 (.a0 1 (.t 10) (.t 12)),
 oo 14 (.ca .pure false (.f JZ) [.t 13]),
 oo 15 (.fa 3 (.t 2)),
 oo 16 (.lt none (.t 15)),
 oo 17 (.fa 3 (.t 3)),
 oo 18 (.lt none (.t 17)),
 oo 19 (.bi .add 0 (.t 16) (.t 18)),
 om 5 (.t 14),
 om 6 (.t 19)])
 (.sq (.rg (some 0) [oo 20 (.ld (some 6) (.t 2)),
 oo 21 (.ld (some 6) (.t 3)),
 om 22 (.t 5),
 oo 23 (.fa 4 (.t 2)),
 oo 24 (.ld none (.t 23)),
 om 25 (.t 6),
 om 26 (.t 5),
 oo 27 (.ca .pure false (.f JK) [.t 24,.t 25,.t 26]),
 oo 28 (.fa 4 (.t 3)),
 oo 29 (.ld none (.t 28)),
 om 30 (.t 6),
 om 31 (.t 5),
 oo 32 (.ca .pure false (.f JK) [.t 29,.t 30,.t 31]),
 oo 33 (.ca .pure true (.f We) [.t 20,.t 21,.t 22,.t 27,.t 32]),
 on1 (.st 6 (.t 4) (.t 33))])
 (.rt)))) }
theorem ZhA:ZI Go.Proofs.Tryz.prog WP Zcl=true:=by kernel_rfl
def Wg:F2 :=
 { nt:=72,res:=[.c 6 (some 6) [0,4,2,0,2,3],.t 7 [0]],body :=
  (.sq (rg [oo 4 (.bt (.t 1)),
 oo 6 (.al [.int .i64 0,.slice none 0 0,.slice none 0 0,.int .i64 0,.slice none 0 0,.slice none 0 0] []),
 om 7 (.k (.bool false))])
 (.sq (rg [oo 12 (.fa 4 (.t 4)),
 oo 13 (.ld none (.t 12)),
 om 14 (.t 2),
 oo 15 (.ca .pure false (.f Yk) [.t 13,.t 14]),
 om 8 (.t 15)])
 (.sq (.sq (rg [om 16 (.t 0),
 oo 17 (.ld (some 6) (.t 4)),
 oo 18 (.ca .pure false (.f J6) [.t 16,.t 17]),
 oo 19 (.nt (.t 18)),
 om 20 (.t 19),
 og 21 20 false (.mv (.t 8) none),
 og 22 20 false (.bi .lss 0 (.t 21) (i6 0)),
 oo 23 (.pk (.t 20) (.k (.bool true)) (.t 22))])
 (.cd (.t 23) (.sq (rg [oo 24 (.bd [.int .i64 0,.slice none 0 0,.slice none 0 0,.int .i64 0,.slice none 0 0,.slice none 0 0] [] []),
 on1 (.st 6 (.t 6) (.t 24)),
 om 7 (.k (.bool false))])
 (.rt))
 (.sk)))
 (.sq (.rg (some 0) [oo 25 (.fa 4 (.t 4)),
 oo 26 (.ld none (.t 25)),
 om 27 (.t 2),
 oo 28 (.ca .pure false (.f WS) [.t 26,.t 27]),
 oo 29 (.fa 3 (.t 4)),
 oo 30 (.ld none (.t 29)),
 oo 31 (.ca .pure true (.f JL) [i6 0,.t 30]),
 om 9 (.t 28),
 om 10 (.t 31)])
 (.sq (.sq (rg [om 11 (i6 0)])
 (.bl 0 (.lp [0,4,6,8,9,10,11] [192,992,1472,1920,2208,2209,2210,2211] (.sq (.sq (rg [om 32 (.t 11),
 oo 33 (.fa 4 (.t 4)),
 oo 34 (.ld none (.t 33)),
 oo 35 (.ln (.t 34)),
 oo 36 (.bi .lss 0 (.t 32) (.t 35))])
 (.cd (.t 36) (.sk)
 (.ex 0)))
 (.sq (.bl 1 (.sq (rg [om 39 (.t 11),
 om 40 (.t 8),
 oo 41 (.bi .eql 0 (.t 39) (.t 40))])
 (.cd (.t 41) (rg [om 42 (.t 10),
 oo 43 (.fa 3 (.t 4)),
 oo 44 (.ld none (.t 43)),
 oo 45 (.bs 1 1 [.int .i64 0] [(0,.t 44)]),
 oo 46 (.ap 1 0 (.t 42) (.t 45)),
 om 10 (.t 46)])
 (.rg (some 0) [om 47 (.t 10),
 oo 48 (.fa 3 (.t 4)),
 oo 49 (.ld none (.t 48)),
 oo 50 (.bi .add 0 (.t 49) (i6 1)),
 om 51 (.t 9),
 oo 52 (.fa 4 (.t 4)),
 oo 53 (.ld none (.t 52)),
 om 54 (.t 11),
 oo 55 (.ia 1 (.t 53) (.t 54)),
 oo 56 (.ld none (.t 55)),
 oo 57 (.ca .pure false (.f Yk) [.t 51,.t 56]),
 oo 58 (.bi .add 0 (.t 50) (.t 57)),
 oo 59 (.bs 1 1 [.int .i64 0] [(0,.t 58)]),
 oo 60 (.ap 1 0 (.t 47) (.t 59)),
 om 10 (.t 60)]))))
 (rg [om 37 (.t 11),
 oo 38 (.bi .add 0 (.t 37) (i6 1)),
 om 11 (.t 38)]))))))
 (.sq (rg [om 61 (.t 0),
 oo 62 (.ld (some 6) (.t 4)),
 om 63 (.t 10),
 oo 64 (.fa 3 (.t 4)),
 oo 65 (.ld none (.t 64)),
 oo 66 (.bi .add 0 (.t 65) (i6 1)),
 om 67 (.t 9),
 oo 68 (.ca .pure false (.f XD) [.t 62,.t 63,.t 66,.t 67]),
 oo 69 (.ca .pure true (.f Vk) [.t 61,.t 68]),
 oo 70 (.ex 0 (.t 69)),
 oo 71 (.ex 1 (.t 69)),
 on1 (.st 6 (.t 6) (.t 70)),
 om 7 (.t 71)])
 (.rt))))))) }
theorem DL:ZI Go.Proofs.Tryz.prog JJ Wg=true:=by kernel_rfl
def Zbk:F2 :=
 { nt:=38,res:=[.c 6 (some 6) [0,4,2,0,2,3],.t 7 [0]],body :=
  (.sq (rg [oo 4 (.bt (.t 1)),
 oo 6 (.al [.int .i64 0,.slice none 0 0,.slice none 0 0,.int .i64 0,.slice none 0 0,.slice none 0 0] []),
 om 7 (.k (.bool false))])
 (.sq (.sq (rg [om 9 (.t 0),
 oo 10 (.ld (some 6) (.t 4)),
 oo 11 (.ca .pure false (.f J6) [.t 9,.t 10]),
 oo 12 (.nt (.t 11)),
 om 13 (.t 12),
 og 14 13 false (.fa 4 (.t 4)),
 og 15 13 false (.ld none (.t 14)),
 og 16 13 false (.mv (.t 2) none),
 og 17 13 false (.ca .pure false (.f Yk) [.t 15,.t 16]),
 og 18 13 false (.bi .geq 0 (.t 17) (i6 0)),
 oo 19 (.pk (.t 13) (.k (.bool true)) (.t 18))])
 (.cd (.t 19) (.sq (rg [oo 20 (.bd [.int .i64 0,.slice none 0 0,.slice none 0 0,.int .i64 0,.slice none 0 0,.slice none 0 0] [] []),
 on1 (.st 6 (.t 6) (.t 20)),
 om 7 (.k (.bool false))])
 (.rt))
 (.sk)))
 (.sq (rg [oo 21 (.bs 1 0 [] []),
 oo 22 (.fa 4 (.t 4)),
 oo 23 (.ld none (.t 22)),
 oo 24 (.ap 1 0 (.t 21) (.t 23)),
 om 25 (.t 2),
 oo 26 (.bs 1 1 [.string ⟨#[]⟩] [(0,.t 25)]),
 oo 27 (.ap 1 0 (.t 24) (.t 26)),
 oo 28 (.ca .pure false (.f JZ) [.t 27]),
 om 8 (.t 28)])
 (.sq (rg [om 29 (.t 0),
 oo 30 (.ld (some 6) (.t 4)),
 oo 31 (.fa 4 (.t 4)),
 oo 32 (.ld none (.t 31)),
 om 33 (.t 8),
 oo 34 (.ca .pure false (.f Qm) [.t 30,.t 32,.t 33]),
 oo 35 (.ca .pure true (.f Vk) [.t 29,.t 34]),
 oo 36 (.ex 0 (.t 35)),
 oo 37 (.ex 1 (.t 35)),
 on1 (.st 6 (.t 6) (.t 36)),
 om 7 (.t 37)])
 (.rt))))) }
theorem ZfV:ZI Go.Proofs.Tryz.prog Wd Zbk=true:=by kernel_rfl
def Zcm:F2 :=
 { nt:=89,res:=[.c 4 (some 6) [0,4,2,0,2,3]],body :=
  (.sq (rg [oo 2 (.bt (.t 0)),
 oo 3 (.bt (.t 1)),
 oo 4 (.al [.int .i64 0,.slice none 0 0,.slice none 0 0,.int .i64 0,.slice none 0 0,.slice none 0 0] [])])
 (.sq (.rg (some 0) [oo 11 (.bs 1 0 [] []),
 oo 12 (.fa 4 (.t 2)),
 oo 13 (.ld none (.t 12)),
 oo 14 (.a0 1 (.t 11) (.t 13)),
 oo 15 (.fa 4 (.t 3)),
 oo 16 (.lt none (.t 15)),
 oo 17 (.a0 1 (.t 14) (.t 16)),
 oo 18 (.ca .pure true (.f JZ) [.t 17]),
 oo 19 (.fa 3 (.t 2)),
 oo 20 (.lt none (.t 19)),
 oo 21 (.fa 3 (.t 3)),
 oo 22 (.lt none (.t 21)),
 oo 23 (.bi .add 0 (.t 20) (.t 22)),
 om 5 (.t 18),
 om 6 (.t 23)])
 (.sq (.rg (some 0) [oo 24 (.fa 3 (.t 2)),
 oo 25 (.ld none (.t 24)),
 oo 26 (.ca .pure true (.f JL) [i6 0,.t 25]),
 oo 27 (.fa 4 (.t 2)),
 oo 28 (.ld none (.t 27)),
 om 29 (.t 6),
 om 30 (.t 5),
 oo 31 (.ca .pure false (.f JK) [.t 28,.t 29,.t 30]),
 oo 32 (.ap 1 0 (.t 26) (.t 31)),
 om 7 (.t 32)])
 (.sq (.rg (some 0) [oo 33 (.fa 3 (.t 2)),
 oo 34 (.ld none (.t 33)),
 oo 35 (.fa 3 (.t 3)),
 oo 36 (.ld none (.t 35)),
 oo 37 (.ca .pure true (.f JL) [.t 34,.t 36]),
 oo 38 (.fa 4 (.t 3)),
 oo 39 (.ld none (.t 38)),
 om 40 (.t 6),
 om 41 (.t 5),
 oo 42 (.ca .pure false (.f JK) [.t 39,.t 40,.t 41]),
 oo 43 (.ap 1 0 (.t 37) (.t 42)),
 om 8 (.t 43)])
 (.sq (.rg (some 0) [oo 44 (.fa 0 (.t 2)),
 oo 45 (.ld none (.t 44)),
 oo 46 (.ca .pure false (.f Ye) [i6 0,.t 45]),
 oo 47 (.fa 0 (.t 2)),
 oo 48 (.ld none (.t 47)),
 oo 49 (.fa 0 (.t 3)),
 oo 50 (.ld none (.t 49)),
 oo 51 (.ca .pure false (.f Ye) [.t 48,.t 50]),
 om 9 (.t 46),
 om 10 (.t 51)])
 (.sq (.rg (some 0) [oo 52 (.fa 0 (.t 2)),
 oo 53 (.lt none (.t 52)),
 oo 54 (.fa 0 (.t 3)),
 oo 55 (.lt none (.t 54)),
 oo 56 (.bi .add 0 (.t 53) (.t 55)),
 oo 57 (.ld (some 6) (.t 2)),
 om 58 (.t 9),
 om 59 (.t 7),
 oo 60 (.ca .pure true (.f JM) [.t 57,i6 0,.t 58,.t 59]),
 oo 61 (.ld (some 6) (.t 3)),
 oo 62 (.fa 1 (.t 2)),
 oo 63 (.ld none (.t 62)),
 oo 64 (.ln (.t 63)),
 om 65 (.t 10),
 om 66 (.t 8),
 oo 67 (.ca .pure false (.f JM) [.t 61,.t 64,.t 65,.t 66]),
 oo 68 (.a1 3 (.t 60) (.t 67)),
 oo 69 (.lt (some 6) (.t 2)),
 om 70 (.t 9),
 oo 71 (.ca .pure true (.f Jv) [.t 69,i6 0,.t 70]),
 oo 72 (.lt (some 6) (.t 3)),
 oo 73 (.fa 1 (.t 2)),
 oo 74 (.lt none (.t 73)),
 oo 75 (.ln (.t 74)),
 om 76 (.t 10),
 oo 77 (.ca .pure false (.f Jv) [.t 72,.t 75,.t 76]),
 oo 78 (.a0 1 (.t 71) (.t 77)),
 om 79 (.t 6),
 om 80 (.t 5),
 oo 81 (.lt (some 6) (.t 2)),
 om 82 (.t 7),
 oo 83 (.ca .pure false (.f Yf) [.t 81,.t 82]),
 oo 84 (.lt (some 6) (.t 3)),
 om 85 (.t 8),
 oo 86 (.ca .pure false (.f Yf) [.t 84,.t 85]),
 oo 87 (.ca .pure true (.f Wf) [.t 83,.t 86]),
 oo 88 (.bd [.int .i64 0,.slice none 0 0,.slice none 0 0,.int .i64 0,.slice none 0 0,.slice none 0 0] [(0,1,.t 56),(1,1,.t 68),(2,1,.t 78),(3,1,.t 79),(4,1,.t 80),(5,1,.t 87)] []),
 on1 (.st 6 (.t 4) (.t 88))])
 (.rt))))))) }
theorem ZhB:ZI Go.Proofs.Tryz.prog WQ Zcm=true:=by kernel_rfl
def ZdJ:F2 :=
 { nt:=45,res:=[.c 2 (some 6) [0,4,2,0,2,3]],body :=
  (.sq (rg [oo 1 (.bt (.t 0)),
 oo 2 (.al [.int .i64 0,.slice none 0 0,.slice none 0 0,.int .i64 0,.slice none 0 0,.slice none 0 0] [])])
 (.sq (rg [oo 7 (.ld (some 6) (.t 1)),
 oo 8 (.ca .pure true (.f Y2) [.t 7]),
 oo 9 (.bs 1 0 [] []),
 oo 3 (.al [.int .i64 0,.slice none 0 0,.slice none 0 0,.int .i64 0,.slice none 0 0,.slice none 0 0] []),
 on1 (.st 6 (.t 3) (.t 8)),
 om 4 (.t 9)])
 (.sq (.sq (rg [om 5 (i6 0)])
 (.bl 0 (.lp [1,2,3,4,5] [64,96,256,257,258,259,288,576,1344] (.sq (.sq (rg [om 10 (.t 5),
 oo 11 (.fa 0 (.t 1)),
 oo 12 (.ld none (.t 11)),
 oo 13 (.bi .lss 0 (.t 10) (.t 12))])
 (.cd (.t 13) (.sk)
 (.ex 0)))
 (.sq (.bl 1 (rg [om 16 (.t 4),
 oo 17 (.bs 1 1 [.int .i64 0] [(0,i6 (-1))]),
 oo 18 (.ap 1 0 (.t 16) (.t 17)),
 om 4 (.t 18)]))
 (rg [om 14 (.t 5),
 oo 15 (.bi .add 0 (.t 14) (i6 1)),
 om 5 (.t 15)]))))))
 (.sq (rg [oo 19 (.fa 0 (.t 3)),
 on1 (.st 1 (.t 19) (i6 1))])
 (.sq (.sq (rg [om 6 (i6 0)])
 (.bl 2 (.lp [1,2,3,4,6] [64,96,256,257,258,259,288,576,1344] (.sq (.sq (rg [om 20 (.t 6),
 oo 21 (.fa 1 (.t 3)),
 oo 22 (.ld none (.t 21)),
 oo 23 (.ln (.t 22)),
 oo 24 (.bi .lss 0 (.t 20) (.t 23))])
 (.cd (.t 24) (.sk)
 (.ex 2)))
 (.sq (.bl 3 (.rg (some 0) [oo 27 (.fa 1 (.t 3)),
 oo 28 (.ld none (.t 27)),
 om 29 (.t 6),
 oo 30 (.fa 1 (.t 3)),
 oo 31 (.ld none (.t 30)),
 om 32 (.t 6),
 oo 33 (.ia 3 (.t 31) (.t 32)),
 oo 34 (.fa 1 (.t 33)),
 oo 35 (.ld none (.t 34)),
 om 36 (.t 4),
 oo 37 (.ca .pure false (.f YE) [.t 35,i6 0,.t 36]),
 oo 38 (.ia 3 (.t 28) (.t 29)),
 oo 39 (.fa 1 (.t 38)),
 on1 (.st 1 (.t 39) (.t 37))]))
 (rg [om 25 (.t 6),
 oo 26 (.bi .add 0 (.t 25) (i6 1)),
 om 6 (.t 26)]))))))
 (.sq (rg [oo 40 (.ld (some 6) (.t 1)),
 om 41 (.t 4),
 oo 42 (.ca .pure true (.f Jv) [.t 40,i6 0,.t 41]),
 oo 43 (.fa 2 (.t 3)),
 on1 (.st 1 (.t 43) (.t 42))])
 (.sq (rg [oo 44 (.ld (some 6) (.t 3)),
 on1 (.st 6 (.t 2) (.t 44))])
 (.rt)))))))) }
theorem ZiX:ZI Go.Proofs.Tryz.prog Uy ZdJ=true:=by kernel_rfl
def ZdK:F2 :=
 { nt:=31,res:=[.c 6 (some 6) [0,4,2,0,2,3],.t 7 [0]],body :=
  (.sq (rg [oo 6 (.al [.int .i64 0,.slice none 0 0,.slice none 0 0,.int .i64 0,.slice none 0 0,.slice none 0 0] []),
 om 7 (.k (.bool false))])
 (.sq (rg [om 11 (.t 0),
 om 12 (.t 1),
 om 13 (.t 2),
 oo 14 (.ca .pure true (.f Xf) [.t 11,.t 12,.t 13]),
 om 10 (.t 14),
 oo 15 (.ex 0 (.t 10)),
 oo 16 (.ex 1 (.t 10)),
 oo 8 (.al [.int .i64 0,.slice none 0 0,.slice none 0 0,.int .i64 0,.slice none 0 0,.slice none 0 0] []),
 on1 (.st 6 (.t 8) (.t 15)),
 om 9 (.t 16)])
 (.sq (.sq (rg [om 17 (.t 9),
 oo 18 (.nt (.t 17)),
 om 19 (.t 18),
 og 20 19 false (.mv (.t 0) none),
 og 21 19 false (.mv (.t 1) none),
 og 22 19 false (.ia 3 (.t 20) (.t 21)),
 og 23 19 false (.fa 2 (.t 22)),
 og 24 19 false (.ld none (.t 23)),
 og 25 19 false (.bi .eql 0 (.t 24) (i6 2)),
 oo 26 (.pk (.t 19) (.k (.bool true)) (.t 25))])
 (.cd (.t 26) (.sq (rg [oo 27 (.bd [.int .i64 0,.slice none 0 0,.slice none 0 0,.int .i64 0,.slice none 0 0,.slice none 0 0] [] []),
 on1 (.st 6 (.t 6) (.t 27)),
 om 7 (.k (.bool false))])
 (.rt))
 (.sk)))
 (.sq (rg [oo 28 (.bs 1 1 [.int .i64 0] [(0,i6 0)]),
 oo 29 (.fa 2 (.t 8)),
 on1 (.st 1 (.t 29) (.t 28))])
 (.sq (rg [oo 30 (.ld (some 6) (.t 8)),
 on1 (.st 6 (.t 6) (.t 30)),
 om 7 (.k (.bool true))])
 (.rt)))))) }
theorem ZiY:ZI Go.Proofs.Tryz.prog Uz ZdK=true:=by kernel_rfl
def WV:F2 :=
 { nt:=49,res:=[.c 6 (some 6) [0,4,2,0,2,3],.t 7 [0]],body :=
  (.sq (rg [oo 4 (.bt (.t 1)),
 oo 5 (.bt (.t 2)),
 oo 6 (.al [.int .i64 0,.slice none 0 0,.slice none 0 0,.int .i64 0,.slice none 0 0,.slice none 0 0] []),
 om 7 (.k (.bool false))])
 (.sq (.sq (rg [om 8 (.t 0),
 oo 9 (.ld (some 6) (.t 4)),
 oo 10 (.ca .pure false (.f ZZ) [.t 8,.t 9]),
 oo 11 (.nt (.t 10)),
 om 12 (.t 11),
 og 13 12 false (.mv (.t 0) none),
 og 14 12 false (.ld (some 6) (.t 5)),
 og 15 12 false (.ca .pure false (.f ZZ) [.t 13,.t 14]),
 og 16 12 false (.nt (.t 15)),
 oo 17 (.pk (.t 12) (.k (.bool true)) (.t 16)),
 om 18 (.t 17),
 og 19 18 false (.fa 5 (.t 4)),
 og 20 18 false (.ld none (.t 19)),
 og 21 18 false (.ln (.t 20)),
 og 22 18 false (.bi .gtr 0 (.t 21) (i6 0)),
 oo 23 (.pk (.t 18) (.k (.bool true)) (.t 22)),
 om 24 (.t 23),
 og 25 24 false (.fa 2 (.t 4)),
 og 26 24 false (.ld none (.t 25)),
 og 27 24 false (.ln (.t 26)),
 og 28 24 false (.fa 0 (.t 5)),
 og 29 24 false (.ld none (.t 28)),
 og 30 24 false (.bi .neq 0 (.t 27) (.t 29)),
 oo 31 (.pk (.t 24) (.k (.bool true)) (.t 30))])
 (.cd (.t 31) (.sq (rg [oo 32 (.bd [.int .i64 0,.slice none 0 0,.slice none 0 0,.int .i64 0,.slice none 0 0,.slice none 0 0] [] []),
 on1 (.st 6 (.t 6) (.t 32)),
 om 7 (.k (.bool false))])
 (.rt))
 (.sk)))
 (.sq (.rg (some 0) [om 33 (.t 0),
 oo 34 (.ld (some 6) (.t 4)),
 oo 35 (.ld (some 6) (.t 5)),
 oo 36 (.fa 0 (.t 4)),
 oo 37 (.ld none (.t 36)),
 oo 38 (.fa 4 (.t 4)),
 oo 39 (.ld none (.t 38)),
 oo 40 (.fa 4 (.t 5)),
 oo 41 (.ld none (.t 40)),
 oo 42 (.bs 1 2 [.slice none 0 0] [(0,.t 39),(1,.t 41)]),
 oo 43 (.ca .pure false (.f Z7) [.t 42]),
 oo 44 (.mf JT [.t 4]),
 oo 45 (.ca .pure false (.f Vl) [.t 34,.t 35,.t 37,.k (.slice none 0 0),.t 43,.t 44,.f YF]),
 oo 46 (.ca .pure true (.f Y3) [.t 33,.t 45]),
 oo 47 (.ex 0 (.t 46)),
 oo 48 (.ex 1 (.t 46)),
 on1 (.st 6 (.t 6) (.t 47)),
 om 7 (.t 48)])
 (.rt)))) }
theorem ZbE:ZI Go.Proofs.Tryz.prog Vj WV=true:=by kernel_rfl
def Zcn:F2 :=
 { nt:=14,res:=[.c 6 (some 6) [0,4,2,0,2,3],.t 7 [0]],body :=
  (.sq (rg [oo 6 (.al [.int .i64 0,.slice none 0 0,.slice none 0 0,.int .i64 0,.slice none 0 0,.slice none 0 0] []),
 om 7 (.k (.bool false))])
 (.sq (rg [om 8 (.t 0),
 om 9 (.t 1),
 om 10 (.t 2),
 oo 11 (.ca .pure true (.f Xf) [.t 8,.t 9,.t 10]),
 oo 12 (.ex 0 (.t 11)),
 oo 13 (.ex 1 (.t 11)),
 on1 (.st 6 (.t 6) (.t 12)),
 om 7 (.t 13)])
 (.rt))) }
theorem ZhC:ZI Go.Proofs.Tryz.prog WR Zcn=true:=by kernel_rfl
def VK:F2 :=
 { nt:=44,res:=[.c 2 (some 6) [0,4,2,0,2,3]],body :=
  (.sq (rg [oo 1 (.bt (.t 0)),
 oo 2 (.al [.int .i64 0,.slice none 0 0,.slice none 0 0,.int .i64 0,.slice none 0 0,.slice none 0 0] [])])
 (.sq (rg [oo 8 (.ld (some 6) (.t 1)),
 oo 9 (.ca .pure true (.f Jz) [.t 8]),
 oo 3 (.al [.int .i64 0,.slice none 0 0,.slice none 0 0,.int .i64 0,.slice none 0 0,.slice none 0 0] []),
 on1 (.st 6 (.t 3) (.t 9))])
 (.sq (rg [oo 10 (.fa 0 (.t 3)),
 on1 (.st 1 (.t 10) (i6 1))])
 (.sq (.sq (rg [oo 11 (.fa 1 (.t 3)),
 oo 12 (.ld none (.t 11)),
 oo 13 (.ln (.t 12)),
 om 14 (i6 0)])
 (.bl 0 (.lp [2,3,12,13,14] [64,96,288,289,290,291] (.sq (rg [oo 15 (.bi .lss 0 (.t 14) (.t 13))])
 (.sq (.cd (.t 15) (.sk)
 (.ex 0))
 (.sq (.bl 1 (.sq (rg [om 16 (.t 14),
 oo 17 (.ia 3 (.t 12) (.t 14)),
 oo 18 (.ld (some 3) (.t 17)),
 oo 5 (.al [.int .i64 0,.int .i64 0,.slice none 0 0] []),
 om 4 (.t 16),
 on1 (.st 3 (.t 5) (.t 18))])
 (rg [oo 19 (.fa 1 (.t 3)),
 oo 20 (.ld none (.t 19)),
 om 21 (.t 4),
 oo 22 (.fa 1 (.t 5)),
 oo 23 (.ld none (.t 22)),
 oo 24 (.mm true (i6 (-1)) (.t 23)),
 oo 25 (.ia 3 (.t 20) (.t 21)),
 oo 26 (.fa 1 (.t 25)),
 on1 (.st 1 (.t 26) (.t 24))])))
 (rg [oo 27 (.bi .add 0 (.t 14) (i6 1)),
 om 14 (.t 27)])))))))
 (.sq (.sq (rg [oo 28 (.fa 2 (.t 3)),
 oo 29 (.ld none (.t 28)),
 oo 30 (.ln (.t 29)),
 om 31 (i6 0)])
 (.bl 2 (.lp [2,3,29,30,31] [64,96,288,289,290,291] (.sq (rg [oo 32 (.bi .lss 0 (.t 31) (.t 30))])
 (.sq (.cd (.t 32) (.sk)
 (.ex 2))
 (.sq (.bl 3 (.sq (rg [om 33 (.t 31),
 oo 34 (.ia 1 (.t 29) (.t 31)),
 oo 35 (.ld none (.t 34)),
 om 6 (.t 33),
 om 7 (.t 35)])
 (rg [oo 36 (.fa 2 (.t 3)),
 oo 37 (.ld none (.t 36)),
 om 38 (.t 6),
 om 39 (.t 7),
 oo 40 (.mm true (i6 (-1)) (.t 39)),
 oo 41 (.ia 1 (.t 37) (.t 38)),
 on1 (.st 1 (.t 41) (.t 40))])))
 (rg [oo 42 (.bi .add 0 (.t 31) (i6 1)),
 om 31 (.t 42)])))))))
 (.sq (rg [oo 43 (.ld (some 6) (.t 3)),
 on1 (.st 6 (.t 2) (.t 43))])
 (.rt))))))) }
theorem W8:ZI Go.Proofs.Tryz.prog JS VK=true:=by kernel_rfl
def UT:F2 :=
 { nt:=8,res:=[.t 4 [0]],body :=
  (.sq (rg [oo 3 (.bt (.t 1)),
 om 4 (.k (.bool false))])
 (.sq (rg [om 5 (.t 0),
 oo 6 (.mf Ym [.t 3]),
 oo 7 (.ca .pure false (.f Zz) [.t 5,.t 6]),
 om 4 (.t 7)])
 (.rt))) }
theorem Zdc:ZI Go.Proofs.Tryz.prog Qx UT=true:=by kernel_rfl
def ZdL:F2 :=
 { nt:=13,res:=[.c 4 (some 6) [0,4,2,0,2,3],.t 5 [0]],body :=
  (.sq (rg [oo 3 (.bt (.t 1)),
 oo 4 (.al [.int .i64 0,.slice none 0 0,.slice none 0 0,.int .i64 0,.slice none 0 0,.slice none 0 0] []),
 om 5 (.k (.bool false))])
 (.sq (.sq (rg [om 6 (.t 0),
 oo 7 (.ld (some 6) (.t 3)),
 oo 8 (.ca .pure false (.f ZZ) [.t 6,.t 7]),
 oo 9 (.nt (.t 8))])
 (.cd (.t 9) (.sq (rg [oo 10 (.bd [.int .i64 0,.slice none 0 0,.slice none 0 0,.int .i64 0,.slice none 0 0,.slice none 0 0] [] []),
 on1 (.st 6 (.t 4) (.t 10)),
 om 5 (.k (.bool false))])
 (.rt))
 (.sk)))
 (.sq (rg [oo 11 (.ld (some 6) (.t 3)),
 oo 12 (.ca .pure true (.f Jz) [.t 11]),
 on1 (.st 6 (.t 4) (.t 12)),
 om 5 (.k (.bool true))])
 (.rt)))) }
theorem ZiZ:ZI Go.Proofs.Tryz.prog Y3 ZdL=true:=by kernel_rfl
def Zal:F2 :=
 { nt:=41,res:=[.c 4 (some 6) [0,4,2,0,2,3]],body :=
  (.sq (rg [oo 2 (.bt (.t 0)),
 oo 3 (.bt (.t 1)),
 oo 4 (.al [.int .i64 0,.slice none 0 0,.slice none 0 0,.int .i64 0,.slice none 0 0,.slice none 0 0] [])])
 (.sq (rg [oo 8 (.fa 4 (.t 2)),
 oo 9 (.ld none (.t 8)),
 oo 10 (.fa 4 (.t 3)),
 oo 11 (.ld none (.t 10)),
 oo 12 (.bs 1 2 [.slice none 0 0] [(0,.t 9),(1,.t 11)]),
 oo 13 (.ca .pure false (.f Z7) [.t 12]),
 om 5 (.t 13)])
 (.sq (rg [oo 14 (.ld (some 6) (.t 2)),
 oo 15 (.ld (some 6) (.t 3)),
 oo 16 (.fa 0 (.t 2)),
 oo 17 (.ld none (.t 16)),
 oo 18 (.fa 0 (.t 3)),
 oo 19 (.ld none (.t 18)),
 oo 20 (.bi .add 0 (.t 17) (.t 19)),
 oo 21 (.fa 2 (.t 2)),
 oo 22 (.ld none (.t 21)),
 om 23 (.t 5),
 oo 24 (.mf YQ [.t 2]),
 oo 25 (.ca .pure true (.f Vl) [.t 14,.t 15,.t 20,.t 22,.t 23,.t 24,.f YF]),
 oo 6 (.al [.int .i64 0,.slice none 0 0,.slice none 0 0,.int .i64 0,.slice none 0 0,.slice none 0 0] []),
 on1 (.st 6 (.t 6) (.t 25))])
 (.sq (rg [oo 26 (.ld (some 6) (.t 2)),
 oo 27 (.fa 3 (.t 6)),
 oo 28 (.ld none (.t 27)),
 om 29 (.t 5),
 oo 30 (.ca .pure true (.f Zw) [.t 26,.t 28,.t 29,.f YR]),
 oo 7 (.al [.int .i64 0,.slice none 0 0,.slice none 0 0,.int .i64 0,.slice none 0 0,.slice none 0 0] []),
 on1 (.st 6 (.t 7) (.t 30))])
 (.sq (rg [oo 31 (.fa 5 (.t 7)),
 oo 32 (.ld none (.t 31)),
 oo 33 (.fa 5 (.t 6)),
 oo 34 (.ld none (.t 33)),
 oo 35 (.ap 2 0 (.t 32) (.t 34)),
 oo 36 (.fa 5 (.t 6)),
 on1 (.st 1 (.t 36) (.t 35))])
 (.sq (rg [oo 37 (.fa 5 (.t 6)),
 oo 38 (.ld none (.t 37)),
 oo 39 (.ca .any false (.f ZK) [.t 38,.f Jk])])
 (.sq (rg [oo 40 (.ld (some 6) (.t 6)),
 on1 (.st 6 (.t 4) (.t 40))])
 (.rt)))))))) }
theorem Ze3:ZI Go.Proofs.Tryz.prog XB Zal=true:=by kernel_rfl
def Qc:F2 :=
 { nt:=15,res:=[.c 4 (some 6) [0,4,2,0,2,3]],body :=
  (.sq (rg [oo 2 (.bt (.t 0)),
 oo 3 (.bt (.t 1)),
 oo 4 (.al [.int .i64 0,.slice none 0 0,.slice none 0 0,.int .i64 0,.slice none 0 0,.slice none 0 0] [])])
 (.sq (.rg (some 0) [oo 5 (.ld (some 6) (.t 2)),
 oo 6 (.fa 3 (.t 2)),
 oo 7 (.ld none (.t 6)),
 oo 8 (.bi .add 0 (.t 7) (i6 1)),
 oo 9 (.fa 4 (.t 2)),
 oo 10 (.ld none (.t 9)),
 oo 11 (.ld none (.t 3)),
 oo 12 (.ca .pure false (.f VU) [.t 10,.t 11]),
 oo 13 (.mf Jh [.t 3,.t 2]),
 oo 14 (.ca .pure true (.f Zw) [.t 5,.t 8,.t 12,.t 13]),
 on1 (.st 6 (.t 4) (.t 14))])
 (.rt))) }
theorem UB:ZI Go.Proofs.Tryz.prog J7 Qc=true:=by kernel_rfl
def Xk:F2 :=
 { nt:=68,res:=[.c 8 (some 6) [0,4,2,0,2,3]],body :=
  (.sq (rg [oo 4 (.bt (.t 0)),
 oo 5 (.bt (.t 1)),
 oo 7 (.bx (.t 3)),
 oo 8 (.al [.int .i64 0,.slice none 0 0,.slice none 0 0,.int .i64 0,.slice none 0 0,.slice none 0 0] [])])
 (.sq (rg [oo 17 (.ld (some 6) (.t 4)),
 oo 18 (.ca .pure true (.f Jz) [.t 17]),
 oo 9 (.al [.int .i64 0,.slice none 0 0,.slice none 0 0,.int .i64 0,.slice none 0 0,.slice none 0 0] []),
 on1 (.st 6 (.t 9) (.t 18))])
 (.sq (.rg (some 0) [oo 19 (.ld none (.t 5)),
 om 20 (.t 2),
 oo 21 (.ca .pure true (.f YA) [.t 20]),
 oo 22 (.fa 3 (.t 9)),
 on1 (.st 1 (.t 22) (.t 19)),
 oo 23 (.fa 4 (.t 9)),
 on1 (.st 1 (.t 23) (.t 21))])
 (.sq (rg [oo 24 (.mf Jr [.t 7,.t 4,.t 5,.t 9]),
 om 10 (.t 24)])
 (.sq (.sq (rg [oo 25 (.fa 1 (.t 9)),
 oo 26 (.ld none (.t 25)),
 oo 27 (.ln (.t 26)),
 om 28 (i6 0)])
 (.bl 0 (.lp [8,9,10,26,27,28] [224,256,288,576,577,578,579,672] (.sq (rg [oo 29 (.bi .lss 0 (.t 28) (.t 27))])
 (.sq (.cd (.t 29) (.sk)
 (.ex 0))
 (.sq (.bl 1 (.sq (rg [oo 30 (.ia 3 (.t 26) (.t 28)),
 oo 31 (.ld (some 3) (.t 30)),
 oo 12 (.al [.int .i64 0,.int .i64 0,.slice none 0 0] []),
 on1 (.st 3 (.t 12) (.t 31))])
 (.sq (rg [oo 32 (.fa 2 (.t 12)),
 oo 33 (.ld none (.t 32)),
 oo 34 (.ln (.t 33)),
 om 35 (i6 0)])
 (.bl 2 (.lp [8,9,10,12,26,27,28,33,34,35] [224,256,288,384,576,577,578,579,672] (.sq (rg [oo 36 (.bi .lss 0 (.t 35) (.t 34))])
 (.sq (.cd (.t 36) (.sk)
 (.ex 2))
 (.sq (.bl 3 (.sq (rg [om 37 (.t 35),
 oo 38 (.ia 1 (.t 33) (.t 35)),
 oo 39 (.ld none (.t 38)),
 om 13 (.t 37),
 om 14 (.t 39)])
 (.rg (some 0) [oo 40 (.fa 2 (.t 12)),
 oo 41 (.ld none (.t 40)),
 om 42 (.t 13),
 om 43 (.t 10),
 om 44 (.t 14),
 oo 45 (.ca .see false (.t 43) [.t 44]),
 oo 46 (.ia 1 (.t 41) (.t 42)),
 on1 (.st 1 (.t 46) (.t 45))])))
 (rg [oo 47 (.bi .add 0 (.t 35) (i6 1)),
 om 35 (.t 47)])))))))))
 (rg [oo 48 (.bi .add 0 (.t 28) (i6 1)),
 om 28 (.t 48)])))))))
 (.sq (.sq (rg [oo 49 (.fa 5 (.t 9)),
 oo 50 (.ld none (.t 49)),
 oo 51 (.ln (.t 50)),
 om 52 (i6 0)])
 (.bl 4 (.lp [8,9,10,50,51,52] [224,256,288,576,577,578,579,672] (.sq (rg [oo 53 (.bi .lss 0 (.t 52) (.t 51))])
 (.sq (.cd (.t 53) (.sk)
 (.ex 4))
 (.sq (.bl 5 (.sq (rg [om 54 (.t 52),
 oo 55 (.ia 2 (.t 50) (.t 52)),
 oo 56 (.ld (some 2) (.t 55)),
 oo 16 (.al [.string ⟨#[]⟩,.int .i64 0] []),
 om 15 (.t 54),
 on1 (.st 2 (.t 16) (.t 56))])
 (.rg (some 0) [oo 57 (.fa 5 (.t 9)),
 oo 58 (.ld none (.t 57)),
 om 59 (.t 15),
 om 60 (.t 10),
 oo 61 (.fa 1 (.t 16)),
 oo 62 (.ld none (.t 61)),
 oo 63 (.ca .see false (.t 60) [.t 62]),
 oo 64 (.ia 2 (.t 58) (.t 59)),
 oo 65 (.fa 1 (.t 64)),
 on1 (.st 1 (.t 65) (.t 63))])))
 (rg [oo 66 (.bi .add 0 (.t 52) (i6 1)),
 om 52 (.t 66)])))))))
 (.sq (rg [oo 67 (.ld (some 6) (.t 9)),
 on1 (.st 6 (.t 8) (.t 67))])
 (.rt)))))))) }
theorem Dp:ZI Go.Proofs.Tryz.prog Zw Xk=true:=by kernel_rfl
def Ze4:F2 :=
 { nt:=4,res:=[.c 2 (some 2) [0,0]],body :=
  (.sq (rg [oo 1 (.bt (.t 0)),
 oo 2 (.al [.int .i64 0,.string ⟨#[]⟩] [])])
 (.sq (rg [oo 3 (.ld (some 2) (.t 1)),
 on1 (.st 2 (.t 2) (.t 3))])
 (.rt))) }
theorem Zj8:ZI Go.Proofs.Tryz.prog Ws Ze4=true:=by kernel_rfl
def Yo:F2 :=
 { nt:=49,res:=[],body :=
  (.sq (rg [om 8 (.t 1),
 oo 9 (.bi .add 0 (.t 8) (i6 1)),
 om 6 (.t 9)])
 (.bl 0 (.lp [0,1,2,6] [] (.sq (.sq (rg [om 10 (.t 6),
 om 11 (.t 2),
 oo 12 (.bi .lss 0 (.t 10) (.t 11))])
 (.cd (.t 12) (.sk)
 (.ex 0)))
 (.sq (.bl 1 (.sq (rg [om 15 (.t 6),
 om 7 (.t 15)])
 (.bl 2 (.lp [0,1,2,6,7] [] (.sq (.sq (.rg (some 0) [om 16 (.t 7),
 om 17 (.t 1),
 oo 18 (.bi .gtr 0 (.t 16) (.t 17)),
 om 19 (.t 18),
 og 20 19 true (.mv (.t 0) none),
 og 21 19 true (.mv (.t 7) none),
 og 22 19 true (.ia 1 (.t 20) (.t 21)),
 og 23 19 true (.ld none (.t 22)),
 og 24 19 true (.mv (.t 0) none),
 og 25 19 true (.mv (.t 7) none),
 og 26 19 true (.bi .sub 0 (.t 25) (i6 1)),
 og 27 19 true (.ia 1 (.t 24) (.t 26)),
 og 28 19 true (.ld none (.t 27)),
 og 29 19 true (.ca .pure false (.f Ql) [.t 23,.t 28]),
 oo 30 (.pk (.t 19) (.t 29) (.k (.bool false)))])
 (.cd (.t 30) (.sk)
 (.ex 2)))
 (.sq (.bl 3 (.rg (some 0) [om 33 (.t 0),
 om 34 (.t 7),
 om 35 (.t 0),
 om 36 (.t 7),
 oo 37 (.bi .sub 0 (.t 36) (i6 1)),
 om 38 (.t 0),
 om 39 (.t 7),
 oo 40 (.bi .sub 0 (.t 39) (i6 1)),
 oo 41 (.ia 1 (.t 38) (.t 40)),
 oo 42 (.ld none (.t 41)),
 om 43 (.t 0),
 om 44 (.t 7),
 oo 45 (.ia 1 (.t 43) (.t 44)),
 oo 46 (.ld none (.t 45)),
 oo 47 (.ia 1 (.t 33) (.t 34)),
 on1 (.s0 1 (.t 47) (.t 42)),
 oo 48 (.ia 1 (.t 35) (.t 37)),
 on1 (.st 1 (.t 48) (.t 46))]))
 (rg [om 31 (.t 7),
 oo 32 (.bi .sub 0 (.t 31) (i6 1)),
 om 7 (.t 32)])))))))
 (rg [om 13 (.t 6),
 oo 14 (.bi .add 0 (.t 13) (i6 1)),
 om 6 (.t 14)])))))) }
theorem Xl:ZI Go.Proofs.Tryz.prog Jj Yo=true:=by kernel_rfl
end Go.Fd

namespace Go.Fd
def Zbl:F2 :=
 { nt:=17,res:=[.t 4 [0]],body :=
  (.sq (rg [om 4 (.k (.bool false))])
 (.sq (rg [om 5 (.t 0),
 oo 6 (.ca .pure false (.f VE) [.t 5]),
 om 7 (.t 6),
 og 8 7 true (.mv (.t 1) none),
 og 9 7 true (.ca .pure false (.f VE) [.t 8]),
 og 10 7 true (.nt (.t 9)),
 oo 11 (.pk (.t 7) (.t 10) (.k (.bool false))),
 om 12 (.t 11),
 og 13 12 false (.mv (.t 0) none),
 og 14 12 false (.mv (.t 1) none),
 og 15 12 false (.bi .lss 0 (.t 13) (.t 14)),
 oo 16 (.pk (.t 12) (.k (.bool true)) (.t 15)),
 om 4 (.t 16)])
 (.rt))) }
theorem ZfW:ZI Go.Proofs.Tryz.prog Ql Zbl=true:=by kernel_rfl
def Zx:F2 :=
 { nt:=25,res:=[.t 2 [0]],body :=
  (.sq (rg [om 2 (i6 0)])
 (.sq (.sq (rg [om 3 (.t 0),
 oo 4 (.bi .geq 0 (.t 3) (.k (.int .u64 4294967296)))])
 (.cd (.t 4) (.sq (rg [om 5 (.t 0),
 oo 6 (.bi .shr 0 (.t 5) (.k (.int .u64 32))),
 om 0 (.t 6)])
 (rg [om 2 (i6 32)]))
 (.sk)))
 (.sq (.sq (rg [om 7 (.t 0),
 oo 8 (.bi .geq 0 (.t 7) (.k (.int .u64 65536)))])
 (.cd (.t 8) (.sq (rg [om 9 (.t 0),
 oo 10 (.bi .shr 0 (.t 9) (.k (.int .u64 16))),
 om 0 (.t 10)])
 (rg [om 11 (.t 2),
 oo 12 (.bi .add 0 (.t 11) (i6 16)),
 om 2 (.t 12)]))
 (.sk)))
 (.sq (.sq (rg [om 13 (.t 0),
 oo 14 (.bi .geq 0 (.t 13) (.k (.int .u64 256)))])
 (.cd (.t 14) (.sq (rg [om 15 (.t 0),
 oo 16 (.bi .shr 0 (.t 15) (.k (.int .u64 8))),
 om 0 (.t 16)])
 (rg [om 17 (.t 2),
 oo 18 (.bi .add 0 (.t 17) (i6 8)),
 om 2 (.t 18)]))
 (.sk)))
 (.sq (rg [om 19 (.t 2),
 om 20 (.t 0),
 oo 21 (.cv (.int .u8) (.t 20)),
 oo 22 (.ix (.k (.string ⟨#[0,1,2,2,3,3,3,3,4,4,4,4,4,4,4,4,5,5,5,5,5,5,5,5,5,5,5,5,5,5,5,5,6,6,6,6,6,6,6,6,6,6,6,6,6,6,6,6,6,6,6,6,6,6,6,6,6,6,6,6,6,6,6,6,7,7,7,7,7,7,7,7,7,7,7,7,7,7,7,7,7,7,7,7,7,7,7,7,7,7,7,7,7,7,7,7,7,7,7,7,7,7,7,7,7,7,7,7,7,7,7,7,7,7,7,7,7,7,7,7,7,7,7,7,7,7,7,7,8,8,8,8,8,8,8,8,8,8,8,8,8,8,8,8,8,8,8,8,8,8,8,8,8,8,8,8,8,8,8,8,8,8,8,8,8,8,8,8,8,8,8,8,8,8,8,8,8,8,8,8,8,8,8,8,8,8,8,8,8,8,8,8,8,8,8,8,8,8,8,8,8,8,8,8,8,8,8,8,8,8,8,8,8,8,8,8,8,8,8,8,8,8,8,8,8,8,8,8,8,8,8,8,8,8,8,8,8,8,8,8,8,8,8,8,8,8,8,8,8,8,8,8,8,8,8,8]⟩)) (.t 21)),
 oo 23 (.cv (.int .i64) (.t 22)),
 oo 24 (.bi .add 0 (.t 19) (.t 23)),
 om 2 (.t 24)])
 (.rt)))))) }
theorem ZD:ZI Go.Proofs.Tryz.prog Qz Zx=true:=by kernel_rfl
def Zbm:F2 :=
 { nt:=65,res:=[.c 10 (some 6) [0,4,2,0,2,3]],body :=
  (.sq (rg [oo 5 (.bt (.t 0)),
 oo 6 (.bt (.t 1)),
 oo 10 (.al [.int .i64 0,.slice none 0 0,.slice none 0 0,.int .i64 0,.slice none 0 0,.slice none 0 0] [])])
 (.sq (rg [oo 15 (.fa 0 (.t 5)),
 oo 16 (.ld none (.t 15)),
 oo 17 (.ca .pure false (.f Ye) [i6 0,.t 16]),
 om 11 (.t 17)])
 (.sq (.rg (some 0) [oo 18 (.fa 3 (.t 5)),
 oo 19 (.ld none (.t 18)),
 oo 20 (.ca .pure true (.f JL) [i6 0,.t 19]),
 om 21 (.t 3),
 oo 22 (.a0 1 (.t 20) (.t 21)),
 oo 23 (.fa 3 (.t 5)),
 oo 24 (.lt none (.t 23)),
 oo 25 (.fa 3 (.t 6)),
 oo 26 (.lt none (.t 25)),
 oo 27 (.ca .pure true (.f JL) [.t 24,.t 26]),
 om 28 (.t 4),
 oo 29 (.ap 1 0 (.t 27) (.t 28)),
 om 12 (.t 22),
 om 13 (.t 29)])
 (.sq (rg [oo 30 (.ld (some 6) (.t 5)),
 om 31 (.t 11),
 oo 32 (.ca .pure false (.f Jv) [.t 30,i6 0,.t 31]),
 om 14 (.t 32)])
 (.sq (.rg (some 0) [oo 33 (.fa 0 (.t 5)),
 oo 34 (.lt none (.t 33)),
 oo 35 (.ld (some 6) (.t 5)),
 om 36 (.t 11),
 om 37 (.t 12),
 oo 38 (.ca .pure true (.f JM) [.t 35,i6 0,.t 36,.t 37]),
 oo 39 (.ld (some 6) (.t 6)),
 oo 40 (.fa 1 (.t 5)),
 oo 41 (.ld none (.t 40)),
 oo 42 (.ln (.t 41)),
 om 43 (.t 14),
 om 44 (.t 13),
 oo 45 (.ca .pure false (.f JM) [.t 39,.t 42,.t 43,.t 44]),
 oo 46 (.a1 3 (.t 38) (.t 45)),
 oo 47 (.lt (some 6) (.t 6)),
 oo 48 (.fa 1 (.t 5)),
 oo 49 (.lt none (.t 48)),
 oo 50 (.ln (.t 49)),
 om 51 (.t 14),
 oo 52 (.ca .pure true (.f Jv) [.t 47,.t 50,.t 51]),
 oo 53 (.fa 3 (.t 5)),
 oo 54 (.lt none (.t 53)),
 oo 55 (.fa 3 (.t 6)),
 oo 56 (.lt none (.t 55)),
 oo 57 (.bi .add 0 (.t 54) (.t 56)),
 oo 58 (.bs 1 0 [] []),
 om 59 (.t 2),
 oo 60 (.a0 1 (.t 58) (.t 59)),
 oo 61 (.lt (some 6) (.t 6)),
 om 62 (.t 13),
 oo 63 (.ca .pure true (.f Yf) [.t 61,.t 62]),
 oo 64 (.bd [.int .i64 0,.slice none 0 0,.slice none 0 0,.int .i64 0,.slice none 0 0,.slice none 0 0] [(0,1,.t 34),(1,1,.t 46),(2,1,.t 52),(3,1,.t 57),(4,1,.t 60),(5,1,.t 63)] []),
 on1 (.st 6 (.t 10) (.t 64))])
 (.rt)))))) }
theorem ZfX:ZI Go.Proofs.Tryz.prog We Zbm=true:=by kernel_rfl
def Zco:F2 :=
 { nt:=28,res:=[.t 4 [2]],body :=
  (.sq (rg [om 4 (.k (.slice none 0 0))])
 (.sq (rg [oo 7 (.bs 1 0 [] []),
 om 5 (.t 7)])
 (.sq (.sq (rg [om 6 (i6 0)])
 (.bl 0 (.lp [0,1,5,6] [224,832] (.sq (.sq (rg [om 8 (.t 6),
 om 9 (.t 0),
 oo 10 (.ln (.t 9)),
 oo 11 (.bi .lss 0 (.t 8) (.t 10))])
 (.cd (.t 11) (.sk)
 (.ex 0)))
 (.sq (.bl 1 (.sq (rg [om 14 (.t 0),
 om 15 (.t 6),
 oo 16 (.ia 1 (.t 14) (.t 15)),
 oo 17 (.ld none (.t 16)),
 om 18 (.t 1),
 oo 19 (.bi .neq 0 (.t 17) (.t 18))])
 (.cd (.t 19) (rg [om 20 (.t 5),
 om 21 (.t 0),
 om 22 (.t 6),
 oo 23 (.ia 1 (.t 21) (.t 22)),
 oo 24 (.ld none (.t 23)),
 oo 25 (.bs 1 1 [.string ⟨#[]⟩] [(0,.t 24)]),
 oo 26 (.ap 1 0 (.t 20) (.t 25)),
 om 5 (.t 26)])
 (.sk))))
 (rg [om 12 (.t 6),
 oo 13 (.bi .add 0 (.t 12) (i6 1)),
 om 6 (.t 13)]))))))
 (.sq (rg [om 27 (.t 5),
 om 4 (.t 27)])
 (.rt))))) }
theorem ZhD:ZI Go.Proofs.Tryz.prog WS Zco=true:=by kernel_rfl
def Zbn:F2 :=
 { nt:=20,res:=[.t 4 [2]],body :=
  (.sq (rg [om 4 (.k (.slice none 0 0))])
 (.sq (rg [oo 7 (.bs 1 0 [] []),
 om 5 (.t 7)])
 (.sq (.sq (rg [om 6 (i6 0)])
 (.bl 0 (.lp [0,1,5,6] [224,576] (.sq (.sq (rg [om 8 (.t 6),
 om 9 (.t 1),
 oo 10 (.bi .lss 0 (.t 8) (.t 9))])
 (.cd (.t 10) (.sk)
 (.ex 0)))
 (.sq (.bl 1 (rg [om 13 (.t 5),
 om 14 (.t 0),
 om 15 (.t 6),
 oo 16 (.bi .add 0 (.t 14) (.t 15)),
 oo 17 (.bs 1 1 [.int .i64 0] [(0,.t 16)]),
 oo 18 (.ap 1 0 (.t 13) (.t 17)),
 om 5 (.t 18)]))
 (rg [om 11 (.t 6),
 oo 12 (.bi .add 0 (.t 11) (i6 1)),
 om 6 (.t 12)]))))))
 (.sq (rg [om 19 (.t 5),
 om 4 (.t 19)])
 (.rt))))) }
theorem ZfY:ZI Go.Proofs.Tryz.prog JL Zbn=true:=by kernel_rfl
def Dq:F2 :=
 { nt:=12,res:=[.c 4 (some 6) [0,4,2,0,2,3],.t 5 [0]],body :=
  (.sq (rg [oo 3 (.bt (.t 1)),
 oo 4 (.al [.int .i64 0,.slice none 0 0,.slice none 0 0,.int .i64 0,.slice none 0 0,.slice none 0 0] []),
 om 5 (.k (.bool false))])
 (.sq (.sq (rg [om 6 (.t 0),
 oo 7 (.ld (some 6) (.t 3)),
 oo 8 (.ca .pure false (.f J6) [.t 6,.t 7]),
 oo 9 (.nt (.t 8))])
 (.cd (.t 9) (.sq (rg [oo 10 (.bd [.int .i64 0,.slice none 0 0,.slice none 0 0,.int .i64 0,.slice none 0 0,.slice none 0 0] [] []),
 on1 (.st 6 (.t 4) (.t 10)),
 om 5 (.k (.bool false))])
 (.rt))
 (.sk)))
 (.sq (rg [oo 11 (.ld (some 6) (.t 3)),
 on1 (.st 6 (.t 4) (.t 11)),
 om 5 (.k (.bool true))])
 (.rt)))) }
theorem Zcp:ZI Go.Proofs.Tryz.prog Vk Dq=true:=by kernel_rfl
def Zam:F2 :=
 { nt:=30,res:=[.c 8 (some 6) [0,4,2,0,2,3]],body :=
  (.sq (rg [oo 4 (.bt (.t 0)),
 oo 8 (.al [.int .i64 0,.slice none 0 0,.slice none 0 0,.int .i64 0,.slice none 0 0,.slice none 0 0] [])])
 (.sq (rg [oo 10 (.fa 0 (.t 4)),
 oo 11 (.ld none (.t 10)),
 oo 12 (.ca .pure false (.f Ye) [i6 0,.t 11]),
 om 9 (.t 12)])
 (.sq (.rg (some 0) [oo 13 (.fa 0 (.t 4)),
 oo 14 (.lt none (.t 13)),
 oo 15 (.ld (some 6) (.t 4)),
 om 16 (.t 9),
 om 17 (.t 1),
 oo 18 (.ca .pure true (.f JM) [.t 15,i6 0,.t 16,.t 17]),
 oo 19 (.ld (some 6) (.t 4)),
 om 20 (.t 9),
 oo 21 (.ca .pure true (.f Jv) [.t 19,i6 0,.t 20]),
 om 22 (.t 2),
 oo 23 (.bs 1 0 [] []),
 om 24 (.t 3),
 oo 25 (.a0 1 (.t 23) (.t 24)),
 oo 26 (.lt (some 6) (.t 4)),
 om 27 (.t 1),
 oo 28 (.ca .pure true (.f Yf) [.t 26,.t 27]),
 oo 29 (.bd [.int .i64 0,.slice none 0 0,.slice none 0 0,.int .i64 0,.slice none 0 0,.slice none 0 0] [(0,1,.t 14),(1,1,.t 18),(2,1,.t 21),(3,1,.t 22),(4,1,.t 25),(5,1,.t 28)] []),
 on1 (.st 6 (.t 8) (.t 29))])
 (.rt)))) }
theorem Ze5:ZI Go.Proofs.Tryz.prog XD Zam=true:=by kernel_rfl
def Zbo:F2 :=
 { nt:=105,res:=[.c 6 (some 6) [0,4,2,0,2,3]],body :=
  (.sq (rg [oo 3 (.bt (.t 0)),
 oo 6 (.al [.int .i64 0,.slice none 0 0,.slice none 0 0,.int .i64 0,.slice none 0 0,.slice none 0 0] [])])
 (.sq (rg [oo 13 (.ld (some 6) (.t 3)),
 oo 14 (.ca .pure true (.f Y2) [.t 13]),
 oo 7 (.al [.int .i64 0,.slice none 0 0,.slice none 0 0,.int .i64 0,.slice none 0 0,.slice none 0 0] []),
 on1 (.st 6 (.t 7) (.t 14))])
 (.sq (rg [oo 15 (.bs 1 0 [] []),
 om 16 (.t 2),
 oo 17 (.ap 1 0 (.t 15) (.t 16)),
 oo 18 (.fa 4 (.t 7)),
 on1 (.st 1 (.t 18) (.t 17))])
 (.sq (.sq (rg [om 8 (i6 0)])
 (.bl 0 (.lp [1,2,3,6,7,8] [192,224,448,449,450,451,480,544] (.sq (.sq (rg [om 19 (.t 8),
 oo 20 (.fa 1 (.t 7)),
 oo 21 (.ld none (.t 20)),
 oo 22 (.ln (.t 21)),
 oo 23 (.bi .lss 0 (.t 19) (.t 22))])
 (.cd (.t 23) (.sk)
 (.ex 0)))
 (.sq (.bl 1 (.sq (rg [om 9 (i6 0)])
 (.bl 2 (.lp [1,2,3,6,7,8,9] [192,224,448,449,450,451,480,544] (.sq (.sq (rg [om 26 (.t 9),
 oo 27 (.fa 1 (.t 7)),
 oo 28 (.ld none (.t 27)),
 om 29 (.t 8),
 oo 30 (.ia 3 (.t 28) (.t 29)),
 oo 31 (.fa 2 (.t 30)),
 oo 32 (.ld none (.t 31)),
 oo 33 (.ln (.t 32)),
 oo 34 (.bi .lss 0 (.t 26) (.t 33))])
 (.cd (.t 34) (.sk)
 (.ex 2)))
 (.sq (.bl 3 (.sq (rg [oo 37 (.fa 1 (.t 7)),
 oo 38 (.ld none (.t 37)),
 om 39 (.t 8),
 oo 40 (.ia 3 (.t 38) (.t 39)),
 oo 41 (.fa 2 (.t 40)),
 oo 42 (.ld none (.t 41)),
 om 43 (.t 9),
 oo 44 (.ia 1 (.t 42) (.t 43)),
 oo 45 (.ld none (.t 44)),
 om 10 (.t 45)])
 (.sq (rg [om 46 (.t 10),
 oo 47 (.fa 3 (.t 3)),
 oo 48 (.ld none (.t 47)),
 oo 49 (.bi .geq 0 (.t 46) (.t 48))])
 (.cd (.t 49) (.rg (some 0) [oo 50 (.fa 1 (.t 7)),
 oo 51 (.ld none (.t 50)),
 om 52 (.t 8),
 oo 53 (.ia 3 (.t 51) (.t 52)),
 oo 54 (.fa 2 (.t 53)),
 oo 55 (.ld none (.t 54)),
 om 56 (.t 9),
 oo 57 (.fa 3 (.t 3)),
 oo 58 (.ld none (.t 57)),
 om 59 (.t 2),
 om 60 (.t 1),
 om 61 (.t 10),
 oo 62 (.fa 3 (.t 3)),
 oo 63 (.ld none (.t 62)),
 oo 64 (.bi .sub 0 (.t 61) (.t 63)),
 oo 65 (.ia 1 (.t 60) (.t 64)),
 oo 66 (.ld none (.t 65)),
 oo 67 (.ca .pure false (.f Yk) [.t 59,.t 66]),
 oo 68 (.bi .add 0 (.t 58) (.t 67)),
 oo 69 (.ia 1 (.t 55) (.t 56)),
 on1 (.st 1 (.t 69) (.t 68))])
 (.sk)))))
 (rg [om 35 (.t 9),
 oo 36 (.bi .add 0 (.t 35) (i6 1)),
 om 9 (.t 36)])))))))
 (rg [om 24 (.t 8),
 oo 25 (.bi .add 0 (.t 24) (i6 1)),
 om 8 (.t 25)]))))))
 (.sq (.sq (rg [om 11 (i6 0)])
 (.bl 4 (.lp [1,2,3,6,7,11] [192,224,448,449,450,451,480,544] (.sq (.sq (rg [om 70 (.t 11),
 oo 71 (.fa 5 (.t 7)),
 oo 72 (.ld none (.t 71)),
 oo 73 (.ln (.t 72)),
 oo 74 (.bi .lss 0 (.t 70) (.t 73))])
 (.cd (.t 74) (.sk)
 (.ex 4)))
 (.sq (.bl 5 (.sq (rg [oo 77 (.fa 5 (.t 7)),
 oo 78 (.ld none (.t 77)),
 om 79 (.t 11),
 oo 80 (.ia 2 (.t 78) (.t 79)),
 oo 81 (.fa 1 (.t 80)),
 oo 82 (.ld none (.t 81)),
 om 12 (.t 82)])
 (.sq (rg [om 83 (.t 12),
 oo 84 (.fa 3 (.t 3)),
 oo 85 (.ld none (.t 84)),
 oo 86 (.bi .geq 0 (.t 83) (.t 85))])
 (.cd (.t 86) (.rg (some 0) [oo 87 (.fa 5 (.t 7)),
 oo 88 (.ld none (.t 87)),
 om 89 (.t 11),
 oo 90 (.fa 3 (.t 3)),
 oo 91 (.ld none (.t 90)),
 om 92 (.t 2),
 om 93 (.t 1),
 om 94 (.t 12),
 oo 95 (.fa 3 (.t 3)),
 oo 96 (.ld none (.t 95)),
 oo 97 (.bi .sub 0 (.t 94) (.t 96)),
 oo 98 (.ia 1 (.t 93) (.t 97)),
 oo 99 (.ld none (.t 98)),
 oo 100 (.ca .pure false (.f Yk) [.t 92,.t 99]),
 oo 101 (.bi .add 0 (.t 91) (.t 100)),
 oo 102 (.ia 2 (.t 88) (.t 89)),
 oo 103 (.fa 1 (.t 102)),
 on1 (.st 1 (.t 103) (.t 101))])
 (.sk)))))
 (rg [om 75 (.t 11),
 oo 76 (.bi .add 0 (.t 75) (i6 1)),
 om 11 (.t 76)]))))))
 (.sq (rg [oo 104 (.ld (some 6) (.t 7)),
 on1 (.st 6 (.t 6) (.t 104))])
 (.rt))))))) }
theorem ZfZ:ZI Go.Proofs.Tryz.prog Qm Zbo=true:=by kernel_rfl
def Zbp:F2 :=
 { nt:=21,res:=[.t 4 [2]],body :=
  (.sq (rg [om 4 (.k (.slice none 0 0))])
 (.sq (rg [oo 7 (.bs 1 0 [] []),
 om 5 (.t 7)])
 (.sq (.sq (rg [om 6 (i6 0)])
 (.bl 0 (.lp [0,1,5,6] [224,608] (.sq (.sq (rg [om 8 (.t 6),
 om 9 (.t 1),
 oo 10 (.bi .lss 0 (.t 8) (.t 9))])
 (.cd (.t 10) (.sk)
 (.ex 0)))
 (.sq (.bl 1 (rg [om 13 (.t 5),
 om 14 (.t 0),
 oo 15 (.bi .sub 0 (i6 (-1)) (.t 14)),
 om 16 (.t 6),
 oo 17 (.bi .sub 0 (.t 15) (.t 16)),
 oo 18 (.bs 1 1 [.int .i64 0] [(0,.t 17)]),
 oo 19 (.ap 1 0 (.t 13) (.t 18)),
 om 5 (.t 19)]))
 (rg [om 11 (.t 6),
 oo 12 (.bi .add 0 (.t 11) (i6 1)),
 om 6 (.t 12)]))))))
 (.sq (rg [om 20 (.t 5),
 om 4 (.t 20)])
 (.rt))))) }
theorem Zf0:ZI Go.Proofs.Tryz.prog Ye Zbp=true:=by kernel_rfl
def Zbq:F2 :=
 { nt:=69,res:=[.t 8 [4]],body :=
  (.sq (rg [oo 4 (.bt (.t 0)),
 om 8 (.k (.slice none 0 0))])
 (.sq (rg [oo 13 (.bs 3 0 [] []),
 om 9 (.t 13)])
 (.sq (.sq (rg [om 10 (i6 0)])
 (.bl 0 (.lp [1,2,3,4,9,10] [416,2144] (.sq (.sq (rg [om 14 (.t 10),
 oo 15 (.fa 1 (.t 4)),
 oo 16 (.ld none (.t 15)),
 oo 17 (.ln (.t 16)),
 oo 18 (.bi .lss 0 (.t 14) (.t 17))])
 (.cd (.t 18) (.sk)
 (.ex 0)))
 (.sq (.bl 1 (.sq (rg [oo 21 (.bs 1 0 [] []),
 om 11 (.t 21)])
 (.sq (.sq (rg [om 12 (i6 0)])
 (.bl 2 (.lp [1,2,3,4,9,10,11,12] [416,672,1504,2144] (.sq (.sq (rg [om 22 (.t 12),
 oo 23 (.fa 1 (.t 4)),
 oo 24 (.ld none (.t 23)),
 om 25 (.t 10),
 oo 26 (.ia 3 (.t 24) (.t 25)),
 oo 27 (.fa 2 (.t 26)),
 oo 28 (.ld none (.t 27)),
 oo 29 (.ln (.t 28)),
 oo 30 (.bi .lss 0 (.t 22) (.t 29))])
 (.cd (.t 30) (.sk)
 (.ex 2)))
 (.sq (.bl 3 (rg [om 33 (.t 11),
 om 34 (.t 3),
 oo 35 (.fa 1 (.t 4)),
 oo 36 (.ld none (.t 35)),
 om 37 (.t 10),
 oo 38 (.ia 3 (.t 36) (.t 37)),
 oo 39 (.fa 2 (.t 38)),
 oo 40 (.ld none (.t 39)),
 om 41 (.t 12),
 oo 42 (.ia 1 (.t 40) (.t 41)),
 oo 43 (.ld none (.t 42)),
 oo 44 (.ia 1 (.t 34) (.t 43)),
 oo 45 (.ld none (.t 44)),
 oo 46 (.bs 1 1 [.int .i64 0] [(0,.t 45)]),
 oo 47 (.ap 1 0 (.t 33) (.t 46)),
 om 11 (.t 47)]))
 (rg [om 31 (.t 12),
 oo 32 (.bi .add 0 (.t 31) (i6 1)),
 om 12 (.t 32)]))))))
 (.rg (some 0) [om 48 (.t 9),
 oo 49 (.fa 1 (.t 4)),
 oo 50 (.ld none (.t 49)),
 om 51 (.t 10),
 oo 52 (.ia 3 (.t 50) (.t 51)),
 oo 53 (.fa 0 (.t 52)),
 oo 54 (.ld none (.t 53)),
 oo 55 (.fa 1 (.t 4)),
 oo 56 (.ld none (.t 55)),
 om 57 (.t 10),
 oo 58 (.ia 3 (.t 56) (.t 57)),
 oo 59 (.fa 1 (.t 58)),
 oo 60 (.ld none (.t 59)),
 om 61 (.t 1),
 om 62 (.t 2),
 oo 63 (.ca .pure false (.f YE) [.t 60,.t 61,.t 62]),
 om 64 (.t 11),
 oo 65 (.bd [.int .i64 0,.int .i64 0,.slice none 0 0] [(0,1,.t 54),(1,1,.t 63),(2,1,.t 64)] []),
 oo 66 (.bv 3 1 [.int .i64 0,.int .i64 0,.slice none 0 0] [(0,.t 65)]),
 oo 67 (.ap 3 2 (.t 48) (.t 66)),
 om 9 (.t 67)]))))
 (rg [om 19 (.t 10),
 oo 20 (.bi .add 0 (.t 19) (i6 1)),
 om 10 (.t 20)]))))))
 (.sq (rg [om 68 (.t 9),
 om 8 (.t 68)])
 (.rt))))) }
theorem Zf1:ZI Go.Proofs.Tryz.prog JM Zbq=true:=by kernel_rfl
def Zbr:F2 :=
 { nt:=29,res:=[.t 6 [2]],body :=
  (.sq (rg [oo 3 (.bt (.t 0)),
 om 6 (.k (.slice none 0 0))])
 (.sq (rg [oo 9 (.bs 1 0 [] []),
 om 7 (.t 9)])
 (.sq (.sq (rg [om 8 (i6 0)])
 (.bl 0 (.lp [1,2,3,7,8] [288,864] (.sq (.sq (rg [om 10 (.t 8),
 oo 11 (.fa 2 (.t 3)),
 oo 12 (.ld none (.t 11)),
 oo 13 (.ln (.t 12)),
 oo 14 (.bi .lss 0 (.t 10) (.t 13))])
 (.cd (.t 14) (.sk)
 (.ex 0)))
 (.sq (.bl 1 (rg [om 17 (.t 7),
 oo 18 (.fa 2 (.t 3)),
 oo 19 (.ld none (.t 18)),
 om 20 (.t 8),
 oo 21 (.ia 1 (.t 19) (.t 20)),
 oo 22 (.ld none (.t 21)),
 om 23 (.t 1),
 om 24 (.t 2),
 oo 25 (.ca .pure false (.f YE) [.t 22,.t 23,.t 24]),
 oo 26 (.bs 1 1 [.int .i64 0] [(0,.t 25)]),
 oo 27 (.ap 1 0 (.t 17) (.t 26)),
 om 7 (.t 27)]))
 (rg [om 15 (.t 8),
 oo 16 (.bi .add 0 (.t 15) (i6 1)),
 om 8 (.t 16)]))))))
 (.sq (rg [om 28 (.t 7),
 om 6 (.t 28)])
 (.rt))))) }
theorem Zf2:ZI Go.Proofs.Tryz.prog Jv Zbr=true:=by kernel_rfl
def Zbs:F2 :=
 { nt:=52,res:=[.t 4 [3]],body :=
  (.sq (rg [om 4 (.k (.slice none 0 0))])
 (.sq (rg [oo 8 (.bs 2 0 [] []),
 om 9 (.t 0),
 oo 10 (.ap 2 0 (.t 8) (.t 9)),
 oo 5 (.rk (.t 10))])
 (.sq (.sq (rg [om 6 (i6 0)])
 (.bl 0 (.lp [1,5,6] [160] (.sq (.sq (rg [om 11 (.t 6),
 om 12 (.t 1),
 oo 13 (.ln (.t 12)),
 oo 14 (.bi .lss 0 (.t 11) (.t 13))])
 (.cd (.t 14) (.sk)
 (.ex 0)))
 (.sq (.bl 1 (.sq (rg [om 7 (i6 0)])
 (.sq (.bl 2 (.lp [1,5,6,7] [160] (.sq (.sq (.rg (some 0) [om 17 (.t 7),
 om 18 (.t 5),
 oo 19 (.ln (.t 18)),
 oo 20 (.bi .lss 0 (.t 17) (.t 19)),
 om 21 (.t 20),
 og 22 21 true (.mv (.t 5) none),
 og 23 21 true (.mv (.t 7) none),
 og 24 21 true (.ia 2 (.t 22) (.t 23)),
 og 25 21 true (.fa 0 (.t 24)),
 og 26 21 true (.ld none (.t 25)),
 og 27 21 true (.mv (.t 1) none),
 og 28 21 true (.mv (.t 6) none),
 og 29 21 true (.ia 2 (.t 27) (.t 28)),
 og 30 21 true (.fa 0 (.t 29)),
 og 31 21 true (.ld none (.t 30)),
 og 32 21 true (.bi .lss 0 (.t 26) (.t 31)),
 oo 33 (.pk (.t 21) (.t 32) (.k (.bool false)))])
 (.cd (.t 33) (.sk)
 (.ex 2)))
 (.bl 3 (rg [om 34 (.t 7),
 oo 35 (.bi .add 0 (.t 34) (i6 1)),
 om 7 (.t 35)])))))
 (.rg (some 0) [oo 36 (.bs 2 0 [] []),
 om 37 (.t 5),
 om 38 (.t 7),
 oo 39 (.sx 2 (.t 37) none (some (.t 38)) none),
 oo 40 (.a0 2 (.t 36) (.t 39)),
 om 41 (.t 1),
 om 42 (.t 6),
 oo 43 (.it 2 (.t 41) (.t 42)),
 oo 44 (.lt (some 2) (.t 43)),
 oo 45 (.bs 2 1 [.string ⟨#[]⟩,.int .i64 0] [(0,.t 44)]),
 oo 46 (.a0 2 (.t 40) (.t 45)),
 om 47 (.t 5),
 om 48 (.t 7),
 oo 49 (.sw 2 (.t 47) (some (.t 48)) none none),
 oo 50 (.ap 2 0 (.t 46) (.t 49)),
 oo 5 (.rk (.t 50))]))))
 (rg [om 15 (.t 6),
 oo 16 (.bi .add 0 (.t 15) (i6 1)),
 om 6 (.t 16)]))))))
 (.sq (rg [om 51 (.t 5),
 om 4 (.t 51)])
 (.rt))))) }
theorem Zf3:ZI Go.Proofs.Tryz.prog Wf Zbs=true:=by kernel_rfl
def Zbt:F2 :=
 { nt:=35,res:=[.t 4 [3]],body :=
  (.sq (rg [oo 2 (.bt (.t 0)),
 om 4 (.k (.slice none 0 0))])
 (.sq (rg [oo 7 (.bs 2 0 [] []),
 om 5 (.t 7)])
 (.sq (.sq (rg [om 6 (i6 0)])
 (.bl 0 (.lp [1,2,5,6] [224,1056] (.sq (.sq (rg [om 8 (.t 6),
 oo 9 (.fa 5 (.t 2)),
 oo 10 (.ld none (.t 9)),
 oo 11 (.ln (.t 10)),
 oo 12 (.bi .lss 0 (.t 8) (.t 11))])
 (.cd (.t 12) (.sk)
 (.ex 0)))
 (.sq (.bl 1 (.rg (some 0) [om 15 (.t 5),
 oo 16 (.fa 5 (.t 2)),
 oo 17 (.ld none (.t 16)),
 om 18 (.t 6),
 oo 19 (.ia 2 (.t 17) (.t 18)),
 oo 20 (.fa 0 (.t 19)),
 oo 21 (.ld none (.t 20)),
 om 22 (.t 1),
 oo 23 (.fa 5 (.t 2)),
 oo 24 (.ld none (.t 23)),
 om 25 (.t 6),
 oo 26 (.ia 2 (.t 24) (.t 25)),
 oo 27 (.fa 1 (.t 26)),
 oo 28 (.ld none (.t 27)),
 oo 29 (.ia 1 (.t 22) (.t 28)),
 oo 30 (.ld none (.t 29)),
 oo 31 (.bd [.string ⟨#[]⟩,.int .i64 0] [(0,1,.t 21),(1,1,.t 30)] []),
 oo 32 (.bs 2 1 [.string ⟨#[]⟩,.int .i64 0] [(0,.t 31)]),
 oo 33 (.ap 2 0 (.t 15) (.t 32)),
 om 5 (.t 33)]))
 (rg [om 13 (.t 6),
 oo 14 (.bi .add 0 (.t 13) (i6 1)),
 om 6 (.t 14)]))))))
 (.sq (rg [om 34 (.t 5),
 om 4 (.t 34)])
 (.rt))))) }
theorem Zf4:ZI Go.Proofs.Tryz.prog Yf Zbt=true:=by kernel_rfl
def Zan:F2 :=
 { nt:=17,res:=[.t 6 [0]],body :=
  (.sq (rg [om 6 (i6 0)])
 (.sq (.sq (rg [om 7 (.t 0),
 oo 8 (.bi .lss 0 (.t 7) (i6 0))])
 (.cd (.t 8) (.sq (rg [om 9 (.t 2),
 om 10 (.t 0),
 oo 11 (.bi .sub 0 (i6 (-1)) (.t 10)),
 oo 12 (.ia 1 (.t 9) (.t 11)),
 oo 13 (.ld none (.t 12)),
 om 6 (.t 13)])
 (.rt))
 (.sk)))
 (.sq (rg [om 14 (.t 0),
 om 15 (.t 1),
 oo 16 (.bi .add 0 (.t 14) (.t 15)),
 om 6 (.t 16)])
 (.rt)))) }
theorem Ze6:ZI Go.Proofs.Tryz.prog YE Zan=true:=by kernel_rfl
def Zcq:F2 :=
 { nt:=63,res:=[.c 6 (some 6) [0,4,2,0,2,3],.t 7 [0]],body :=
  (.sq (rg [oo 6 (.al [.int .i64 0,.slice none 0 0,.slice none 0 0,.int .i64 0,.slice none 0 0,.slice none 0 0] []),
 om 7 (.k (.bool false))])
 (.sq (.sq (rg [om 12 (.t 0),
 oo 13 (.ca .pure false (.f JP) [.t 12]),
 oo 14 (.nt (.t 13)),
 om 15 (.t 14),
 og 16 15 false (.mv (.t 1) none),
 og 17 15 false (.mv (.t 0) none),
 og 18 15 false (.ln (.t 17)),
 og 19 15 false (.bi .sub 0 (.t 18) (i6 1)),
 og 20 15 false (.ca .pure false (.f ZQ) [.t 16,i6 0,.t 19]),
 og 21 15 false (.nt (.t 20)),
 oo 22 (.pk (.t 15) (.k (.bool true)) (.t 21)),
 om 23 (.t 22),
 og 24 23 false (.mv (.t 2) none),
 og 25 23 false (.ln (.t 24)),
 og 26 23 false (.mv (.t 0) none),
 og 27 23 false (.mv (.t 1) none),
 og 28 23 false (.ia 3 (.t 26) (.t 27)),
 og 29 23 false (.fa 1 (.t 28)),
 og 30 23 false (.ld none (.t 29)),
 og 31 23 false (.bi .neq 0 (.t 25) (.t 30)),
 oo 32 (.pk (.t 23) (.k (.bool true)) (.t 31)),
 om 33 (.t 32),
 og 34 33 false (.mv (.t 2) none),
 og 35 33 false (.ca .pure false (.f Zz) [.t 34,.f VF]),
 oo 36 (.pk (.t 33) (.k (.bool true)) (.t 35))])
 (.cd (.t 36) (.sq (rg [oo 37 (.bd [.int .i64 0,.slice none 0 0,.slice none 0 0,.int .i64 0,.slice none 0 0,.slice none 0 0] [] []),
 on1 (.st 6 (.t 6) (.t 37)),
 om 7 (.k (.bool false))])
 (.rt))
 (.sk)))
 (.sq (rg [om 38 (.t 2),
 oo 39 (.ca .pure true (.f YA) [.t 38]),
 oo 40 (.bd [.int .i64 0,.slice none 0 0,.slice none 0 0,.int .i64 0,.slice none 0 0,.slice none 0 0] [(0,1,i6 1),(4,1,.t 39)] []),
 oo 8 (.al [.int .i64 0,.slice none 0 0,.slice none 0 0,.int .i64 0,.slice none 0 0,.slice none 0 0] []),
 on1 (.st 6 (.t 8) (.t 40))])
 (.sq (rg [om 41 (.t 1),
 oo 42 (.bd [.int .i64 0,.int .i64 0,.slice none 0 0] [(0,1,.t 41),(1,1,i6 (-1))] [(2,1)]),
 oo 9 (.al [.int .i64 0,.int .i64 0,.slice none 0 0] []),
 on1 (.st 3 (.t 9) (.t 42))])
 (.sq (.sq (rg [om 43 (.t 2),
 oo 44 (.ln (.t 43)),
 om 45 (i6 0)])
 (.bl 0 (.lp [6,8,9,43,44,45] [192,256,288,1248,1344,1792,1920] (.sq (rg [oo 46 (.bi .lss 0 (.t 45) (.t 44))])
 (.sq (.cd (.t 46) (.sk)
 (.ex 0))
 (.sq (.bl 1 (.sq (rg [oo 47 (.ia 1 (.t 43) (.t 45)),
 oo 48 (.ld none (.t 47)),
 om 11 (.t 48)])
 (.rg (some 0) [oo 49 (.fa 2 (.t 9)),
 oo 50 (.ld none (.t 49)),
 oo 51 (.fa 4 (.t 8)),
 oo 52 (.ld none (.t 51)),
 om 53 (.t 11),
 oo 54 (.ca .pure false (.f ZS) [.t 52,.t 53]),
 oo 55 (.bs 1 1 [.int .i64 0] [(0,.t 54)]),
 oo 56 (.ap 1 0 (.t 50) (.t 55)),
 oo 57 (.fa 2 (.t 9)),
 on1 (.st 1 (.t 57) (.t 56))])))
 (rg [oo 58 (.bi .add 0 (.t 45) (i6 1)),
 om 45 (.t 58)])))))))
 (.sq (rg [oo 59 (.ld (some 3) (.t 9)),
 oo 60 (.bw 3 1 [.int .i64 0,.int .i64 0,.slice none 0 0] [(0,.t 59)]),
 oo 61 (.fa 1 (.t 8)),
 on1 (.st 1 (.t 61) (.t 60))])
 (.sq (rg [oo 62 (.ld (some 6) (.t 8)),
 on1 (.st 6 (.t 6) (.t 62)),
 om 7 (.k (.bool true))])
 (.rt)))))))) }
theorem ZhE:ZI Go.Proofs.Tryz.prog Xf Zcq=true:=by kernel_rfl
def Zcr:F2 :=
 { nt:=86,res:=[.c 14 (some 6) [0,4,2,0,2,0]],body :=
  (.sq (rg [oo 7 (.bt (.t 0)),
 oo 8 (.bt (.t 1)),
 oo 13 (.bx (.t 6)),
 oo 14 (.al [.int .i64 0,.slice none 0 0,.slice none 0 0,.int .i64 0,.slice none 0 0,.slice none 0 0] [])])
 (.sq (rg [oo 23 (.fa 3 (.t 7)),
 oo 24 (.ld none (.t 23)),
 oo 25 (.fa 3 (.t 8)),
 oo 26 (.ld none (.t 25)),
 oo 27 (.bi .add 0 (.t 24) (.t 26)),
 om 15 (.t 27)])
 (.sq (rg [oo 28 (.ld (some 6) (.t 7)),
 om 29 (.t 15),
 om 30 (.t 4),
 oo 31 (.ca .pure true (.f Zw) [.t 28,.t 29,.t 30,.f VG]),
 oo 16 (.al [.int .i64 0,.slice none 0 0,.slice none 0 0,.int .i64 0,.slice none 0 0,.slice none 0 0] []),
 on1 (.st 6 (.t 16) (.t 31))])
 (.sq (rg [oo 32 (.ld (some 6) (.t 8)),
 om 33 (.t 15),
 om 34 (.t 4),
 oo 35 (.mf J0 [.t 7,.t 13]),
 oo 36 (.ca .see false (.f Zw) [.t 32,.t 33,.t 34,.t 35]),
 oo 17 (.al [.int .i64 0,.slice none 0 0,.slice none 0 0,.int .i64 0,.slice none 0 0,.slice none 0 0] []),
 on1 (.st 6 (.t 17) (.t 36))])
 (.sq (.rg (some 0) [om 37 (.t 2),
 oo 38 (.fa 1 (.t 16)),
 oo 39 (.ld none (.t 38)),
 om 40 (.t 3),
 oo 41 (.ca .pure true (.f Z2) [.t 40]),
 om 42 (.t 15),
 oo 43 (.fa 4 (.t 16)),
 oo 44 (.ld none (.t 43)),
 oo 45 (.fa 5 (.t 17)),
 oo 46 (.ld none (.t 45)),
 oo 47 (.bd [.int .i64 0,.slice none 0 0,.slice none 0 0,.int .i64 0,.slice none 0 0,.slice none 0 0] [(0,1,.t 37),(1,1,.t 39),(2,1,.t 41),(3,1,.t 42),(4,1,.t 44),(5,1,.t 46)] []),
 oo 18 (.al [.int .i64 0,.slice none 0 0,.slice none 0 0,.int .i64 0,.slice none 0 0,.slice none 0 0] []),
 on1 (.st 6 (.t 18) (.t 47))])
 (.sq (.sq (rg [oo 48 (.fa 1 (.t 17)),
 oo 49 (.ld none (.t 48)),
 oo 50 (.ln (.t 49)),
 om 51 (i6 0)])
 (.bl 0 (.lp [5,7,8,14,18,49,50,51] [448,512,544,576,992,993,994,995,1312,2080,2624] (.sq (rg [oo 52 (.bi .lss 0 (.t 51) (.t 50))])
 (.sq (.cd (.t 52) (.sk)
 (.ex 0))
 (.sq (.bl 1 (.sq (rg [oo 53 (.ia 3 (.t 49) (.t 51)),
 oo 54 (.ld (some 3) (.t 53)),
 oo 20 (.al [.int .i64 0,.int .i64 0,.slice none 0 0] []),
 on1 (.st 3 (.t 20) (.t 54))])
 (.sq (rg [oo 55 (.ld (some 6) (.t 7)),
 oo 56 (.fa 1 (.t 20)),
 oo 57 (.ld none (.t 56)),
 om 58 (.t 5),
 oo 59 (.ca .pure false (.f XM) [.t 55,.t 57,.t 58]),
 oo 60 (.fa 1 (.t 20)),
 on1 (.st 1 (.t 60) (.t 59))])
 (rg [oo 61 (.fa 1 (.t 18)),
 oo 62 (.ld none (.t 61)),
 oo 63 (.ld (some 3) (.t 20)),
 oo 64 (.bw 3 1 [.int .i64 0,.int .i64 0,.slice none 0 0] [(0,.t 63)]),
 oo 65 (.ap 3 2 (.t 62) (.t 64)),
 oo 66 (.fa 1 (.t 18)),
 on1 (.st 1 (.t 66) (.t 65))]))))
 (rg [oo 67 (.bi .add 0 (.t 51) (i6 1)),
 om 51 (.t 67)])))))))
 (.sq (.sq (rg [oo 68 (.fa 2 (.t 8)),
 oo 69 (.ld none (.t 68)),
 oo 70 (.ln (.t 69)),
 om 71 (i6 0)])
 (.bl 2 (.lp [5,7,14,18,69,70,71] [448,512,544,576,992,993,994,995,1312,2080,2624] (.sq (rg [oo 72 (.bi .lss 0 (.t 71) (.t 70))])
 (.sq (.cd (.t 72) (.sk)
 (.ex 2))
 (.sq (.bl 3 (.sq (rg [oo 73 (.ia 1 (.t 69) (.t 71)),
 oo 74 (.ld none (.t 73)),
 om 22 (.t 74)])
 (.rg (some 0) [oo 75 (.fa 2 (.t 18)),
 oo 76 (.ld none (.t 75)),
 oo 77 (.ld (some 6) (.t 7)),
 om 78 (.t 22),
 om 79 (.t 5),
 oo 80 (.ca .pure false (.f XM) [.t 77,.t 78,.t 79]),
 oo 81 (.bs 1 1 [.int .i64 0] [(0,.t 80)]),
 oo 82 (.ap 1 0 (.t 76) (.t 81)),
 oo 83 (.fa 2 (.t 18)),
 on1 (.st 1 (.t 83) (.t 82))])))
 (rg [oo 84 (.bi .add 0 (.t 71) (i6 1)),
 om 71 (.t 84)])))))))
 (.sq (rg [oo 85 (.ld (some 6) (.t 18)),
 on1 (.st 6 (.t 14) (.t 85))])
 (.rt))))))))) }
theorem ZhF:ZI Go.Proofs.Tryz.prog Vl Zcr=true:=by kernel_rfl
def Y0:F2 :=
 { nt:=36,res:=[.t 2 [2]],body :=
  (.sq (rg [om 2 (.k (.slice none 0 0))])
 (.sq (rg [om 3 (i6 0)])
 (.sq (.sq (rg [om 9 (.t 0),
 oo 10 (.ln (.t 9)),
 om 11 (i6 0)])
 (.bl 0 (.lp [0,3,9,10,11] [] (.sq (rg [oo 12 (.bi .lss 0 (.t 11) (.t 10))])
 (.sq (.cd (.t 12) (.sk)
 (.ex 0))
 (.sq (.bl 1 (.sq (rg [oo 13 (.ia 1 (.t 9) (.t 11)),
 oo 14 (.ld none (.t 13)),
 om 5 (.t 14)])
 (.sq (rg [om 15 (.t 3),
 om 16 (.t 5),
 oo 17 (.ln (.t 16)),
 oo 18 (.bi .add 0 (.t 15) (.t 17)),
 om 3 (.t 18)])
 (.sq (rg [om 19 (.t 3),
 oo 20 (.bi .lss 0 (.t 19) (i6 0))])
 (.cd (.t 20) (rg [oo 21 (.xx),
 on1 (.xx)])
 (.sk))))))
 (rg [oo 22 (.bi .add 0 (.t 11) (i6 1)),
 om 11 (.t 22)])))))))
 (.sq (rg [om 23 (.t 3),
 oo 24 (.ca .keep true (.f JN) [.k (.slice none 0 0),.t 23]),
 om 6 (.t 24)])
 (.sq (.sq (rg [om 25 (.t 0),
 oo 26 (.ln (.t 25)),
 om 27 (i6 0)])
 (.bl 2 (.lp [6,25,26,27] [768,1056] (.sq (rg [oo 28 (.bi .lss 0 (.t 27) (.t 26))])
 (.sq (.cd (.t 28) (.sk)
 (.ex 2))
 (.sq (.bl 3 (.sq (rg [oo 29 (.ia 1 (.t 25) (.t 27)),
 oo 30 (.ld none (.t 29)),
 om 8 (.t 30)])
 (rg [om 31 (.t 6),
 om 32 (.t 8),
 oo 33 (.ap 1 0 (.t 31) (.t 32)),
 om 6 (.t 33)])))
 (rg [oo 34 (.bi .add 0 (.t 27) (i6 1)),
 om 27 (.t 34)])))))))
 (.sq (rg [om 35 (.t 6),
 om 2 (.t 35)])
 (.rt))))))) }
theorem Wh:ZI Go.Proofs.Tryz.prog Z7 Y0=true:=by kernel_rfl
def XZ:F2 :=
 { nt:=10,res:=[.t 3 [0]],body :=
  (.sq (rg [om 3 (i6 0)])
 (.sq (rg [oo 4 (.fa 2 (.t 1)),
 oo 5 (.ld none (.t 4)),
 om 6 (.t 0),
 oo 7 (.bi .sub 0 (i6 (-1)) (.t 6)),
 oo 8 (.ia 1 (.t 5) (.t 7)),
 oo 9 (.ld none (.t 8)),
 om 3 (.t 9)])
 (.rt))) }
theorem Zao:ZI Go.Proofs.Tryz.prog JT XZ=true:=by kernel_rfl
def Zcs:F2 :=
 { nt:=5,res:=[.c 2 (some 2) [0,0]],body :=
  (.sq (rg [oo 2 (.al [.int .i64 0,.string ⟨#[]⟩] [])])
 (.sq (rg [om 3 (.t 0),
 oo 4 (.bd [.int .i64 0,.string ⟨#[]⟩] [(1,1,.t 3)] []),
 on1 (.st 2 (.t 2) (.t 4))])
 (.rt))) }
theorem ZhG:ZI Go.Proofs.Tryz.prog YF Zcs=true:=by kernel_rfl
def WW:F2 :=
 { nt:=7,res:=[.t 3 [0]],body :=
  (.sq (rg [om 3 (.k (.bool false))])
 (.sq (rg [oo 4 (.ld none (.t 1)),
 om 5 (.t 0),
 oo 6 (.ca .pure false (.f ZJ) [.t 4,.t 5]),
 om 3 (.t 6)])
 (.rt))) }
theorem ZbF:ZI Go.Proofs.Tryz.prog Ym WW=true:=by kernel_rfl
def UU:F2 :=
 { nt:=8,res:=[.t 3 [0]],body :=
  (.sq (rg [om 3 (i6 0)])
 (.sq (rg [om 4 (.t 0),
 oo 5 (.fa 0 (.t 1)),
 oo 6 (.ld none (.t 5)),
 oo 7 (.bi .sub 0 (.t 4) (.t 6)),
 om 3 (.t 7)])
 (.rt))) }
theorem Zdd:ZI Go.Proofs.Tryz.prog YQ UU=true:=by kernel_rfl
def UV:F2 :=
 { nt:=4,res:=[.c 2 (some 2) [0,0]],body :=
  (.sq (rg [oo 1 (.bt (.t 0)),
 oo 2 (.al [.int .i64 0,.string ⟨#[]⟩] [])])
 (.sq (rg [oo 3 (.ld (some 2) (.t 1)),
 on1 (.st 2 (.t 2) (.t 3))])
 (.rt))) }
theorem Zde:ZI Go.Proofs.Tryz.prog YR UV=true:=by kernel_rfl
def JQ:F2 :=
 { nt:=14,res:=[],body :=
  (.sq (rg [om 5 (.t 0),
 oo 6 (.ln (.t 5)),
 om 4 (.t 6)])
 (rg [om 7 (.t 0),
 om 8 (.t 4),
 om 9 (.t 4),
 oo 10 (.cv (.int .u64) (.t 9)),
 oo 11 (.ca .pure false (.f YD) [.t 10]),
 om 12 (.t 1),
 oo 13 (.ca .any false (.f ZE) [.t 7,i6 0,.t 8,.t 11,.t 12])])) }
theorem VX:ZI Go.Proofs.Tryz.prog ZK JQ=true:=by kernel_rfl
def Ul:F2 :=
 { nt:=9,res:=[.t 4 [2]],body :=
  (.sq (rg [oo 3 (.bt (.t 1)),
 om 4 (.k (.slice none 0 0))])
 (.sq (rg [om 5 (.t 0),
 oo 6 (.ca .pure true (.f ZG) [.t 5]),
 oo 7 (.mf J9 [.t 3]),
 oo 8 (.ca .any false (.f Jl) [.t 6,.t 7]),
 om 4 (.t 8)])
 (.rt))) }
theorem Zct:ZI Go.Proofs.Tryz.prog VU Ul=true:=by kernel_rfl
def Vp:F2 :=
 { nt:=13,res:=[.c 4 (some 2) [0,0]],body :=
  (.sq (rg [oo 3 (.bt (.t 0)),
 oo 4 (.al [.int .i64 0,.string ⟨#[]⟩] [])])
 (.sq (.sq (rg [oo 5 (.fa 1 (.t 3)),
 oo 6 (.ld none (.t 5)),
 oo 7 (.ld none (.t 1)),
 oo 8 (.bi .eql 0 (.t 6) (.t 7))])
 (.cd (.t 8) (.sq (rg [oo 9 (.fa 3 (.t 2)),
 oo 10 (.ld none (.t 9)),
 oo 11 (.bd [.int .i64 0,.string ⟨#[]⟩] [(0,1,.t 10)] []),
 on1 (.st 2 (.t 4) (.t 11))])
 (.rt))
 (.sk)))
 (.sq (rg [oo 12 (.ld (some 2) (.t 3)),
 on1 (.st 2 (.t 4) (.t 12))])
 (.rt)))) }
theorem WX:ZI Go.Proofs.Tryz.prog Jh Vp=true:=by kernel_rfl
def Um:F2 :=
 { nt:=10,res:=[.t 2 [2]],body :=
  (.sq (rg [om 2 (.k (.slice none 0 0))])
 (.sq (rg [om 4 (.t 0),
 oo 5 (.ca .pure true (.f ZG) [.t 4]),
 om 3 (.t 5)])
 (.sq (rg [om 6 (.t 3),
 oo 7 (.ca .any false (.f ZV) [.t 6])])
 (.sq (rg [om 8 (.t 3),
 oo 9 (.ca .any false (.f Jw) [.t 8]),
 om 2 (.t 9)])
 (.rt))))) }
theorem Zcu:ZI Go.Proofs.Tryz.prog YA Um=true:=by kernel_rfl
def Qd:F2 :=
 { nt:=25,res:=[.t 6 [0]],body :=
  (.sq (rg [om 6 (i6 0)])
 (.sq (.rg (some 0) [oo 8 (.ld none (.t 1)),
 oo 9 (.ld (some 6) (.t 2)),
 om 10 (.t 0),
 oo 11 (.ca .pure false (.f Y5) [.t 9,.t 10]),
 oo 12 (.ca .see false (.t 8) [.t 11]),
 oo 7 (.al [.int .i64 0,.string ⟨#[]⟩] []),
 on1 (.st 2 (.t 7) (.t 12))])
 (.sq (.sq (rg [oo 13 (.fa 1 (.t 7)),
 oo 14 (.ld none (.t 13)),
 oo 15 (.bi .eql 0 (.t 14) (.k (.string ⟨#[]⟩)))])
 (.cd (.t 15) (.sq (rg [oo 16 (.fa 0 (.t 7)),
 oo 17 (.ld none (.t 16)),
 om 6 (.t 17)])
 (.rt))
 (.sk)))
 (.sq (.rg (some 0) [oo 18 (.ld none (.t 3)),
 oo 19 (.fa 4 (.t 4)),
 oo 20 (.ld none (.t 19)),
 oo 21 (.fa 1 (.t 7)),
 oo 22 (.ld none (.t 21)),
 oo 23 (.ca .pure false (.f ZS) [.t 20,.t 22]),
 oo 24 (.bi .add 0 (.t 18) (.t 23)),
 om 6 (.t 24)])
 (.rt))))) }
theorem UC:ZI Go.Proofs.Tryz.prog Jr Qd=true:=by kernel_rfl
def Wl:F2 :=
 { nt:=20,res:=[.c 4 (some 2) [0,0]],body :=
  (.sq (rg [oo 2 (.bt (.t 0)),
 oo 4 (.al [.int .i64 0,.string ⟨#[]⟩] [])])
 (.sq (.sq (rg [om 5 (.t 1),
 oo 6 (.fa 3 (.t 2)),
 oo 7 (.ld none (.t 6)),
 oo 8 (.bi .lss 0 (.t 5) (.t 7))])
 (.cd (.t 8) (.sq (rg [om 9 (.t 1),
 oo 10 (.bd [.int .i64 0,.string ⟨#[]⟩] [(0,1,.t 9)] []),
 on1 (.st 2 (.t 4) (.t 10))])
 (.rt))
 (.sk)))
 (.sq (rg [oo 11 (.fa 4 (.t 2)),
 oo 12 (.ld none (.t 11)),
 om 13 (.t 1),
 oo 14 (.fa 3 (.t 2)),
 oo 15 (.ld none (.t 14)),
 oo 16 (.bi .sub 0 (.t 13) (.t 15)),
 oo 17 (.ia 1 (.t 12) (.t 16)),
 oo 18 (.ld none (.t 17)),
 oo 19 (.bd [.int .i64 0,.string ⟨#[]⟩] [(1,1,.t 18)] []),
 on1 (.st 2 (.t 4) (.t 19))])
 (.rt)))) }
theorem Za0:ZI Go.Proofs.Tryz.prog Y5 Wl=true:=by kernel_rfl
def Zap:F2 :=
 { nt:=6,res:=[.t 2 [0]],body :=
  (.sq (rg [om 2 (.k (.bool false))])
 (.sq (rg [om 3 (.t 0),
 om 4 (.t 0),
 oo 5 (.bi .neq 0 (.t 3) (.t 4)),
 om 2 (.t 5)])
 (.rt))) }
theorem Ze7:ZI Go.Proofs.Tryz.prog VE Zap=true:=by kernel_rfl
def Zaq:F2 :=
 { nt:=6,res:=[.t 2 [0]],body :=
  (.sq (rg [om 2 (.k (.bool false))])
 (.sq (rg [om 3 (.t 0),
 oo 4 (.ca .pure false (.f J5) [.t 3]),
 oo 5 (.nt (.t 4)),
 om 2 (.t 5)])
 (.rt))) }
theorem Ze8:ZI Go.Proofs.Tryz.prog VF Zaq=true:=by kernel_rfl
def Zar:F2 :=
 { nt:=4,res:=[.c 2 (some 2) [0,0]],body :=
  (.sq (rg [oo 1 (.bt (.t 0)),
 oo 2 (.al [.int .i64 0,.string ⟨#[]⟩] [])])
 (.sq (rg [oo 3 (.ld (some 2) (.t 1)),
 on1 (.st 2 (.t 2) (.t 3))])
 (.rt))) }
theorem Ze9:ZI Go.Proofs.Tryz.prog VG Zar=true:=by kernel_rfl
def Zas:F2 :=
 { nt:=18,res:=[.c 4 (some 2) [0,0]],body :=
  (.sq (rg [oo 3 (.bt (.t 0)),
 oo 4 (.al [.int .i64 0,.string ⟨#[]⟩] [])])
 (.sq (.sq (rg [oo 5 (.fa 1 (.t 3)),
 oo 6 (.ld none (.t 5)),
 oo 7 (.bi .eql 0 (.t 6) (.k (.string ⟨#[]⟩)))])
 (.cd (.t 7) (.sq (rg [oo 8 (.fa 0 (.t 3)),
 oo 9 (.ld none (.t 8)),
 oo 10 (.fa 3 (.t 1)),
 oo 11 (.ld none (.t 10)),
 oo 12 (.bi .add 0 (.t 9) (.t 11)),
 oo 13 (.bd [.int .i64 0,.string ⟨#[]⟩] [(0,1,.t 12)] []),
 on1 (.st 2 (.t 4) (.t 13))])
 (.rt))
 (.sk)))
 (.sq (rg [oo 14 (.ld none (.t 2)),
 oo 15 (.fa 1 (.t 3)),
 oo 16 (.ld none (.t 15)),
 oo 17 (.ca .pure false (.t 14) [.t 16]),
 on1 (.st 2 (.t 4) (.t 17))])
 (.rt)))) }
theorem Zfa:ZI Go.Proofs.Tryz.prog J0 Zas=true:=by kernel_rfl
def ZdM:F2 :=
 { nt:=17,res:=[.t 6 [0]],body :=
  (.sq (rg [oo 3 (.bt (.t 0)),
 om 6 (i6 0)])
 (.sq (.sq (rg [om 7 (.t 1),
 oo 8 (.bi .geq 0 (.t 7) (i6 0))])
 (.cd (.t 8) (.sq (rg [om 9 (.t 1),
 oo 10 (.fa 1 (.t 3)),
 oo 11 (.ld none (.t 10)),
 oo 12 (.ln (.t 11)),
 oo 13 (.bi .add 0 (.t 9) (.t 12)),
 om 6 (.t 13)])
 (.rt))
 (.sk)))
 (.sq (rg [om 14 (.t 2),
 om 15 (.t 1),
 oo 16 (.ca .pure false (.t 14) [.t 15]),
 om 6 (.t 16)])
 (.rt)))) }
theorem Zi0:ZI Go.Proofs.Tryz.prog XM ZdM=true:=by kernel_rfl
def Vq:F2 :=
 { nt:=27,res:=[.t 4 [2]],body :=
  (.sq (rg [om 4 (.k (.slice none 0 0))])
 (.sq (.sq (rg [om 5 (.t 1),
 oo 6 (.bi .lss 0 (.t 5) (i6 0))])
 (.cd (.t 6) (rg [oo 7 (.xx),
 on1 (.xx)])
 (.sk)))
 (.sq (.sq (rg [om 8 (.t 1),
 om 9 (.t 0),
 oo 10 (.cp (.t 9)),
 om 11 (.t 0),
 oo 12 (.ln (.t 11)),
 oo 13 (.bi .sub 0 (.t 10) (.t 12)),
 oo 14 (.bi .sub 0 (.t 8) (.t 13)),
 om 1 (.t 14)])
 (.sq (rg [om 15 (.t 1),
 oo 16 (.bi .gtr 0 (.t 15) (i6 0))])
 (.cd (.t 16) (rg [om 17 (.t 0),
 om 18 (.t 0),
 oo 19 (.cp (.t 18)),
 oo 20 (.sh 1 (.t 17) (.t 19)),
 om 21 (.t 1),
 oo 22 (.az 1 [.string ⟨#[]⟩] (.t 20) (.t 21)),
 om 23 (.t 0),
 oo 24 (.ln (.t 23)),
 oo 25 (.sh 1 (.t 22) (.t 24)),
 om 0 (.t 25)])
 (.sk))))
 (.sq (rg [om 26 (.t 0),
 om 4 (.t 26)])
 (.rt))))) }
theorem WY:ZI Go.Proofs.Tryz.prog JN Vq=true:=by kernel_rfl
def Yp:F2 :=
 { nt:=148,res:=[],body :=
  (.sq (rg [om 10 (.k (.bool true))])
 (.sq (rg [om 11 (.k (.bool true))])
 (.bl 0 (.lp [0,1,2,3,4,10,11] [] (.bl 1 (.sq (rg [om 21 (.t 2),
 om 22 (.t 1),
 oo 23 (.bi .sub 0 (.t 21) (.t 22)),
 om 12 (.t 23)])
 (.sq (.sq (rg [om 24 (.t 12),
 oo 25 (.bi .leq 0 (.t 24) (i6 12))])
 (.cd (.t 25) (.sq (rg [om 26 (.t 0),
 om 27 (.t 1),
 om 28 (.t 2),
 om 29 (.t 4),
 oo 30 (.ca .any false (.f ZX) [.t 26,.t 27,.t 28,.t 29])])
 (.rt))
 (.sk)))
 (.sq (.sq (rg [om 31 (.t 3),
 oo 32 (.bi .eql 0 (.t 31) (i6 0))])
 (.cd (.t 32) (.sq (rg [om 33 (.t 0),
 om 34 (.t 1),
 om 35 (.t 2),
 om 36 (.t 4),
 oo 37 (.ca .any false (.f V8) [.t 33,.t 34,.t 35,.t 36])])
 (.rt))
 (.sk)))
 (.sq (.sq (rg [om 38 (.t 10),
 oo 39 (.nt (.t 38))])
 (.cd (.t 39) (.sq (rg [om 40 (.t 0),
 om 41 (.t 1),
 om 42 (.t 2),
 om 43 (.t 4),
 oo 44 (.ca .any false (.f Y6) [.t 40,.t 41,.t 42,.t 43])])
 (rg [om 45 (.t 3),
 oo 46 (.bi .sub 0 (.t 45) (i6 1)),
 om 3 (.t 46)]))
 (.sk)))
 (.sq (rg [om 48 (.t 0),
 om 49 (.t 1),
 om 50 (.t 2),
 om 51 (.t 4),
 oo 52 (.ca .pure false (.f Vm) [.t 48,.t 49,.t 50,.t 51]),
 om 47 (.t 52),
 oo 53 (.ex 0 (.t 47)),
 oo 54 (.ex 1 (.t 47)),
 om 13 (.t 53),
 om 14 (.t 54)])
 (.sq (.sq (rg [om 55 (.t 14),
 oo 56 (.bi .eql 0 (.t 55) (i6 2))])
 (.cd (.t 56) (.sq (rg [om 57 (.t 0),
 om 58 (.t 1),
 om 59 (.t 2),
 om 60 (.t 4),
 oo 61 (.ca .any false (.f Vd) [.t 57,.t 58,.t 59,.t 60])])
 (.sq (rg [om 62 (.t 2),
 oo 63 (.bi .sub 0 (.t 62) (i6 1)),
 om 64 (.t 13),
 om 65 (.t 1),
 oo 66 (.bi .sub 0 (.t 64) (.t 65)),
 oo 67 (.bi .sub 0 (.t 63) (.t 66)),
 om 13 (.t 67)])
 (rg [om 14 (i6 1)])))
 (.sk)))
 (.sq (.sq (rg [om 68 (.t 10),
 om 69 (.t 68),
 og 70 69 true (.mv (.t 11) none),
 oo 71 (.pk (.t 69) (.t 70) (.k (.bool false))),
 om 72 (.t 71),
 og 73 72 true (.mv (.t 14) none),
 og 74 72 true (.bi .eql 0 (.t 73) (i6 1)),
 oo 75 (.pk (.t 72) (.t 74) (.k (.bool false)))])
 (.cd (.t 75) (.sq (rg [om 76 (.t 0),
 om 77 (.t 1),
 om 78 (.t 2),
 om 79 (.t 4),
 oo 80 (.ca .any false (.f Yn) [.t 76,.t 77,.t 78,.t 79])])
 (.cd (.t 80) (.rt)
 (.sk)))
 (.sk)))
 (.sq (.sq (.rg (some 0) [om 81 (.t 1),
 oo 82 (.bi .gtr 0 (.t 81) (i6 0)),
 om 83 (.t 82),
 og 84 83 true (.mv (.t 4) none),
 og 85 83 true (.mv (.t 0) none),
 og 86 83 true (.mv (.t 1) none),
 og 87 83 true (.bi .sub 0 (.t 86) (i6 1)),
 og 88 83 true (.ia 2 (.t 85) (.t 87)),
 og 89 83 true (.ld (some 2) (.t 88)),
 og 90 83 true (.mv (.t 0) none),
 og 91 83 true (.mv (.t 13) none),
 og 92 83 true (.ia 2 (.t 90) (.t 91)),
 og 93 83 true (.ld (some 2) (.t 92)),
 og 94 83 true (.ca .pure false (.t 84) [.t 89,.t 93]),
 og 95 83 true (.bi .lss 0 (.t 94) (i6 0)),
 og 96 83 true (.nt (.t 95)),
 oo 97 (.pk (.t 83) (.t 96) (.k (.bool false)))])
 (.cd (.t 97) (.sq (rg [om 98 (.t 0),
 om 99 (.t 1),
 om 100 (.t 2),
 om 101 (.t 13),
 om 102 (.t 4),
 oo 103 (.ca .any false (.f YZ) [.t 98,.t 99,.t 100,.t 101,.t 102]),
 om 15 (.t 103)])
 (.sq (rg [om 104 (.t 15),
 om 1 (.t 104)])
 (.ex 1)))
 (.sk)))
 (.sq (rg [om 106 (.t 0),
 om 107 (.t 1),
 om 108 (.t 2),
 om 109 (.t 13),
 om 110 (.t 4),
 oo 111 (.ca .any false (.f VV) [.t 106,.t 107,.t 108,.t 109,.t 110]),
 om 105 (.t 111),
 oo 112 (.ex 0 (.t 105)),
 oo 113 (.ex 1 (.t 105)),
 om 16 (.t 112),
 om 17 (.t 113)])
 (.sq (rg [om 114 (.t 17),
 om 11 (.t 114)])
 (.sq (rg [om 115 (.t 16),
 om 116 (.t 1),
 oo 117 (.bi .sub 0 (.t 115) (.t 116)),
 om 118 (.t 2),
 om 119 (.t 16),
 oo 120 (.bi .sub 0 (.t 118) (.t 119)),
 om 18 (.t 117),
 om 19 (.t 120)])
 (.sq (rg [om 121 (.t 12),
 oo 122 (.bi .quo 0 (.t 121) (i6 8)),
 om 20 (.t 122)])
 (.sq (rg [om 123 (.t 18),
 om 124 (.t 19),
 oo 125 (.bi .lss 0 (.t 123) (.t 124))])
 (.cd (.t 125) (.sq (rg [om 126 (.t 18),
 om 127 (.t 20),
 oo 128 (.bi .geq 0 (.t 126) (.t 127)),
 om 10 (.t 128)])
 (.sq (rg [om 129 (.t 0),
 om 130 (.t 1),
 om 131 (.t 16),
 om 132 (.t 3),
 om 133 (.t 4),
 oo 134 (.ca .any false (.f ZE) [.t 129,.t 130,.t 131,.t 132,.t 133])])
 (rg [om 135 (.t 16),
 oo 136 (.bi .add 0 (.t 135) (i6 1)),
 om 1 (.t 136)])))
 (.sq (rg [om 137 (.t 19),
 om 138 (.t 20),
 oo 139 (.bi .geq 0 (.t 137) (.t 138)),
 om 10 (.t 139)])
 (.sq (rg [om 140 (.t 0),
 om 141 (.t 16),
 oo 142 (.bi .add 0 (.t 141) (i6 1)),
 om 143 (.t 2),
 om 144 (.t 3),
 om 145 (.t 4),
 oo 146 (.ca .any false (.f ZE) [.t 140,.t 142,.t 143,.t 144,.t 145])])
 (rg [om 147 (.t 16),
 om 2 (.t 147)])))))))))))))))))))))) }
theorem Xm:ZI Go.Proofs.Tryz.prog ZE Yp=true:=by kernel_rfl
def Js:F2 :=
 { nt:=42,res:=[.t 4 [2]],body :=
  (.sq (rg [om 4 (.k (.slice none 0 0))])
 (.sq (rg [om 8 (.t 0),
 om 9 (.t 1),
 oo 10 (.ca .pure false (.f ZW) [.t 8,.t 9]),
 om 5 (.t 10)])
 (.sq (.sq (rg [om 11 (.t 5),
 oo 12 (.bi .eql 0 (.t 11) (i6 (-1)))])
 (.cd (.t 12) (.sq (rg [om 13 (.t 0),
 om 4 (.t 13)])
 (.rt))
 (.sk)))
 (.sq (.sq (rg [om 14 (.t 5),
 oo 15 (.bi .add 0 (.t 14) (i6 1)),
 om 6 (.t 15)])
 (.bl 0 (.lp [0,1,5,6] [] (.sq (.sq (rg [om 16 (.t 6),
 om 17 (.t 0),
 oo 18 (.ln (.t 17)),
 oo 19 (.bi .lss 0 (.t 16) (.t 18))])
 (.cd (.t 19) (.sk)
 (.ex 0)))
 (.sq (.bl 1 (.sq (rg [om 22 (.t 0),
 om 23 (.t 6),
 oo 24 (.ia 1 (.t 22) (.t 23)),
 oo 25 (.ld none (.t 24)),
 om 7 (.t 25)])
 (.sq (rg [om 26 (.t 1),
 om 27 (.t 7),
 oo 28 (.ca .pure false (.t 26) [.t 27]),
 oo 29 (.nt (.t 28))])
 (.cd (.t 29) (.sq (rg [om 30 (.t 0),
 om 31 (.t 5),
 om 32 (.t 7),
 oo 33 (.ia 1 (.t 30) (.t 31)),
 on1 (.st 1 (.t 33) (.t 32))])
 (rg [om 34 (.t 5),
 oo 35 (.bi .add 0 (.t 34) (i6 1)),
 om 5 (.t 35)]))
 (.sk)))))
 (rg [om 20 (.t 6),
 oo 21 (.bi .add 0 (.t 20) (i6 1)),
 om 6 (.t 21)]))))))
 (.sq (rg [om 36 (.t 0),
 om 37 (.t 5),
 oo 38 (.sx 1 (.t 36) (some (.t 37)) none none),
 on1 (.cl 1 [.string ⟨#[]⟩] (.t 38))])
 (.sq (rg [om 39 (.t 0),
 om 40 (.t 5),
 oo 41 (.sx 1 (.t 39) none (some (.t 40)) none),
 om 4 (.t 41)])
 (.rt))))))) }
theorem Yq:ZI Go.Proofs.Tryz.prog Jl Js=true:=by kernel_rfl
def Wm:F2 :=
 { nt:=7,res:=[.t 3 [0]],body :=
  (.sq (rg [om 3 (.k (.bool false))])
 (.sq (rg [om 4 (.t 0),
 oo 5 (.ld none (.t 1)),
 oo 6 (.bi .eql 0 (.t 4) (.t 5)),
 om 3 (.t 6)])
 (.rt))) }
theorem Za1:ZI Go.Proofs.Tryz.prog J9 Wm=true:=by kernel_rfl
def Vr:F2 :=
 { nt:=11,res:=[],body :=
  (.sq (rg [om 3 (.t 0),
 oo 4 (.ln (.t 3)),
 om 2 (.t 4)])
 (rg [om 5 (.t 0),
 om 6 (.t 2),
 om 7 (.t 2),
 oo 8 (.cv (.int .u64) (.t 7)),
 oo 9 (.ca .pure false (.f YD) [.t 8]),
 oo 10 (.ca .any false (.f ZO) [.t 5,i6 0,.t 6,.t 9])])) }
theorem WZ:ZI Go.Proofs.Tryz.prog ZV Vr=true:=by kernel_rfl
def JF:F2 :=
 { nt:=61,res:=[.t 2 [2]],body :=
  (.sq (rg [om 2 (.k (.slice none 0 0))])
 (.sq (.sq (rg [om 6 (.t 0),
 oo 7 (.ln (.t 6)),
 oo 8 (.bi .lss 0 (.t 7) (i6 2))])
 (.cd (.t 8) (.sq (rg [om 9 (.t 0),
 om 2 (.t 9)])
 (.rt))
 (.sk)))
 (.sq (.sq (rg [om 3 (i6 1)])
 (.bl 0 (.lp [0,3] [] (.sq (.sq (rg [om 10 (.t 3),
 om 11 (.t 0),
 oo 12 (.ln (.t 11)),
 oo 13 (.bi .lss 0 (.t 10) (.t 12))])
 (.cd (.t 13) (.sk)
 (.ex 0)))
 (.sq (.bl 1 (.sq (.rg (some 0) [om 16 (.t 0),
 om 17 (.t 3),
 oo 18 (.ia 1 (.t 16) (.t 17)),
 oo 19 (.ld none (.t 18)),
 om 20 (.t 0),
 om 21 (.t 3),
 oo 22 (.bi .sub 0 (.t 21) (i6 1)),
 oo 23 (.ia 1 (.t 20) (.t 22)),
 oo 24 (.ld none (.t 23)),
 oo 25 (.bi .eql 0 (.t 19) (.t 24))])
 (.cd (.t 25) (.sq (rg [om 26 (.t 0),
 om 27 (.t 3),
 oo 28 (.sx 1 (.t 26) (some (.t 27)) none none),
 om 4 (.t 28)])
 (.sq (.sq (rg [om 5 (i6 1)])
 (.bl 2 (.lp [0,3,4,5] [] (.sq (.sq (rg [om 29 (.t 5),
 om 30 (.t 4),
 oo 31 (.ln (.t 30)),
 oo 32 (.bi .lss 0 (.t 29) (.t 31))])
 (.cd (.t 32) (.sk)
 (.ex 2)))
 (.sq (.bl 3 (.sq (.rg (some 0) [om 35 (.t 4),
 om 36 (.t 5),
 oo 37 (.ia 1 (.t 35) (.t 36)),
 oo 38 (.ld none (.t 37)),
 om 39 (.t 4),
 om 40 (.t 5),
 oo 41 (.bi .sub 0 (.t 40) (i6 1)),
 oo 42 (.ia 1 (.t 39) (.t 41)),
 oo 43 (.ld none (.t 42)),
 oo 44 (.bi .neq 0 (.t 38) (.t 43))])
 (.cd (.t 44) (.sq (rg [om 45 (.t 0),
 om 46 (.t 3),
 om 47 (.t 4),
 om 48 (.t 5),
 oo 49 (.ia 1 (.t 47) (.t 48)),
 oo 50 (.ld none (.t 49)),
 oo 51 (.ia 1 (.t 45) (.t 46)),
 on1 (.st 1 (.t 51) (.t 50))])
 (rg [om 52 (.t 3),
 oo 53 (.bi .add 0 (.t 52) (i6 1)),
 om 3 (.t 53)]))
 (.sk))))
 (rg [om 33 (.t 5),
 oo 34 (.bi .add 0 (.t 33) (i6 1)),
 om 5 (.t 34)]))))))
 (.sq (rg [om 54 (.t 0),
 om 55 (.t 3),
 oo 56 (.sx 1 (.t 54) (some (.t 55)) none none),
 on1 (.cl 1 [.string ⟨#[]⟩] (.t 56))])
 (.sq (rg [om 57 (.t 0),
 om 58 (.t 3),
 oo 59 (.sx 1 (.t 57) none (some (.t 58)) none),
 om 2 (.t 59)])
 (.rt)))))
 (.sk))))
 (rg [om 14 (.t 3),
 oo 15 (.bi .add 0 (.t 14) (i6 1)),
 om 3 (.t 15)]))))))
 (.sq (rg [om 60 (.t 0),
 om 2 (.t 60)])
 (.rt))))) }
theorem YL:ZI Go.Proofs.Tryz.prog Jw JF=true:=by kernel_rfl
def JG:F2 :=
 { nt:=53,res:=[],body :=
  (.sq (rg [om 10 (.t 1),
 oo 11 (.bi .add 0 (.t 10) (i6 1)),
 om 8 (.t 11)])
 (.bl 0 (.lp [0,1,2,3,8] [] (.sq (.sq (rg [om 12 (.t 8),
 om 13 (.t 2),
 oo 14 (.bi .lss 0 (.t 12) (.t 13))])
 (.cd (.t 14) (.sk)
 (.ex 0)))
 (.sq (.bl 1 (.sq (rg [om 17 (.t 8),
 om 9 (.t 17)])
 (.bl 2 (.lp [0,1,2,3,8,9] [] (.sq (.sq (.rg (some 0) [om 18 (.t 9),
 om 19 (.t 1),
 oo 20 (.bi .gtr 0 (.t 18) (.t 19)),
 om 21 (.t 20),
 og 22 21 true (.mv (.t 3) none),
 og 23 21 true (.mv (.t 0) none),
 og 24 21 true (.mv (.t 9) none),
 og 25 21 true (.ia 2 (.t 23) (.t 24)),
 og 26 21 true (.ld (some 2) (.t 25)),
 og 27 21 true (.mv (.t 0) none),
 og 28 21 true (.mv (.t 9) none),
 og 29 21 true (.bi .sub 0 (.t 28) (i6 1)),
 og 30 21 true (.ia 2 (.t 27) (.t 29)),
 og 31 21 true (.ld (some 2) (.t 30)),
 og 32 21 true (.ca .pure false (.t 22) [.t 26,.t 31]),
 og 33 21 true (.bi .lss 0 (.t 32) (i6 0)),
 oo 34 (.pk (.t 21) (.t 33) (.k (.bool false)))])
 (.cd (.t 34) (.sk)
 (.ex 2)))
 (.sq (.bl 3 (.rg (some 0) [om 37 (.t 0),
 om 38 (.t 9),
 om 39 (.t 0),
 om 40 (.t 9),
 oo 41 (.bi .sub 0 (.t 40) (i6 1)),
 om 42 (.t 0),
 om 43 (.t 9),
 oo 44 (.bi .sub 0 (.t 43) (i6 1)),
 oo 45 (.ia 2 (.t 42) (.t 44)),
 oo 46 (.ld (some 2) (.t 45)),
 om 47 (.t 0),
 om 48 (.t 9),
 oo 49 (.ia 2 (.t 47) (.t 48)),
 oo 50 (.ld (some 2) (.t 49)),
 oo 51 (.ia 2 (.t 37) (.t 38)),
 on1 (.s0 2 (.t 51) (.t 46)),
 oo 52 (.ia 2 (.t 39) (.t 41)),
 on1 (.st 2 (.t 52) (.t 50))]))
 (rg [om 35 (.t 9),
 oo 36 (.bi .sub 0 (.t 35) (i6 1)),
 om 9 (.t 36)])))))))
 (rg [om 15 (.t 8),
 oo 16 (.bi .add 0 (.t 15) (i6 1)),
 om 8 (.t 16)])))))) }
theorem Vs:ZI Go.Proofs.Tryz.prog ZX JG=true:=by kernel_rfl
def YM:F2 :=
 { nt:=134,res:=[],body :=
  (.sq (rg [om 8 (.k (.bool true))])
 (.sq (rg [om 9 (.k (.bool true))])
 (.bl 0 (.lp [0,1,2,3,8,9] [] (.bl 1 (.sq (rg [om 19 (.t 2),
 om 20 (.t 1),
 oo 21 (.bi .sub 0 (.t 19) (.t 20)),
 om 10 (.t 21)])
 (.sq (.sq (rg [om 22 (.t 10),
 oo 23 (.bi .leq 0 (.t 22) (i6 12))])
 (.cd (.t 23) (.sq (rg [om 24 (.t 0),
 om 25 (.t 1),
 om 26 (.t 2),
 oo 27 (.ca .any false (.f Z8) [.t 24,.t 25,.t 26])])
 (.rt))
 (.sk)))
 (.sq (.sq (rg [om 28 (.t 3),
 oo 29 (.bi .eql 0 (.t 28) (i6 0))])
 (.cd (.t 29) (.sq (rg [om 30 (.t 0),
 om 31 (.t 1),
 om 32 (.t 2),
 oo 33 (.ca .pure false (.f Xg) [.t 30,.t 31,.t 32])])
 (.rt))
 (.sk)))
 (.sq (.sq (rg [om 34 (.t 8),
 oo 35 (.nt (.t 34))])
 (.cd (.t 35) (.sq (rg [om 36 (.t 0),
 om 37 (.t 1),
 om 38 (.t 2),
 oo 39 (.ca .pure false (.f VH) [.t 36,.t 37,.t 38])])
 (rg [om 40 (.t 3),
 oo 41 (.bi .sub 0 (.t 40) (i6 1)),
 om 3 (.t 41)]))
 (.sk)))
 (.sq (rg [om 43 (.t 0),
 om 44 (.t 1),
 om 45 (.t 2),
 oo 46 (.ca .pure false (.f V9) [.t 43,.t 44,.t 45]),
 om 42 (.t 46),
 oo 47 (.ex 0 (.t 42)),
 oo 48 (.ex 1 (.t 42)),
 om 11 (.t 47),
 om 12 (.t 48)])
 (.sq (.sq (rg [om 49 (.t 12),
 oo 50 (.bi .eql 0 (.t 49) (i6 2))])
 (.cd (.t 50) (.sq (rg [om 51 (.t 0),
 om 52 (.t 1),
 om 53 (.t 2),
 oo 54 (.ca .pure false (.f VW) [.t 51,.t 52,.t 53])])
 (.sq (rg [om 55 (.t 2),
 oo 56 (.bi .sub 0 (.t 55) (i6 1)),
 om 57 (.t 11),
 om 58 (.t 1),
 oo 59 (.bi .sub 0 (.t 57) (.t 58)),
 oo 60 (.bi .sub 0 (.t 56) (.t 59)),
 om 11 (.t 60)])
 (rg [om 12 (i6 1)])))
 (.sk)))
 (.sq (.sq (rg [om 61 (.t 8),
 om 62 (.t 61),
 og 63 62 true (.mv (.t 9) none),
 oo 64 (.pk (.t 62) (.t 63) (.k (.bool false))),
 om 65 (.t 64),
 og 66 65 true (.mv (.t 12) none),
 og 67 65 true (.bi .eql 0 (.t 66) (i6 1)),
 oo 68 (.pk (.t 65) (.t 67) (.k (.bool false)))])
 (.cd (.t 68) (.sq (rg [om 69 (.t 0),
 om 70 (.t 1),
 om 71 (.t 2),
 oo 72 (.ca .pure false (.f YG) [.t 69,.t 70,.t 71])])
 (.cd (.t 72) (.rt)
 (.sk)))
 (.sk)))
 (.sq (.sq (.rg (some 0) [om 73 (.t 1),
 oo 74 (.bi .gtr 0 (.t 73) (i6 0)),
 om 75 (.t 74),
 og 76 75 true (.mv (.t 0) none),
 og 77 75 true (.mv (.t 1) none),
 og 78 75 true (.bi .sub 0 (.t 77) (i6 1)),
 og 79 75 true (.ia 1 (.t 76) (.t 78)),
 og 80 75 true (.ld none (.t 79)),
 og 81 75 true (.mv (.t 0) none),
 og 82 75 true (.mv (.t 11) none),
 og 83 75 true (.ia 1 (.t 81) (.t 82)),
 og 84 75 true (.ld none (.t 83)),
 og 85 75 true (.ca .pure false (.f YS) [.t 80,.t 84]),
 og 86 75 true (.nt (.t 85)),
 oo 87 (.pk (.t 75) (.t 86) (.k (.bool false)))])
 (.cd (.t 87) (.sq (rg [om 88 (.t 0),
 om 89 (.t 1),
 om 90 (.t 2),
 om 91 (.t 11),
 oo 92 (.ca .pure false (.f Vn) [.t 88,.t 89,.t 90,.t 91]),
 om 13 (.t 92)])
 (.sq (rg [om 93 (.t 13),
 om 1 (.t 93)])
 (.ex 1)))
 (.sk)))
 (.sq (rg [om 95 (.t 0),
 om 96 (.t 1),
 om 97 (.t 2),
 om 98 (.t 11),
 oo 99 (.ca .pure false (.f QK) [.t 95,.t 96,.t 97,.t 98]),
 om 94 (.t 99),
 oo 100 (.ex 0 (.t 94)),
 oo 101 (.ex 1 (.t 94)),
 om 14 (.t 100),
 om 15 (.t 101)])
 (.sq (rg [om 102 (.t 15),
 om 9 (.t 102)])
 (.sq (rg [om 103 (.t 14),
 om 104 (.t 1),
 oo 105 (.bi .sub 0 (.t 103) (.t 104)),
 om 106 (.t 2),
 om 107 (.t 14),
 oo 108 (.bi .sub 0 (.t 106) (.t 107)),
 om 16 (.t 105),
 om 17 (.t 108)])
 (.sq (rg [om 109 (.t 10),
 oo 110 (.bi .quo 0 (.t 109) (i6 8)),
 om 18 (.t 110)])
 (.sq (rg [om 111 (.t 16),
 om 112 (.t 17),
 oo 113 (.bi .lss 0 (.t 111) (.t 112))])
 (.cd (.t 113) (.sq (rg [om 114 (.t 16),
 om 115 (.t 18),
 oo 116 (.bi .geq 0 (.t 114) (.t 115)),
 om 8 (.t 116)])
 (.sq (rg [om 117 (.t 0),
 om 118 (.t 1),
 om 119 (.t 14),
 om 120 (.t 3),
 oo 121 (.ca .any false (.f ZO) [.t 117,.t 118,.t 119,.t 120])])
 (rg [om 122 (.t 14),
 oo 123 (.bi .add 0 (.t 122) (i6 1)),
 om 1 (.t 123)])))
 (.sq (rg [om 124 (.t 17),
 om 125 (.t 18),
 oo 126 (.bi .geq 0 (.t 124) (.t 125)),
 om 8 (.t 126)])
 (.sq (rg [om 127 (.t 0),
 om 128 (.t 14),
 oo 129 (.bi .add 0 (.t 128) (i6 1)),
 om 130 (.t 2),
 om 131 (.t 3),
 oo 132 (.ca .any false (.f ZO) [.t 127,.t 129,.t 130,.t 131])])
 (rg [om 133 (.t 14),
 om 2 (.t 133)])))))))))))))))))))))) }
theorem X0:ZI Go.Proofs.Tryz.prog ZO YM=true:=by kernel_rfl
def JV:F2 :=
 { nt:=49,res:=[],body :=
  (.sq (rg [om 8 (.t 1),
 oo 9 (.bi .add 0 (.t 8) (i6 1)),
 om 6 (.t 9)])
 (.bl 0 (.lp [0,1,2,6] [] (.sq (.sq (rg [om 10 (.t 6),
 om 11 (.t 2),
 oo 12 (.bi .lss 0 (.t 10) (.t 11))])
 (.cd (.t 12) (.sk)
 (.ex 0)))
 (.sq (.bl 1 (.sq (rg [om 15 (.t 6),
 om 7 (.t 15)])
 (.bl 2 (.lp [0,1,2,6,7] [] (.sq (.sq (.rg (some 0) [om 16 (.t 7),
 om 17 (.t 1),
 oo 18 (.bi .gtr 0 (.t 16) (.t 17)),
 om 19 (.t 18),
 og 20 19 true (.mv (.t 0) none),
 og 21 19 true (.mv (.t 7) none),
 og 22 19 true (.ia 1 (.t 20) (.t 21)),
 og 23 19 true (.ld none (.t 22)),
 og 24 19 true (.mv (.t 0) none),
 og 25 19 true (.mv (.t 7) none),
 og 26 19 true (.bi .sub 0 (.t 25) (i6 1)),
 og 27 19 true (.ia 1 (.t 24) (.t 26)),
 og 28 19 true (.ld none (.t 27)),
 og 29 19 true (.ca .pure false (.f YS) [.t 23,.t 28]),
 oo 30 (.pk (.t 19) (.t 29) (.k (.bool false)))])
 (.cd (.t 30) (.sk)
 (.ex 2)))
 (.sq (.bl 3 (.rg (some 0) [om 33 (.t 0),
 om 34 (.t 7),
 om 35 (.t 0),
 om 36 (.t 7),
 oo 37 (.bi .sub 0 (.t 36) (i6 1)),
 om 38 (.t 0),
 om 39 (.t 7),
 oo 40 (.bi .sub 0 (.t 39) (i6 1)),
 oo 41 (.ia 1 (.t 38) (.t 40)),
 oo 42 (.ld none (.t 41)),
 om 43 (.t 0),
 om 44 (.t 7),
 oo 45 (.ia 1 (.t 43) (.t 44)),
 oo 46 (.ld none (.t 45)),
 oo 47 (.ia 1 (.t 33) (.t 34)),
 on1 (.s0 1 (.t 47) (.t 42)),
 oo 48 (.ia 1 (.t 35) (.t 37)),
 on1 (.st 1 (.t 48) (.t 46))]))
 (rg [om 31 (.t 7),
 oo 32 (.bi .sub 0 (.t 31) (i6 1)),
 om 7 (.t 32)])))))))
 (rg [om 13 (.t 6),
 oo 14 (.bi .add 0 (.t 13) (i6 1)),
 om 6 (.t 14)])))))) }
theorem Qe:ZI Go.Proofs.Tryz.prog Z8 JV=true:=by kernel_rfl
def UW:F2 :=
 { nt:=17,res:=[.t 4 [0]],body :=
  (.sq (rg [om 4 (.k (.bool false))])
 (.sq (rg [om 5 (.t 0),
 oo 6 (.ca .pure false (.f YB) [.t 5]),
 om 7 (.t 6),
 og 8 7 true (.mv (.t 1) none),
 og 9 7 true (.ca .pure false (.f YB) [.t 8]),
 og 10 7 true (.nt (.t 9)),
 oo 11 (.pk (.t 7) (.t 10) (.k (.bool false))),
 om 12 (.t 11),
 og 13 12 false (.mv (.t 0) none),
 og 14 12 false (.mv (.t 1) none),
 og 15 12 false (.bi .lss 0 (.t 13) (.t 14)),
 oo 16 (.pk (.t 12) (.k (.bool true)) (.t 15)),
 om 4 (.t 16)])
 (.rt))) }
theorem Zdf:ZI Go.Proofs.Tryz.prog YS UW=true:=by kernel_rfl
def Un:F2 :=
 { nt:=6,res:=[.t 2 [0]],body :=
  (.sq (rg [om 2 (.k (.bool false))])
 (.sq (rg [om 3 (.t 0),
 om 4 (.t 0),
 oo 5 (.bi .neq 0 (.t 3) (.t 4)),
 om 2 (.t 5)])
 (.rt))) }
theorem Zcv:ZI Go.Proofs.Tryz.prog YB Un=true:=by kernel_rfl
end Go.Fd

namespace Go.Fd
end Go.Fd

namespace Go.Fd
def Znt(k:Nat)(m:Option Nat):F2 :=
 { nt:=19,res:=[.t 4 [0]],body :=
  (.sq (.rg none [⟨some 4,none,.mv (.k (.int .i64 0)) none⟩])
  (.sq (.sq (.rg none [⟨some 6,none,.mv (.t 0) none⟩,
    ⟨some 7,none,.ln (.t 6)⟩,
    ⟨some 8,none,.mv (.k (.int .i64 0)) none⟩])
  (.bl 0 (.lp [0,1,7,8] [] (.sq (.rg none [⟨some 9,none,.bi .lss 0 (.t 8) (.t 7)⟩])
   (.sq (.cd (.t 9) (.sk)
    (.ex 0))
   (.sq (.bl 1 (.sq (.rg none [⟨some 10,none,.mv (.t 8) none⟩,
      ⟨some 5,none,.mv (.t 10) none⟩])
    (.sq (.rg none [⟨some 11,none,.mv (.t 1) none⟩,
      ⟨some 12,none,.mv (.t 0) none⟩,
      ⟨some 13,none,.mv (.t 5) none⟩,
      ⟨some 14,none,.ia k (.t 12) (.t 13)⟩,
      ⟨some 15,none,.ld m (.t 14)⟩,
      ⟨some 16,none,.ca .pure false (.t 11) [.t 15]⟩])
    (.cd (.t 16) (.sq (.rg none [⟨some 17,none,.mv (.t 5) none⟩,
      ⟨some 4,none,.mv (.t 17) none⟩])
     (.rt))
    (.sk)))))
   (.rg none [⟨some 18,none,.bi .add 0 (.t 8) (.k (.int .i64 1))⟩,
    ⟨some 8,none,.mv (.t 18) none⟩])))))))
  (.sq (.rg none [⟨some 4,none,.mv (.k (.int .i64 (-1))) none⟩])
  (.rt)))) }
def ZqK(fi:FuncId):F2 :=
 { nt:=9,res:=[.t 4 [0]],body :=
  (.sq (.rg none [⟨some 4,none,.mv (.k (.bool false)) none⟩])
  (.sq (.rg none [⟨some 5,none,.mv (.t 0) none⟩,
   ⟨some 6,none,.mv (.t 1) none⟩,
   ⟨some 7,none,.ca .pure false (.f fi) [.t 5,.t 6]⟩,
   ⟨some 8,none,.bi .geq 0 (.t 7) (.k (.int .i64 0))⟩,
   ⟨some 4,none,.mv (.t 8) none⟩])
  (.rt))) }
def ZwA  : F2 :=
 { nt:=19,res:=[.t 4 [0]],body :=
  (.sq (.rg none [⟨some 4,none,.mv (.k (.int .i64 0)) none⟩])
  (.sq (.sq (.rg none [⟨some 6,none,.mv (.t 0) none⟩,
    ⟨some 7,none,.ln (.t 6)⟩,
    ⟨some 8,none,.mv (.k (.int .i64 0)) none⟩])
  (.bl 0 (.lp [0,1,7,8] [] (.sq (.rg none [⟨some 9,none,.bi .lss 0 (.t 8) (.t 7)⟩])
   (.sq (.cd (.t 9) (.sk)
    (.ex 0))
   (.sq (.bl 1 (.sq (.rg none [⟨some 10,none,.mv (.t 8) none⟩,
      ⟨some 5,none,.mv (.t 10) none⟩])
    (.sq (.rg none [⟨some 11,none,.mv (.t 1) none⟩,
      ⟨some 12,none,.mv (.t 0) none⟩,
      ⟨some 13,none,.mv (.t 5) none⟩,
      ⟨some 14,none,.ia 1 (.t 12) (.t 13)⟩,
      ⟨some 15,none,.ld none (.t 14)⟩,
      ⟨some 16,none,.bi .eql 0 (.t 11) (.t 15)⟩])
    (.cd (.t 16) (.sq (.rg none [⟨some 17,none,.mv (.t 5) none⟩,
      ⟨some 4,none,.mv (.t 17) none⟩])
     (.rt))
    (.sk)))))
   (.rg none [⟨some 18,none,.bi .add 0 (.t 8) (.k (.int .i64 1))⟩,
    ⟨some 8,none,.mv (.t 18) none⟩])))))))
  (.sq (.rg none [⟨some 4,none,.mv (.k (.int .i64 (-1))) none⟩])
  (.rt)))) }
def ZAm(fi:FuncId):F2 :=
 { nt:=9,res:=[.t 4 [0]],body :=
  (.sq (.rg none [⟨some 4,none,.mv (.k (.bool false)) none⟩])
  (.sq (.rg none [⟨some 5,none,.mv (.t 0) none⟩,
   ⟨some 6,none,.mv (.t 1) none⟩,
   ⟨some 7,none,.ca .pure false (.f fi) [.t 5,.t 6]⟩,
   ⟨some 8,none,.bi .geq 0 (.t 7) (.k (.int .i64 0))⟩,
   ⟨some 4,none,.mv (.t 8) none⟩])
  (.rt))) }
end Go.Fd

namespace Go.Fd
set_option maxRecDepth 20000
section rules
variable {L:Sto} {F:List IV->Prop} {lvl:Nat}
theorem Zat:∀{l:List (List Tr)}{F:List IV->Prop},Jx L (l.map IV.ta) F=F (l.map IV.ta)
 | [],F=>ZrF
 | x::r,F=>by
  simp only[List.map_cons]
  rw[Zt8,Zat]
  rfl
theorem Yr{Pd:Oid->Prop}:∀{l:List (List Tr)},Zj Pd (l.map IV.ta)=True
 | []=>rfl
 | x::r=>by
  simp only[List.map_cons,Zj,men,true_and]
  exact Yr
theorem Dr{js:List Nat}{l:List (List Tr)}:ZkB lvl js (l.map IV.ta)=True:=Yr
end rules
section
variable {P:Program} {α:Type}
theorem W9{α β:Type}{c:α->β}{l:List α}{j:Nat}(h:j<l.length):(l.map c)[j]? = some (c l[j]):=by simp [h]
theorem Znu{α:Type}{c:α->List Tr}{l:List α}{j:Nat}:cut (l.map c) 0 (j-0)=(l.take j).map c:=by
 simp only[cut,List.drop_zero,Nat.sub_zero,List.map_take]
theorem Zcw{α:Type}{l:List α}{j:Nat}(h:j<l.length):l.drop j=l[j]::l.drop (j+1):=List.drop_eq_getElem_cons h
def ixF(f:α->Bool):List α->Int->Int
 | [],_=>-1
 | x::r,j=>if f x=true then j else ixF f r (j+1)
theorem Wv{f:α->Bool}{x:α}{r:List α}{j:Int}:ixF f (x::r) j=if f x=true then j else ixF f r (j+1):=rfl
theorem ZhH{f:α->Bool}:∀{l:List α}{j:Int},0<=j->(0<=ixF f l j↔l.any f=true)
 | [],j,_=>by simp [ixF]
 | x::r,j,h=>by
  rw[Wv,List.any_cons]
  cases hx:f x with
  | true=>simp [h]
  | false =>
   simp only[Bool.false_eq_true,if_false,Bool.false_or]
   exact ZhH (by omega)
theorem Zlf{fid:FuncId}(hc:ZI P fid (Znt 1 none)=true){t:α->Tr}{f:α->Bool}{fe:FuncId}{cs:List (List Tr)}(l:List α)(hl:l.length<=9223372036854775807)
  (hf:∀ x∈l,∀ lvl S,Sem P fe lvl (.tr (t x)::cs.map IV.ta) S (iB (f x)) S) (lvl:Nat) (S:Sto):Sem P fid lvl [.tr (.sl (l.map fun x=>[t x])),.fn fe (cs.map IV.ta)] S (iI (ixF f l 0)) S:=by
 refine Zb hc trivial ?_
 simp only[Znt,List.length_map,EVA,seval]
 refine ZB (α:=Unit) l.length (fun j _=>[(8,iI j)]) (fun _ _=>[]) (fun j _=>ixF f (l.drop j) j=ixF f l 0) () (by simp only[Dr,EVA,seval]) (by (simp only[EVA,seval]) <;> rfl) rfl ?_
 intro j _ hj hA
 simp only[EVA,seval]
 refine Zn (fun hlt=>?_) (fun hge=>?_)
 ·have hja:j<l.length:=by omega
  have ga:=W9 (c:=fun x=>[t x]) hja
  rw[Zcw hja,Wv] at hA
  simp only[ga,Zat,Yr,EVA,seval,Zj,men]
  refine Za (hf _ (List.getElem_mem hja)) ?_
  simp only[Yr,EVA,seval]
  refine Zn (fun h=>?_) (fun h=>?_)
  ·rw[if_pos h] at hA
   rw[<-hA]
  ·rw[if_neg h] at hA
   exact⟨by rw[Zd];omega,Ze () hja rfl hA⟩
 ·have:j=l.length:=by omega
  subst this
  rw[List.drop_length] at hA
  rw[<-hA]
  rfl
theorem ZpK{k:Nat}{fid:FuncId}(hc:ZI P fid (Znt k (some k))=true){c:α->List Tr}(hk:∀ x,(c x).length=k){f:α->Bool}{fe:FuncId}{cs:List (List Tr)}(l:List α)(hl:l.length<=9223372036854775807)
  (hf:∀ x∈l,∀ lvl S,Sem P fe lvl (.ag ((c x).map .tr)::cs.map IV.ta) S (iB (f x)) S) (lvl:Nat) (S:Sto):Sem P fid lvl [.tr (.sl (l.map c)),.fn fe (cs.map IV.ta)] S (iI (ixF f l 0)) S:=by
 refine Zb hc trivial ?_
 simp only[Znt,List.length_map,EVA,seval]
 refine ZB (α:=Unit) l.length (fun j _=>[(8,iI j)]) (fun _ _=>[]) (fun j _=>ixF f (l.drop j) j=ixF f l 0) () (by simp only[Dr,EVA,seval]) (by (simp only[EVA,seval]) <;> rfl) rfl ?_
 intro j _ hj hA
 simp only[EVA,seval]
 refine Zn (fun hlt=>?_) (fun hge=>?_)
 ·have hja:j<l.length:=by omega
  have ga:=W9 (c:=c) hja
  have hkk:=hk l[j]
  have htk:(c l[j]).take k=c l[j]:=List.take_of_length_le (by omega)
  rw[Zcw hja,Wv] at hA
  simp only[ga,hkk,htk,Zat,Zsd,Yr,ZjZ,EVA,seval,Zj,men]
  refine Za (hf _ (List.getElem_mem hja)) ?_
  simp only[Yr,EVA,seval]
  refine Zn (fun h=>?_) (fun h=>?_)
  ·rw[if_pos h] at hA
   rw[<-hA]
  ·rw[if_neg h] at hA
   exact⟨by rw[Zd];omega,Ze () hja rfl hA⟩
 ·have:j=l.length:=by omega
  subst this
  rw[List.drop_length] at hA
  rw[<-hA]
  rfl
theorem Znv{fid fi:FuncId}(hc:ZI P fid (ZqK fi)=true){es:Row}{f:α->Bool}{fe:FuncId}{cs:List (List Tr)}{l:List α}
  (hi:∀ lvl S,Sem P fi lvl [.tr (.sl es),.fn fe (cs.map IV.ta)] S (iI (ixF f l 0)) S) (lvl:Nat) (S:Sto):Sem P fid lvl [.tr (.sl es),.fn fe (cs.map IV.ta)] S (iB (l.any f)) S:=by
 refine Zb hc trivial ?_
 simp only[ZqK,Zat,Yr,EVA,seval,Zj,men]
 refine Za hi ?_
 simp only[EVA,seval]
 have:=ZhH (f:=f) (l:=l) (Int.le_refl 0)
 by_cases h:l.any f=true
 ·simp [h,this.2 h]
 ·simp [h,mt this.1 h]
theorem Zem{fid fi:FuncId}(hc:ZI P fid (ZqK fi)=true)(hi:ZI P fi (Znt 1 none)=true){t:α->Tr}{f:α->Bool}{fe:FuncId}{cs:List (List Tr)}(l:List α)(hl:l.length<=9223372036854775807)
  (hf:∀ x∈l,∀ lvl S,Sem P fe lvl (.tr (t x)::cs.map IV.ta) S (iB (f x)) S) (lvl:Nat) (S:Sto):Sem P fid lvl [.tr (.sl (l.map fun x=>[t x])),.fn fe (cs.map IV.ta)] S (iB (l.any f)) S :=
 Znv hc (Zlf hi l hl hf) lvl S
theorem Zlg{k:Nat}{fid fi:FuncId}(hc:ZI P fid (ZqK fi)=true)(hi:ZI P fi (Znt k (some k))=true){c:α->List Tr}(hk:∀ x,(c x).length=k){f:α->Bool}{fe:FuncId}{cs:List (List Tr)}(l:List α)(hl:l.length<=9223372036854775807)
  (hf:∀ x∈l,∀ lvl S,Sem P fe lvl (.ag ((c x).map .tr)::cs.map IV.ta) S (iB (f x)) S) (lvl:Nat) (S:Sto):Sem P fid lvl [.tr (.sl (l.map c)),.fn fe (cs.map IV.ta)] S (iB (l.any f)) S :=
 Znv hc (ZpK hi hk l hl hf) lvl S
structure Cmp (t:α->Tr):Prop where
 neq:∀(x y:α) (F:IV->Prop),bi2 .neq 0 (.tr (t x)) (.tr (t y)) F=F (iB (!(@decide (x=y) (Classical.propDecidable _))))
 eql:∀(x y:α) (F:IV->Prop),bi2 .eql 0 (.tr (t x)) (.tr (t y)) F=F (iB (@decide (x=y) (Classical.propDecidable _)))
theorem ZvL:Cmp ts:=⟨fun x y F=>by rw[ZtQ];congr 2;by_cases h:x=y <;> simp [h],fun x y F=>by rw[ZtP];congr 2;by_cases h:x=y <;> simp [h]⟩
theorem Znw{fid:FuncId}(hc:ZI P fid ZwA=true) [DecidableEq α]{t:α->Tr}(hT:Cmp t)(l:List α)(v:α)(hl:l.length<=9223372036854775807)(lvl:Nat)(S:Sto):Sem P fid lvl [.tr (.sl (l.map fun x=>[t x])),.tr (t v)] S (iI (ixF (fun x=>decide (v=x)) l 0)) S:=by
 refine Zb hc trivial ?_
 simp only[ZwA,List.length_map,EVA,seval]
 refine ZB (α:=Unit) l.length (fun j _=>[(8,iI j)]) (fun _ _=>[]) (fun j _=>ixF (fun x=>decide (v=x)) (l.drop j) j=ixF (fun x=>decide (v=x)) l 0) () (by simp only[EVA,seval]) (by (simp only[EVA,seval]) <;> rfl) rfl ?_
 intro j _ hj hA
 simp only[EVA,seval]
 refine Zn (fun hlt=>?_) (fun hge=>?_)
 ·have hja:j<l.length:=by omega
  have ga:=W9 (c:=fun x=>[t x]) hja
  have hq:=hT.eql v l[j]
  rw[Zcw hja,Wv] at hA
  simp only[ga,hq,EVA,seval]
  refine Zn (fun h=>?_) (fun h=>?_)
  ·rw[if_pos (by simpa using h)] at hA
   rw[<-hA]
  ·rw[if_neg (by simpa using h)] at hA
   exact⟨by rw[Zd];omega,Ze () hja rfl hA⟩
 ·have:j=l.length:=by omega
  subst this
  rw[List.drop_length] at hA
  rw[<-hA]
  rfl
theorem Zst[DecidableEq α]{l:List α}{v:α}:l.any (fun x=>decide (v=x))=decide (v∈l):=by
 rw[Bool.eq_iff_iff]
 simp [List.any_eq_true]
theorem Zsu{fid fi:FuncId}(hc:ZI P fid (ZAm fi)=true)(hi:ZI P fi ZwA=true) [DecidableEq α]{t:α->Tr}(hT:Cmp t)(l:List α)(v:α)(hl:l.length<=9223372036854775807)(lvl:Nat)(S:Sto):Sem P fid lvl [.tr (.sl (l.map fun x=>[t x])),.tr (t v)] S (iB (decide (v∈l))) S:=by
 refine Zb hc trivial ?_
 simp only[ZAm,EVA,seval,Zj,men]
 refine Za (Znw hi hT l v hl) ?_
 simp only[EVA,seval]
 have:=ZhH (f:=fun x=>decide (v=x)) (l:=l) (Int.le_refl 0)
 rw[Zst] at this
 by_cases h:v∈l
 ·simp [h,this.2 (by simpa using h)]
 ·have h2:¬ 0<=ixF (fun x=>decide (v=x)) l 0:=fun hh=>h (by simpa using this.1 hh)
  simp [h,h2]
end
end Go.Fd

namespace Go.Fd
set_option maxRecDepth 20000
noncomputable def dc(p:Prop):Bool:=@decide p (Classical.propDecidable p)
theorem dc_iff{p:Prop}:dc p=true↔p:=by unfold dc;simp
theorem ZL{p:Prop}(h:p):dc p=true:=dc_iff.2 h
theorem Zg{p:Prop}(h:¬ p):dc p=false:=by
 cases hh:dc p with
 | false=>rfl
 | true=>exact absurd (dc_iff.1 hh) h
theorem dc_not{p:Prop}:dc p=false ↔ ¬ p:=⟨fun h hp=>(by rw[ZL hp] at h;cases h),Zg⟩
theorem Vb{p q:Prop}(h:p↔q):dc p=dc q:=by rw[propext h]
theorem Xn{p:Prop} [Decidable p]:dc p=decide p:=by
 by_cases h:p
 ·rw[ZL h];simp [h]
 ·rw[Zg h];simp [h]
abbrev g0(l:List Int)(i:Nat):Int:=l.getD i 0
abbrev A3:=Int×Int×Int
abbrev g3(l:List A3)(i:Nat):A3:=l.getD i (0,0,0)
theorem VL{l:List Int}{i:Nat}(h:i<l.length):(rI l)[i]? = some [tv (g0 l i)]:=by simp [h]
def inB(n a b:Int):Bool:=decide (a<=n)&&decide (n<=b)
theorem inB_iff{n a b:Int}:inB n a b=true↔a<=n/\n<=b:=by simp [inB]
theorem inB_not{n a b:Int}:inB n a b=false ↔ ¬ (a<=n/\n<=b):=by
 rw[<-inB_iff];cases inB n a b <;> simp
theorem Qn(n a b:Int)(lvl:Nat)(S:Sto):Sem Go.Proofs.Tryz.prog ZY lvl [iI n,iI a,iI b] S (iB (inB n a b)) S:=by
 refine Zb Zj4 trivial ?_
 simp only[ZeX,EVA,seval]
 refine Zn (fun h=>?_) (fun h=>?_) <;> simp [inB,h]
theorem YH(n a b:Int)(lvl:Nat)(S:Sto):Sem Go.Proofs.Tryz.prog ZQ lvl [iI n,iI a,iI b] S (iB (inB n a b)) S:=by
 refine Zb Zhl trivial ?_
 simp only[Zb6,EVA,seval]
 refine Zn (fun h=>?_) (fun h=>?_) <;> simp [inB,h]
theorem Znx(l:List Int)(n:Int)(hl:l.length<=9223372036854775807)(lvl:Nat)(S:Sto):Sem Go.Proofs.Tryz.prog Ux lvl [tI l,iI n] S (iB (decide (n∈l))) S:=by
 refine Zb ZiV trivial ?_
 simp only[ZdH,EVA,seval]
 refine Z3 (α:=Unit) l.length (fun j _=>⟨lvl,[(0,tI l),(1,iI n),(5,iI j)],[],S⟩) (fun j _=>n ∉ l.take j) () ⟨by simp only[EVA,seval],by (simp only[EVA,seval]) <;> rfl⟩ (by simp) ?_
 intro j _ hj hA
 simp only[List.length_map,EVA,seval]
 refine Zn (fun hlt=>?_) (fun hge=>?_)
 ·have hja:j<l.length:=by omega
  have ga:=VL hja
  simp only[ga,EVA,seval]
  have hg:g0 l j=l[j]:=by simp [hja]
  refine Zn (fun he=>?_) (fun hne=>?_)
  ·have:n∈l:=by rw[<-he,hg];exact List.getElem_mem hja
   simp [this]
  ·refine⟨by rw[Zd];omega,Ze () hja rfl ?_⟩
   rw[List.take_succ_eq_append_getElem hja]
   simp only[List.mem_append,List.mem_singleton,not_or]
   exact⟨hA,fun e=>hne (by rw[hg,e])⟩
 ·have:j=l.length:=by omega
  subst this
  rw[List.take_length] at hA
  simp [hA]
theorem Zny(x:Int)(lvl:Nat)(S:Sto):Sem Go.Proofs.Tryz.prog VE lvl [iI x] S (iB false) S:=by
 refine Zb Ze7 trivial ?_
 simp only[Zap,EVA,seval]
end Go.Fd

namespace Go.Proofs
open Go.Shelf
def Tryz.lays160_ren:Go.Shelf.Ren:=⟨fun | 160=>170 | 232=>220 | 231=>219 | 227=>221 | 234=>223 | 233=>222 | 236=>225 | 235=>224 | 228=>258 | 271=>261 | 151=>260 | 197=>259 | 120=>314 | 152=>313 | 260=>312 | 137=>340 | 119=>341 | 224=>310 | 225=>309 | 217=>308 | 266=>338 | n=>n,fun | 9=>9 | 4=>4 | 3=>3 | 5=>5 | 117=>224 | 116=>223 | 0=>0 | 124=>227 | 21=>21 | 105=>255 | 46=>217 | 119=>321 | 139=>324 | 138=>323 | n=>n,fun | 3=>3 | 4=>4 | n=>n⟩
theorem Tryz.lays160:Go.Proofs.Lays.n160 Tryz.prog Tryz.lays160_ren:={
  mixed:=by kernel_rfl,
  f119:=Tryz.func341.trans (congrArg some (by kernel_rfl)),
  f120:=Tryz.func314.trans (congrArg some (by kernel_rfl)),
  f137:=Tryz.func340.trans (congrArg some (by kernel_rfl)),
  f151:=Tryz.func260.trans (congrArg some (by kernel_rfl)),
  f152:=Tryz.func313.trans (congrArg some (by kernel_rfl)),
  f160:=Tryz.func170.trans (congrArg some (by kernel_rfl)),
  f197:=Tryz.func259.trans (congrArg some (by kernel_rfl)),
  f217:=Tryz.func308.trans (congrArg some (by kernel_rfl)),
  f224:=Tryz.func310.trans (congrArg some (by kernel_rfl)),
  f225:=Tryz.func309.trans (congrArg some (by kernel_rfl)),
  f227:=Tryz.func221.trans (congrArg some (by kernel_rfl)),
  f228:=Tryz.func258.trans (congrArg some (by kernel_rfl)),
  f231:=Tryz.func219.trans (congrArg some (by kernel_rfl)),
  f232:=Tryz.func220.trans (congrArg some (by kernel_rfl)),
  f233:=Tryz.func222.trans (congrArg some (by kernel_rfl)),
  f234:=Tryz.func223.trans (congrArg some (by kernel_rfl)),
  f235:=Tryz.func224.trans (congrArg some (by kernel_rfl)),
  f236:=Tryz.func225.trans (congrArg some (by kernel_rfl)),
  f260:=Tryz.func312.trans (congrArg some (by kernel_rfl)),
  f266:=Tryz.func338.trans (congrArg some (by kernel_rfl)),
  f271:=Tryz.func261.trans (congrArg some (by kernel_rfl)),
  t0:=Tryz.underlying0,
  a0:=Tryz.isAgg0,
  z0:=Tryz.sizeOf0,
  v0:=Tryz.zeroValue0,
  t3:=Tryz.underlying3,
  a3:=Tryz.isAgg3,
  z3:=Tryz.sizeOf3,
  v3:=Tryz.zeroValue3,
  t4:=Tryz.underlying4,
  a4:=Tryz.isAgg4,
  z4:=Tryz.sizeOf4,
  v4:=Tryz.zeroValue4,
  t5:=Tryz.underlying5,
  a5:=Tryz.isAgg5,
  z5:=Tryz.sizeOf5,
  v5:=Tryz.zeroValue5,
  t9:=Tryz.underlying9,
  a9:=Tryz.isAgg9,
  z9:=Tryz.sizeOf9,
  v9:=Tryz.zeroValue9,
  t21:=Tryz.underlying21,
  a21:=Tryz.isAgg21,
  z21:=Tryz.sizeOf21,
  v21:=Tryz.zeroValue21,
  t46:=Tryz.underlying217,
  a46:=Tryz.isAgg217,
  z46:=Tryz.sizeOf217,
  v46:=Tryz.zeroValue217,
  t105:=Tryz.underlying255,
  a105:=Tryz.isAgg255,
  z105:=Tryz.sizeOf255,
  v105:=Tryz.zeroValue255,
  t116:=Tryz.underlying223,
  a116:=Tryz.isAgg223,
  z116:=Tryz.sizeOf223,
  t117:=Tryz.underlying224,
  a117:=Tryz.isAgg224,
  z117:=Tryz.sizeOf224,
  v117:=Tryz.zeroValue224,
  t119:=Tryz.underlying321,
  a119:=Tryz.isAgg321,
  z119:=Tryz.sizeOf321,
  t124:=Tryz.underlying227,
  a124:=Tryz.isAgg227,
  z124:=Tryz.sizeOf227,
  v124:=Tryz.zeroValue227,
  t138:=Tryz.underlying323,
  a138:=Tryz.isAgg323,
  z138:=Tryz.sizeOf323,
  v138:=Tryz.zeroValue323,
  t139:=Tryz.underlying324,
  a139:=Tryz.isAgg324,
  z139:=Tryz.sizeOf324,
  v139:=Tryz.zeroValue324,
  g3:=by kernel_rfl,
  g4:=by kernel_rfl }
def Tryz.lays190_ren:Go.Shelf.Ren:=⟨fun | 190=>329 | 125=>227 | 258=>351 | 128=>271 | 129=>272 | 302=>361 | 303=>362 | 304=>363 | 305=>364 | 306=>365 | 307=>366 | 308=>367 | 309=>368 | 310=>369 | 333=>373 | 329=>316 | 330=>317 | 334=>374 | 335=>375 | 336=>376 | 344=>377 | n=>n,fun | 31=>45 | 9=>9 | 3=>3 | 46=>217 | 0=>0 | 51=>245 | 53=>248 | 4=>4 | 183=>260 | 182=>259 | 131=>35 | 5=>5 | 218=>298 | 222=>302 | 228=>326 | 229=>327 | n=>n,fun | n=>n⟩
theorem Tryz.lays190:Go.Proofs.Lays.n190 Tryz.prog Tryz.lays190_ren:={
  mixed:=by kernel_rfl,
  f125:=Tryz.func227.trans (congrArg some (by kernel_rfl)),
  f128:=Tryz.func271.trans (congrArg some (by kernel_rfl)),
  f129:=Tryz.func272.trans (congrArg some (by kernel_rfl)),
  f190:=Tryz.func329.trans (congrArg some (by kernel_rfl)),
  f258:=Tryz.func351.trans (congrArg some (by kernel_rfl)),
  f302:=Tryz.func361.trans (congrArg some (by kernel_rfl)),
  f303:=Tryz.func362.trans (congrArg some (by kernel_rfl)),
  f304:=Tryz.func363.trans (congrArg some (by kernel_rfl)),
  f305:=Tryz.func364.trans (congrArg some (by kernel_rfl)),
  f306:=Tryz.func365.trans (congrArg some (by kernel_rfl)),
  f307:=Tryz.func366.trans (congrArg some (by kernel_rfl)),
  f308:=Tryz.func367.trans (congrArg some (by kernel_rfl)),
  f309:=Tryz.func368.trans (congrArg some (by kernel_rfl)),
  f310:=Tryz.func369.trans (congrArg some (by kernel_rfl)),
  f329:=Tryz.func316.trans (congrArg some (by kernel_rfl)),
  f330:=Tryz.func317.trans (congrArg some (by kernel_rfl)),
  f333:=Tryz.func373.trans (congrArg some (by kernel_rfl)),
  f334:=Tryz.func374.trans (congrArg some (by kernel_rfl)),
  f335:=Tryz.func375.trans (congrArg some (by kernel_rfl)),
  f336:=Tryz.func376.trans (congrArg some (by kernel_rfl)),
  f344:=Tryz.func377.trans (congrArg some (by kernel_rfl)),
  t0:=Tryz.underlying0,
  a0:=Tryz.isAgg0,
  z0:=Tryz.sizeOf0,
  v0:=Tryz.zeroValue0,
  t3:=Tryz.underlying3,
  a3:=Tryz.isAgg3,
  z3:=Tryz.sizeOf3,
  v3:=Tryz.zeroValue3,
  t4:=Tryz.underlying4,
  a4:=Tryz.isAgg4,
  z4:=Tryz.sizeOf4,
  v4:=Tryz.zeroValue4,
  t5:=Tryz.underlying5,
  a5:=Tryz.isAgg5,
  z5:=Tryz.sizeOf5,
  v5:=Tryz.zeroValue5,
  t9:=Tryz.underlying9,
  a9:=Tryz.isAgg9,
  z9:=Tryz.sizeOf9,
  v9:=Tryz.zeroValue9,
  t31:=Tryz.underlying45,
  a31:=Tryz.isAgg45,
  z31:=Tryz.sizeOf45,
  v31:=Tryz.zeroValue45,
  t46:=Tryz.underlying217,
  a46:=Tryz.isAgg217,
  z46:=Tryz.sizeOf217,
  v46:=Tryz.zeroValue217,
  t51:=Tryz.underlying245,
  a51:=Tryz.isAgg245,
  z51:=Tryz.sizeOf245,
  v51:=Tryz.zeroValue245,
  t53:=Tryz.underlying248,
  a53:=Tryz.isAgg248,
  z53:=Tryz.sizeOf248,
  v53:=Tryz.zeroValue248,
  t131:=Tryz.underlying35,
  a131:=Tryz.isAgg35,
  z131:=Tryz.sizeOf35,
  v131:=Tryz.zeroValue35,
  t182:=Tryz.underlying259,
  a182:=Tryz.isAgg259,
  z182:=Tryz.sizeOf259,
  v182:=Tryz.zeroValue259,
  t183:=Tryz.underlying260,
  a183:=Tryz.isAgg260,
  z183:=Tryz.sizeOf260,
  v183:=Tryz.zeroValue260,
  t218:=Tryz.underlying298,
  a218:=Tryz.isAgg298,
  z218:=Tryz.sizeOf298,
  v218:=Tryz.zeroValue298,
  t222:=Tryz.underlying302,
  a222:=Tryz.isAgg302,
  z222:=Tryz.sizeOf302,
  v222:=Tryz.zeroValue302,
  t228:=Tryz.underlying326,
  a228:=Tryz.isAgg326,
  z228:=Tryz.sizeOf326,
  v228:=Tryz.zeroValue326,
  t229:=Tryz.underlying327,
  a229:=Tryz.isAgg327,
  z229:=Tryz.sizeOf327,
  v229:=Tryz.zeroValue327 }
end Go.Proofs

namespace Go.Fd
set_option maxRecDepth 20000
def ZvM(P:Program)(f:FuncId):Bool:=match P.funcs[f]? with | some fn=>fn.body.isSome && !(fn.name == "runtime.NumGoroutine") | none=>false
theorem ZhI{P:Program}{f:FuncId}(h:ZvM P f=true):ZaI P f:=by
 unfold ZvM at h
 split at h
 ·rename_i fn hf
  simp only[Bool.and_eq_true,Bool.not_eq_true'] at h
  exact⟨fn,hf,h.1,h.2⟩
 ·cases h
abbrev AZ:ByteArray:=⟨#[97,98,99,100,101,102,103,104,105,106,107,108,109,110,111,112,113,114,115,116,117,118,119,120,121,122]⟩
theorem ZpL(s:ByteArray)(hs:s.size<=9223372036854775807)(lvl:Nat)(S:Sto):Sem Go.Proofs.Tryz.prog DE lvl [iS s,iS AZ] S (iS ⟨(Lib.trimS s.data.toList AZ.data.toList).toArray⟩) S :=
 Zj1 (xs:=[.string s,.string AZ]) (ZhI (by kernel_rfl)) rfl (fun w=>Go.Proofs.Any.strings_Trim_laid Go.Proofs.Tryz.lays160 (by kernel_rfl) s AZ w hs (by decide) (Go.Proofs.ascii_of_all (by decide)))
def ZbG(s:ByteArray):Prop:=(∀ b∈s.data.toList,97<=b.toNat/\b.toNat<=122)/\1<=s.size/\s.size<=4
theorem Zi1(s:ByteArray):s.size=s.data.toList.length:=by rw[Array.length_toList];rfl
theorem ZqL(b:UInt8):b∈AZ.data.toList↔97<=b.toNat/\b.toNat<=122:=by
 have:∀ n:Fin 256,(UInt8.ofNat n.val)∈AZ.data.toList↔97<=n.val/\n.val<=122:=by decide +kernel
 have h:UInt8.ofNat b.toNat∈AZ.data.toList↔97<=b.toNat/\b.toNat<=122:=this ⟨b.toNat,b.toNat_lt⟩
 rw[show UInt8.ofNat b.toNat=b from UInt8.ofNat_toNat] at h
 exact h
theorem Znz{p:UInt8->Bool}:∀{l:List UInt8},l.dropWhile p=[]↔∀ b∈l,p b=true
 | []=>by simp
 | x::r=>by
  simp only[List.dropWhile_cons,List.mem_cons,forall_eq_or_imp]
  cases h:p x with
  | true=>simp [Znz (l:=r)]
  | false=>simp
theorem ZqM{p:UInt8->Bool}{b:UInt8}:∀{l:List UInt8},b∈l.takeWhile p->p b=true
 | [],h=>by simp at h
 | x::r,h=>by
  rw[List.takeWhile_cons] at h
  split at h
  ·rename_i hx
   rcases List.mem_cons.1 h with rfl | h
   ·exact hx
   ·exact ZqM h
  ·cases h
theorem ZpM{l cs:List UInt8}(h:∀ b∈l,b∈cs):l.dropWhile (cs.contains ·)=[]:=by
 rw[Znz]
 intro b hb
 simpa using h b hb
theorem trimS_nil{l cs:List UInt8}:Lib.trimS l cs=[]↔∀ b∈l,b∈cs:=by
 unfold Lib.trimS Lib.trimLeftS Lib.trimRightS
 constructor
 ·intro h b hb
  rw[Znz] at h
  have hrev:∀ x∈(l.reverse.dropWhile (cs.contains ·)),x∈cs:=fun x hx=>by
   have:=h x (by simpa using hx)
   simpa using this
  have hsplit:l.reverse=l.reverse.takeWhile (cs.contains ·)++l.reverse.dropWhile (cs.contains ·):=(List.takeWhile_append_dropWhile).symm
  have hb2:b∈l.reverse:=by simpa using hb
  rw[hsplit] at hb2
  rcases List.mem_append.1 hb2 with h1 | h1
  ·have:=ZqM h1
   simpa using this
  ·exact hrev b h1
 ·intro h
  rw[ZpM (l:=l.reverse) (fun b hb=>h b (by simpa using hb))]
  rfl
theorem Zdg(s:ByteArray)(hs:s.size<=9223372036854775807)(lvl:Nat)(S:Sto):Sem Go.Proofs.Tryz.prog Vi lvl [iS s] S (iB (dc (ZbG s))) S:=by
 refine Zb Zhn trivial ?_
 simp only[Zb8,EVA,seval]
 refine ZB (α:=Unit) s.size (fun j _=>[(3,iI j)]) (fun _ _=>[]) (fun j _=>∀ b∈s.data.toList.take j,97<=b.toNat/\b.toNat<=122) () (by simp only[EVA,seval]) (by (simp only[EVA,seval]) <;> rfl) (fun b hb=>by simp at hb) ?_
 intro j _ hj hA
 simp only[EVA,seval,Zj,men]
 refine Zn (fun hlt=>?_) (fun hge=>?_)
 ·have hja:j<s.data.toList.length:=by rw[<-Zi1];omega
  have ga:s.data.toList[j]? = some (s.data.toList[j]):=List.getElem?_eq_getElem hja
  have hno:¬ (97<=(s.data.toList[j]).toNat/\(s.data.toList[j]).toNat<=122) -> ¬ ZbG s:=fun h hn=>h (hn.1 _ (List.getElem_mem hja))
  by_cases h1:((s.data.toList[j]).toNat:Int)<97
  ·simp only[ga,h1,EVA,seval]
   rw[Zg (hno (by omega))]
  by_cases h2:(122:Int)<(s.data.toList[j]).toNat
  ·simp only[ga,h1,h2,EVA,seval]
   rw[Zg (hno (by omega))]
  ·simp only[ga,h1,h2,EVA,seval]
   refine⟨by rw[Zd];omega,Ze () (by omega) rfl ?_⟩
   intro b hb
   rw[List.take_succ_eq_append_getElem hja] at hb
   rcases List.mem_append.1 hb with h | h
   ·exact hA b h
   ·have:b=s.data.toList[j]:=by simpa using h
    subst this
    omega
 ·have:j=s.size:=by omega
  subst this
  rw[Zi1,List.take_length] at hA
  refine Za (Qn s.size 1 4) ?_
  simp only[EVA,seval]
  rw[Vb (q:=1<=s.size/\s.size<=4) ⟨fun h=>h.2,fun h=>⟨hA,h⟩⟩]
  by_cases h:1<=s.size/\s.size<=4
  ·rw[ZL h,inB_iff.2 (by omega)]
  ·rw[Zg h,inB_not.2 (by omega)]
theorem UX(s:ByteArray)(hs:s.size<=9223372036854775807)(lvl:Nat)(S:Sto):Sem Go.Proofs.Tryz.prog J5 lvl [iS s] S (iB (dc (ZbG s))) S:=by
 refine Zb Zho trivial ?_
 simp only[Zb9,EVA,seval,Zj,men]
 refine Za (YH s.size 1 4) ?_
 simp only[EVA,seval,Zj,men]
 cases hin:inB (s.size:Int) 1 4 with
 | false =>
  have:¬ ZbG s:=fun h=>(inB_not.1 hin) (by have:=h.2;omega)
  rw[Zg this]
  simp only[EVA,seval]
 | true =>
  have hin':=inB_iff.1 hin
  simp only[seval]
  refine Za (ZpL s hs) ?_
  simp only[EVA,seval]
  by_cases h:ZbG s
  ·have:Lib.trimS s.data.toList AZ.data.toList=[]:=trimS_nil.2 (fun b hb=>(ZqL b).2 (h.1 b hb))
   rw[ZL h,this]
   rfl
  ·have:¬ Lib.trimS s.data.toList AZ.data.toList=[]:=fun e=>h ⟨fun b hb=>(ZqL b).1 (trimS_nil.1 e b hb),by omega,by omega⟩
   rw[Zg h]
   have h2:¬ (⟨(Lib.trimS s.data.toList AZ.data.toList).toArray⟩:ByteArray)=⟨#[]⟩:=fun e=>this (by
    have:=congrArg (fun b:ByteArray=>b.data.toList) e
    simpa using this)
   simp [h2]
def ZpN(c:TControl):Prop:=ZbG c.name/\(0<=c.ports/\c.ports<=3)/\0<=c.kind_/\c.kind_<=2
def ZnA(sig:List TControl)(i:Nat):Prop:=∀ h:i<sig.length,ZpN sig[i]/\∀ k (hk:k<i),(sig[k]'(by omega)).name≠sig[i].name
def YJ(sig:List TControl):Prop:=(∀ i,ZnA sig i)/\1<=sig.length/\sig.length<=6
theorem Zdh(c d:TControl)(lvl:Nat)(S:Sto):Sem Go.Proofs.Tryz.prog J8 lvl [.ag ((Zh d).map .tr),.ta (Zh c)] S (iB (decide (d.name=c.name))) S:=by
 refine Zb ZaZ trivial ?_
 simp only[Wj,Zh,EVA,seval]
theorem Zi2:ZI Go.Proofs.Tryz.prog Ji (Znt 3 (some 3))=true:=by kernel_rfl
theorem Zi3:ZI Go.Proofs.Tryz.prog Ja (ZqK Ji)=true:=by kernel_rfl
theorem Zi4(sig:List TControl)(hl:sig.length<=9223372036854775807)(hb:∀ y∈sig,Zr 9223372036854775807 y)(lvl:Nat)(S:Sto):Sem Go.Proofs.Tryz.prog XJ lvl [.tr (.sl (sig.map Zh))] S (iB (dc (YJ sig))) S:=by
 refine Zb ZiR trivial ?_
 simp only[ZdD,EVA,seval]
 refine ZB (α:=Unit) sig.length (fun j _=>[(3,iI j)]) (fun _ _=>[]) (fun j _=>∀ i,i<j->ZnA sig i) () (by simp only[EVA,seval]) (by (simp only[EVA,seval]) <;> rfl) (fun i hi=>by omega) ?_
 intro j _ hj hA
 simp only[List.length_map,EVA,seval,Zj,men]
 refine Zn (fun hlt=>?_) (fun hge=>?_)
 ·have hja:j<sig.length:=by omega
  have ga:=W9 (c:=Zh) hja
  have hbj:sig[j].name.size<=9223372036854775807:=hb _ (List.getElem_mem hja)
  have hno:¬ ZpN sig[j] -> ¬ YJ sig:=fun h hs=>h (hs.1 j hja).1
  simp only[ga,Zh,EVA,seval,Zj,men]
  refine Za (Zdg sig[j].name hbj) ?_
  simp only[ga,Zh,EVA,seval,Zj,men]
  cases hn:dc (ZbG sig[j].name) with
  | false =>
   simp only[EVA,seval]
   rw[Zg (hno fun h=>dc_not.1 hn h.1)]
  | true =>
   have hn':=dc_iff.1 hn
   simp only[EVA,seval]
   refine Za (Qn sig[j].ports 0 3) ?_
   simp only[ga,Zh,EVA,seval,Zj,men]
   cases hp:inB sig[j].ports 0 3 with
   | false =>
    simp only[EVA,seval]
    rw[Zg (hno fun h=>inB_not.1 hp h.2.1)]
   | true =>
    have hp':=inB_iff.1 hp
    simp only[EVA,seval]
    refine Za (Qn sig[j].kind_ 0 2) ?_
    simp only[EVA,seval]
    cases hk:inB sig[j].kind_ 0 2 with
    | false =>
     simp only[seval]
     rw[Zg (hno fun h=>inB_not.1 hk h.2.2)]
    | true =>
     have hk':=inB_iff.1 hk
     simp only[EVA,seval]
     refine ZB (α:=Unit) j (fun k _=>[(4,iI k)]) (fun _ _=>[]) (fun k _=>∀ i (hi:i<k),k<=j->∀ hi2:i<sig.length,(sig[i]'hi2).name≠sig[j].name) () (by simp only[EVA,seval]) (by (simp only[EVA,seval]) <;> rfl) (fun i hi=>by omega) ?_
     intro k _ hkj hB
     simp only[EVA,seval]
     refine Zn (fun hlt2=>?_) (fun hge2=>?_)
     ·have hka:k<sig.length:=by omega
      have gb:=W9 (c:=Zh) hka
      simp only[ga,gb,Zh,EVA,seval]
      refine Zn (fun he=>?_) (fun hne=>?_)
      ·rw[Zg (fun hs:YJ sig=>(hs.1 j hja).2 k (by omega) he)]
      ·refine⟨by rw[Zd];omega,Ze () (by omega) rfl (fun i hi _ hi2=>?_)⟩
       by_cases e:i=k
       ·subst e;exact hne
       ·exact hB i (by omega) (by omega) hi2
     ·have:k=j:=by omega
      subst this
      refine⟨by rw[Zd];omega,Ze () hja rfl (fun i hi=>?_)⟩
      by_cases e:i=k
      ·subst e
       exact fun h=>⟨⟨hn',hp',hk'⟩,fun q hq=>hB q hq (Nat.le_refl _) (by omega)⟩
      ·exact hA i (by omega)
 ·have:j=sig.length:=by omega
  subst this
  refine Za (Qn sig.length 1 6) ?_
  simp only[EVA,seval]
  have hall:∀ i,ZnA sig i:=fun i h=>hA i h h
  rw[Vb (q:=1<=sig.length/\sig.length<=6) ⟨fun h=>h.2,fun h=>⟨hall,h⟩⟩]
  by_cases h:1<=sig.length/\sig.length<=6
  ·rw[ZL h,inB_iff.2 (by omega)]
  ·rw[Zg h,inB_not.2 (by omega)]
theorem VY(sig:List TControl)(hl:sig.length<=9223372036854775807)(hb:∀ y∈sig,Zr 9223372036854775807 y)(lvl:Nat)(S:Sto):Sem Go.Proofs.Tryz.prog JP lvl [.tr (.sl (sig.map Zh))] S (iB (dc (YJ sig))) S:=by
 refine Zb Zb5 trivial ?_
 simp only[Uh,List.length_map,EVA,seval,Zj,men]
 refine Za (YH sig.length 1 6) ?_
 simp only[List.length_map,EVA,seval]
 refine Zn (fun h=>?_) (fun h=>?_)
 ·rw[Zg (fun hs:YJ sig=>(inB_not.1 h) (by have:=hs.2;omega))]
 have hln:=inB_iff.1 (by simpa using h)
 refine ZB (α:=Unit) sig.length (fun j _=>[(11,iI j)]) (fun _ _=>[]) (fun j _=>∀ i,i<j->ZnA sig i) () (by simp only[EVA,seval]) (by (simp only[EVA,seval]) <;> rfl) (fun i hi=>by omega) ?_
 intro j _ hj hA
 simp only[EVA,seval]
 refine Zn (fun hlt=>?_) (fun hge=>?_)
 ·have hja:j<sig.length:=by omega
  have ga:=W9 (c:=Zh) hja
  have hbj:sig[j].name.size<=9223372036854775807:=hb _ (List.getElem_mem hja)
  have hno:¬ ZpN sig[j] -> ¬ YJ sig:=fun h hs=>h (hs.1 j hja).1
  simp only[ga,Zh,EVA,seval,Zj,men]
  refine Za (UX sig[j].name hbj) ?_
  simp only[EVA,seval,Zj,men]
  cases hn:dc (ZbG sig[j].name) with
  | false =>
   simp only[EVA,seval]
   rw[Zg (hno fun h=>dc_not.1 hn h.1)]
  | true =>
   have hn':=dc_iff.1 hn
   simp only[EVA,seval]
   refine Za (YH sig[j].ports 0 3) ?_
   simp only[EVA,seval,Zj,men]
   cases hp:inB sig[j].ports 0 3 with
   | false =>
    simp only[EVA,seval]
    rw[Zg (hno fun h=>inB_not.1 hp h.2.1)]
   | true =>
    have hp':=inB_iff.1 hp
    simp only[EVA,seval]
    refine Za (YH sig[j].kind_ 0 2) ?_
    simp only[EVA,seval,Zj,men]
    cases hk:inB sig[j].kind_ 0 2 with
    | false =>
     simp only[EVA,seval]
     rw[Zg (hno fun h=>inB_not.1 hk h.2.2)]
    | true =>
     have hk':=inB_iff.1 hk
     have hjl:j<=sig.length:=by omega
     simp only[hjl,EVA,seval]
     have hc:=Zlg (P:=Go.Proofs.Tryz.prog) Zi3 Zi2 ZdC (f:=fun d:TControl=>decide (d.name=sig[j].name)) (fe:=J8) (cs:=[Zh sig[j]]) (sig.take j) (by rw[List.length_take];omega) (fun d _ lvl S=>Zdh sig[j] d lvl S)
     rw[<-Znu] at hc
     refine⟨fun h=>h.elim,Nat.zero_le _,Za hc ?_⟩
     simp only[EVA,seval]
     cases ha:(sig.take j).any (fun d:TControl=>decide (d.name=sig[j].name)) with
     | true =>
      simp only[seval]
      obtain⟨d,hd,he⟩:=List.any_eq_true.1 ha
      obtain⟨q,hq,rfl⟩:=List.getElem_of_mem hd
      rw[List.length_take] at hq
      rw[Zg (fun hs:YJ sig=>(hs.1 j hja).2 q (by omega) (by simpa using he))]
     | false =>
      simp only[EVA,seval]
      refine⟨by rw[Zd];omega,Ze () hja rfl (fun i hi=>?_)⟩
      by_cases e:i=j
      ·subst e
       refine fun h=>⟨⟨hn',hp',hk'⟩,fun q hq=>?_⟩
       have:=(List.any_eq_false.1 ha) sig[q] (by
        rw[List.mem_take_iff_getElem]
        exact⟨q,by omega,rfl⟩)
       simpa using this
      ·exact hA i (by omega)
 ·have:j=sig.length:=by omega
  subst this
  have hall:∀ i,ZnA sig i:=fun i h=>hA i h h
  rw[ZL (p:=YJ sig) ⟨hall,by omega,by omega⟩]
theorem Yx(a b:List Int):rI (a++b)=rI a++rI b:=List.map_append
theorem ZqN:ZI Go.Proofs.Tryz.prog Y9 (Znt 1 none)=true:=by kernel_rfl
theorem ZqO:ZI Go.Proofs.Tryz.prog JA (ZqK Y9)=true:=by kernel_rfl
end Go.Fd

namespace Go.Fd
def Zm(s:Int->Int)(P:Prop):Prop:=∀ l:Int,0<=l->l<=1048576->s l<=l/\(0<=s l->P)
theorem ZvN:Zm (fun l=>l) True:=fun _ _ _=>⟨Int.le_refl _,fun _=>trivial⟩
theorem ZvO{s g:Int->Int}{P Q:Prop}(hs:Zm s P)(hg:Zm g Q):Zm (fun l=>Zld (s l) g) (P/\Q):=fun l h0 h1=>by
 have a:=hs l h0 h1
 by_cases h:s l<0
 ·simp only[Zld,if_pos h]
  exact⟨by omega,fun h=>by omega⟩
 ·simp only[Zld,if_neg h]
  have b:=hg (s l) (by omega) (by omega)
  exact⟨by omega,fun h2=>⟨a.2 (by omega),b.2 h2⟩⟩
theorem ZqP(n:Nat):Zm (fun l=>l-n) (n<=4294967296):=fun l h0 h1=>⟨by simp only;omega,fun h=>by simp only at h;omega⟩
theorem ZA1{α:Type}{f:α->Int->Int}{P:α->Prop}(hf:∀ x,Zm (f x) (P x)):∀(a:List α),Zm (fun l=>szF f a l) (∀ y∈a,P y)
 | []=>fun l _ _=>⟨Int.le_refl l,fun _ y hy=>by cases hy⟩
 | x::r=>fun l h0 h1=>by
  simp only[szF]
  have a:=hf x l h0 h1
  split
  ·exact⟨by omega,fun h=>by omega⟩
  ·have b:=ZA1 hf r (f x l) (by omega) (by omega)
   refine⟨by simp only at b;omega,fun h y hy=>?_⟩
   cases hy with
   | head=>exact a.2 (by omega)
   | tail _ hy=>exact b.2 h y hy
theorem ZAn{α:Type}{f:α->Int->Int}{P:α->Prop}(hf:∀ x,Zm (f x) (P x))(a:List α):Zm (fun l=>szL f a l) (a.length<=4294967296/\∀ y∈a,P y):=fun l h0 h1=>by
 simp only[szL]
 split
 ·exact⟨by omega,fun h=>by omega⟩
 ·have b:=ZA1 hf a (l-a.length) (by omega) (by omega)
  simp only at b
  exact⟨by omega,fun h=>⟨by omega,b.2 h⟩⟩
theorem ZqQ{s:Int->Int}{P Q:Prop}(h:Zm s P)(hq:P->Q):Zm s Q:=fun l h0 h1=>⟨(h l h0 h1).1,fun h2=>hq ((h l h0 h1).2 h2)⟩
theorem ZnB(x:TControl):Zm (fun l=>J4 x l) (Zr 4294967296 x):=by
 unfold J4
 exact ZqQ (ZvO (ZqP _) ZvN) (fun h=>by unfold Zr;simp only[and_true] at h ⊢;try exact h)
theorem ZlZ(x:TTermStep):Zm (fun l=>Yc x l) (ZA 4294967296 x):=by
 unfold Yc
 exact ZqQ (ZvO (ZAn (fun y=>(ZqP _)) _) ZvN) (fun h=>by unfold ZA;simp only[and_true] at h ⊢;try exact h)
theorem Zsv{a:Nat}(h:a<=4294967296):a<=9223372036854775807:=by omega
theorem Ds{x:TControl}(h:Zr 4294967296 x):Zr 9223372036854775807 x:=by
 exact(Zsv h)
end Go.Fd

namespace Go.Fd
set_option maxRecDepth 20000
theorem ZpO{P:Nat->Prop}{j:Nat}(h:∀ k,k<j->P k)(hj:P j):∀ k,k<j+1->P k:=fun k hk=>by
 by_cases e:k=j
 ·subst e;exact hj
 ·exact h k (by omega)
theorem ZnC{n a b:Int}:inB n a b=dc (a<=n/\n<=b):=by
 unfold inB
 rw[Xn,Bool.decide_and]
theorem ZnD:∀(x y:List UInt8),(!Op.bytesLess x y)=(Op.bytesLess y x || decide (x=y))
 | [],[]=>by simp [Op.bytesLess]
 | [],_::_=>by simp [Op.bytesLess]
 | _::_,[]=>by simp [Op.bytesLess]
 | a::x,b::y=>by
  have ih:=ZnD x y
  simp only[Op.bytesLess]
  by_cases h:a=b
  ·subst h
   have e:¬ a<a:=UInt8.lt_irrefl a
   simp [e,ih]
  ·by_cases h1:a<b
   ·have h2:¬ b<a:=fun h2=>UInt8.lt_irrefl a (UInt8.lt_trans h1 h2)
    have h3:¬ b=a:=fun e=>h e.symm
    simp [h,h1,h2,h3]
   ·have h2:b<a:=by
     rcases UInt8.lt_or_lt_of_ne h with h | h
     ·exact absurd h h1
     ·exact h
    simp [h,h1,h2]
def ltS(s t:ByteArray):Prop:=Op.bytesLess s.data.toList t.data.toList=true
theorem Zsw{s t:ByteArray}:(!Op.bytesLess s.data.toList t.data.toList) = !dc (ltS s t):=by
 unfold ltS
 rw[Xn,Bool.decide_eq_true]
theorem Zsx{s t:ByteArray}:(Op.bytesLess t.data.toList s.data.toList || decide (t=s)) = !dc (ltS s t):=by
 rw[<-Zsw,ZnD]
 congr 1
 have:t=s↔s.data.toList=t.data.toList:=⟨fun h=>by rw[h],fun h=>by
  cases s with | mk s=>cases t with | mk t=>exact congrArg ByteArray.mk (Array.toList_inj.1 h.symm)⟩
 simp only[this]
def ZvP(l:List ByteArray)(i:Nat):Prop:=∀ h:i<l.length,ZbG l[i]/\∀ _:0<i,ltS (l[i-1]'(by omega)) l[i]
def Vt(l:List ByteArray):Prop:=(∀ i,ZvP l i)/\l.length<=16
theorem Zfb(l:List ByteArray)(hl:l.length<=4294967296)(hb:∀ y∈l,y.size<=4294967296)(lvl:Nat)(S:Sto):Sem Go.Proofs.Tryz.prog Qj lvl [.tr (.sl (rS l))] S (iB (dc (Vt l))) S:=by
 refine Zb ZfR trivial ?_
 simp only[Zbg,EVA,seval]
 refine ZB (α:=Unit) l.length (fun j _=>[(3,iI j)]) (fun j _=>[]) (fun j _=>∀ k,k<j->ZvP l k) () (by simp only[EVA,seval]) (by (simp only[EVA,seval]) <;> rfl) (fun k hk=>absurd hk (Nat.not_lt_zero k)) ?_
 intro j _ hj hA
 simp only[List.length_map,EVA,seval]
 refine Zn (fun hlt=>?_) (fun hge=>?_)
 ·have hja:j<l.length:=by omega
  have ga:=W9 (c:=fun s=>[ts s]) hja
  have hno:¬ ZvP l j->dc (Vt l)=false:=fun h=>Zg fun g=>h (g.1 j)
  simp only[ga,EVA,seval,Zj,men]
  refine Za (Zdg l[j] (by have:=hb _ (List.getElem_mem hja);omega)) ?_
  cases h1:dc (ZbG l[j])
  ·simp only[EVA,seval]
   rw[hno fun h=>dc_not.1 h1 (h hja).1]
  by_cases q:0<j
  ·have e1:((j:Int)-1).toNat=j-1:=by omega
   have e2:(0:Int)<=j-1:=by omega
   have q5:(0:Int)<j:=by omega
   have gb:=W9 (c:=fun s=>[ts s]) (l:=l) (j:=j-1) (by omega)
   simp only[q5,e1,e2,ga,gb,EVA,seval]
   cases hc:Op.bytesLess (l[j-1]'(by omega)).data.toList l[j].data.toList
   ·simp only[seval]
    exact⟨by rw[Zd];omega,by rw[hno fun h=>by have:=(h hja).2 q;unfold ltS at this;rw[this] at hc;cases hc]⟩
   ·simp only[EVA,seval]
    exact⟨by rw[Zd];omega,by rw[Zd];omega,Ze () hja rfl (ZpO hA fun _=>⟨dc_iff.1 h1,fun _=>hc⟩)⟩
  ·have q5:¬ (0:Int)<j:=by omega
   simp only[q5,EVA,seval]
   exact⟨by rw[Zd];omega,Ze () hja rfl (ZpO hA fun _=>⟨dc_iff.1 h1,fun h=>absurd h q⟩)⟩
 ·have hj1:j=l.length:=by omega
  subst hj1
  rw[Vb (p:=Vt l) (q:=(l.length:Int)<=16) ⟨fun g=>by have:=g.2;omega,fun g=>⟨fun i h=>hA i h h,by omega⟩⟩,Xn]
theorem ZdN(l:List ByteArray)(hl:l.length<=4294967296)(hb:∀ y∈l,y.size<=4294967296)(lvl:Nat)(S:Sto):Sem Go.Proofs.Tryz.prog VD lvl [.tr (.sl (rS l))] S (iB (dc (Vt l))) S:=by
 refine Zb Ze0 trivial ?_
 simp only[Zah,List.length_map,EVA,seval]
 refine ZB (α:=Unit) l.length (fun j _=>[(7,iI j)]) (fun j _=>[]) (fun j _=>∀ k,k<j->ZvP l k) () (by simp only[EVA,seval]) (by (simp only[EVA,seval]) <;> rfl) (fun k hk=>absurd hk (Nat.not_lt_zero k)) ?_
 intro j _ hj hA
 simp only[List.length_map,EVA,seval]
 refine Zn (fun hlt=>?_) (fun hge=>?_)
 ·have hja:j<l.length:=by omega
  have ga:=W9 (c:=fun s=>[ts s]) hja
  have hno:¬ ZvP l j->dc (Vt l)=false:=fun h=>Zg fun g=>h (g.1 j)
  simp only[ga,EVA,seval,Zj,men]
  refine Za (UX l[j] (by have:=hb _ (List.getElem_mem hja);omega)) ?_
  cases h1:dc (ZbG l[j])
  ·simp only[EVA,seval]
   rw[hno fun h=>dc_not.1 h1 (h hja).1]
  by_cases q:0<j
  ·have e1:((j:Int)-1).toNat=j-1:=by omega
   have e2:(0:Int)<=j-1:=by omega
   have q5:(0:Int)<j:=by omega
   have gb:=W9 (c:=fun s=>[ts s]) (l:=l) (j:=j-1) (by omega)
   simp only[q5,e1,e2,gb,EVA,seval]
   rw[Zsx]
   cases hc:dc (ltS (l[j-1]'(by omega)) l[j])
   ·simp only[EVA,seval]
    exact⟨by rw[Zd];omega,by rw[hno fun h=>dc_not.1 hc ((h hja).2 q)]⟩
   ·simp only[EVA,seval]
    exact⟨by rw[Zd];omega,by rw[Zd];omega,Ze () hja rfl (ZpO hA fun _=>⟨dc_iff.1 h1,fun _=>dc_iff.1 hc⟩)⟩
  ·have q5:¬ (0:Int)<j:=by omega
   simp only[q5,EVA,seval]
   exact⟨by rw[Zd];omega,Ze () hja rfl (ZpO hA fun _=>⟨dc_iff.1 h1,fun h=>absurd h q⟩)⟩
 ·have hj1:j=l.length:=by omega
  subst hj1
  rw[Vb (p:=Vt l) (q:=(l.length:Int)<=16) ⟨fun g=>by have:=g.2;omega,fun g=>⟨fun i h=>hA i h h,by omega⟩⟩,Xn]
def ZR(b:TBigraph)(l:Int):Prop:=0<=l/\l<=b.edges+b.outer.length-1
theorem Zgv(b:TBigraph)(l:Int)(he:0<=b.edges/\b.edges<=8)(ho:b.outer.length<=4294967296)(lvl:Nat)(S:Sto):Sem Go.Proofs.Tryz.prog Xc lvl [.ag ((Zc b).map .tr),iI l] S (iB (dc (ZR b l))) S:=by
 refine Zb Zhy trivial ?_
 simp only[Zcg,Zc,List.length_map,EVA,seval,Zj,men]
 refine⟨by rw[Zd];omega,by rw[Zd];omega,?_⟩
 refine Za (Qn l 0 (b.edges+b.outer.length-1)) ?_
 simp only[EVA,seval]
 rw[ZnC]
 rfl
theorem Zgw(b:TBigraph)(l:Int)(he:0<=b.edges/\b.edges<=8)(ho:b.outer.length<=4294967296)(lvl:Nat)(S:Sto):Sem Go.Proofs.Tryz.prog JR lvl [.ag ((Zc b).map .tr),iI l] S (iB (dc (ZR b l))) S:=by
 refine Zb Zai trivial ?_
 simp only[XY,Zc,List.length_map,EVA,seval,Zj,men]
 refine⟨by rw[Zd];omega,by rw[Zd];omega,?_⟩
 refine Za (YH l 0 (b.edges+b.outer.length-1)) ?_
 simp only[EVA,seval]
 rw[ZnC]
 rfl
def Qf(sig:List TControl)(c:Int):Int:=((sig[c.toNat]?).map TControl.kind_).getD 0
def YT(sig:List TControl)(c:Int):Int:=((sig[c.toNat]?).map TControl.ports).getD 0
def Zf5(b:TBigraph)(p:Int):Int:=((b.nodes[p.toNat]?).map TNode.control).getD 0
def Ua(sig:List TControl)(b:TBigraph)(p below:Int):Prop:=(p<0/\-b.roots<=p)\/(0<=p/\p<below/\¬ Qf sig (Zf5 b p)=2)
def Zi5(sig:List TControl)(b:TBigraph)(n:Nat):Prop:=∀ i,i<n->∀ h:i<b.nodes.length,0<=b.nodes[i].control/\b.nodes[i].control<=(sig.length:Int)-1
theorem Zfc(sig:List TControl)(b:TBigraph)(p:Int)(k:Nat)(hp:Xt .i64 p)(hr:0<=b.roots/\b.roots<=4)(hk:k<=b.nodes.length)(hc:Zi5 sig b k)(lvl:Nat)(S:Sto):Sem Go.Proofs.Tryz.prog Qk lvl [.tr (.sl (sig.map Zh)),.ag ((Zc b).map .tr),iI p,iI k] S (iB (dc (Ua sig b p k))) S:=by
 rw[Zd] at hp
 refine Zb ZfT trivial ?_
 simp only[Zbi,Zc,EVA,seval,Zj,men]
 refine Zn (fun hneg=>?_) (fun hpos=>?_)
 ·refine⟨by rw[Zd];omega,by rw[Zd];omega,?_⟩
  refine Za (Qn (-1-p) 0 (b.roots-1)) ?_
  simp only[EVA,seval]
  have hiff:(0 <= -1-p/\-1-p<=b.roots-1)↔Ua sig b p k:=⟨fun h=>.inl (by omega),fun h=>by rcases h with h | h <;> omega⟩
  rw[ZnC,Vb hiff]
 ·refine Zn (fun hb=>?_) (fun hb=>?_)
  ·obtain⟨q,rfl⟩:∃ q:Nat,p=q:=⟨p.toNat,by omega⟩
   have hq:q<b.nodes.length:=by omega
   have ga:=W9 (c:=Z9) hq
   obtain⟨m1,m2⟩:=hc q (by omega) hq
   obtain⟨m,hm⟩:∃ m:Nat,b.nodes[q].control=m:=⟨b.nodes[q].control.toNat,by omega⟩
   have hms:m<sig.length:=by omega
   have gs:=W9 (c:=Zh) hms
   simp only[hb,ga,gs,Z9,Zh,hm,Int.toNat_natCast,EVA,seval]
   have e:Qf sig (Zf5 b q)=sig[m].kind_:=by simp [Qf,Zf5,hq,hm,hms]
   have hiff:Ua sig b q k ↔ ¬ sig[m].kind_=2:=by
    constructor
    ·intro h
     rcases h with h | h
     ·omega
     ·rw[<-e];exact h.2.2
    ·intro h
     exact .inr ⟨by omega,hb,by rw[e];exact h⟩
   rw[Vb hiff,Xn]
  ·rw[Zg fun h:Ua sig b p k=>by rcases h with h | h <;> omega]
theorem ZdO(sig:List TControl)(b:TBigraph)(p:Int)(k:Nat)(hr:0<=b.roots/\b.roots<=4)(hk:k<=b.nodes.length)(hc:Zi5 sig b k)(lvl:Nat)(S:Sto):Sem Go.Proofs.Tryz.prog JE lvl [.ag ((Zc b).map .tr),.tr (.sl (sig.map Zh)),iI p,iI k] S (iB (dc (Ua sig b p k))) S:=by
 refine Zb Do trivial ?_
 simp only[Xj,Zc,EVA,seval]
 refine Zn (fun hneg=>?_) (fun hpos=>?_)
 ·refine⟨by rw[Zd];omega,?_⟩
  have hiff:Ua sig b p k ↔ -b.roots<=p:=⟨fun h=>by rcases h with h | h <;> omega,fun h=>.inl (by omega)⟩
  rw[Vb hiff,Xn]
 ·refine Zn (fun hb=>?_) (fun hb=>?_)
  ·obtain⟨q,rfl⟩:∃ q:Nat,p=q:=⟨p.toNat,by omega⟩
   have hq:q<b.nodes.length:=by omega
   have ga:=W9 (c:=Z9) hq
   obtain⟨m1,m2⟩:=hc q (by omega) hq
   obtain⟨m,hm⟩:∃ m:Nat,b.nodes[q].control=m:=⟨b.nodes[q].control.toNat,by omega⟩
   have hms:m<sig.length:=by omega
   have gs:=W9 (c:=Zh) hms
   simp only[hb,ga,gs,Z9,Zh,hm,Int.toNat_natCast,EVA,seval]
   have e:Qf sig (Zf5 b q)=sig[m].kind_:=by simp [Qf,Zf5,hq,hm,hms]
   have hiff:Ua sig b q k ↔ ¬ sig[m].kind_=2:=by
    constructor
    ·intro h
     rcases h with h | h
     ·omega
     ·rw[<-e];exact h.2.2
    ·intro h
     exact .inr ⟨by omega,hb,by rw[e];exact h⟩
   rw[Vb hiff,Xn]
  ·rw[Zg fun h:Ua sig b p k=>by rcases h with h | h <;> omega]
structure nodeOK (sig:List TControl) (b:TBigraph) (x:TNode) (i:Nat):Prop where
 ctl:0<=x.control/\x.control<=(sig.length:Int)-1
 par:Ua sig b x.parent i
 ports:(x.links.length:Int)=YT sig x.control
 links:∀ l∈x.links,ZR b l
theorem Zl0(sig:List TControl)(b:TBigraph)(i:Nat)(hi:i<b.nodes.length)(hn:sig.length<=4294967296)(hl:b.nodes[i].links.length<=4294967296)(hp:Xt .i64 b.nodes[i].parent)(hr:0<=b.roots/\b.roots<=4)(he:0<=b.edges/\b.edges<=8)(ho:b.outer.length<=4294967296)(hc:Zi5 sig b i)(lvl:Nat)(S:Sto):Sem Go.Proofs.Tryz.prog WO lvl [.tr (.sl (sig.map Zh)),.ag ((Zc b).map .tr),iI i] S (iB (dc (nodeOK sig b b.nodes[i] i))) S:=by
 refine Zb Zhx trivial ?_
 have ga:=W9 (c:=Z9) hi
 simp only[Zcf,Zc,List.length_map,ga,Z9,EVA,seval,Zj,men]
 refine⟨by rw[Zd];omega,?_⟩
 refine Za (Qn b.nodes[i].control 0 ((sig.length:Int)-1)) ?_
 cases h1:inB b.nodes[i].control 0 ((sig.length:Int)-1)
 ·simp only[EVA,seval]
  rw[Zg fun h:nodeOK sig b b.nodes[i] i=>inB_not.1 h1 h.ctl]
 have r1:=inB_iff.1 h1
 simp only[EVA,seval,Zj,men]
 refine Za (Zfc sig b b.nodes[i].parent i hp hr (by omega) hc) ?_
 cases h2:dc (Ua sig b b.nodes[i].parent i)
 ·simp only[EVA,seval]
  rw[Zg fun h:nodeOK sig b b.nodes[i] i=>dc_not.1 h2 h.par]
 obtain⟨m,hm⟩:∃ m:Nat,b.nodes[i].control=m:=⟨b.nodes[i].control.toNat,by omega⟩
 have hms:m<sig.length:=by omega
 have gs:=W9 (c:=Zh) hms
 have e:YT sig b.nodes[i].control=sig[m].ports:=by simp [YT,hm,hms]
 simp only[hm,gs,Zh,List.length_map,EVA,seval]
 refine Zn (fun hne=>?_) (fun heq=>?_)
 ·rw[Zg fun h:nodeOK sig b b.nodes[i] i=>by have:=h.ports;rw[e] at this;exact hne this]
 refine ZB (α:=Unit) b.nodes[i].links.length (fun j _=>[(8,iI j)]) (fun j _=>[]) (fun j _=>∀ k,k<j->ZR b (g0 b.nodes[i].links k)) () (by simp only[EVA,seval]) (by (simp only[EVA,seval]) <;> rfl) (fun k hk=>absurd hk (Nat.not_lt_zero k)) ?_
 intro j _ hj hA
 simp only[List.length_map,EVA,seval]
 refine Zn (fun hlt=>?_) (fun hge=>?_)
 ·have hja:j<b.nodes[i].links.length:=by omega
  have gl:=VL hja
  simp only[gl,EVA,seval,Zj,men]
  refine Za (Zgv b (g0 b.nodes[i].links j) he ho) ?_
  cases hc:dc (ZR b (g0 b.nodes[i].links j))
  ·simp only[EVA,seval]
   rw[Zg fun h:nodeOK sig b b.nodes[i] i=>dc_not.1 hc (h.links _ (by simp [hja]))]
  ·simp only[EVA,seval]
   exact⟨by rw[Zd];omega,Ze () hja rfl (ZpO hA (dc_iff.1 hc))⟩
 ·have hj1:j=b.nodes[i].links.length:=by omega
  subst hj1
  have:nodeOK sig b b.nodes[i] i:=⟨r1,dc_iff.1 h2,by rw[e];omega,fun l hl=>by
   obtain⟨k,hk,rfl⟩:=List.getElem_of_mem hl
   have:=hA k hk
   simpa [hk] using this⟩
  rw[ZL this]
def inn(b:TBigraph):List ByteArray:=b.inner.map TWire.name
theorem Zgx(a b:List ByteArray):rS (a++b)=rS a++rS b:=List.map_append
theorem Zj9(b:TBigraph)(hn:b.inner.length<=4294967296)(lvl:Nat)(S:Sto):Sem Go.Proofs.Tryz.prog Wc lvl [.ag ((Zc b).map .tr)] S (.ow 1 (rS (inn b)) true) S:=by
 refine Zb ZfS trivial ?_
 simp only[Zbh,Zc,EVA,seval]
 refine ZB (α:=Unit) b.inner.length (fun j _=>[(3,.hd (lvl,160) [] 0 j none j),(4,iI j)]) (fun j _=>[(160,.ar 1 (rS ((inn b).take j)) true j 0)]) (fun _ _=>True) () (by simp only[EVA,seval]) (by (simp only[EVA,seval]) <;> rfl) trivial ?_
 intro j _ hj _
 have hil:(inn b).length=b.inner.length:=by simp [inn]
 simp only[List.length_map,EVA,seval]
 refine Zn (fun hlt=>?_) (fun hge=>?_)
 ·have hja:j<b.inner.length:=by omega
  have ga:=W9 (c:=Jc) hja
  have hlN:(rS ((inn b).take j)).length=j:=by rw[List.length_map,List.length_take];omega
  simp only[ga,Jc,hlN,EVA,seval]
  have hstep:rS ((inn b).take j)++[[ts b.inner[j].name]]=rS ((inn b).take (j+1)):=by
   rw[List.take_succ_eq_append_getElem (by omega),Zgx]
   simp [inn]
  refine⟨by omega,by rw[Zd];omega,Ze () hja ?_ trivial⟩
  rw[<-hstep]
  rfl
 ·have:j=b.inner.length:=by omega
  subst this
  rw[List.take_of_length_le (by omega)]
  exact⟨hil.symm,rfl⟩
end Go.Fd
