/-
  The annotated codes of the functions, printed by a program of mine (gen.py), and the check that they belong to the program.
-/
import Derived.Test.YtfgceefkblbbjaaGreatDoorT07
import Derived.KernelRfl
import Derived.Test.YtfgceefkblbbjaaGreatDoorProg
set_option linter.all false
namespace Go.Fd
def WJ:F2 :=
 { nt:=58,res:=[.t 4 [0]],body :=
  (.sq (rg [om 4 (.k (.bool false))])
 (.sq (rg [om 5 (i6 1048576)])
 (.sq (rg [om 12 (.t 0),
 om 13 (.t 5),
 oo 14 (.ca .pure false (.f Ye) [.t 12,.t 13]),
 om 5 (.t 14)])
 (.sq (.sq (rg [om 15 (.t 5),
 oo 16 (.bi .lss 0 (.t 15) (i6 0))])
 (.cd (.t 16) (.sq (rg [om 4 (.k (.bool true))])
 (.rt))
 (.sk)))
 (.sq (rg [om 17 (.t 1),
 om 18 (.t 5),
 oo 19 (.ca .pure false (.f JX) [.t 17,.t 18]),
 om 5 (.t 19)])
 (.sq (.sq (rg [om 20 (.t 5),
 oo 21 (.bi .lss 0 (.t 20) (i6 0))])
 (.cd (.t 21) (.sq (rg [om 4 (.k (.bool true))])
 (.rt))
 (.sk)))
 (.sq (rg [om 23 (.t 0),
 oo 24 (.ca .pure false (.f ZA) [.t 23]),
 om 25 (.t 1),
 oo 26 (.ca .pure false (.f Zw) [.t 25]),
 oo 27 (.ca .pure false (.f W1) [.t 24,.t 26]),
 om 22 (.t 27),
 oo 28 (.ex 0 (.t 22)),
 oo 29 (.ex 1 (.t 22)),
 om 6 (.t 28),
 om 7 (.t 29)])
 (.sq (rg [om 30 (.t 0),
 oo 31 (.ca .pure false (.f ZA) [.t 30]),
 om 8 (.t 31)])
 (.sq (rg [om 32 (.t 1),
 oo 33 (.ca .pure false (.f Zw) [.t 32]),
 om 9 (.t 33)])
 (.sq (rg [om 35 (.t 8),
 om 36 (.t 9),
 oo 37 (.ca .pure false (.f W2) [.t 35,.t 36]),
 om 34 (.t 37),
 oo 38 (.ex 0 (.t 34)),
 oo 39 (.ex 1 (.t 34)),
 om 10 (.t 38),
 om 11 (.t 39)])
 (.sq (.sq (rg [om 40 (.t 10),
 om 41 (.t 6),
 oo 42 (.bi .neq 2 (.t 40) (.t 41)),
 om 43 (.t 42),
 og 44 43 false (.mv (.t 11) none),
 og 45 43 false (.mv (.t 7) none),
 og 46 43 false (.bi .neq 2 (.t 44) (.t 45)),
 oo 47 (.pk (.t 43) (.k (.bool true)) (.t 46))])
 (.cd (.t 47) (.sq (rg [om 4 (.k (.bool false))])
 (.rt))
 (.sk)))
 (.sq (.sq (rg [om 48 (.t 8),
 om 49 (.t 0),
 oo 50 (.ca .pure false (.f ZA) [.t 49]),
 oo 51 (.ca .pure false (.f Yf) [.t 48,.t 50]),
 oo 52 (.nt (.t 51))])
 (.cd (.t 52) (.sq (rg [om 4 (.k (.bool false))])
 (.rt))
 (.sk)))
 (.sq (.sq (rg [om 53 (.t 9),
 om 54 (.t 1),
 oo 55 (.ca .pure false (.f Zw) [.t 54]),
 oo 56 (.ca .pure false (.f JY) [.t 53,.t 55]),
 oo 57 (.nt (.t 56))])
 (.cd (.t 57) (.sq (rg [om 4 (.k (.bool false))])
 (.rt))
 (.sk)))
 (.sq (rg [om 4 (.k (.bool true))])
 (.rt))))))))))))))) }
theorem ZbS:ZF Go.Proofs.Tryz.prog XQ WJ=true:=by kernel_rfl
def XM:F2 :=
 { nt:=58,res:=[.t 4 [0]],body :=
  (.sq (rg [om 4 (.k (.bool false))])
 (.sq (rg [om 5 (i6 1048576)])
 (.sq (rg [om 12 (.t 0),
 om 13 (.t 5),
 oo 14 (.ca .pure false (.f Ye) [.t 12,.t 13]),
 om 5 (.t 14)])
 (.sq (.sq (rg [om 15 (.t 5),
 oo 16 (.bi .lss 0 (.t 15) (i6 0))])
 (.cd (.t 16) (.sq (rg [om 4 (.k (.bool true))])
 (.rt))
 (.sk)))
 (.sq (rg [om 17 (.t 1),
 om 18 (.t 5),
 oo 19 (.ca .pure false (.f JX) [.t 17,.t 18]),
 om 5 (.t 19)])
 (.sq (.sq (rg [om 20 (.t 5),
 oo 21 (.bi .lss 0 (.t 20) (i6 0))])
 (.cd (.t 21) (.sq (rg [om 4 (.k (.bool true))])
 (.rt))
 (.sk)))
 (.sq (rg [om 23 (.t 0),
 oo 24 (.ca .pure false (.f ZA) [.t 23]),
 om 25 (.t 1),
 oo 26 (.ca .pure false (.f Zw) [.t 25]),
 oo 27 (.ca .pure false (.f Xj) [.t 24,.t 26]),
 om 22 (.t 27),
 oo 28 (.ex 0 (.t 22)),
 oo 29 (.ex 1 (.t 22)),
 om 6 (.t 28),
 om 7 (.t 29)])
 (.sq (rg [om 30 (.t 0),
 oo 31 (.ca .pure false (.f ZA) [.t 30]),
 om 8 (.t 31)])
 (.sq (rg [om 32 (.t 1),
 oo 33 (.ca .pure false (.f Zw) [.t 32]),
 om 9 (.t 33)])
 (.sq (rg [om 35 (.t 8),
 om 36 (.t 9),
 oo 37 (.ca .pure false (.f Xk) [.t 35,.t 36]),
 om 34 (.t 37),
 oo 38 (.ex 0 (.t 34)),
 oo 39 (.ex 1 (.t 34)),
 om 10 (.t 38),
 om 11 (.t 39)])
 (.sq (.sq (rg [om 40 (.t 10),
 om 41 (.t 6),
 oo 42 (.bi .neq 0 (.t 40) (.t 41)),
 om 43 (.t 42),
 og 44 43 false (.mv (.t 11) none),
 og 45 43 false (.mv (.t 7) none),
 og 46 43 false (.bi .neq 2 (.t 44) (.t 45)),
 oo 47 (.pk (.t 43) (.k (.bool true)) (.t 46))])
 (.cd (.t 47) (.sq (rg [om 4 (.k (.bool false))])
 (.rt))
 (.sk)))
 (.sq (.sq (rg [om 48 (.t 8),
 om 49 (.t 0),
 oo 50 (.ca .pure false (.f ZA) [.t 49]),
 oo 51 (.ca .pure false (.f Yf) [.t 48,.t 50]),
 oo 52 (.nt (.t 51))])
 (.cd (.t 52) (.sq (rg [om 4 (.k (.bool false))])
 (.rt))
 (.sk)))
 (.sq (.sq (rg [om 53 (.t 9),
 om 54 (.t 1),
 oo 55 (.ca .pure false (.f Zw) [.t 54]),
 oo 56 (.ca .pure false (.f JY) [.t 53,.t 55]),
 oo 57 (.nt (.t 56))])
 (.cd (.t 57) (.sq (rg [om 4 (.k (.bool false))])
 (.rt))
 (.sk)))
 (.sq (rg [om 4 (.k (.bool true))])
 (.rt))))))))))))))) }
theorem Zak:ZF Go.Proofs.Tryz.prog Qq XM=true:=by kernel_rfl
def XN:F2 :=
 { nt:=119,res:=[.t 4 [0]],body :=
  (.sq (rg [om 4 (.k (.bool false))])
 (.sq (rg [om 5 (i6 1048576)])
 (.sq (rg [om 17 (.t 0),
 om 18 (.t 5),
 oo 19 (.ca .pure false (.f Ye) [.t 17,.t 18]),
 om 5 (.t 19)])
 (.sq (.sq (rg [om 20 (.t 5),
 oo 21 (.bi .lss 0 (.t 20) (i6 0))])
 (.cd (.t 21) (.sq (rg [om 4 (.k (.bool true))])
 (.rt))
 (.sk)))
 (.sq (rg [om 22 (.t 1),
 om 23 (.t 5),
 oo 24 (.ca .pure false (.f JX) [.t 22,.t 23]),
 om 5 (.t 24)])
 (.sq (.sq (rg [om 25 (.t 5),
 oo 26 (.bi .lss 0 (.t 25) (i6 0))])
 (.cd (.t 26) (.sq (rg [om 4 (.k (.bool true))])
 (.rt))
 (.sk)))
 (.sq (rg [om 28 (.t 0),
 oo 29 (.ca .pure false (.f ZA) [.t 28]),
 om 30 (.t 1),
 oo 31 (.ca .pure false (.f Zw) [.t 30]),
 oo 32 (.ca .pure false (.f Xm) [.t 29,.t 31]),
 om 27 (.t 32),
 oo 33 (.ex 0 (.t 27)),
 oo 34 (.ex 1 (.t 27)),
 oo 6 (.al [.int .i64 0,.slice none 0 0,.slice none 0 0,.int .i64 0,.slice none 0 0,.slice none 0 0] []),
 on1 (.st 6 (.t 6) (.t 33)),
 om 7 (.t 34)])
 (.sq (rg [om 35 (.t 0),
 oo 36 (.ca .pure true (.f ZA) [.t 35]),
 om 8 (.t 36)])
 (.sq (rg [om 37 (.t 1),
 oo 38 (.ca .pure true (.f Zw) [.t 37]),
 om 9 (.t 38)])
 (.sq (rg [om 40 (.t 8),
 om 41 (.t 9),
 oo 42 (.ca .pure true (.f Vo) [.t 40,.t 41]),
 om 39 (.t 42),
 oo 43 (.ex 0 (.t 39)),
 oo 44 (.ex 1 (.t 39)),
 oo 10 (.al [.int .i64 0,.slice none 0 0,.slice none 0 0,.int .i64 0,.slice none 0 0,.slice none 0 0] []),
 on1 (.st 6 (.t 10) (.t 43)),
 om 11 (.t 44)])
 (.sq (.sq (rg [oo 45 (.ld (some 6) (.t 10)),
 oo 46 (.ld (some 6) (.t 6)),
 oo 47 (.ca .pure false (.f Yu) [.t 45,.t 46]),
 oo 48 (.nt (.t 47)),
 om 49 (.t 48),
 og 50 49 false (.mv (.t 11) none),
 og 51 49 false (.mv (.t 7) none),
 og 52 49 false (.bi .neq 2 (.t 50) (.t 51)),
 oo 53 (.pk (.t 49) (.k (.bool true)) (.t 52))])
 (.cd (.t 53) (.sq (rg [om 4 (.k (.bool false))])
 (.rt))
 (.sk)))
 (.sq (.sq (rg [om 54 (.t 8),
 om 55 (.t 0),
 oo 56 (.ca .pure false (.f ZA) [.t 55]),
 oo 57 (.ca .pure false (.f Yf) [.t 54,.t 56]),
 oo 58 (.nt (.t 57))])
 (.cd (.t 58) (.sq (rg [om 4 (.k (.bool false))])
 (.rt))
 (.sk)))
 (.sq (.sq (rg [om 59 (.t 9),
 om 60 (.t 1),
 oo 61 (.ca .pure false (.f Zw) [.t 60]),
 oo 62 (.ca .pure false (.f JY) [.t 59,.t 61]),
 oo 63 (.nt (.t 62))])
 (.cd (.t 63) (.sq (rg [om 4 (.k (.bool false))])
 (.rt))
 (.sk)))
 (.sq (rg [om 12 (i6 1)])
 (.sq (rg [om 64 (.t 8),
 om 65 (.t 12),
 oo 66 (.ca .any true (.f VA) [.t 64,.t 65]),
 om 12 (.t 66)])
 (.sq (rg [om 67 (.t 9),
 om 68 (.t 12),
 oo 69 (.ca .any true (.f Vk) [.t 67,.t 68]),
 om 12 (.t 69)])
 (.sq (.sq (rg [om 70 (.t 12),
 oo 71 (.bi .lss 0 (.t 70) (i6 0)),
 om 72 (.t 71),
 og 73 72 false (.ld (some 6) (.t 10)),
 og 74 72 false (.ld (some 6) (.t 6)),
 og 75 72 false (.ca .pure false (.f Yu) [.t 73,.t 74]),
 og 76 72 false (.nt (.t 75)),
 oo 77 (.pk (.t 72) (.k (.bool true)) (.t 76)),
 om 78 (.t 77),
 og 79 78 false (.mv (.t 11) none),
 og 80 78 false (.mv (.t 7) none),
 og 81 78 false (.bi .neq 2 (.t 79) (.t 80)),
 oo 82 (.pk (.t 78) (.k (.bool true)) (.t 81))])
 (.cd (.t 82) (.sq (rg [om 4 (.k (.bool false))])
 (.rt))
 (.sk)))
 (.sq (rg [om 13 (i6 1)])
 (.sq (rg [oo 83 (.ld (some 6) (.t 10)),
 om 84 (.t 13),
 oo 85 (.ca .any true (.f YM) [.t 83,.t 84]),
 om 13 (.t 85)])
 (.sq (rg [om 14 (i6 1)])
 (.sq (rg [oo 86 (.ld (some 6) (.t 10)),
 om 87 (.t 14),
 oo 88 (.ca .pure false (.f YN) [.t 86,.t 87]),
 om 14 (.t 88)])
 (.sq (.sq (rg [om 89 (.t 14),
 oo 90 (.bi .lss 0 (.t 89) (i6 0))])
 (.cd (.t 90) (.sq (rg [om 4 (.k (.bool false))])
 (.rt))
 (.sk)))
 (.sq (.sq (rg [om 91 (.t 14),
 om 92 (.t 13),
 oo 93 (.bi .neq 0 (.t 91) (.t 92))])
 (.cd (.t 93) (.sq (rg [om 4 (.k (.bool false))])
 (.rt))
 (.sk)))
 (.sq (rg [om 95 (.t 0),
 oo 96 (.ca .pure false (.f ZA) [.t 95]),
 om 97 (.t 1),
 oo 98 (.ca .pure false (.f Zw) [.t 97]),
 oo 99 (.ca .pure false (.f Vo) [.t 96,.t 98]),
 om 94 (.t 99),
 oo 100 (.ex 0 (.t 94)),
 oo 101 (.ex 1 (.t 94)),
 oo 15 (.al [.int .i64 0,.slice none 0 0,.slice none 0 0,.int .i64 0,.slice none 0 0,.slice none 0 0] []),
 on1 (.st 6 (.t 15) (.t 100)),
 om 16 (.t 101)])
 (.sq (.sq (rg [oo 102 (.ld (some 6) (.t 15)),
 oo 103 (.ld (some 6) (.t 6)),
 oo 104 (.ca .pure false (.f Yu) [.t 102,.t 103]),
 oo 105 (.nt (.t 104)),
 om 106 (.t 105),
 og 107 106 false (.mv (.t 16) none),
 og 108 106 false (.mv (.t 7) none),
 og 109 106 false (.bi .neq 2 (.t 107) (.t 108)),
 oo 110 (.pk (.t 106) (.k (.bool true)) (.t 109))])
 (.cd (.t 110) (.sq (rg [om 4 (.k (.bool false))])
 (.rt))
 (.sk)))
 (.sq (rg [om 14 (i6 1)])
 (.sq (rg [oo 111 (.ld (some 6) (.t 10)),
 om 112 (.t 14),
 oo 113 (.ca .pure false (.f YN) [.t 111,.t 112]),
 om 14 (.t 113)])
 (.sq (.sq (rg [om 114 (.t 14),
 oo 115 (.bi .lss 0 (.t 114) (i6 0))])
 (.cd (.t 115) (.sq (rg [om 4 (.k (.bool false))])
 (.rt))
 (.sk)))
 (.sq (.sq (rg [om 116 (.t 14),
 om 117 (.t 13),
 oo 118 (.bi .neq 0 (.t 116) (.t 117))])
 (.cd (.t 118) (.sq (rg [om 4 (.k (.bool false))])
 (.rt))
 (.sk)))
 (.sq (rg [om 4 (.k (.bool true))])
 (.rt))))))))))))))))))))))))))))))) }
theorem Zal:ZF Go.Proofs.Tryz.prog Qr XN=true:=by kernel_rfl
def Uw:F2 :=
 { nt:=35,res:=[.t 4 [0]],body :=
  (.sq (rg [om 4 (i6 0)])
 (.sq (.sq (rg [om 5 (i6 0)])
 (.bl 0 (.lp [0,1,5] [] (.sq (.sq (rg [om 6 (.t 5),
 om 7 (.t 0),
 oo 8 (.ln (.t 7)),
 oo 9 (.bi .lss 0 (.t 6) (.t 8))])
 (.cd (.t 9) (.sk)
 (.ex 0)))
 (.sq (.bl 1 (.sq (rg [om 12 (.t 0),
 om 13 (.t 5),
 om 14 (.t 1),
 oo 15 (.ca .pure false (.f JE) [.t 14]),
 oo 16 (.ia 3 (.t 12) (.t 13)),
 oo 17 (.fa 0 (.t 16)),
 on1 (.st 1 (.t 17) (.t 15))])
 (.sq (rg [om 18 (.t 1),
 oo 19 (.bi .add 0 (.t 18) (i6 1)),
 om 1 (.t 19)])
 (.sq (rg [om 20 (.t 0),
 om 21 (.t 5),
 om 22 (.t 1),
 oo 23 (.ia 3 (.t 20) (.t 21)),
 oo 24 (.fa 1 (.t 23)),
 on1 (.st 1 (.t 24) (.t 22))])
 (.sq (rg [om 25 (.t 1),
 oo 26 (.bi .add 0 (.t 25) (i6 1)),
 om 1 (.t 26)])
 (.sq (rg [om 27 (.t 0),
 om 28 (.t 5),
 om 29 (.t 1),
 oo 30 (.ia 3 (.t 27) (.t 28)),
 oo 31 (.fa 2 (.t 30)),
 on1 (.st 1 (.t 31) (.t 29))])
 (rg [om 32 (.t 1),
 oo 33 (.bi .add 0 (.t 32) (i6 1)),
 om 1 (.t 33)])))))))
 (rg [om 10 (.t 5),
 oo 11 (.bi .add 0 (.t 10) (i6 1)),
 om 5 (.t 11)]))))))
 (.sq (rg [om 34 (.t 1),
 om 4 (.t 34)])
 (.rt)))) }
theorem Zcz:ZF Go.Proofs.Tryz.prog VA Uw=true:=by kernel_rfl
def WK:F2 :=
 { nt:=41,res:=[.t 4 [0]],body :=
  (.sq (rg [om 4 (i6 0)])
 (.sq (.sq (rg [om 5 (i6 0)])
 (.bl 0 (.lp [0,1,5] [] (.sq (.sq (rg [om 6 (.t 5),
 om 7 (.t 0),
 oo 8 (.ln (.t 7)),
 oo 9 (.bi .lss 0 (.t 6) (.t 8))])
 (.cd (.t 9) (.sk)
 (.ex 0)))
 (.sq (.bl 1 (.sq (rg [om 12 (.t 0),
 om 13 (.t 5),
 om 14 (.t 1),
 oo 15 (.ia 4 (.t 12) (.t 13)),
 oo 16 (.fa 0 (.t 15)),
 on1 (.st 1 (.t 16) (.t 14))])
 (.sq (rg [om 17 (.t 1),
 oo 18 (.bi .add 0 (.t 17) (i6 1)),
 om 1 (.t 18)])
 (.sq (rg [om 19 (.t 0),
 om 20 (.t 5),
 om 21 (.t 1),
 oo 22 (.ia 4 (.t 19) (.t 20)),
 oo 23 (.fa 1 (.t 22)),
 on1 (.st 1 (.t 23) (.t 21))])
 (.sq (rg [om 24 (.t 1),
 oo 25 (.bi .add 0 (.t 24) (i6 1)),
 om 1 (.t 25)])
 (.sq (rg [om 26 (.t 0),
 om 27 (.t 5),
 om 28 (.t 1),
 oo 29 (.ia 4 (.t 26) (.t 27)),
 oo 30 (.fa 2 (.t 29)),
 on1 (.st 1 (.t 30) (.t 28))])
 (.sq (rg [om 31 (.t 1),
 oo 32 (.bi .add 0 (.t 31) (i6 1)),
 om 1 (.t 32)])
 (rg [om 33 (.t 0),
 om 34 (.t 5),
 oo 35 (.ia 4 (.t 33) (.t 34)),
 oo 36 (.fa 3 (.t 35)),
 oo 37 (.ld none (.t 36)),
 om 38 (.t 1),
 oo 39 (.ca .any true (.f YO) [.t 37,.t 38]),
 om 1 (.t 39)]))))))))
 (rg [om 10 (.t 5),
 oo 11 (.bi .add 0 (.t 10) (i6 1)),
 om 5 (.t 11)]))))))
 (.sq (rg [om 40 (.t 1),
 om 4 (.t 40)])
 (.rt)))) }
theorem ZbT:ZF Go.Proofs.Tryz.prog Vk WK=true:=by kernel_rfl
def Zbn:F2 :=
 { nt:=19,res:=[.t 4 [0]],body :=
  (.sq (rg [om 4 (i6 0)])
 (.sq (.sq (rg [om 5 (i6 0)])
 (.bl 0 (.lp [0,1,5] [] (.sq (.sq (rg [om 6 (.t 5),
 om 7 (.t 0),
 oo 8 (.ln (.t 7)),
 oo 9 (.bi .lss 0 (.t 6) (.t 8))])
 (.cd (.t 9) (.sk)
 (.ex 0)))
 (.sq (.bl 1 (.sq (rg [om 12 (.t 0),
 om 13 (.t 5),
 om 14 (.t 1),
 oo 15 (.ia 1 (.t 12) (.t 13)),
 on1 (.st 1 (.t 15) (.t 14))])
 (rg [om 16 (.t 1),
 oo 17 (.bi .add 0 (.t 16) (i6 1)),
 om 1 (.t 17)])))
 (rg [om 10 (.t 5),
 oo 11 (.bi .add 0 (.t 10) (i6 1)),
 om 5 (.t 11)]))))))
 (.sq (rg [om 18 (.t 1),
 om 4 (.t 18)])
 (.rt)))) }
theorem ZgP:ZF Go.Proofs.Tryz.prog VV Zbn=true:=by kernel_rfl
def Zbo:F2 :=
 { nt:=21,res:=[.t 4 [0]],body :=
  (.sq (rg [om 4 (i6 0)])
 (.sq (.sq (rg [om 5 (i6 0)])
 (.bl 0 (.lp [0,1,5] [] (.sq (.sq (rg [om 6 (.t 5),
 om 7 (.t 0),
 oo 8 (.ln (.t 7)),
 oo 9 (.bi .lss 0 (.t 6) (.t 8))])
 (.cd (.t 9) (.sk)
 (.ex 0)))
 (.sq (.bl 1 (.sq (.sq (rg [om 12 (.t 0),
 om 13 (.t 5),
 oo 14 (.ia 1 (.t 12) (.t 13)),
 oo 15 (.ld none (.t 14)),
 om 16 (.t 1),
 oo 17 (.bi .neq 0 (.t 15) (.t 16))])
 (.cd (.t 17) (.sq (rg [om 4 (i6 (-1))])
 (.rt))
 (.sk)))
 (rg [om 18 (.t 1),
 oo 19 (.bi .add 0 (.t 18) (i6 1)),
 om 1 (.t 19)])))
 (rg [om 10 (.t 5),
 oo 11 (.bi .add 0 (.t 10) (i6 1)),
 om 5 (.t 11)]))))))
 (.sq (rg [om 20 (.t 1),
 om 4 (.t 20)])
 (.rt)))) }
theorem ZgQ:ZF Go.Proofs.Tryz.prog VW Zbo=true:=by kernel_rfl
def UX:F2 :=
 { nt:=22,res:=[.t 4 [0]],body :=
  (.sq (rg [oo 2 (.bx (.t 0)),
 om 4 (i6 0)])
 (.sq (rg [oo 5 (.fa 1 (.t 2)),
 oo 6 (.ld none (.t 5)),
 om 7 (.t 1),
 oo 8 (.ca .any true (.f Xq) [.t 6,.t 7]),
 om 1 (.t 8)])
 (.sq (rg [oo 9 (.fa 2 (.t 2)),
 oo 10 (.ld none (.t 9)),
 om 11 (.t 1),
 oo 12 (.ca .any true (.f VV) [.t 10,.t 11]),
 om 1 (.t 12)])
 (.sq (rg [oo 13 (.fa 4 (.t 2)),
 oo 14 (.ld none (.t 13)),
 om 15 (.t 1),
 oo 16 (.ca .any true (.f YO) [.t 14,.t 15]),
 om 1 (.t 16)])
 (.sq (rg [oo 17 (.fa 5 (.t 2)),
 oo 18 (.ld none (.t 17)),
 om 19 (.t 1),
 oo 20 (.ca .any true (.f Xr) [.t 18,.t 19]),
 om 1 (.t 20)])
 (.sq (rg [om 21 (.t 1),
 om 4 (.t 21)])
 (.rt))))))) }
theorem ZdM:ZF Go.Proofs.Tryz.prog YM UX=true:=by kernel_rfl
def UY:F2 :=
 { nt:=30,res:=[.t 4 [0]],body :=
  (.sq (rg [oo 2 (.bt (.t 0)),
 om 4 (i6 0)])
 (.sq (rg [oo 5 (.fa 1 (.t 2)),
 oo 6 (.ld none (.t 5)),
 om 7 (.t 1),
 oo 8 (.ca .pure false (.f Xs) [.t 6,.t 7]),
 om 1 (.t 8)])
 (.sq (.sq (rg [om 9 (.t 1),
 oo 10 (.bi .lss 0 (.t 9) (i6 0))])
 (.cd (.t 10) (.sq (rg [om 4 (i6 (-1))])
 (.rt))
 (.sk)))
 (.sq (rg [oo 11 (.fa 2 (.t 2)),
 oo 12 (.ld none (.t 11)),
 om 13 (.t 1),
 oo 14 (.ca .pure false (.f VW) [.t 12,.t 13]),
 om 1 (.t 14)])
 (.sq (.sq (rg [om 15 (.t 1),
 oo 16 (.bi .lss 0 (.t 15) (i6 0))])
 (.cd (.t 16) (.sq (rg [om 4 (i6 (-1))])
 (.rt))
 (.sk)))
 (.sq (rg [oo 17 (.fa 4 (.t 2)),
 oo 18 (.ld none (.t 17)),
 om 19 (.t 1),
 oo 20 (.ca .pure false (.f V9) [.t 18,.t 19]),
 om 1 (.t 20)])
 (.sq (.sq (rg [om 21 (.t 1),
 oo 22 (.bi .lss 0 (.t 21) (i6 0))])
 (.cd (.t 22) (.sq (rg [om 4 (i6 (-1))])
 (.rt))
 (.sk)))
 (.sq (rg [oo 23 (.fa 5 (.t 2)),
 oo 24 (.ld none (.t 23)),
 om 25 (.t 1),
 oo 26 (.ca .pure false (.f Xt) [.t 24,.t 25]),
 om 1 (.t 26)])
 (.sq (.sq (rg [om 27 (.t 1),
 oo 28 (.bi .lss 0 (.t 27) (i6 0))])
 (.cd (.t 28) (.sq (rg [om 4 (i6 (-1))])
 (.rt))
 (.sk)))
 (.sq (rg [om 29 (.t 1),
 om 4 (.t 29)])
 (.rt))))))))))) }
theorem ZdN:ZF Go.Proofs.Tryz.prog YN UY=true:=by kernel_rfl
def Zbp:F2 :=
 { nt:=20,res:=[.t 2 [0]],body :=
  (.sq (rg [om 2 (.k (.string ⟨#[]⟩))])
 (.sq (.sq (rg [om 4 (.t 0),
 oo 5 (.bi .leq 0 (.t 4) (i6 0))])
 (.cd (.t 5) (.sq (rg [om 2 (.k (.string ⟨#[109,48]⟩))])
 (.rt))
 (.sk)))
 (.sq (rg [om 3 (.k (.string ⟨#[]⟩))])
 (.sq (.bl 0 (.lp [0,3] [] (.sq (.sq (rg [om 6 (.t 0),
 oo 7 (.bi .gtr 0 (.t 6) (i6 0))])
 (.cd (.t 7) (.sk)
 (.ex 0)))
 (.bl 1 (.sq (rg [om 8 (.t 0),
 oo 9 (.bi .rem 0 (.t 8) (i6 10)),
 oo 10 (.bi .add 0 (i6 48) (.t 9)),
 oo 11 (.cv (.int .u8) (.t 10)),
 oo 12 (.bs 1 1 [.int .u8 0] [(0,.t 11)]),
 oo 13 (.sb (.t 12)),
 om 14 (.t 3),
 oo 15 (.bi .add 0 (.t 13) (.t 14)),
 om 3 (.t 15)])
 (rg [om 16 (.t 0),
 oo 17 (.bi .quo 0 (.t 16) (i6 10)),
 om 0 (.t 17)]))))))
 (.sq (rg [om 18 (.t 3),
 oo 19 (.bi .add 0 (.k (.string ⟨#[109]⟩)) (.t 18)),
 om 2 (.t 19)])
 (.rt)))))) }
theorem ZgR:ZF Go.Proofs.Tryz.prog JE Zbp=true:=by kernel_rfl
def UZ:F2 :=
 { nt:=20,res:=[.t 4 [0]],body :=
  (.sq (rg [om 4 (i6 0)])
 (.sq (.sq (rg [om 5 (i6 0)])
 (.bl 0 (.lp [0,1,5] [] (.sq (.sq (rg [om 6 (.t 5),
 om 7 (.t 0),
 oo 8 (.ln (.t 7)),
 oo 9 (.bi .lss 0 (.t 6) (.t 8))])
 (.cd (.t 9) (.sk)
 (.ex 0)))
 (.sq (.bl 1 (.sq (rg [om 12 (.t 0),
 om 13 (.t 5),
 om 14 (.t 1),
 oo 15 (.ca .pure false (.f JE) [.t 14]),
 oo 16 (.ia 1 (.t 12) (.t 13)),
 on1 (.st 1 (.t 16) (.t 15))])
 (rg [om 17 (.t 1),
 oo 18 (.bi .add 0 (.t 17) (i6 1)),
 om 1 (.t 18)])))
 (rg [om 10 (.t 5),
 oo 11 (.bi .add 0 (.t 10) (i6 1)),
 om 5 (.t 11)]))))))
 (.sq (rg [om 19 (.t 1),
 om 4 (.t 19)])
 (.rt)))) }
theorem ZdO:ZF Go.Proofs.Tryz.prog YO UZ=true:=by kernel_rfl
def ZaA:F2 :=
 { nt:=34,res:=[.t 4 [0]],body :=
  (.sq (rg [om 4 (i6 0)])
 (.sq (.sq (rg [om 5 (i6 0)])
 (.bl 0 (.lp [0,1,5] [] (.sq (.sq (rg [om 6 (.t 5),
 om 7 (.t 0),
 oo 8 (.ln (.t 7)),
 oo 9 (.bi .lss 0 (.t 6) (.t 8))])
 (.cd (.t 9) (.sk)
 (.ex 0)))
 (.sq (.bl 1 (.sq (rg [om 12 (.t 0),
 om 13 (.t 5),
 om 14 (.t 1),
 oo 15 (.ia 3 (.t 12) (.t 13)),
 oo 16 (.fa 0 (.t 15)),
 on1 (.st 1 (.t 16) (.t 14))])
 (.sq (rg [om 17 (.t 1),
 oo 18 (.bi .add 0 (.t 17) (i6 1)),
 om 1 (.t 18)])
 (.sq (rg [om 19 (.t 0),
 om 20 (.t 5),
 om 21 (.t 1),
 oo 22 (.ia 3 (.t 19) (.t 20)),
 oo 23 (.fa 1 (.t 22)),
 on1 (.st 1 (.t 23) (.t 21))])
 (.sq (rg [om 24 (.t 1),
 oo 25 (.bi .add 0 (.t 24) (i6 1)),
 om 1 (.t 25)])
 (rg [om 26 (.t 0),
 om 27 (.t 5),
 oo 28 (.ia 3 (.t 26) (.t 27)),
 oo 29 (.fa 2 (.t 28)),
 oo 30 (.ld none (.t 29)),
 om 31 (.t 1),
 oo 32 (.ca .any true (.f VV) [.t 30,.t 31]),
 om 1 (.t 32)]))))))
 (rg [om 10 (.t 5),
 oo 11 (.bi .add 0 (.t 10) (i6 1)),
 om 5 (.t 11)]))))))
 (.sq (rg [om 33 (.t 1),
 om 4 (.t 33)])
 (.rt)))) }
theorem Zfj:ZF Go.Proofs.Tryz.prog Xq ZaA=true:=by kernel_rfl
def ZaB:F2 :=
 { nt:=28,res:=[.t 4 [0]],body :=
  (.sq (rg [om 4 (i6 0)])
 (.sq (.sq (rg [om 5 (i6 0)])
 (.bl 0 (.lp [0,1,5] [] (.sq (.sq (rg [om 6 (.t 5),
 om 7 (.t 0),
 oo 8 (.ln (.t 7)),
 oo 9 (.bi .lss 0 (.t 6) (.t 8))])
 (.cd (.t 9) (.sk)
 (.ex 0)))
 (.sq (.bl 1 (.sq (rg [om 12 (.t 0),
 om 13 (.t 5),
 om 14 (.t 1),
 oo 15 (.ca .pure false (.f JE) [.t 14]),
 oo 16 (.ia 2 (.t 12) (.t 13)),
 oo 17 (.fa 0 (.t 16)),
 on1 (.st 1 (.t 17) (.t 15))])
 (.sq (rg [om 18 (.t 1),
 oo 19 (.bi .add 0 (.t 18) (i6 1)),
 om 1 (.t 19)])
 (.sq (rg [om 20 (.t 0),
 om 21 (.t 5),
 om 22 (.t 1),
 oo 23 (.ia 2 (.t 20) (.t 21)),
 oo 24 (.fa 1 (.t 23)),
 on1 (.st 1 (.t 24) (.t 22))])
 (rg [om 25 (.t 1),
 oo 26 (.bi .add 0 (.t 25) (i6 1)),
 om 1 (.t 26)])))))
 (rg [om 10 (.t 5),
 oo 11 (.bi .add 0 (.t 10) (i6 1)),
 om 5 (.t 11)]))))))
 (.sq (rg [om 27 (.t 1),
 om 4 (.t 27)])
 (.rt)))) }
theorem Zfk:ZF Go.Proofs.Tryz.prog Xr ZaB=true:=by kernel_rfl
def ZaC:F2 :=
 { nt:=40,res:=[.t 4 [0]],body :=
  (.sq (rg [om 4 (i6 0)])
 (.sq (.sq (rg [om 5 (i6 0)])
 (.bl 0 (.lp [0,1,5] [] (.sq (.sq (rg [om 6 (.t 5),
 om 7 (.t 0),
 oo 8 (.ln (.t 7)),
 oo 9 (.bi .lss 0 (.t 6) (.t 8))])
 (.cd (.t 9) (.sk)
 (.ex 0)))
 (.sq (.bl 1 (.sq (.sq (rg [om 12 (.t 0),
 om 13 (.t 5),
 oo 14 (.ia 3 (.t 12) (.t 13)),
 oo 15 (.fa 0 (.t 14)),
 oo 16 (.ld none (.t 15)),
 om 17 (.t 1),
 oo 18 (.bi .neq 0 (.t 16) (.t 17))])
 (.cd (.t 18) (.sq (rg [om 4 (i6 (-1))])
 (.rt))
 (.sk)))
 (.sq (rg [om 19 (.t 1),
 oo 20 (.bi .add 0 (.t 19) (i6 1)),
 om 1 (.t 20)])
 (.sq (.sq (rg [om 21 (.t 0),
 om 22 (.t 5),
 oo 23 (.ia 3 (.t 21) (.t 22)),
 oo 24 (.fa 1 (.t 23)),
 oo 25 (.ld none (.t 24)),
 om 26 (.t 1),
 oo 27 (.bi .neq 0 (.t 25) (.t 26))])
 (.cd (.t 27) (.sq (rg [om 4 (i6 (-1))])
 (.rt))
 (.sk)))
 (.sq (rg [om 28 (.t 1),
 oo 29 (.bi .add 0 (.t 28) (i6 1)),
 om 1 (.t 29)])
 (.sq (rg [om 30 (.t 0),
 om 31 (.t 5),
 oo 32 (.ia 3 (.t 30) (.t 31)),
 oo 33 (.fa 2 (.t 32)),
 oo 34 (.ld none (.t 33)),
 om 35 (.t 1),
 oo 36 (.ca .pure false (.f VW) [.t 34,.t 35]),
 om 1 (.t 36)])
 (.sq (rg [om 37 (.t 1),
 oo 38 (.bi .lss 0 (.t 37) (i6 0))])
 (.cd (.t 38) (.sq (rg [om 4 (i6 (-1))])
 (.rt))
 (.sk)))))))))
 (rg [om 10 (.t 5),
 oo 11 (.bi .add 0 (.t 10) (i6 1)),
 om 5 (.t 11)]))))))
 (.sq (rg [om 39 (.t 1),
 om 4 (.t 39)])
 (.rt)))) }
theorem Zfl:ZF Go.Proofs.Tryz.prog Xs ZaC=true:=by kernel_rfl
def U0:F2 :=
 { nt:=22,res:=[.t 4 [0]],body :=
  (.sq (rg [om 4 (i6 0)])
 (.sq (.sq (rg [om 5 (i6 0)])
 (.bl 0 (.lp [0,1,5] [] (.sq (.sq (rg [om 6 (.t 5),
 om 7 (.t 0),
 oo 8 (.ln (.t 7)),
 oo 9 (.bi .lss 0 (.t 6) (.t 8))])
 (.cd (.t 9) (.sk)
 (.ex 0)))
 (.sq (.bl 1 (.sq (.sq (.rg (some 0) [om 12 (.t 0),
 om 13 (.t 5),
 oo 14 (.ia 1 (.t 12) (.t 13)),
 oo 15 (.ld none (.t 14)),
 om 16 (.t 1),
 oo 17 (.ca .pure false (.f JE) [.t 16]),
 oo 18 (.bi .neq 0 (.t 15) (.t 17))])
 (.cd (.t 18) (.sq (rg [om 4 (i6 (-1))])
 (.rt))
 (.sk)))
 (rg [om 19 (.t 1),
 oo 20 (.bi .add 0 (.t 19) (i6 1)),
 om 1 (.t 20)])))
 (rg [om 10 (.t 5),
 oo 11 (.bi .add 0 (.t 10) (i6 1)),
 om 5 (.t 11)]))))))
 (.sq (rg [om 21 (.t 1),
 om 4 (.t 21)])
 (.rt)))) }
theorem ZdP:ZF Go.Proofs.Tryz.prog V9 U0=true:=by kernel_rfl
def ZaD:F2 :=
 { nt:=32,res:=[.t 4 [0]],body :=
  (.sq (rg [om 4 (i6 0)])
 (.sq (.sq (rg [om 5 (i6 0)])
 (.bl 0 (.lp [0,1,5] [] (.sq (.sq (rg [om 6 (.t 5),
 om 7 (.t 0),
 oo 8 (.ln (.t 7)),
 oo 9 (.bi .lss 0 (.t 6) (.t 8))])
 (.cd (.t 9) (.sk)
 (.ex 0)))
 (.sq (.bl 1 (.sq (.sq (.rg (some 0) [om 12 (.t 0),
 om 13 (.t 5),
 oo 14 (.ia 2 (.t 12) (.t 13)),
 oo 15 (.fa 0 (.t 14)),
 oo 16 (.ld none (.t 15)),
 om 17 (.t 1),
 oo 18 (.ca .pure false (.f JE) [.t 17]),
 oo 19 (.bi .neq 0 (.t 16) (.t 18))])
 (.cd (.t 19) (.sq (rg [om 4 (i6 (-1))])
 (.rt))
 (.sk)))
 (.sq (rg [om 20 (.t 1),
 oo 21 (.bi .add 0 (.t 20) (i6 1)),
 om 1 (.t 21)])
 (.sq (.sq (rg [om 22 (.t 0),
 om 23 (.t 5),
 oo 24 (.ia 2 (.t 22) (.t 23)),
 oo 25 (.fa 1 (.t 24)),
 oo 26 (.ld none (.t 25)),
 om 27 (.t 1),
 oo 28 (.bi .neq 0 (.t 26) (.t 27))])
 (.cd (.t 28) (.sq (rg [om 4 (i6 (-1))])
 (.rt))
 (.sk)))
 (rg [om 29 (.t 1),
 oo 30 (.bi .add 0 (.t 29) (i6 1)),
 om 1 (.t 30)])))))
 (rg [om 10 (.t 5),
 oo 11 (.bi .add 0 (.t 10) (i6 1)),
 om 5 (.t 11)]))))))
 (.sq (rg [om 31 (.t 1),
 om 4 (.t 31)])
 (.rt)))) }
theorem Zfm:ZF Go.Proofs.Tryz.prog Xt ZaD=true:=by kernel_rfl
end Go.Fd

/-
  THE TEXT OF A MARK; THE MARKS OF NUMBERS AND TEXTS. Own work.
-/
namespace Go.Fd
set_option maxRecDepth 20000
abbrev ZnR(_:Int)(k:Int):Int:=k
abbrev Ux(_:Int):Nat:=1
def mt(q:Nat)(o:ByteArray):ByteArray:=if q=0 then o else mt (q / 10) (⟨#[UInt8.ofNat (48+q % 10)]⟩++o)
 termination_by q
 decreasing_by omega
theorem ZxK{q:Nat}{o:ByteArray}(h:0<q):mt q o=mt (q / 10) (⟨#[UInt8.ofNat (48+q % 10)]⟩++o):=by
 rw[mt,if_neg (by omega)]
theorem Zui{o:ByteArray}:mt 0 o=o:=by rw[mt,if_pos rfl]
def Zp9(k:Int):ByteArray:=if k<=0 then ⟨#[109,48]⟩ else ⟨#[109]⟩++mt k.toNat ⟨#[]⟩
theorem Wp(k:Int)(h:k<=4611686018427387904)(lvl:Nat)(S:Sto):Sem Go.Proofs.Tryz.prog JE lvl [iI k] S (iS (Zp9 k)) S:=by
 refine Zb ZgR trivial ?_
 simp only[Zbp,EVA,seval]
 unfold Zp9
 refine Zk (fun h0=>?_) (fun h0=>?_)
 ·rw[if_pos h0]
 ·rw[if_neg h0]
  obtain⟨K,hK⟩:∃ K:Nat,k=K:=⟨k.toNat,by omega⟩
  subst hK
  rw[Int.toNat_natCast]
  refine ZU (α:=Nat×ByteArray) K (fun j y=>⟨lvl,[(0,iI y.1),(3,iS y.2)],[],S⟩) (fun j y=>y.1+j<=K/\mt y.1 y.2=mt K ⟨#[]⟩/\y.1*10 ^ y.2.size<=K/\y.2.size<=19) (K,⟨#[]⟩) ⟨by simp only[EVA,seval],by simp only[EVA,seval]⟩ ⟨Nat.le_refl _,rfl,Nat.le_of_eq (Nat.mul_one K),(by decide:(0:Nat)<=19)⟩ ?_
  intro j y hj hA
  obtain⟨q,o⟩:=y
  obtain⟨h1,h2,h3,h4⟩:=hA
  simp only at h1 h2 h3 h4
  simp only[EVA,seval]
  refine Zk (fun hq=>?_) (fun hq=>?_)
  ·have hq0:0<q:=by omega
   have hby:byR [[Tr.v (Value.int IntKind.u8 (48+(q:Int) % 10))]]=some [UInt8.ofNat (48+q % 10)]:=by
    have e:(48+(q:Int) % 10).toNat=48+q % 10:=by omega
    simp only[byR,Option.map_some,e]
   have h5:o.size<19:=by
    apply Classical.byContradiction
    intro hc
    have e:o.size=19:=by omega
    rw[e] at h3
    have:1*10 ^ 19<=q*10 ^ 19:=Nat.mul_le_mul_right _ hq0
    omega
   have h6:q / 10*10 ^ (o.size+1)<=K:=by
    refine Nat.le_trans ?_ h3
    rw[Nat.pow_succ,Nat.mul_comm (10 ^ o.size) 10,<-Nat.mul_assoc]
    exact Nat.mul_le_mul_right _ (by omega)
   rw[hby]
   simp only[EVA,seval]
   have hs:(ByteArray.mk #[UInt8.ofNat (48+q % 10)]++o).size=o.size+1:=by
    rw[ByteArray.size_append,Nat.add_comm];rfl
   have e8:XP .u8 (48+(q:Int) % 10):=by
    constructor
    ·show (0:Int)<=_;omega
    ·show _<=(255:Int);omega
   refine⟨by rw[Zd];omega,e8,?_,by rw[Zd];omega,Ze (q / 10,ByteArray.mk #[UInt8.ofNat (48+q % 10)]++o) (by omega) ?_ ⟨by simp only;omega,?_,?_,?_⟩⟩
   ·show 1+o.size<=4294967296
    omega
   ·rfl
   ·rw[<-h2,ZxK hq0]
   ·simp only[hs];exact h6
   ·simp only[hs];omega
  ·have:q=0:=by omega
   subst this
   rw[<-h2,Zui]
   refine⟨?_,rfl⟩
   show 1+o.size<=4294967296
   omega
abbrev ZnS(_:ByteArray)(k:Int):ByteArray:=Zp9 k
abbrev DF(_:ByteArray):Nat:=1
end Go.Fd

/-
  WHAT THE MARKING FUNCTIONS DO (printed by lawgen.py). Own work.
-/
namespace Go.Fd
set_option maxRecDepth 20000
theorem ZkJ:MarkS Go.Proofs.Tryz.prog VV (fun n:Int=>[tv n]) ZnR Ux (fun _=>True):=by
 intro a k lvl S id p es r0 kk hw ver st cap hid hv hst h0 hk hl hB
 have hne:id.1≠lvl:=by omega
 have hgp:∀ r,getp (Dj es p r) p=some r:=fun r=>Wf hv
 refine Zb ZgP trivial ?_
 simp only[Zbn,EVA,seval]
 refine ZU (α:=Unit) a.length (fun j _=>⟨lvl,[(0,.hd id p 0 a.length cap st),(1,iI (kJ Ux a k j)),(5,iI j)],[],ZT S id (.ar kk (Dj es p ((lJ ZnR Ux a k j).map (fun n:Int=>[tv n]))) true hw ver)⟩) (fun _ _=>True) () ⟨by simp only[JW hne,EVA,seval],by (simp only[U3,Zea,EVA,seval]) <;> rfl⟩ trivial ?_
 intro j _ hj _
 simp only[EVA,seval]
 refine Zk (fun hlt=>?_) (fun hge=>?_)
 ·have hja:j<a.length:=by omega
  obtain⟨R,hjR,hR,hR'⟩:=ZhK ZnR Ux (fun n:Int=>[tv n]) (k:=k) hja
  have hge2:=ZgZ Ux (a:=a) (k:=k) (j:=j+1)
  rw[YS Ux hja] at hge2
  have hge3:=Zg0 Ux (a:=a) (k:=k) (j:=j)
  rw[hR]
  try simp only[Ux] at hge2
  try simp only[Jd hne,VU hne,J8,V5,hst,hgp,UI hjR,DX hv hjR,Nat.zero_add,hja,JW hne,tv,EVA,seval]
  refine⟨by rw[Zd];omega,⟨by rw[Zd];omega,Ze () hja ?_ trivial⟩⟩
  rw[YS Ux hja,hR']
  simp only[Ux,ZnR,tv,Int.natCast_add,Int.natCast_one]
  try rfl
 ·have:j=a.length:=by omega
  subst this
  rw[ZbZ,ZhJ]
  exact⟨rfl,rfl⟩
def Zfn(x:TNode)(k:Int):TNode:={ control:=k,parent:=k+1,links:=mL ZnR Ux x.links (k+1+1) }
def J0(x:TNode):Nat:=1+1+nL Ux x.links
theorem ZnT:MarkS Go.Proofs.Tryz.prog Xq ZO Zfn J0 (Za0 4294967296):=by
 intro a k lvl S id p es r0 kk hw ver st cap hid hv hst h0 hk hl hB
 have hne:id.1≠lvl:=by omega
 have hgp:∀ r,getp (Dj es p r) p=some r:=fun r=>Wf hv
 refine Zb Zfj trivial ?_
 simp only[ZaA,EVA,seval]
 refine ZU (α:=Unit) a.length (fun j _=>⟨lvl,[(0,.hd id p 0 a.length cap st),(1,iI (kJ J0 a k j)),(5,iI j)],[],ZT S id (.ar kk (Dj es p ((lJ Zfn J0 a k j).map ZO)) true hw ver)⟩) (fun _ _=>True) () ⟨by simp only[JW hne,EVA,seval],by (simp only[U3,Zea,EVA,seval]) <;> rfl⟩ trivial ?_
 intro j _ hj _
 simp only[EVA,seval]
 refine Zk (fun hlt=>?_) (fun hge=>?_)
 ·have hja:j<a.length:=by omega
  obtain⟨R,hjR,hR,hR'⟩:=ZhK Zfn J0 ZO (k:=k) hja
  have hge2:=ZgZ J0 (a:=a) (k:=k) (j:=j+1)
  rw[YS J0 hja] at hge2
  have hge3:=Zg0 J0 (a:=a) (k:=k) (j:=j)
  rw[hR]
  try simp only[J0] at hge2
  have hb:=hB _ (List.getElem_mem hja)
  have b0:(a[j]).links.length<=4294967296:=hb
  try simp only[Jd hne,VU hne,J8,V5,hst,hgp,UI hjR,DX hv hjR,Nat.zero_add,hja,List.length_map,ZO,EVA,seval]
  refine⟨by rw[Zd];omega,⟨by rw[Zd];omega,?_⟩⟩
  simp only[ZgU]
  refine Zmn ZkJ hid hv (by omega) (by omega) b0 (fun _ _=>trivial) hjR rfl (by simp only[List.length_map]) ?_
  simp only[List.set_cons_succ,List.set_cons_zero,JW hne,EVA,seval]
  refine⟨by rw[Zd];omega,Ze () hja ?_ trivial⟩
  rw[YS J0 hja,hR']
  simp only[J0,Zfn,ZO,Int.natCast_add,Int.natCast_one,Int.add_assoc]
  try rfl
 ·have:j=a.length:=by omega
  subst this
  rw[ZbZ,ZhJ]
  exact⟨rfl,rfl⟩
theorem Ze3:MarkS Go.Proofs.Tryz.prog YO (fun n:ByteArray=>[ts n]) ZnS DF (fun x=>x.size<=4294967296):=by
 intro a k lvl S id p es r0 kk hw ver st cap hid hv hst h0 hk hl hB
 have hne:id.1≠lvl:=by omega
 have hgp:∀ r,getp (Dj es p r) p=some r:=fun r=>Wf hv
 refine Zb ZdO trivial ?_
 simp only[UZ,EVA,seval]
 refine ZU (α:=Unit) a.length (fun j _=>⟨lvl,[(0,.hd id p 0 a.length cap st),(1,iI (kJ DF a k j)),(5,iI j)],[],ZT S id (.ar kk (Dj es p ((lJ ZnS DF a k j).map (fun n:ByteArray=>[ts n]))) true hw ver)⟩) (fun _ _=>True) () ⟨by simp only[JW hne,EVA,seval],by (simp only[U3,Zea,EVA,seval]) <;> rfl⟩ trivial ?_
 intro j _ hj _
 simp only[EVA,seval,Zj,men]
 refine Zk (fun hlt=>?_) (fun hge=>?_)
 ·have hja:j<a.length:=by omega
  obtain⟨R,hjR,hR,hR'⟩:=ZhK ZnS DF (fun n:ByteArray=>[ts n]) (k:=k) hja
  have hge2:=ZgZ DF (a:=a) (k:=k) (j:=j+1)
  rw[YS DF hja] at hge2
  have hge3:=Zg0 DF (a:=a) (k:=k) (j:=j)
  rw[hR]
  try simp only[DF] at hge2
  try simp only[Jd hne,VU hne,J8,V5,hst,hgp,UI hjR,DX hv hjR,Nat.zero_add,hja,JW hne,List.length_map,tv,EVA,seval,Zj,men]
  refine Za (Wp (kJ DF a k j) (by omega)) ?_
  simp only[Jd hne,VU hne,J8,V5,hst,hgp,UI hjR,DX hv hjR,Nat.zero_add,hja,JW hne,EVA,seval]
  refine⟨by rw[Zd];omega,⟨by rw[Zd];omega,Ze () hja ?_ trivial⟩⟩
  rw[YS DF hja,hR']
  simp only[DF,ZnS,Int.natCast_add,Int.natCast_one]
  try rfl
 ·have:j=a.length:=by omega
  subst this
  rw[ZbZ,ZhJ]
  exact⟨rfl,rfl⟩
def Zey(x:TWire)(k:Int):TWire:={ name:=Zp9 (k),link:=k+1 }
def QD(x:TWire):Nat:=1+1
theorem ZnU:MarkS Go.Proofs.Tryz.prog Xr ZP Zey QD (UJ 4294967296):=by
 intro a k lvl S id p es r0 kk hw ver st cap hid hv hst h0 hk hl hB
 have hne:id.1≠lvl:=by omega
 have hgp:∀ r,getp (Dj es p r) p=some r:=fun r=>Wf hv
 refine Zb Zfk trivial ?_
 simp only[ZaB,EVA,seval]
 refine ZU (α:=Unit) a.length (fun j _=>⟨lvl,[(0,.hd id p 0 a.length cap st),(1,iI (kJ QD a k j)),(5,iI j)],[],ZT S id (.ar kk (Dj es p ((lJ Zey QD a k j).map ZP)) true hw ver)⟩) (fun _ _=>True) () ⟨by simp only[JW hne,EVA,seval],by (simp only[U3,Zea,EVA,seval]) <;> rfl⟩ trivial ?_
 intro j _ hj _
 simp only[EVA,seval,Zj,men]
 refine Zk (fun hlt=>?_) (fun hge=>?_)
 ·have hja:j<a.length:=by omega
  obtain⟨R,hjR,hR,hR'⟩:=ZhK Zey QD ZP (k:=k) hja
  have hge2:=ZgZ QD (a:=a) (k:=k) (j:=j+1)
  rw[YS QD hja] at hge2
  have hge3:=Zg0 QD (a:=a) (k:=k) (j:=j)
  rw[hR]
  try simp only[QD] at hge2
  have hb:=hB _ (List.getElem_mem hja)
  have b0:(a[j]).name.size<=4294967296:=hb
  try simp only[ZP,seval]
  refine Za (Wp (kJ QD a k j) (by omega)) ?_
  simp only[Jd hne,VU hne,J8,V5,hst,hgp,UI hjR,DX hv hjR,Nat.zero_add,hja,JW hne,EVA,seval]
  refine⟨by rw[Zd];omega,⟨by rw[Zd];omega,⟨by rw[Zd];omega,Ze () hja ?_ trivial⟩⟩⟩
  rw[YS QD hja,hR']
  simp only[QD,Zey,ZP,Int.natCast_add,Int.natCast_one,Int.add_assoc]
  try rfl
 ·have:j=a.length:=by omega
  subst this
  rw[ZbZ,ZhJ]
  exact⟨rfl,rfl⟩
def ZfG(x:TControl)(k:Int):TControl:={ name:=Zp9 (k),ports:=k+1,kind_:=k+1+1 }
def Vb(x:TControl):Nat:=1+1+1
theorem Zjm:MarkS Go.Proofs.Tryz.prog VA Zh ZfG Vb (Zo 4294967296):=by
 intro a k lvl S id p es r0 kk hw ver st cap hid hv hst h0 hk hl hB
 have hne:id.1≠lvl:=by omega
 have hgp:∀ r,getp (Dj es p r) p=some r:=fun r=>Wf hv
 refine Zb Zcz trivial ?_
 simp only[Uw,EVA,seval]
 refine ZU (α:=Unit) a.length (fun j _=>⟨lvl,[(0,.hd id p 0 a.length cap st),(1,iI (kJ Vb a k j)),(5,iI j)],[],ZT S id (.ar kk (Dj es p ((lJ ZfG Vb a k j).map Zh)) true hw ver)⟩) (fun _ _=>True) () ⟨by simp only[JW hne,EVA,seval],by (simp only[U3,Zea,EVA,seval]) <;> rfl⟩ trivial ?_
 intro j _ hj _
 simp only[EVA,seval,Zj,men]
 refine Zk (fun hlt=>?_) (fun hge=>?_)
 ·have hja:j<a.length:=by omega
  obtain⟨R,hjR,hR,hR'⟩:=ZhK ZfG Vb Zh (k:=k) hja
  have hge2:=ZgZ Vb (a:=a) (k:=k) (j:=j+1)
  rw[YS Vb hja] at hge2
  have hge3:=Zg0 Vb (a:=a) (k:=k) (j:=j)
  rw[hR]
  try simp only[Vb] at hge2
  have hb:=hB _ (List.getElem_mem hja)
  have b0:(a[j]).name.size<=4294967296:=hb
  try simp only[Zh,seval]
  refine Za (Wp (kJ Vb a k j) (by omega)) ?_
  simp only[Jd hne,VU hne,J8,V5,hst,hgp,UI hjR,DX hv hjR,Nat.zero_add,hja,JW hne,EVA,seval]
  refine⟨by rw[Zd];omega,⟨by rw[Zd];omega,⟨by rw[Zd];omega,⟨by rw[Zd];omega,Ze () hja ?_ trivial⟩⟩⟩⟩
  rw[YS Vb hja,hR']
  simp only[Vb,ZfG,Zh,Int.natCast_add,Int.natCast_one,Int.add_assoc]
  try rfl
 ·have:j=a.length:=by omega
  subst this
  rw[ZbZ,ZhJ]
  exact⟨rfl,rfl⟩
def ZdQ(x:TTermStep)(k:Int):TTermStep:={ kind_:=k,control:=k+1,site:=k+1+1,names:=mL ZnS DF x.names (k+1+1+1) }
def YG(x:TTermStep):Nat:=1+1+1+nL DF x.names
theorem Zhu:MarkS Go.Proofs.Tryz.prog Vk Zf ZdQ YG (Zv 4294967296):=by
 intro a k lvl S id p es r0 kk hw ver st cap hid hv hst h0 hk hl hB
 have hne:id.1≠lvl:=by omega
 have hgp:∀ r,getp (Dj es p r) p=some r:=fun r=>Wf hv
 refine Zb ZbT trivial ?_
 simp only[WK,EVA,seval]
 refine ZU (α:=Unit) a.length (fun j _=>⟨lvl,[(0,.hd id p 0 a.length cap st),(1,iI (kJ YG a k j)),(5,iI j)],[],ZT S id (.ar kk (Dj es p ((lJ ZdQ YG a k j).map Zf)) true hw ver)⟩) (fun _ _=>True) () ⟨by simp only[JW hne,EVA,seval],by (simp only[U3,Zea,EVA,seval]) <;> rfl⟩ trivial ?_
 intro j _ hj _
 simp only[EVA,seval]
 refine Zk (fun hlt=>?_) (fun hge=>?_)
 ·have hja:j<a.length:=by omega
  obtain⟨R,hjR,hR,hR'⟩:=ZhK ZdQ YG Zf (k:=k) hja
  have hge2:=ZgZ YG (a:=a) (k:=k) (j:=j+1)
  rw[YS YG hja] at hge2
  have hge3:=Zg0 YG (a:=a) (k:=k) (j:=j)
  rw[hR]
  try simp only[YG] at hge2
  have hb:=hB _ (List.getElem_mem hja)
  obtain⟨b0,b1⟩:=hb
  try simp only[Jd hne,VU hne,J8,V5,hst,hgp,UI hjR,DX hv hjR,Nat.zero_add,hja,List.length_map,Zf,EVA,seval]
  refine⟨by rw[Zd];omega,⟨by rw[Zd];omega,⟨by rw[Zd];omega,?_⟩⟩⟩
  simp only[ZgU]
  refine Zmn Ze3 hid hv (by omega) (by omega) b0 b1 hjR rfl (by simp only[List.length_map]) ?_
  simp only[List.set_cons_succ,List.set_cons_zero,JW hne,EVA,seval]
  refine⟨by rw[Zd];omega,Ze () hja ?_ trivial⟩
  rw[YS YG hja,hR']
  simp only[YG,ZdQ,Zf,Int.natCast_add,Int.natCast_one,Int.add_assoc]
  try rfl
 ·have:j=a.length:=by omega
  subst this
  rw[ZbZ,ZhJ]
  exact⟨rfl,rfl⟩
end Go.Fd

/-
  The annotated codes of the functions, printed by a program of mine (gen.py), and the check that they belong to the program.
-/
namespace Go.Fd
def DG:F2 :=
 { nt:=23,res:=[.t 2 [4]],body :=
  (.sq (rg [om 2 (.k (.slice none 0 0))])
 (.sq (rg [om 5 (.t 0),
 oo 6 (.ln (.t 5)),
 oo 7 (.ms 3 [.string ⟨#[]⟩,.int .i64 0,.int .i64 0] (.t 6)),
 om 3 (.t 7)])
 (.sq (.sq (rg [om 4 (i6 0)])
 (.bl 0 (.lp [0,3,4] [224] (.sq (.sq (rg [om 8 (.t 4),
 om 9 (.t 0),
 oo 10 (.ln (.t 9)),
 oo 11 (.bi .lss 0 (.t 8) (.t 10))])
 (.cd (.t 11) (.sk)
 (.ex 0)))
 (.sq (.bl 1 (rg [om 14 (.t 3),
 om 15 (.t 4),
 om 16 (.t 0),
 om 17 (.t 4),
 oo 18 (.ia 3 (.t 16) (.t 17)),
 oo 19 (.ld (some 3) (.t 18)),
 oo 20 (.ca .pure true (.f Xo) [.t 19]),
 oo 21 (.ia 3 (.t 14) (.t 15)),
 on1 (.st 3 (.t 21) (.t 20))]))
 (rg [om 12 (.t 4),
 oo 13 (.bi .add 0 (.t 12) (i6 1)),
 om 4 (.t 13)]))))))
 (.sq (rg [om 22 (.t 3),
 om 2 (.t 22)])
 (.rt))))) }
theorem Zez:ZF Go.Proofs.Tryz.prog ZA DG=true:=by kernel_rfl
def U1:F2 :=
 { nt:=23,res:=[.t 2 [5]],body :=
  (.sq (rg [om 2 (.k (.slice none 0 0))])
 (.sq (rg [om 5 (.t 0),
 oo 6 (.ln (.t 5)),
 oo 7 (.ms 4 [.int .i64 0,.int .i64 0,.int .i64 0,.slice none 0 0] (.t 6)),
 om 3 (.t 7)])
 (.sq (.sq (rg [om 4 (i6 0)])
 (.bl 0 (.lp [0,3,4] [224,640] (.sq (.sq (rg [om 8 (.t 4),
 om 9 (.t 0),
 oo 10 (.ln (.t 9)),
 oo 11 (.bi .lss 0 (.t 8) (.t 10))])
 (.cd (.t 11) (.sk)
 (.ex 0)))
 (.sq (.bl 1 (rg [om 14 (.t 3),
 om 15 (.t 4),
 om 16 (.t 0),
 om 17 (.t 4),
 oo 18 (.ia 4 (.t 16) (.t 17)),
 oo 19 (.ld (some 4) (.t 18)),
 oo 20 (.ca .pure true (.f QR) [.t 19]),
 oo 21 (.ia 4 (.t 14) (.t 15)),
 on1 (.st 4 (.t 21) (.t 20))]))
 (rg [om 12 (.t 4),
 oo 13 (.bi .add 0 (.t 12) (i6 1)),
 om 4 (.t 13)]))))))
 (.sq (rg [om 22 (.t 3),
 om 2 (.t 22)])
 (.rt))))) }
theorem ZdR:ZF Go.Proofs.Tryz.prog Zw U1=true:=by kernel_rfl
def ZaE:F2 :=
 { nt:=39,res:=[.t 4 [0]],body :=
  (.sq (rg [oo 2 (.bt (.t 0)),
 oo 3 (.bt (.t 1)),
 om 4 (.k (.bool false))])
 (.sq (.sq (rg [oo 5 (.fa 0 (.t 2)),
 oo 6 (.ld none (.t 5)),
 oo 7 (.fa 0 (.t 3)),
 oo 8 (.ld none (.t 7)),
 oo 9 (.bi .neq 0 (.t 6) (.t 8))])
 (.cd (.t 9) (.sq (rg [om 4 (.k (.bool false))])
 (.rt))
 (.sk)))
 (.sq (.sq (rg [oo 10 (.fa 1 (.t 2)),
 oo 11 (.ld none (.t 10)),
 oo 12 (.fa 1 (.t 3)),
 oo 13 (.ld none (.t 12)),
 oo 14 (.ca .pure false (.f Wt) [.t 11,.t 13]),
 oo 15 (.nt (.t 14))])
 (.cd (.t 15) (.sq (rg [om 4 (.k (.bool false))])
 (.rt))
 (.sk)))
 (.sq (.sq (rg [oo 16 (.fa 2 (.t 2)),
 oo 17 (.ld none (.t 16)),
 oo 18 (.fa 2 (.t 3)),
 oo 19 (.ld none (.t 18)),
 oo 20 (.ca .pure false (.f Xl) [.t 17,.t 19]),
 oo 21 (.nt (.t 20))])
 (.cd (.t 21) (.sq (rg [om 4 (.k (.bool false))])
 (.rt))
 (.sk)))
 (.sq (.sq (rg [oo 22 (.fa 3 (.t 2)),
 oo 23 (.ld none (.t 22)),
 oo 24 (.fa 3 (.t 3)),
 oo 25 (.ld none (.t 24)),
 oo 26 (.bi .neq 0 (.t 23) (.t 25))])
 (.cd (.t 26) (.sq (rg [om 4 (.k (.bool false))])
 (.rt))
 (.sk)))
 (.sq (.sq (rg [oo 27 (.fa 4 (.t 2)),
 oo 28 (.ld none (.t 27)),
 oo 29 (.fa 4 (.t 3)),
 oo 30 (.ld none (.t 29)),
 oo 31 (.ca .pure false (.f Vp) [.t 28,.t 30]),
 oo 32 (.nt (.t 31))])
 (.cd (.t 32) (.sq (rg [om 4 (.k (.bool false))])
 (.rt))
 (.sk)))
 (.sq (.sq (rg [oo 33 (.fa 5 (.t 2)),
 oo 34 (.ld none (.t 33)),
 oo 35 (.fa 5 (.t 3)),
 oo 36 (.ld none (.t 35)),
 oo 37 (.ca .pure false (.f Wu) [.t 34,.t 36]),
 oo 38 (.nt (.t 37))])
 (.cd (.t 38) (.sq (rg [om 4 (.k (.bool false))])
 (.rt))
 (.sk)))
 (.sq (rg [om 4 (.k (.bool true))])
 (.rt))))))))) }
theorem Zfo:ZF Go.Proofs.Tryz.prog Yu ZaE=true:=by kernel_rfl
def ZaF:F2 :=
 { nt:=13,res:=[.t 4 [0]],body :=
  (.sq (rg [oo 2 (.bt (.t 0)),
 om 4 (i6 0)])
 (.sq (rg [om 5 (.t 1),
 oo 6 (.fa 0 (.t 2)),
 oo 7 (.ld none (.t 6)),
 oo 8 (.lg (.t 7)),
 oo 9 (.bi .sub 0 (.t 5) (.t 8)),
 om 1 (.t 9)])
 (.sq (.sq (rg [om 10 (.t 1),
 oo 11 (.bi .lss 0 (.t 10) (i6 0))])
 (.cd (.t 11) (.sq (rg [om 4 (i6 (-1))])
 (.rt))
 (.sk)))
 (.sq (rg [om 12 (.t 1),
 om 4 (.t 12)])
 (.rt))))) }
theorem Zfp:ZF Go.Proofs.Tryz.prog Xn ZaF=true:=by kernel_rfl
def DH:F2 :=
 { nt:=12,res:=[.t 4 [0]],body :=
  (.sq (rg [oo 2 (.bt (.t 0)),
 om 4 (i6 0)])
 (.sq (rg [oo 5 (.fa 3 (.t 2)),
 oo 6 (.ld none (.t 5)),
 om 7 (.t 1),
 oo 8 (.ca .pure false (.f Xu) [.t 6,.t 7]),
 om 1 (.t 8)])
 (.sq (.sq (rg [om 9 (.t 1),
 oo 10 (.bi .lss 0 (.t 9) (i6 0))])
 (.cd (.t 10) (.sq (rg [om 4 (i6 (-1))])
 (.rt))
 (.sk)))
 (.sq (rg [om 11 (.t 1),
 om 4 (.t 11)])
 (.rt))))) }
theorem ZeA:ZF Go.Proofs.Tryz.prog QQ DH=true:=by kernel_rfl
def ZaG:F2 :=
 { nt:=14,res:=[.c 2 (some 3) [0,0,0]],body :=
  (.sq (rg [oo 1 (.bt (.t 0)),
 oo 2 (.al [.string ⟨#[]⟩,.int .i64 0,.int .i64 0] [])])
 (.sq (rg [oo 3 (.al [.string ⟨#[]⟩,.int .i64 0,.int .i64 0] [])])
 (.sq (rg [oo 4 (.fa 0 (.t 1)),
 oo 5 (.ld none (.t 4)),
 oo 6 (.fa 0 (.t 3)),
 on1 (.st 1 (.t 6) (.t 5))])
 (.sq (rg [oo 7 (.fa 1 (.t 1)),
 oo 8 (.ld none (.t 7)),
 oo 9 (.fa 1 (.t 3)),
 on1 (.st 1 (.t 9) (.t 8))])
 (.sq (rg [oo 10 (.fa 2 (.t 1)),
 oo 11 (.ld none (.t 10)),
 oo 12 (.fa 2 (.t 3)),
 on1 (.st 1 (.t 12) (.t 11))])
 (.sq (rg [oo 13 (.ld (some 3) (.t 3)),
 on1 (.st 3 (.t 2) (.t 13))])
 (.rt))))))) }
theorem Zfq:ZF Go.Proofs.Tryz.prog Xo ZaG=true:=by kernel_rfl
def DI:F2 :=
 { nt:=18,res:=[.c 2 (some 4) [0,0,0,2]],body :=
  (.sq (rg [oo 1 (.bt (.t 0)),
 oo 2 (.al [.int .i64 0,.int .i64 0,.int .i64 0,.slice none 0 0] [])])
 (.sq (rg [oo 3 (.al [.int .i64 0,.int .i64 0,.int .i64 0,.slice none 0 0] [])])
 (.sq (rg [oo 4 (.fa 0 (.t 1)),
 oo 5 (.ld none (.t 4)),
 oo 6 (.fa 0 (.t 3)),
 on1 (.st 1 (.t 6) (.t 5))])
 (.sq (rg [oo 7 (.fa 1 (.t 1)),
 oo 8 (.ld none (.t 7)),
 oo 9 (.fa 1 (.t 3)),
 on1 (.st 1 (.t 9) (.t 8))])
 (.sq (rg [oo 10 (.fa 2 (.t 1)),
 oo 11 (.ld none (.t 10)),
 oo 12 (.fa 2 (.t 3)),
 on1 (.st 1 (.t 12) (.t 11))])
 (.sq (rg [oo 13 (.fa 3 (.t 1)),
 oo 14 (.ld none (.t 13)),
 oo 15 (.ca .pure true (.f Xv) [.t 14]),
 oo 16 (.fa 3 (.t 3)),
 on1 (.st 1 (.t 16) (.t 15))])
 (.sq (rg [oo 17 (.ld (some 4) (.t 3)),
 on1 (.st 4 (.t 2) (.t 17))])
 (.rt)))))))) }
theorem ZeB:ZF Go.Proofs.Tryz.prog QR DI=true:=by kernel_rfl
def ZaH:F2 :=
 { nt:=20,res:=[.t 4 [0]],body :=
  (.sq (rg [oo 2 (.bt (.t 0)),
 oo 3 (.bt (.t 1)),
 om 4 (.k (.bool false))])
 (.sq (.sq (rg [oo 5 (.fa 0 (.t 2)),
 oo 6 (.ld none (.t 5)),
 oo 7 (.fa 0 (.t 3)),
 oo 8 (.ld none (.t 7)),
 oo 9 (.bi .neq 0 (.t 6) (.t 8))])
 (.cd (.t 9) (.sq (rg [om 4 (.k (.bool false))])
 (.rt))
 (.sk)))
 (.sq (.sq (rg [oo 10 (.fa 1 (.t 2)),
 oo 11 (.ld none (.t 10)),
 oo 12 (.fa 1 (.t 3)),
 oo 13 (.ld none (.t 12)),
 oo 14 (.bi .neq 0 (.t 11) (.t 13))])
 (.cd (.t 14) (.sq (rg [om 4 (.k (.bool false))])
 (.rt))
 (.sk)))
 (.sq (.sq (rg [oo 15 (.fa 2 (.t 2)),
 oo 16 (.ld none (.t 15)),
 oo 17 (.fa 2 (.t 3)),
 oo 18 (.ld none (.t 17)),
 oo 19 (.bi .neq 0 (.t 16) (.t 18))])
 (.cd (.t 19) (.sq (rg [om 4 (.k (.bool false))])
 (.rt))
 (.sk)))
 (.sq (rg [om 4 (.k (.bool true))])
 (.rt)))))) }
theorem Zfr:ZF Go.Proofs.Tryz.prog Xp ZaH=true:=by kernel_rfl
def DJ:F2 :=
 { nt:=26,res:=[.t 4 [0]],body :=
  (.sq (rg [oo 2 (.bt (.t 0)),
 oo 3 (.bt (.t 1)),
 om 4 (.k (.bool false))])
 (.sq (.sq (rg [oo 5 (.fa 0 (.t 2)),
 oo 6 (.ld none (.t 5)),
 oo 7 (.fa 0 (.t 3)),
 oo 8 (.ld none (.t 7)),
 oo 9 (.bi .neq 0 (.t 6) (.t 8))])
 (.cd (.t 9) (.sq (rg [om 4 (.k (.bool false))])
 (.rt))
 (.sk)))
 (.sq (.sq (rg [oo 10 (.fa 1 (.t 2)),
 oo 11 (.ld none (.t 10)),
 oo 12 (.fa 1 (.t 3)),
 oo 13 (.ld none (.t 12)),
 oo 14 (.bi .neq 0 (.t 11) (.t 13))])
 (.cd (.t 14) (.sq (rg [om 4 (.k (.bool false))])
 (.rt))
 (.sk)))
 (.sq (.sq (rg [oo 15 (.fa 2 (.t 2)),
 oo 16 (.ld none (.t 15)),
 oo 17 (.fa 2 (.t 3)),
 oo 18 (.ld none (.t 17)),
 oo 19 (.bi .neq 0 (.t 16) (.t 18))])
 (.cd (.t 19) (.sq (rg [om 4 (.k (.bool false))])
 (.rt))
 (.sk)))
 (.sq (.sq (rg [oo 20 (.fa 3 (.t 2)),
 oo 21 (.ld none (.t 20)),
 oo 22 (.fa 3 (.t 3)),
 oo 23 (.ld none (.t 22)),
 oo 24 (.ca .pure false (.f Vp) [.t 21,.t 23]),
 oo 25 (.nt (.t 24))])
 (.cd (.t 25) (.sq (rg [om 4 (.k (.bool false))])
 (.rt))
 (.sk)))
 (.sq (rg [om 4 (.k (.bool true))])
 (.rt))))))) }
theorem ZeC:ZF Go.Proofs.Tryz.prog QT DJ=true:=by kernel_rfl
def ZdS:F2 :=
 { nt:=21,res:=[.t 4 [0]],body :=
  (.sq (rg [oo 2 (.bt (.t 0)),
 oo 3 (.bt (.t 1)),
 om 4 (.k (.bool false))])
 (.sq (.sq (rg [oo 5 (.fa 0 (.t 2)),
 oo 6 (.ld none (.t 5)),
 oo 7 (.fa 0 (.t 3)),
 oo 8 (.ld none (.t 7)),
 oo 9 (.bi .neq 0 (.t 6) (.t 8))])
 (.cd (.t 9) (.sq (rg [om 4 (.k (.bool false))])
 (.rt))
 (.sk)))
 (.sq (.sq (rg [oo 10 (.fa 1 (.t 2)),
 oo 11 (.ld none (.t 10)),
 oo 12 (.fa 1 (.t 3)),
 oo 13 (.ld none (.t 12)),
 oo 14 (.bi .neq 0 (.t 11) (.t 13))])
 (.cd (.t 14) (.sq (rg [om 4 (.k (.bool false))])
 (.rt))
 (.sk)))
 (.sq (.sq (rg [oo 15 (.fa 2 (.t 2)),
 oo 16 (.ld none (.t 15)),
 oo 17 (.fa 2 (.t 3)),
 oo 18 (.ld none (.t 17)),
 oo 19 (.ca .pure false (.f Xl) [.t 16,.t 18]),
 oo 20 (.nt (.t 19))])
 (.cd (.t 20) (.sq (rg [om 4 (.k (.bool false))])
 (.rt))
 (.sk)))
 (.sq (rg [om 4 (.k (.bool true))])
 (.rt)))))) }
theorem Zjn:ZF Go.Proofs.Tryz.prog W7 ZdS=true:=by kernel_rfl
def ZdT:F2 :=
 { nt:=15,res:=[.t 4 [0]],body :=
  (.sq (rg [oo 2 (.bt (.t 0)),
 oo 3 (.bt (.t 1)),
 om 4 (.k (.bool false))])
 (.sq (.sq (rg [oo 5 (.fa 0 (.t 2)),
 oo 6 (.ld none (.t 5)),
 oo 7 (.fa 0 (.t 3)),
 oo 8 (.ld none (.t 7)),
 oo 9 (.bi .neq 0 (.t 6) (.t 8))])
 (.cd (.t 9) (.sq (rg [om 4 (.k (.bool false))])
 (.rt))
 (.sk)))
 (.sq (.sq (rg [oo 10 (.fa 1 (.t 2)),
 oo 11 (.ld none (.t 10)),
 oo 12 (.fa 1 (.t 3)),
 oo 13 (.ld none (.t 12)),
 oo 14 (.bi .neq 0 (.t 11) (.t 13))])
 (.cd (.t 14) (.sq (rg [om 4 (.k (.bool false))])
 (.rt))
 (.sk)))
 (.sq (rg [om 4 (.k (.bool true))])
 (.rt))))) }
theorem Zjo:ZF Go.Proofs.Tryz.prog W8 ZdT=true:=by kernel_rfl
end Go.Fd

/-
  MARKING STRUCTS; WHETHER MARKS ARE HELD (printed by lawgen.py). Own work.
-/
namespace Go.Fd
set_option maxRecDepth 20000
def Yl(x:TBigraph):Nat:=nL J0 x.nodes+nL Ux x.sites+nL DF x.outer+nL QD x.inner
theorem ZgS(x:TBigraph)(k:Int)(lvl:Nat)(S:Sto)(i1 i2 i3 i4:Oid)(k1 h1 v1 k2 h2 v2 k3 h3 v3 k4 h4 v4:Nat)(c1 c2 c3 c4:Option Nat)(l1:i1.1<lvl)(l2:i2.1<lvl)(l3:i3.1<lvl)(l4:i4.1<lvl)(n2_1:i2≠i1)(n3_1:i3≠i1)(n3_2:i3≠i2)(n4_1:i4≠i1)(n4_2:i4≠i2)(n4_3:i4≠i3)(s1:S i1=some (.ar k1 (x.nodes.map ZO) true h1 v1))(s2:S i2=some (.ar k2 (rI x.sites) true h2 v2))(s3:S i3=some (.ar k3 (rS x.outer) true h3 v3))(s4:S i4=some (.ar k4 (x.inner.map ZP) true h4 v4))(h0:0<=k)(hk:k+Yl x<=4611686018427387904)(hb:Zp 4294967296 x) :
  Sem Go.Proofs.Tryz.prog YM lvl [.ag [iI x.roots,.hd i1 [] 0 x.nodes.length c1 h1,.hd i2 [] 0 x.sites.length c2 h2,iI x.edges,.hd i3 [] 0 x.outer.length c3 h3,.hd i4 [] 0 x.inner.length c4 h4],iI k] S (iI (k+Yl x)) (ZT (ZT (ZT (ZT S i1 (.ar k1 (((mL Zfn J0 x.nodes (k))).map ZO) true h1 v1)) i2 (.ar k2 (rI (mL ZnR Ux x.sites (k+(nL J0 x.nodes:Nat)))) true h2 v2)) i3 (.ar k3 (rS (mL ZnS DF x.outer (k+(nL J0 x.nodes:Nat)+(nL Ux x.sites:Nat)))) true h3 v3)) i4 (.ar k4 (((mL Zey QD x.inner (k+(nL J0 x.nodes:Nat)+(nL Ux x.sites:Nat)+(nL DF x.outer:Nat)))).map ZP) true h4 v4)):=by
 obtain⟨b0,b1,b2,b3,b4,b5,b6⟩:=hb
 have e1:i1.1≠lvl:=by omega
 have e2:i2.1≠lvl:=by omega
 have e3:i3.1≠lvl:=by omega
 have e4:i4.1≠lvl:=by omega
 simp only[Yl] at hk
 refine Zb ZdM trivial ?_
 simp only[UX,EVA,seval]
 simp only[ZgU]
 refine ZcS ZnT l1 s1 (by omega) (by omega) b0 b1 ?_
 simp only[EVA,seval]
 simp only[ZgU]
 refine ZcS ZkJ l2 (by rw[Zet n2_1];exact s2) (by omega) (by omega) b2 (fun _ _=>trivial) ?_
 simp only[EVA,seval]
 simp only[ZgU]
 refine ZcS Ze3 l3 (by rw[Zet n3_2,Zet n3_1];exact s3) (by omega) (by omega) b3 b4 ?_
 simp only[EVA,seval]
 simp only[ZgU]
 refine ZcS ZnU l4 (by rw[Zet n4_3,Zet n4_2,Zet n4_1];exact s4) (by omega) (by omega) b5 b6 ?_
 simp only[EVA,seval]
 simp only[Yl,Int.natCast_add,<-Int.add_assoc]
 try exact⟨rfl,rfl⟩
theorem ZgT{x:TBigraph}{k:Int}{lvl a1 a2 a3 a4:Nat}{out:Sto}{k1 h1 v1 k2 h2 v2 k3 h3 v3 k4 h4 v4:Nat}{c1 c2 c3 c4:Option Nat}{env:List (Nat×IV)}{loc:List (Nat×Ob)}{d:Option Nat}{K:St->Prop}(n2_1:a2≠a1)(n3_1:a3≠a1)(n3_2:a3≠a2)(n4_1:a4≠a1)(n4_2:a4≠a2)(n4_3:a4≠a3)(s1:lkO a1 loc=some (.ar k1 (x.nodes.map ZO) true h1 v1))(s2:lkO a2 loc=some (.ar k2 (rI x.sites) true h2 v2))(s3:lkO a3 loc=some (.ar k3 (rS x.outer) true h3 v3))(s4:lkO a4 loc=some (.ar k4 (x.inner.map ZP) true h4 v4))(h0:0<=k)(hk:k+Yl x<=4611686018427387904)(hb:Zp 4294967296 x)
  (hK:K ⟨lvl,ptd d (iI (k+Yl x)) env,(ptO a4 (.ar k4 (((mL Zey QD x.inner (k+(nL J0 x.nodes:Nat)+(nL Ux x.sites:Nat)+(nL DF x.outer:Nat)))).map ZP) true h4 v4) (ptO a3 (.ar k3 (rS (mL ZnS DF x.outer (k+(nL J0 x.nodes:Nat)+(nL Ux x.sites:Nat)))) true h3 v3) (ptO a2 (.ar k2 (rI (mL ZnR Ux x.sites (k+(nL J0 x.nodes:Nat)))) true h2 v2) (ptO a1 (.ar k1 (((mL Zfn J0 x.nodes (k))).map ZO) true h1 v1) loc)))),out⟩) :
  kcy (Sem Go.Proofs.Tryz.prog) YM true lvl env loc out d K [.ag [iI x.roots,.hd (lvl,a1) [] 0 x.nodes.length c1 h1,.hd (lvl,a2) [] 0 x.sites.length c2 h2,iI x.edges,.hd (lvl,a3) [] 0 x.outer.length c3 h3,.hd (lvl,a4) [] 0 x.inner.length c4 h4],iI k]:=by
 refine Vy (r:=iI (k+Yl x)) (ptO a4 (.ar k4 (((mL Zey QD x.inner (k+(nL J0 x.nodes:Nat)+(nL Ux x.sites:Nat)+(nL DF x.outer:Nat)))).map ZP) true h4 v4) (ptO a3 (.ar k3 (rS (mL ZnS DF x.outer (k+(nL J0 x.nodes:Nat)+(nL Ux x.sites:Nat)))) true h3 v3) (ptO a2 (.ar k2 (rI (mL ZnR Ux x.sites (k+(nL J0 x.nodes:Nat)))) true h2 v2) (ptO a1 (.ar k1 (((mL Zfn J0 x.nodes (k))).map ZO) true h1 v1) loc)))) out (fun _ _=>rfl) ?_ ⟨trivial,hK⟩
 rw[Ds,Ds,Ds,Ds]
 exact ZgS x k (lvl+1) _ (lvl,a1) (lvl,a2) (lvl,a3) (lvl,a4) k1 h1 v1 k2 h2 v2 k3 h3 v3 k4 h4 v4 c1 c2 c3 c4 (Nat.lt_succ_self _) (Nat.lt_succ_self _) (Nat.lt_succ_self _) (Nat.lt_succ_self _) (fun e=>n2_1 (congrArg Prod.snd e)) (fun e=>n3_1 (congrArg Prod.snd e)) (fun e=>n3_2 (congrArg Prod.snd e)) (fun e=>n4_1 (congrArg Prod.snd e)) (fun e=>n4_2 (congrArg Prod.snd e)) (fun e=>n4_3 (congrArg Prod.snd e)) (by rw[Yt];exact s1) (by rw[Yt];exact s2) (by rw[Yt];exact s3) (by rw[Yt];exact s4) h0 hk hb
def Zh0(x:TBigraph)(k:Int):TBigraph:={ x with nodes:=mL Zfn J0 x.nodes (k),sites:=mL ZnR Ux x.sites (k+(nL J0 x.nodes:Nat)),outer:=mL ZnS DF x.outer (k+(nL J0 x.nodes:Nat)+(nL Ux x.sites:Nat)),inner:=mL Zey QD x.inner (k+(nL J0 x.nodes:Nat)+(nL Ux x.sites:Nat)+(nL DF x.outer:Nat)) }
theorem ZkK(a:List Int)(k:Int)(hl:a.length<=4294967296)(h0:0<=k)(hk:k+nL Ux a<=4611686018427387904)(lvl:Nat)(S:Sto):Sem Go.Proofs.Tryz.prog VW lvl [.tr (.sl (rI (mL ZnR Ux a k))),iI k] S (iI (k+nL Ux a)) S:=by
 refine Zb ZgQ trivial ?_
 simp only[Zbo,EVA,seval]
 refine ZU (α:=Unit) a.length (fun j _=>⟨lvl,[(0,.tr (.sl (rI (mL ZnR Ux a k)))),(1,iI (kJ Ux a k j)),(5,iI j)],[],S⟩) (fun _ _=>True) () ⟨by simp only[EVA,seval],by (simp only[U3,EVA,seval]) <;> rfl⟩ trivial ?_
 intro j _ hj _
 simp only[List.length_map,Vz,EVA,seval]
 refine Zk (fun hlt=>?_) (fun hge=>?_)
 ·have hja:j<a.length:=by omega
  have ga:=ZmQ (c:=(fun n:Int=>[tv n])) (m:=ZnR) (n:=Ux) (k:=k) hja
  have hge2:=ZgZ Ux (a:=a) (k:=k) (j:=j+1)
  rw[YS Ux hja] at hge2
  have hge3:=Zg0 Ux (a:=a) (k:=k) (j:=j)
  try simp only[Ux] at hge2
  simp only[ga,ZnR,Nat.zero_add,ne_eq,not_true_eq_false,EVA,seval]
  refine⟨by rw[Zd];omega,⟨by rw[Zd];omega,Ze () hja ?_ trivial⟩⟩
  rw[YS Ux hja]
  simp only[Ux,Int.natCast_add,Int.natCast_one]
  try rfl
 ·have:j=a.length:=by omega
  subst this
  rw[ZbZ]
theorem ZnV(a:List TNode)(k:Int)(hl:a.length<=4294967296)(hB:∀ x∈a,(Za0 4294967296) x)(h0:0<=k)(hk:k+nL J0 a<=4611686018427387904)(lvl:Nat)(S:Sto):Sem Go.Proofs.Tryz.prog Xs lvl [.tr (.sl (((mL Zfn J0 a k)).map ZO)),iI k] S (iI (k+nL J0 a)) S:=by
 refine Zb Zfl trivial ?_
 simp only[ZaC,EVA,seval]
 refine ZU (α:=Unit) a.length (fun j _=>⟨lvl,[(0,.tr (.sl (((mL Zfn J0 a k)).map ZO))),(1,iI (kJ J0 a k j)),(5,iI j)],[],S⟩) (fun _ _=>True) () ⟨by simp only[EVA,seval],by (simp only[U3,EVA,seval]) <;> rfl⟩ trivial ?_
 intro j _ hj _
 simp only[List.length_map,Vz,EVA,seval]
 refine Zk (fun hlt=>?_) (fun hge=>?_)
 ·have hja:j<a.length:=by omega
  have ga:=ZmQ (c:=ZO) (m:=Zfn) (n:=J0) (k:=k) hja
  have hge2:=ZgZ J0 (a:=a) (k:=k) (j:=j+1)
  rw[YS J0 hja] at hge2
  have hge3:=Zg0 J0 (a:=a) (k:=k) (j:=j)
  try simp only[J0] at hge2
  have hb:=hB _ (List.getElem_mem hja)
  simp only[ga,ZO,Zfn,Nat.zero_add,ne_eq,not_true_eq_false,EVA,seval,Zj,men]
  refine⟨by rw[Zd];omega,⟨by rw[Zd];omega,?_⟩⟩
  refine Za (ZkK (a[j]).links (kJ J0 a k j+1+1) hb (by omega) (by omega)) ?_
  have hz2:¬ (kJ J0 a k j+1+1+(nL Ux (a[j]).links:Nat)<0):=by omega
  simp only[hz2,EVA,seval]
  refine⟨by rw[Zd];omega,Ze () hja ?_ trivial⟩
  rw[YS J0 hja]
  simp only[J0,Int.natCast_add,Int.natCast_one,Int.add_assoc]
  try rfl
 ·have:j=a.length:=by omega
  subst this
  rw[ZbZ]
theorem ZkL(a:List ByteArray)(k:Int)(hl:a.length<=4294967296)(hB:∀ x∈a,(fun x=>x.size<=4294967296) x)(h0:0<=k)(hk:k+nL DF a<=4611686018427387904)(lvl:Nat)(S:Sto):Sem Go.Proofs.Tryz.prog V9 lvl [.tr (.sl (rS (mL ZnS DF a k))),iI k] S (iI (k+nL DF a)) S:=by
 refine Zb ZdP trivial ?_
 simp only[U0,EVA,seval]
 refine ZU (α:=Unit) a.length (fun j _=>⟨lvl,[(0,.tr (.sl (rS (mL ZnS DF a k)))),(1,iI (kJ DF a k j)),(5,iI j)],[],S⟩) (fun _ _=>True) () ⟨by simp only[EVA,seval],by (simp only[U3,EVA,seval]) <;> rfl⟩ trivial ?_
 intro j _ hj _
 simp only[List.length_map,Vz,EVA,seval]
 refine Zk (fun hlt=>?_) (fun hge=>?_)
 ·have hja:j<a.length:=by omega
  have ga:=ZmQ (c:=(fun n:ByteArray=>[ts n])) (m:=ZnS) (n:=DF) (k:=k) hja
  have hge2:=ZgZ DF (a:=a) (k:=k) (j:=j+1)
  rw[YS DF hja] at hge2
  have hge3:=Zg0 DF (a:=a) (k:=k) (j:=j)
  try simp only[DF] at hge2
  have hb:=hB _ (List.getElem_mem hja)
  simp only[ga,ZnS,Nat.zero_add,EVA,seval,Zj,men]
  refine Za (Wp (kJ DF a k j) (by omega)) ?_
  simp only[ne_eq,not_true_eq_false,EVA,seval]
  refine⟨by rw[Zd];omega,⟨by rw[Zd];omega,Ze () hja ?_ trivial⟩⟩
  rw[YS DF hja]
  simp only[DF,Int.natCast_add,Int.natCast_one]
  try rfl
 ·have:j=a.length:=by omega
  subst this
  rw[ZbZ]
theorem ZnW(a:List TWire)(k:Int)(hl:a.length<=4294967296)(hB:∀ x∈a,(UJ 4294967296) x)(h0:0<=k)(hk:k+nL QD a<=4611686018427387904)(lvl:Nat)(S:Sto):Sem Go.Proofs.Tryz.prog Xt lvl [.tr (.sl (((mL Zey QD a k)).map ZP)),iI k] S (iI (k+nL QD a)) S:=by
 refine Zb Zfm trivial ?_
 simp only[ZaD,EVA,seval]
 refine ZU (α:=Unit) a.length (fun j _=>⟨lvl,[(0,.tr (.sl (((mL Zey QD a k)).map ZP))),(1,iI (kJ QD a k j)),(5,iI j)],[],S⟩) (fun _ _=>True) () ⟨by simp only[EVA,seval],by (simp only[U3,EVA,seval]) <;> rfl⟩ trivial ?_
 intro j _ hj _
 simp only[List.length_map,Vz,EVA,seval]
 refine Zk (fun hlt=>?_) (fun hge=>?_)
 ·have hja:j<a.length:=by omega
  have ga:=ZmQ (c:=ZP) (m:=Zey) (n:=QD) (k:=k) hja
  have hge2:=ZgZ QD (a:=a) (k:=k) (j:=j+1)
  rw[YS QD hja] at hge2
  have hge3:=Zg0 QD (a:=a) (k:=k) (j:=j)
  try simp only[QD] at hge2
  have hb:=hB _ (List.getElem_mem hja)
  simp only[ga,ZP,Zey,Nat.zero_add,EVA,seval,Zj,men]
  refine Za (Wp (kJ QD a k j) (by omega)) ?_
  simp only[ga,ZP,Zey,Nat.zero_add,ne_eq,not_true_eq_false,EVA,seval]
  refine⟨by rw[Zd];omega,⟨by rw[Zd];omega,⟨by rw[Zd];omega,Ze () hja ?_ trivial⟩⟩⟩
  rw[YS QD hja]
  simp only[QD,Int.natCast_add,Int.natCast_one,Int.add_assoc]
  try rfl
 ·have:j=a.length:=by omega
  subst this
  rw[ZbZ]
theorem Ze4(x:TBigraph)(k:Int)(hb:Zp 4294967296 x)(h0:0<=k)(hk:k+Yl x<=4611686018427387904)(lvl:Nat)(S:Sto):Sem Go.Proofs.Tryz.prog YN lvl [.ag ((Zc (Zh0 x k)).map .tr),iI k] S (iI (k+Yl x)) S:=by
 obtain⟨b0,b1,b2,b3,b4,b5,b6⟩:=hb
 simp only[Yl] at hk
 refine Zb ZdN trivial ?_
 simp only[UY,Zc,Zh0,EVA,seval,Zj,men]
 refine Za (ZnV x.nodes (k) b0 b1 (by omega) (by omega)) ?_
 have hz0:¬ (k+(nL J0 x.nodes:Nat)<0):=by omega
 simp only[hz0,EVA,seval,Zj,men]
 refine Za (ZkK x.sites (k+(nL J0 x.nodes:Nat)) b2 (by omega) (by omega)) ?_
 have hz1:¬ (k+(nL J0 x.nodes:Nat)+(nL Ux x.sites:Nat)<0):=by omega
 simp only[hz1,EVA,seval,Zj,men]
 refine Za (ZkL x.outer (k+(nL J0 x.nodes:Nat)+(nL Ux x.sites:Nat)) b3 b4 (by omega) (by omega)) ?_
 have hz2:¬ (k+(nL J0 x.nodes:Nat)+(nL Ux x.sites:Nat)+(nL DF x.outer:Nat)<0):=by omega
 simp only[hz2,EVA,seval,Zj,men]
 refine Za (ZnW x.inner (k+(nL J0 x.nodes:Nat)+(nL Ux x.sites:Nat)+(nL DF x.outer:Nat)) b5 b6 (by omega) (by omega)) ?_
 have hz3:¬ (k+(nL J0 x.nodes:Nat)+(nL Ux x.sites:Nat)+(nL DF x.outer:Nat)+(nL QD x.inner:Nat)<0):=by omega
 simp only[hz3,EVA,seval]
 simp only[Yl,Int.natCast_add,<-Int.add_assoc]
end Go.Fd

/-
  HOW MANY MARKS A THING TAKES, AGAINST ITS SIZE (printed by lawgen.py). Own work.
-/
namespace Go.Fd
theorem Zqa(x:TControl):Zq 256 (fun l=>Jf x l) (Vb x):=Zmr (Zw5 (by omega) (by omega) (Zw6 x.name.size) Zw4) (by simp only[Vb];omega)
theorem ZnX(x:TTermStep):Zq 256 (fun l=>JO x l) (YG x):=Zmr (Zw5 (by omega) (by omega) (ZBH (n:=DF) (fun y=>ZtM y.size) x.names) Zw4) (by simp only[YG];omega)
end Go.Fd

/-
  WHAT HOLDS OF THE HELPERS OF THE LAWS (printed by lawgen.py). Own work.
-/
namespace Go.Fd
set_option maxRecDepth 20000
theorem Zsu{α:Type}{f:α->Int->Int}:∀(a:List α) (l:Int),(∀ x∈a,∀ l:Int,0<=l->l<=1048576->f x l<=l)->0<=l->l<=1048576->szF f a l<=l
 | [],l,_,_,_=>Int.le_refl l
 | x::r,l,hf,h0,h1=>by
  simp only[szF]
  have:=hf x (by simp) l h0 h1
  split
  ·omega
  ·have h2:=Zsu r (f x l) (fun y hy=>hf y (by simp [hy])) (by omega) (by omega)
   omega
theorem Zqb{α:Type}{f:α->Int->Int}(a:List α){l:Int}(hf:∀ x∈a,∀ l:Int,0<=l->l<=1048576->f x l<=l)(h0:0<=l)(h1:l<=1048576):szL f a l<=l:=by
 unfold szL
 split
 ·omega
 ·have:=Zsu a (l-a.length) hf (by omega) (by omega)
  omega
theorem Zqc{l m:Int}{g:Int->Int}(h0:0<=l)(h:m<=l)(hg:0<=m->g m<=m):Zmq m g<=l:=by
 unfold Zmq
 split
 ·omega
 ·have:=hg (by omega)
  omega
theorem ZlM:ZF Go.Proofs.Tryz.prog Xu ZBF=true:=by kernel_rfl
theorem ZdU(a:List ByteArray)(hl:a.length<=9223372036854775807)(hb:∀ y∈a,y.size<=9223372036854775807)(l:Int)(h0:0<=l)(h1:l<=1048576):szL (fun x m=>m-x.size) a l<=l/\∀ lvl S,Sem Go.Proofs.Tryz.prog Xu lvl [tS a,iI l] S (iI (szL (fun x m=>m-x.size) a l)) S :=
 ⟨Zqb a (fun x _ l _ _=>by omega) h0 h1,fun lvl S=>Zq3 ZlM a l hl h0 h1 hb lvl S⟩
theorem ZdV(x:TControl)(hb:Zo 9223372036854775807 x)(l:Int)(h0:0<=l)(h1:l<=1048576):Jf x l<=l/\∀ lvl S,Sem Go.Proofs.Tryz.prog Xn lvl [.ag ((Zh x).map .tr),iI l] S (iI (Jf x l)) S:=by
 have b0:x.name.size<=9223372036854775807:=hb
 refine⟨?_,fun lvl S=>?_⟩
 ·unfold Jf
  refine Zqc h0 (m:=l-x.name.size) (by omega) (fun p0=>?_)
  have r0:_<=(1048576:Int):=Int.le_trans (show l-x.name.size<=l by omega) h1
  exact Int.le_refl _
 ·refine Zb Zfp trivial ?_
  simp only[ZaF,Zh,List.map_cons,List.map_nil,EVA,seval]
  unfold Jf
  refine⟨by rw[Zd];omega,?_⟩
  obtain⟨l1,hl1⟩:∃ m:Int,m=l-x.name.size:=⟨_,rfl⟩
  have u1:l1<=l:=by omega
  rw[<-hl1]
  split
  ·rename_i hn;rw[Zmq,if_pos hn]
  rename_i hn0
  rw[Zmq,if_neg hn0]
theorem ZkM:ZF Go.Proofs.Tryz.prog Ye (ZxV 3 (some 3) Xn)=true:=by kernel_rfl
theorem Dh(a:List TControl)(hl:a.length<=9223372036854775807)(hb:∀ y∈a,Zo 9223372036854775807 y)(l:Int)(h0:0<=l)(h1:l<=1048576):szL Jf a l<=l/\∀ lvl S,Sem Go.Proofs.Tryz.prog Ye lvl [.tr (.sl (a.map Zh)),iI l] S (iI (szL Jf a l)) S :=
 ⟨Zqb a (fun x hx l h0 h1=>(ZdV x (hb x hx) l h0 h1).1) h0 h1,fun lvl S=>Zmp ZkM Zh Jf ZeJ a l hl h0 h1 (fun x hx l h0 h1=>ZdV x (hb x hx) l h0 h1) lvl S⟩
theorem Zcl(x:TTermStep)(hb:Zv 9223372036854775807 x)(l:Int)(h0:0<=l)(h1:l<=1048576):JO x l<=l/\∀ lvl S,Sem Go.Proofs.Tryz.prog QQ lvl [.ag ((Zf x).map .tr),iI l] S (iI (JO x l)) S:=by
 obtain⟨b0,b1⟩:=hb
 refine⟨?_,fun lvl S=>?_⟩
 ·unfold JO
  have q0:=ZdU x.names b0 b1 _ h0 h1
  refine Zqc h0 q0.1 (fun p0=>?_)
  have r0:_<=(1048576:Int):=Int.le_trans q0.1 h1
  exact Int.le_refl _
 ·refine Zb ZeA trivial ?_
  simp only[DH,Zf,List.map_cons,List.map_nil,EVA,seval,Zj,men]
  unfold JO
  have q0:=ZdU x.names b0 b1 l h0 h1
  refine Za q0.2 ?_
  simp only[EVA,seval]
  obtain⟨l1,hl1⟩:∃ m:Int,m=(szL (fun x m=>m-x.size) x.names l):=⟨_,rfl⟩
  have u1:l1<=l:=by rw[hl1];exact q0.1
  rw[<-hl1]
  split
  ·rename_i hn;rw[Zmq,if_pos hn]
  rename_i hn0
  rw[Zmq,if_neg hn0]
theorem Zjp:ZF Go.Proofs.Tryz.prog JX (ZxV 4 (some 4) QQ)=true:=by kernel_rfl
theorem Uy(a:List TTermStep)(hl:a.length<=9223372036854775807)(hb:∀ y∈a,Zv 9223372036854775807 y)(l:Int)(h0:0<=l)(h1:l<=1048576):szL JO a l<=l/\∀ lvl S,Sem Go.Proofs.Tryz.prog JX lvl [.tr (.sl (a.map Zf)),iI l] S (iI (szL JO a l)) S :=
 ⟨Zqb a (fun x hx l h0 h1=>(Zcl x (hb x hx) l h0 h1).1) h0 h1,fun lvl S=>Zmp Zjp Zf JO ZiB a l hl h0 h1 (fun x hx l h0 h1=>Zcl x (hb x hx) l h0 h1) lvl S⟩
end Go.Fd

/-
  WHAT HOLDS OF THE HELPERS OF THE LAWS: eq.. (printed by lawgen.py). Own work.
-/
namespace Go.Fd
set_option maxRecDepth 20000
theorem ZrO:ZF Go.Proofs.Tryz.prog Xl Zur=true:=by kernel_rfl
theorem Zh1(a b:(List Int))(ha:a.length<=9223372036854775807)(lvl:Nat)(S:Sto):Sem Go.Proofs.Tryz.prog Xl lvl [.tr (.sl (rI a)),.tr (.sl (rI b))] S (iB (decide (a=b))) S:=ZtJ ZrO a b ha lvl S
theorem ZnY(x y:TNode)(hb:Za0 9223372036854775807 x)(lvl:Nat)(S:Sto):Sem Go.Proofs.Tryz.prog W7 lvl [.ag ((ZO x).map .tr),.ag ((ZO y).map .tr)] S (iB (decide (x=y))) S:=by
 have b0:x.links.length<=9223372036854775807:=hb
 refine Zb Zjn trivial ?_
 simp only[ZdS,ZO,List.map_cons,List.map_nil,EVA,seval,Zj,men]
 refine Zk (fun hne=>?_) (fun heq0=>?_)
 ·have:¬ x=y:=fun e=>(by rw[e] at hne;simp at hne)
  simp [this]
 refine Zk (fun hne=>?_) (fun heq1=>?_)
 ·have:¬ x=y:=fun e=>(by rw[e] at hne;simp at hne)
  simp [this]
 refine Za (Zh1 x.links y.links b0) ?_
 simp only[Bool.not_eq_true',EVA,seval]
 refine Zk (fun hne=>?_) (fun heq2=>?_)
 ·have:¬ x=y:=fun e=>(by rw[e] at hne;simp at hne)
  simp [this]
 have:x=y:=by
  cases x;cases y;simp_all
 simp [this]
theorem Zqd:ZF Go.Proofs.Tryz.prog Wt (Zuq 3 (some 3) W7)=true:=by kernel_rfl
theorem ZlN(a b:(List TNode))(ha:a.length<=9223372036854775807)(ha2:∀ y∈a,Za0 9223372036854775807 y)(lvl:Nat)(S:Sto):Sem Go.Proofs.Tryz.prog Wt lvl [.tr (.sl (a.map ZO)),.tr (.sl (b.map ZO))] S (iB (decide (a=b))) S :=
 ZfC Zqd ZO (fun _=>rfl) a b ha (fun x hx y _ lvl S=>ZnY x y (ha2 x hx) lvl S) lvl S
theorem ZnZ(x y:TWire)(hb:UJ 9223372036854775807 x)(lvl:Nat)(S:Sto):Sem Go.Proofs.Tryz.prog W8 lvl [.ag ((ZP x).map .tr),.ag ((ZP y).map .tr)] S (iB (decide (x=y))) S:=by
 have b0:x.name.size<=9223372036854775807:=hb
 refine Zb Zjo trivial ?_
 simp only[ZdT,ZP,List.map_cons,List.map_nil,EVA,seval]
 refine Zk (fun hne=>?_) (fun heq0=>?_)
 ·have:¬ x=y:=fun e=>(by rw[e] at hne;simp at hne)
  simp [this]
 refine Zk (fun hne=>?_) (fun heq1=>?_)
 ·have:¬ x=y:=fun e=>(by rw[e] at hne;simp at hne)
  simp [this]
 have:x=y:=by
  cases x;cases y;simp_all
 simp [this]
theorem Zqe:ZF Go.Proofs.Tryz.prog Wu (Zuq 2 (some 2) W8)=true:=by kernel_rfl
theorem ZlO(a b:(List TWire))(ha:a.length<=9223372036854775807)(ha2:∀ y∈a,UJ 9223372036854775807 y)(lvl:Nat)(S:Sto):Sem Go.Proofs.Tryz.prog Wu lvl [.tr (.sl (a.map ZP)),.tr (.sl (b.map ZP))] S (iB (decide (a=b))) S :=
 ZfC Zqe ZP (fun _=>rfl) a b ha (fun x hx y _ lvl S=>ZnZ x y (ha2 x hx) lvl S) lvl S
theorem ZlP:ZF Go.Proofs.Tryz.prog Vp Zur=true:=by kernel_rfl
theorem ZdW(a b:(List ByteArray))(ha:a.length<=9223372036854775807)(lvl:Nat)(S:Sto):Sem Go.Proofs.Tryz.prog Vp lvl [.tr (.sl (rS a)),.tr (.sl (rS b))] S (iB (decide (a=b))) S:=ZtK ZlP a b ha lvl S
theorem Zam(x y:TBigraph)(hb:Zp 9223372036854775807 x)(lvl:Nat)(S:Sto):Sem Go.Proofs.Tryz.prog Yu lvl [.ag ((Zc x).map .tr),.ag ((Zc y).map .tr)] S (iB (decide (x=y))) S:=by
 obtain⟨b0,b1,b2,b3,b4,b5,b6⟩:=hb
 refine Zb Zfo trivial ?_
 simp only[ZaE,Zc,List.map_cons,List.map_nil,EVA,seval,Zj,men]
 refine Zk (fun hne=>?_) (fun heq0=>?_)
 ·have:¬ x=y:=fun e=>(by rw[e] at hne;simp at hne)
  simp [this]
 refine Za (ZlN x.nodes y.nodes b0 b1) ?_
 simp only[Bool.not_eq_true',EVA,seval,Zj,men]
 refine Zk (fun hne=>?_) (fun heq1=>?_)
 ·have:¬ x=y:=fun e=>(by rw[e] at hne;simp at hne)
  simp [this]
 refine Za (Zh1 x.sites y.sites b2) ?_
 simp only[Bool.not_eq_true',EVA,seval,Zj,men]
 refine Zk (fun hne=>?_) (fun heq2=>?_)
 ·have:¬ x=y:=fun e=>(by rw[e] at hne;simp at hne)
  simp [this]
 refine Zk (fun hne=>?_) (fun heq3=>?_)
 ·have:¬ x=y:=fun e=>(by rw[e] at hne;simp at hne)
  simp [this]
 refine Za (ZdW x.outer y.outer b3) ?_
 simp only[Bool.not_eq_true',EVA,seval,Zj,men]
 refine Zk (fun hne=>?_) (fun heq4=>?_)
 ·have:¬ x=y:=fun e=>(by rw[e] at hne;simp at hne)
  simp [this]
 refine Za (ZlO x.inner y.inner b5 b6) ?_
 simp only[Bool.not_eq_true',EVA,seval]
 refine Zk (fun hne=>?_) (fun heq5=>?_)
 ·have:¬ x=y:=fun e=>(by rw[e] at hne;simp at hne)
  simp [this]
 have:x=y:=by
  cases x;cases y;simp_all
 simp [this]
theorem Zjq(x y:TControl)(hb:Zo 9223372036854775807 x)(lvl:Nat)(S:Sto):Sem Go.Proofs.Tryz.prog Xp lvl [.ag ((Zh x).map .tr),.ag ((Zh y).map .tr)] S (iB (decide (x=y))) S:=by
 have b0:x.name.size<=9223372036854775807:=hb
 refine Zb Zfr trivial ?_
 simp only[ZaH,Zh,List.map_cons,List.map_nil,EVA,seval]
 refine Zk (fun hne=>?_) (fun heq0=>?_)
 ·have:¬ x=y:=fun e=>(by rw[e] at hne;simp at hne)
  simp [this]
 refine Zk (fun hne=>?_) (fun heq1=>?_)
 ·have:¬ x=y:=fun e=>(by rw[e] at hne;simp at hne)
  simp [this]
 refine Zk (fun hne=>?_) (fun heq2=>?_)
 ·have:¬ x=y:=fun e=>(by rw[e] at hne;simp at hne)
  simp [this]
 have:x=y:=by
  cases x;cases y;simp_all
 simp [this]
theorem ZkN:ZF Go.Proofs.Tryz.prog Yf (Zuq 3 (some 3) Xp)=true:=by kernel_rfl
theorem Di(a b:(List TControl))(ha:a.length<=9223372036854775807)(ha2:∀ y∈a,Zo 9223372036854775807 y)(lvl:Nat)(S:Sto):Sem Go.Proofs.Tryz.prog Yf lvl [.tr (.sl (a.map Zh)),.tr (.sl (b.map Zh))] S (iB (decide (a=b))) S :=
 ZfC ZkN Zh (fun _=>rfl) a b ha (fun x hx y _ lvl S=>Zjq x y (ha2 x hx) lvl S) lvl S
theorem Zhv(x y:TTermStep)(hb:Zv 9223372036854775807 x)(lvl:Nat)(S:Sto):Sem Go.Proofs.Tryz.prog QT lvl [.ag ((Zf x).map .tr),.ag ((Zf y).map .tr)] S (iB (decide (x=y))) S:=by
 obtain⟨b0,b1⟩:=hb
 refine Zb ZeC trivial ?_
 simp only[DJ,Zf,List.map_cons,List.map_nil,EVA,seval,Zj,men]
 refine Zk (fun hne=>?_) (fun heq0=>?_)
 ·have:¬ x=y:=fun e=>(by rw[e] at hne;simp at hne)
  simp [this]
 refine Zk (fun hne=>?_) (fun heq1=>?_)
 ·have:¬ x=y:=fun e=>(by rw[e] at hne;simp at hne)
  simp [this]
 refine Zk (fun hne=>?_) (fun heq2=>?_)
 ·have:¬ x=y:=fun e=>(by rw[e] at hne;simp at hne)
  simp [this]
 refine Za (ZdW x.names y.names b0) ?_
 simp only[Bool.not_eq_true',EVA,seval]
 refine Zk (fun hne=>?_) (fun heq3=>?_)
 ·have:¬ x=y:=fun e=>(by rw[e] at hne;simp at hne)
  simp [this]
 have:x=y:=by
  cases x;cases y;simp_all
 simp [this]
theorem Zjr:ZF Go.Proofs.Tryz.prog JY (Zuq 4 (some 4) QT)=true:=by kernel_rfl
theorem Uz(a b:(List TTermStep))(ha:a.length<=9223372036854775807)(ha2:∀ y∈a,Zv 9223372036854775807 y)(lvl:Nat)(S:Sto):Sem Go.Proofs.Tryz.prog JY lvl [.tr (.sl (a.map Zf)),.tr (.sl (b.map Zf))] S (iB (decide (a=b))) S :=
 ZfC Zjr Zf (fun _=>rfl) a b ha (fun x hx y _ lvl S=>Zhv x y (ha2 x hx) lvl S) lvl S
end Go.Fd

/-
  WHAT HOLDS OF THE HELPERS OF THE LAWS: to.. (printed by lawgen.py). Own work.
-/
namespace Go.Fd
set_option maxRecDepth 20000
theorem ZlQ:ZF Go.Proofs.Tryz.prog Xv (ZBG (.string ⟨#[]⟩))=true:=by kernel_rfl
theorem Zjs(a:(List ByteArray))(ha:a.length<=4294967296)(lvl:Nat)(S:Sto):Sem Go.Proofs.Tryz.prog Xv lvl [.tr (.sl (rS a))] S (.ow 1 (rS a) true) S:=ZtL ZlQ a ha lvl S
theorem Zjt(x:TControl)(hb:Zo 4294967296 x)(lvl:Nat)(S:Sto):Sem Go.Proofs.Tryz.prog Xo lvl [.ag ((Zh x).map .tr)] S (ZiA x) S:=by
 have b0:x.name.size<=4294967296:=hb
 refine Zb Zfq (by simp [ZiA,low,men,Zj]) ?_
 simp only[ZaG,Zh,zfill,zobs,List.map_cons,List.map_nil,Zfz,ZfA,List.set_cons_zero,List.set_cons_succ,EVA,seval]
 rfl
theorem Jt(a:(List TControl))(ha:a.length<=4294967296)(hb:∀ y∈a,Zo 4294967296 y)(lvl:Nat)(S:Sto):Sem Go.Proofs.Tryz.prog ZA lvl [.tr (.sl (a.map Zh))] S (.ow 3 (a.map Zh) true) S:=by
 refine Zb Zez trivial ?_
 simp only[DG,List.length_map,bigN,EVA,seval]
 refine⟨by omega,?_⟩
 refine ZU (α:=Unit) a.length (fun j _=>⟨lvl,[(0,.tr (.sl (a.map Zh))),(3,.hd (lvl,224) [] 0 a.length none a.length),(4,iI j)],[(224,.ar 3 (Xi Zh [ts ⟨#[]⟩,tv 0,tv 0] a j) true a.length (j*0))],S⟩) (fun _ _=>True) () ⟨by simp only[EVA,seval],by (simp only[Zcq,EVA,seval]) <;> rfl⟩ trivial ?_
 intro j _ hj _
 simp only[List.length_map,EVA,seval]
 refine Zk (fun hlt=>?_) (fun hge=>?_)
 ·have hja:j<a.length:=by omega
  have ga:(a.map Zh)[j]? = some (Zh a[j]):=by simp [hja]
  have gz:(Xi Zh [ts ⟨#[]⟩,tv 0,tv 0] a j)[j]? = some [ts ⟨#[]⟩,tv 0,tv 0]:=Zed hja
  have hfl:(Xi Zh [ts ⟨#[]⟩,tv 0,tv 0] a j).length=a.length:=ZcV hj
  have hsem:=fun lvl S=>Zjt a[j] (hb a[j] (List.getElem_mem hja)) lvl S
  simp only[ga,Zh,EVA,seval,Zj,men]
  refine Za hsem ?_
  simp only[ZiA,gz,hja,hfl,YZ,List.getElem?_set_self,List.set_set,List.set_cons_zero,List.set_cons_succ,EVA,seval]
  refine⟨by rw[Zd];omega,Ze () hja ?_ trivial⟩
  have hse:=Zee (c:=Zh) (z:=[ts ⟨#[]⟩,tv 0,tv 0]) (e:=[ts a[j].name,tv a[j].ports,tv a[j].kind_]) hja rfl
  rw[hse,show (j+1)*0=j*0 from by omega]
  rfl
 ·have:j=a.length:=by omega
  subst this
  rw[Zec]
  simp
theorem Zhw(x:TTermStep)(hb:Zv 4294967296 x)(lvl:Nat)(S:Sto):Sem Go.Proofs.Tryz.prog QR lvl [.ag ((Zf x).map .tr)] S (Zf7 x) S:=by
 obtain⟨b0,b1⟩:=hb
 refine Zb ZeB (by simp [Zf7,low,men,Zj]) ?_
 simp only[DI,Zf,zfill,zobs,List.map_cons,List.map_nil,Zfz,ZfA,List.set_cons_zero,List.set_cons_succ,EVA,seval,Zj,men]
 refine Za (Zjs x.names b0) ?_
 simp only[Zfz,ZfA,List.set_cons_zero,List.set_cons_succ,Prod.mk.injEq,EVA,seval]
 rfl
theorem Ji(a:(List TTermStep))(ha:a.length<=4294967296)(hb:∀ y∈a,Zv 4294967296 y)(lvl:Nat)(S:Sto):Sem Go.Proofs.Tryz.prog Zw lvl [.tr (.sl (a.map Zf))] S (.ow 4 (a.map Zf) true) S:=by
 refine Zb ZdR trivial ?_
 simp only[U1,List.length_map,bigN,EVA,seval]
 refine⟨by omega,?_⟩
 refine ZU (α:=Unit) a.length (fun j _=>⟨lvl,[(0,.tr (.sl (a.map Zf))),(3,.hd (lvl,224) [] 0 a.length none a.length),(4,iI j)],[(224,.ar 4 (Xi Zf [tv 0,tv 0,tv 0,.sl []] a j) true a.length (j*1))],S⟩) (fun _ _=>True) () ⟨by simp only[EVA,seval],by (simp only[Zcq,EVA,seval]) <;> rfl⟩ trivial ?_
 intro j _ hj _
 simp only[List.length_map,EVA,seval]
 refine Zk (fun hlt=>?_) (fun hge=>?_)
 ·have hja:j<a.length:=by omega
  have ga:(a.map Zf)[j]? = some (Zf a[j]):=by simp [hja]
  have gz:(Xi Zf [tv 0,tv 0,tv 0,.sl []] a j)[j]? = some [tv 0,tv 0,tv 0,.sl []]:=Zed hja
  have hfl:(Xi Zf [tv 0,tv 0,tv 0,.sl []] a j).length=a.length:=ZcV hj
  have hsem:=fun lvl S=>Zhw a[j] (hb a[j] (List.getElem_mem hja)) lvl S
  simp only[ga,Zf,EVA,seval,Zj,men]
  refine Za hsem ?_
  simp only[Zf7,gz,hja,hfl,YZ,List.getElem?_set_self,List.set_set,List.set_cons_zero,List.set_cons_succ,Prod.mk.injEq,ne_eq,not_false_eq_true,EVA,seval]
  refine⟨by rw[Zd];omega,Ze () hja ?_ trivial⟩
  have hse:=Zee (c:=Zf) (z:=[tv 0,tv 0,tv 0,.sl []]) (e:=[tv a[j].kind_,tv a[j].control,tv a[j].site,.sl (rS a[j].names)]) hja rfl
  rw[hse,show (j+1)*1=j*1+1 from by omega]
  rfl
 ·have:j=a.length:=by omega
  subst this
  rw[Zec]
  simp
end Go.Fd

/-
  WHAT THE LAWS' ARGUMENTS READ AS (printed by lawgen.py). Own work.
-/
namespace Go.Fd
set_option maxRecDepth 20000
theorem ZCq:ZaI Go.Proofs.Tryz.prog 9 (fun n:ByteArray=>[ts n]) (fun n=>n.size<=9223372036854775807):=ZjS Go.Proofs.Tryz.underlying9
theorem ZxL:ZaI Go.Proofs.Tryz.prog 3 (fun n:Int=>[tv n]) (XP .i64):=ZoH Go.Proofs.Tryz.underlying3
theorem ZBT:ZaI Go.Proofs.Tryz.prog 77 Zh (fun x=>Zo 9223372036854775807 x/\Zj3 x):=Zmk (ZeI Go.Proofs.Tryz.underlying77 (show ZhH Go.Proofs.Tryz.prog 0 [(0,9),(1,3),(2,3)] _ _ from (QP (k:=1) (by kernel_rfl) (fun _=>rfl) ZCq (QP (k:=1) (by kernel_rfl) (fun _=>rfl) ZxL (QP (k:=1) (by kernel_rfl) (fun _=>rfl) ZxL ZhI))))) (fun p=>TControl.mk p.1 p.2.1 p.2.2.1) (fun _=>rfl) (fun x h=>⟨h.1,⟨h.2.1,h.2.2.1⟩⟩)
theorem Zuj:ZaI Go.Proofs.Tryz.prog 22 (fun l:List TControl=>[Tr.sl (l.map Zh)]) (fun l=>l.length<=9223372036854775807/\∀ x∈l,(fun x=>Zo 9223372036854775807 x/\Zj3 x) x):=Zco (k:=2) Go.Proofs.Tryz.underlying22 (by kernel_rfl) (fun _=>rfl) ZBT
theorem ZBU:ZaI Go.Proofs.Tryz.prog 45 (fun l:List ByteArray=>[Tr.sl (l.map (fun n:ByteArray=>[ts n]))]) (fun l=>l.length<=9223372036854775807/\∀ x∈l,(fun n=>n.size<=9223372036854775807) x):=Zco (k:=0) Go.Proofs.Tryz.underlying45 (by kernel_rfl) (fun _=>rfl) ZCq
theorem ZBV:ZaI Go.Proofs.Tryz.prog 80 Zf (fun x=>Zv 9223372036854775807 x/\ZhL x):=Zmk (ZeI Go.Proofs.Tryz.underlying80 (show ZhH Go.Proofs.Tryz.prog 0 [(0,3),(1,3),(2,3),(3,45)] _ _ from (QP (k:=1) (by kernel_rfl) (fun _=>rfl) ZxL (QP (k:=1) (by kernel_rfl) (fun _=>rfl) ZxL (QP (k:=1) (by kernel_rfl) (fun _=>rfl) ZxL (QP (k:=1) (by kernel_rfl) (fun _=>rfl) ZBU ZhI)))))) (fun p=>TTermStep.mk p.1 p.2.1 p.2.2.1 p.2.2.2.1) (fun _=>rfl) (fun x h=>⟨⟨h.2.2.2.1.1,(fun y hy=>(h.2.2.2.1.2 y hy))⟩,⟨h.1,h.2.1,h.2.2.1⟩⟩)
theorem Zuk:ZaI Go.Proofs.Tryz.prog 23 (fun l:List TTermStep=>[Tr.sl (l.map Zf)]) (fun l=>l.length<=9223372036854775807/\∀ x∈l,(fun x=>Zv 9223372036854775807 x/\ZhL x) x):=Zco (k:=3) Go.Proofs.Tryz.underlying23 (by kernel_rfl) (fun _=>rfl) ZBV
end Go.Fd

/-
  HOW MANY MARKS SMALL THINGS TAKE. Own work.
-/
namespace Go.Fd
theorem Zsv:∀(l:List Int),nL Ux l=l.length
 | []=>rfl
 | x::r=>by simp only[nL,List.length_cons,Zsv r,Ux];omega
theorem ZxM{α:Type}{n:α->Nat}{B:Nat}:∀(l:List α),(∀ x∈l,n x<=B)->nL n l<=l.length*B
 | [],_=>Nat.zero_le _
 | x::r,h=>by
  have h1:=h x (by simp)
  have h2:=ZxM r (fun y hy=>h y (by simp [hy]))
  simp only[nL,List.length_cons,Nat.add_mul]
  omega
end Go.Fd

/-
  WHAT THE LAW OF CloseName LEANS ON. Own work.
-/
namespace Go.Fd
theorem Zm2{α:Type}{f:α->Nat}{B:Nat}(l:List α)(h:∀ x∈l,f x<=B){n:Nat}(hl:l.length<=n):nL f l<=n*B:=Nat.le_trans (ZxM l h) (Nat.mul_le_mul_right _ hl)
theorem ZxN{sig:List TControl}{b:TBigraph}(h:bigOK sig b):Zp 4294967296 b/\1+(Yl b:Int)<=4611686018427387904:=by
 refine⟨Qh (by omega) (QM h),?_⟩
 have hs:=h.small
 have n1:=Zm2 (f:=J0) (B:=1002) b.nodes (fun x hx=>by have:=hs.links x hx;simp only[J0,Zsv];omega) hs.nodes
 have n2:=Zm2 (f:=Ux) (B:=1) b.sites (fun x _=>by simp [Ux]) hs.sites
 have n3:=Zm2 (f:=DF) (B:=1) b.outer (fun x _=>by simp [DF]) hs.outer
 have n4:=Zm2 (f:=QD) (B:=2) b.inner (fun x _=>by simp [QD]) hs.inner
 unfold Yl
 omega
theorem Zul:Zp 4294967296 Jh/\1+(Yl Jh:Int)<=4611686018427387904:=by
 refine⟨⟨by simp [Jh],by simp [Jh],by simp [Jh],by simp [Jh],by simp [Jh],by simp [Jh],by simp [Jh]⟩,?_⟩
 simp [Yl,Jh,nL]
end Go.Fd
