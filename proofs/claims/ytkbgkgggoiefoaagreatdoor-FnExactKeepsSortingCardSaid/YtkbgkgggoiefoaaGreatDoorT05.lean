/-
  The annotated codes of the functions, printed by a program of mine (gen.py), and the check that they belong to the program.
-/
import Derived.Test.YtkbgkgggoiefoaaGreatDoorT04
import Derived.KernelRfl
import Derived.Shelf.Strings.SlTrimAscii
import Derived.Test.YtkbgkgggoiefoaaGreatDoorProg
set_option linter.all false
namespace Go.Fd
def Xm:F2 :=
 { nt:=30,res:=[.t 6 [0],.t 7 [0]],body:=(.sq (rg [oo 4 (.bt (.t 1)),oo 5 (.bt (.t 2)),om 6 (.k (.bool false)),om 7 (.k (.bool false))]) (.sq (.sq (rg [qM 8 0,qS 9 5 4,oo 10 (.ca .pure false (.f Q5) [.t 8,.t 9]),oo 11 (.nt (.t 10)),qM 12 11,og 13 12 false (.mv (.t 0) none),og 14 12 false (.ld (some 13) (.t 5)),og 15 12 false (.ca .pure false (.f Q6) [.t 13,.t 14]),og 16 12 false (.nt (.t 15)),oo 17 (.pk (.t 12) (.k (.bool true)) (.t 16))]) (.cd (.t 17) (.sq (rg [om 6 (.k (.bool false)),om 7 (.k (.bool false))]) (.rt)) (.sk))) (.sq (rg [qS 18 13 5,oo 19 (.ca .pure false (.f Q7) [.t 18]),qM 20 19,og 21 20 true (.ld (some 5) (.t 4)),og 22 20 true (.ld (some 13) (.t 5)),og 23 20 true (.ca .pure false (.f VX) [.t 21,.t 22]),oo 24 (.pk (.t 20) (.t 23) (.k (.bool false))),qM 25 24,og 26 25 true (.ld (some 5) (.t 4)),og 27 25 true (.ld (some 13) (.t 5)),og 28 25 true (.ca .pure false (.f Qq) [.t 26,.t 27]),oo 29 (.pk (.t 25) (.t 28) (.k (.bool false))),qM 6 29,om 7 (.k (.bool true))]) (.rt)))) }
theorem Dd:ZH Proofs.Tryz.prog J9 Xm=true:=by kernel_rfl
def Xn:F2 :=
 { nt:=35,res:=[.t 6 [0],.t 7 [0]],body:=(.sq (rg [oo 4 (.bt (.t 1)),oo 5 (.bt (.t 2)),om 6 (.k (.bool false)),om 7 (.k (.bool false))]) (.sq (.sq (rg [qM 8 0,qS 9 5 4,oo 10 (.ca .pure false (.f Vq) [.t 8,.t 9]),oo 11 (.nt (.t 10)),qM 12 11,og 13 12 false (.mv (.t 0) none),og 14 12 false (.ld (some 13) (.t 5)),og 15 12 false (.ca .pure false (.f Q8) [.t 13,.t 14]),og 16 12 false (.nt (.t 15)),oo 17 (.pk (.t 12) (.k (.bool true)) (.t 16))]) (.cd (.t 17) (.sq (rg [om 6 (.k (.bool false)),om 7 (.k (.bool false))]) (.rt)) (.sk))) (.sq (.rg (some 0) [qF 18 12 5,qL 19 18,oo 20 (.ca .pure false (.f Q9) [.t 19]),qF 21 12 5,qL 22 21,qN 23 22,qB 24 .eql 20 23,qM 25 24,og 26 25 true (.ld (some 5) (.t 4)),og 27 25 true (.ld (some 13) (.t 5)),og 28 25 true (.ca .pure false (.f Yq) [.t 26,.t 27]),oo 29 (.pk (.t 25) (.t 28) (.k (.bool false))),qM 30 29,og 31 30 true (.ld (some 5) (.t 4)),og 32 30 true (.ld (some 13) (.t 5)),og 33 30 true (.ca .pure false (.f YX) [.t 31,.t 32]),oo 34 (.pk (.t 30) (.t 33) (.k (.bool false))),qM 6 34,om 7 (.k (.bool true))]) (.rt)))) }
theorem De:ZH Proofs.Tryz.prog Yb Xn=true:=by kernel_rfl
def DI:F2 :=
 { nt:=101,res:=[.t 4 [0]],body:=(.sq (rg [oo 3 (.bt (.t 1)),om 4 (.k (.bool false))]) (.sq (.sq (rg [qM 8 0,oo 9 (.ca .pure false (.f Qc) [.t 8]),oo 10 (.nt (.t 9)),qM 11 10,og 12 11 false (.mv (.t 0) none),og 13 11 false (.fa 0 (.t 3)),og 14 11 false (.ld none (.t 13)),og 15 11 false (.ca .pure false (.f JP) [.t 12,.t 14]),og 16 11 false (.nt (.t 15)),oo 17 (.pk (.t 11) (.k (.bool true)) (.t 16)),qM 18 17,og 19 18 false (.mv (.t 0) none),og 20 18 false (.fa 1 (.t 3)),og 21 18 false (.ld none (.t 20)),og 22 18 false (.ca .pure false (.f Xa) [.t 19,.t 21]),og 23 18 false (.nt (.t 22)),oo 24 (.pk (.t 18) (.k (.bool true)) (.t 23)),qM 25 24,og 26 25 false (.fa 3 (.t 3)),og 27 25 false (.ld none (.t 26)),og 28 25 false (.ln (.t 27)),og 29 25 false (.ca .pure false (.f ZA) [.t 28,i6 1,i6 4]),og 30 25 false (.nt (.t 29)),oo 31 (.pk (.t 25) (.k (.bool true)) (.t 30)),qM 32 31,og 33 32 false (.mv (.t 0) none),og 34 32 false (.fa 2 (.t 3)),og 35 32 false (.ld none (.t 34)),og 36 32 false (.fa 3 (.t 3)),og 37 32 false (.ld none (.t 36)),og 38 32 false (.ln (.t 37)),og 39 32 false (.ca .pure false (.f Qt) [.t 33,.t 35,.t 38]),og 40 32 false (.nt (.t 39)),oo 41 (.pk (.t 32) (.k (.bool true)) (.t 40))]) (.cd (.t 41) (.sq (rg [om 4 (.k (.bool false))]) (.rt)) (.sk))) (.sq (.sq (rg [om 5 (i6 0)]) (.bl 0 (.lp [3,5] [] (.sq (.sq (rg [qM 42 5,qF 43 3 3,qL 44 43,qN 45 44,qB 46 .lss 42 45]) (.cd (.t 46) (.sk) (.ex 0))) (.sq (.bl 1 (.sq (rg [qF 49 3 3,qL 50 49,qM 51 5,qI 52 1 50 51,qL 53 52,oo 54 (.ca .pure false (.f ZA) [.t 53,i6 0,i6 24]),oo 55 (.nt (.t 54))]) (.cd (.t 55) (.sq (rg [om 4 (.k (.bool false))]) (.rt)) (.sk))))
 (rg [qM 47 5,oo 48 (.bi .add 0 (.t 47) (i6 1)),qM 5 48])))))) (.sq (.sq (rg [om 6 (i6 0)]) (.bl 2 (.lp [3,6] [] (.sq (.sq (rg [qM 56 6,qF 57 4 3,qL 58 57,qN 59 58,qB 60 .lss 56 59]) (.cd (.t 60) (.sk) (.ex 2))) (.sq (.bl 3 (.sq (rg [qF 63 4 3,qL 64 63,qM 65 6,qI 66 2 64 65,qS 67 2 66,oo 7 (.al [.int .i64 0,.int .i64 0] []),on1 (.st 2 (.t 7) (.t 67))]) (.sq (.rg (some 0) [oo 68 (.ja 1 2 (.t 7) (i6 0)),qL 69 68,oo 70 (.bi .lss 0 (.t 69) (i6 0)),qM 71 70,og 72 71 false (.ja 1 2 (.t 7) (i6 0)),og 73 71 false (.ld none (.t 72)),og 74 71 false (.ja 1 2 (.t 7) (i6 1)),og 75 71 false (.ld none (.t 74)),og 76 71 false (.bi .geq 0 (.t 73) (.t 75)),oo 77 (.pk (.t 71) (.k (.bool true)) (.t 76)),qM 78 77,og 79 78 false (.ja 1 2 (.t 7) (i6 1)),og 80 78 false (.ld none (.t 79)),og 81 78 false (.fa 3 (.t 3)),og 82 78 false (.ld none (.t 81)),og 83 78 false (.ln (.t 82)),og 84 78 false (.bi .geq 0 (.t 80) (.t 83)),oo 85 (.pk (.t 78) (.k (.bool true)) (.t 84)),qM 86 85,og 87 86 false (.mv (.t 6) none),og 88 86 false (.bi .gtr 0 (.t 87) (i6 0)),og 89 86 false (.mv (.t 88) none),og 90 89 true (.fa 4 (.t 3)),og 91 89 true (.ld none (.t 90)),og 92 89 true (.mv (.t 6) none),og 93 89 true (.bi .sub 0 (.t 92) (i6 1)),og 94 89 true (.ia 2 (.t 91) (.t 93)),og 95 89 true (.ld (some 2) (.t 94)),og 96 89 true (.ld (some 2) (.t 7)),og 97 89 true (.ca .pure false (.f V0) [.t 95,.t 96]),og 98 89 true (.nt (.t 97)),og 99 86 false (.pk (.t 89) (.t 98) (.k (.bool false))),oo 100 (.pk (.t 86) (.k (.bool true)) (.t 99))]) (.cd (.t 100) (.sq (rg [om 4 (.k (.bool false))]) (.rt)) (.sk)))))
 (rg [qM 61 6,oo 62 (.bi .add 0 (.t 61) (i6 1)),qM 6 62])))))) (.sq (rg [om 4 (.k (.bool true))]) (.rt)))))) }
theorem Zd2:ZH Proofs.Tryz.prog Q5 DI=true:=by kernel_rfl
def DJ:F2 :=
 { nt:=44,res:=[.t 4 [0]],body:=(.sq (rg [oo 3 (.bt (.t 1)),om 4 (.k (.bool false))]) (.sq (rg [qM 5 0,qF 6 0 3,qS 7 6 6,oo 8 (.ca .pure false (.f Qu) [.t 5,.t 7]),qM 9 8,og 10 9 true (.mv (.t 0) none),og 11 9 true (.fa 6 (.t 3)),og 12 9 true (.ld (some 6) (.t 11)),og 13 9 true (.ca .pure false (.f Vt) [.t 10,.t 12]),oo 14 (.pk (.t 9) (.t 13) (.k (.bool false))),qM 15 14,og 16 15 true (.fa 6 (.t 3)),og 17 15 true (.fa 5 (.t 16)),og 18 15 true (.ld none (.t 17)),og 19 15 true (.ln (.t 18)),og 20 15 true (.bi .eql 0 (.t 19) (i6 0)),oo 21 (.pk (.t 15) (.t 20) (.k (.bool false))),qM 22 21,og 23 22 true (.fa 0 (.t 3)),og 24 22 true (.fa 0 (.t 23)),og 25 22 true (.ld none (.t 24)),og 26 22 true (.fa 6 (.t 3)),og 27 22 true (.fa 0 (.t 26)),og 28 22 true (.ld none (.t 27)),og 29 22 true (.bi .eql 0 (.t 25) (.t 28)),oo 30 (.pk (.t 22) (.t 29) (.k (.bool false))),qM 31 30,og 32 31 true (.fa 0 (.t 3)),og 33 31 true (.fa 4 (.t 32)),og 34 31 true (.ld none (.t 33)),og 35 31 true (.fa 6 (.t 3)),og 36 31 true (.fa 4 (.t 35)),og 37 31 true (.ld none (.t 36)),og 38 31 true (.ca .pure false (.f Yr) [.t 34,.t 37]),oo 39 (.pk (.t 31) (.t 38) (.k (.bool false))),qM 40 39,og 41 40 true (.ld (some 13) (.t 3)),og 42 40 true (.ca .pure false (.f V1) [.t 41]),oo 43 (.pk (.t 40) (.t 42) (.k (.bool false))),qM 4 43]) (.rt))) }
theorem Zd3:ZH Proofs.Tryz.prog Q6 DJ=true:=by kernel_rfl
def DK:F2 :=
 { nt:=21,res:=[.t 2 [0]],body:=(.sq (rg [oo 1 (.bt (.t 0)),om 2 (.k (.bool false))]) (.sq (.sq (rg [om 3 (i6 0)]) (.bl 0 (.lp [1,3] [] (.sq (.sq (rg [qM 4 3,qF 5 12 1,qL 6 5,qN 7 6,qB 8 .lss 4 7]) (.cd (.t 8) (.sk) (.ex 0))) (.sq (.bl 1 (.sq (.rg (some 0) [qF 11 12 1,qL 12 11,qM 13 3,oo 14 (.sx 1 (.t 12) none (some (.t 13)) none),qF 15 12 1,qL 16 15,qM 17 3,qI 18 1 16 17,qL 19 18,oo 20 (.ca .pure false (.f YD) [.t 14,.t 19])]) (.cd (.t 20) (.sq (rg [om 2 (.k (.bool false))]) (.rt)) (.sk))))
 (rg [qM 9 3,oo 10 (.bi .add 0 (.t 9) (i6 1)),qM 3 10])))))) (.sq (rg [om 2 (.k (.bool true))]) (.rt)))) }
theorem Zd4:ZH Proofs.Tryz.prog Q7 DK=true:=by kernel_rfl
def W9:F2 :=
 { nt:=103,res:=[.t 4 [0]],body:=(.sq (rg [oo 2 (.bt (.t 0)),oo 3 (.bt (.t 1)),om 4 (.k (.bool false))]) (.sq (.sq (rg [om 5 (i6 0)]) (.bl 0 (.lp [2,3,5] [] (.sq (.sq (rg [qM 11 5,qF 12 0 3,qF 13 0 12,qL 14 13,qB 15 .lss 11 14]) (.cd (.t 15) (.sk) (.ex 0))) (.sq (.bl 1 (.sq (.rg (some 0) [qF 18 6 3,qS 19 6 18,qM 20 5,oo 21 (.bi .sub 0 (i6 (-1)) (.t 20)),oo 22 (.ca .pure false (.f JQ) [.t 19,.t 21]),qF 23 0 3,qS 24 6 23,qM 25 5,oo 26 (.bi .sub 0 (i6 (-1)) (.t 25)),oo 27 (.ca .pure false (.f JQ) [.t 24,.t 26]),oo 28 (.ca .pure false (.f Vu) [.t 22,.t 27]),oo 29 (.nt (.t 28))]) (.cd (.t 29) (.sq (rg [om 4 (.k (.bool false))]) (.rt)) (.sk))))
 (rg [qM 16 5,oo 17 (.bi .add 0 (.t 16) (i6 1)),qM 5 17])))))) (.sq (.sq (rg [om 6 (i6 0)]) (.bl 2 (.lp [2,3,6] [] (.sq (.sq (rg [qM 30 6,qF 31 6 3,qF 32 1 31,qL 33 32,qN 34 33,qB 35 .lss 30 34]) (.cd (.t 35) (.sk) (.ex 2))) (.sq (.bl 3 (.sq (rg [qF 38 6 3,qF 39 1 38,qL 40 39,qM 41 6,qI 42 3 40 41,qS 43 3 42,oo 7 (.al [.int .i64 0,.int .i64 0,.slice none 0 0] []),on1 (.st 3 (.t 7) (.t 43))]) (.sq (.rg (some 0) [qF 44 1 7,qL 45 44,oo 46 (.bi .geq 0 (.t 45) (i6 0)),qM 47 46,og 48 47 true (.ld (some 5) (.t 2)),og 49 47 true (.fa 6 (.t 3)),og 50 47 true (.ld (some 6) (.t 49)),og 51 47 true (.fa 1 (.t 7)),og 52 47 true (.ld none (.t 51)),og 53 47 true (.ca .pure false (.f Jy) [.t 48,.t 50,.t 52]),og 54 47 true (.fa 0 (.t 7)),og 55 47 true (.ld none (.t 54)),og 56 47 true (.ca .pure false (.f YD) [.t 53,.t 55]),og 57 47 true (.nt (.t 56)),oo 58 (.pk (.t 47) (.t 57) (.k (.bool false)))]) (.cd (.t 58) (.sq (rg [om 4 (.k (.bool false))]) (.rt)) (.sk)))))
 (rg [qM 36 6,oo 37 (.bi .add 0 (.t 36) (i6 1)),qM 6 37])))))) (.sq (.sq (rg [om 8 (i6 0)]) (.bl 4 (.lp [2,3,8] [] (.sq (.sq (rg [qM 59 8,qF 60 12 3,qL 61 60,qN 62 61,qB 63 .lss 59 62]) (.cd (.t 63) (.sk) (.ex 4))) (.sq (.bl 5 (.sq (.rg (some 0) [qS 66 5 2,qF 67 0 3,qS 68 6 67,qF 69 0 3,qF 70 2 69,qL 71 70,qF 72 12 3,qL 73 72,qM 74 8,qI 75 1 73 74,qL 76 75,qI 77 1 71 76,qL 78 77,oo 79 (.ca .pure false (.f Jy) [.t 66,.t 68,.t 78]),qM 9 79]) (.sq (rg [qF 80 6 3,qF 81 2 80,qL 82 81,qM 83 8,qI 84 1 82 83,qL 85 84,qM 10 85]) (.sq (rg [qM 86 9,qN 87 86,oo 88 (.bi .gtr 0 (.t 87) (i6 0)),qM 89 88,og 90 89 true (.mv (.t 10) none),og 91 89 true (.bi .lss 0 (.t 90) (i6 0)),og 92 89 true (.mv (.t 91) none),og 93 92 false (.mv (.t 9) none),og 94 92 false (.ld (some 5) (.t 2)),og 95 92 false (.fa 6 (.t 3)),og 96 92 false (.ld (some 6) (.t 95)),og 97 92 false (.mv (.t 10) none),og 98 92 false (.ca .pure false (.f Jy) [.t 94,.t 96,.t 97]),og 99 92 false (.ca .pure false (.f Vu) [.t 93,.t 98]),og 100 92 false (.nt (.t 99)),og 101 89 true (.pk (.t 92) (.k (.bool true)) (.t 100)),oo 102 (.pk (.t 89) (.t 101) (.k (.bool false)))]) (.cd (.t 102) (.sq (rg [om 4 (.k (.bool false))]) (.rt)) (.sk))))))
 (rg [qM 64 8,oo 65 (.bi .add 0 (.t 64) (i6 1)),qM 8 65])))))) (.sq (rg [om 4 (.k (.bool true))]) (.rt)))))) }
theorem Zb3:ZH Proofs.Tryz.prog VX W9=true:=by kernel_rfl
def UT:F2 :=
 { nt:=68,res:=[.t 4 [0]],body:=(.sq (rg [oo 2 (.bt (.t 0)),oo 3 (.bt (.t 1)),om 4 (.k (.bool false))]) (.sq (.sq (rg [om 5 (i6 0)]) (.bl 0 (.lp [2,3,5] [] (.sq (.sq (rg [qM 10 5,qF 11 6 3,qF 12 3 11,qL 13 12,qB 14 .lss 10 13]) (.cd (.t 14) (.sk) (.ex 0))) (.sq (.bl 1 (.sq (.rg (some 0) [qS 17 5 2,qM 18 5,qS 19 5 2,qF 20 6 3,qS 21 6 20,qM 22 5,oo 23 (.ca .pure false (.f Vv) [.t 19,.t 21,.t 22]),oo 24 (.ca .pure false (.f V2) [.t 17,.t 18,.t 23]),qN 25 24,oo 26 (.bi .gtr 0 (.t 25) (i6 0))]) (.cd (.t 26) (.sq (rg [om 4 (.k (.bool false))]) (.rt)) (.sk))))
 (rg [qM 15 5,oo 16 (.bi .add 0 (.t 15) (i6 1)),qM 5 16])))))) (.sq (.sq (rg [om 6 (i6 0)]) (.bl 2 (.lp [2,3,6] [] (.sq (.sq (rg [qM 27 6,qF 28 0 3,qF 29 4 28,qL 30 29,qN 31 30,qB 32 .lss 27 31]) (.cd (.t 32) (.sk) (.ex 2))) (.sq (.bl 3 (.sq (.rg (some 0) [qS 35 5 2,qF 36 0 3,qS 37 6 36,qF 38 0 3,qF 39 3 38,qL 40 39,qM 41 6,qB 42 .add 40 41,oo 43 (.ca .pure false (.f Vv) [.t 35,.t 37,.t 42]),qS 44 5 2,qF 45 6 3,qS 46 6 45,qF 47 6 3,qF 48 3 47,qL 49 48,qM 50 6,qB 51 .add 49 50,oo 52 (.ca .pure false (.f Vv) [.t 44,.t 46,.t 51]),qM 7 43,qM 8 52]) (.sq (rg [om 9 (i6 0)]) (.bl 4 (.lp [2,3,6,7,8,9] [] (.sq (.sq (rg [qM 53 9,qM 54 7,qN 55 54,qB 56 .lss 53 55]) (.cd (.t 56) (.sk) (.ex 4))) (.sq (.bl 5 (.sq (.rg (some 0) [qM 59 8,qM 60 9,qI 61 1 59 60,qL 62 61,qM 63 7,qM 64 9,qI 65 1 63 64,qL 66 65,qB 67 .gtr 62 66]) (.cd (.t 67) (.sq (rg [om 4 (.k (.bool false))]) (.rt)) (.sk))))
 (rg [qM 57 9,oo 58 (.bi .add 0 (.t 57) (i6 1)),qM 9 58]))))))))
 (rg [qM 33 6,oo 34 (.bi .add 0 (.t 33) (i6 1)),qM 6 34])))))) (.sq (rg [om 4 (.k (.bool true))]) (.rt))))) }
theorem ZcG:ZH Proofs.Tryz.prog Qq UT=true:=by kernel_rfl
def WD:F2 :=
 { nt:=104,res:=[.t 4 [0]],body:=(.sq (rg [oo 3 (.bt (.t 1)),om 4 (.k (.bool false))]) (.sq (.sq (rg [qM 7 0,oo 8 (.ca .pure false (.f JC) [.t 7]),oo 9 (.nt (.t 8)),qM 10 9,og 11 10 false (.fa 0 (.t 3)),og 12 10 false (.ld none (.t 11)),og 13 10 false (.mv (.t 0) none),og 14 10 false (.ln (.t 13)),og 15 10 false (.ca .pure false (.f Yk) [.t 12,.t 14]),og 16 10 false (.nt (.t 15)),oo 17 (.pk (.t 10) (.k (.bool true)) (.t 16)),qM 18 17,og 19 18 false (.fa 1 (.t 3)),og 20 18 false (.ld none (.t 19)),og 21 18 false (.ln (.t 20)),og 22 18 false (.mv (.t 0) none),og 23 18 false (.ln (.t 22)),og 24 18 false (.bi .neq 0 (.t 21) (.t 23)),oo 25 (.pk (.t 18) (.k (.bool true)) (.t 24)),qM 26 25,og 27 26 false (.fa 2 (.t 3)),og 28 26 false (.ld none (.t 27)),og 29 26 false (.ln (.t 28)),og 30 26 false (.mv (.t 0) none),og 31 26 false (.ln (.t 30)),og 32 26 false (.bi .neq 0 (.t 29) (.t 31)),oo 33 (.pk (.t 26) (.k (.bool true)) (.t 32))]) (.cd (.t 33) (.sq (rg [om 4 (.k (.bool false))]) (.rt)) (.sk))) (.sq (.sq (rg [qF 34 3 3,qL 35 34,qN 36 35,oo 37 (.ca .pure false (.f Zt) [.t 36,i6 1,i6 4]),oo 38 (.nt (.t 37)),qM 39 38,og 40 39 false (.fa 3 (.t 3)),og 41 39 false (.ld none (.t 40)),og 42 39 false (.ca .pure false (.f Zp) [.t 41,.f Ys]),oo 43 (.pk (.t 39) (.k (.bool true)) (.t 42)),qM 44 43,og 45 44 false (.fa 4 (.t 3)),og 46 44 false (.ld none (.t 45)),og 47 44 false (.fa 3 (.t 3)),og 48 44 false (.ld none (.t 47)),og 49 44 false (.ln (.t 48)),og 50 44 false (.ca .pure false (.f V3) [.t 46,.t 49]),og 51 44 false (.nt (.t 50)),oo 52 (.pk (.t 44) (.k (.bool true)) (.t 51))]) (.cd (.t 52) (.sq (rg [om 4 (.k (.bool false))]) (.rt)) (.sk))) (.sq (.sq (rg [qM 53 0,qN 54 53,om 55 (i6 0)]) (.bl 0 (.lp [0,3,53,54,55] [] (.sq (rg [qB 56 .lss 55 54]) (.sq (.cd (.t 56) (.sk) (.ex 0)) (.sq (.bl 1 (.sq (rg [qM 57 55,qI 58 3 53 55,qS 59 3 58,oo 6 (.al [.string ⟨#[]⟩,.int .i64 0,.int .i64 0] []),qM 5 57,on1 (.st 3 (.t 6) (.t 59))]) (.sq (.rg (some 0) [qF 60 1 3,qL 61 60,qM 62 5,qI 63 1 61 62,qL 64 63,qM 65 0,qN 66 65,oo 67 (.ca .pure false (.f Yk) [.t 64,.t 66]),oo 68 (.nt (.t 67)),qM 69 68,og 70 69 false (.fa 2 (.t 6)),og 71 69 false (.ld none (.t 70)),og 72 69 false (.bi .eql 0 (.t 71) (i6 2)),og 73 69 false (.mv (.t 72) none),og 74 73 true (.fa 1 (.t 3)),og 75 73 true (.ld none (.t 74)),og 76 73 true (.mv (.t 5) none),og 77 73 true (.ia 1 (.t 75) (.t 76)),og 78 73 true (.ld none (.t 77)),og 79 73 true (.ln (.t 78)),og 80 73 true (.bi .gtr 0 (.t 79) (i6 0)),og 81 69 false (.pk (.t 73) (.t 80) (.k (.bool false))),oo 82 (.pk (.t 69) (.k (.bool true)) (.t 81)),qM 83 82,og 84 83 false (.fa 2 (.t 3)),og 85 83 false (.ld none (.t 84)),og 86 83 false (.mv (.t 5) none),og 87 83 false (.ia 1 (.t 85) (.t 86)),og 88 83 false (.ld none (.t 87)),og 89 83 false (.ln (.t 88)),og 90 83 false (.fa 1 (.t 6)),og 91 83 false (.ld none (.t 90)),og 92 83 false (.bi .neq 0 (.t 89) (.t 91)),oo 93 (.pk (.t 83) (.k (.bool true)) (.t 92)),qM 94 93,og 95 94 false (.fa 2 (.t 3)),og 96 94 false (.ld none (.t 95)),og 97 94 false (.mv (.t 5) none),og 98 94 false (.ia 1 (.t 96) (.t 97)),og 99 94 false (.ld none (.t 98)),og 100 94 false (.mf Yt [.t 3]),og 101 94 false (.ca .pure false (.f Zp) [.t 99,.t 100]),oo 102 (.pk (.t 94) (.k (.bool true)) (.t 101))]) (.cd (.t 102) (.sq (rg [om 4 (.k (.bool false))]) (.rt)) (.sk)))))
 (rg [oo 103 (.bi .add 0 (.t 55) (i6 1)),qM 55 103]))))))) (.sq (rg [om 4 (.k (.bool true))]) (.rt)))))) }
theorem Za9:ZH Proofs.Tryz.prog Vq WD=true:=by kernel_rfl
def DL:F2 :=
 { nt:=59,res:=[.t 4 [0]],body:=(.sq (rg [oo 3 (.bt (.t 1)),om 4 (.k (.bool false))]) (.sq (.sq (rg [qM 5 0,qF 6 0 3,qS 7 6 6,qF 8 6 3,qS 9 6 8,oo 10 (.ca .pure false (.f Xb) [.t 5,.t 7,.t 9]),oo 11 (.nt (.t 10)),qM 12 11,og 13 12 false (.fa 0 (.t 3)),og 14 12 false (.ld (some 6) (.t 13)),og 15 12 false (.ca .pure false (.f Qy) [.t 14]),og 16 12 false (.nt (.t 15)),oo 17 (.pk (.t 12) (.k (.bool true)) (.t 16)),qM 18 17,og 19 18 false (.fa 6 (.t 3)),og 20 18 false (.fa 5 (.t 19)),og 21 18 false (.ld none (.t 20)),og 22 18 false (.ln (.t 21)),og 23 18 false (.bi .gtr 0 (.t 22) (i6 0)),oo 24 (.pk (.t 18) (.k (.bool true)) (.t 23)),qM 25 24,og 26 25 false (.fa 0 (.t 3)),og 27 25 false (.fa 0 (.t 26)),og 28 25 false (.ld none (.t 27)),og 29 25 false (.fa 6 (.t 3)),og 30 25 false (.fa 0 (.t 29)),og 31 25 false (.ld none (.t 30)),og 32 25 false (.bi .neq 0 (.t 28) (.t 31)),oo 33 (.pk (.t 25) (.k (.bool true)) (.t 32)),qM 34 33,og 35 34 false (.fa 0 (.t 3)),og 36 34 false (.fa 4 (.t 35)),og 37 34 false (.ld none (.t 36)),og 38 34 false (.fa 6 (.t 3)),og 39 34 false (.fa 4 (.t 38)),og 40 34 false (.ld none (.t 39)),og 41 34 false (.ca .pure false (.f JL) [.t 37,.t 40]),og 42 34 false (.nt (.t 41)),oo 43 (.pk (.t 34) (.k (.bool true)) (.t 42))]) (.cd (.t 43) (.sq (rg [om 4 (.k (.bool false))]) (.rt)) (.sk))) (.sq (rg [qF 44 12 3,qL 45 44,qN 46 45,qF 47 6 3,qF 48 2 47,qL 49 48,qN 50 49,qB 51 .eql 46 50,qM 52 51,og 53 52 true (.fa 12 (.t 3)),og 54 52 true (.ld none (.t 53)),og 55 52 true (.mf V4 [.t 3]),og 56 52 true (.ca .pure false (.f Zp) [.t 54,.t 55]),og 57 52 true (.nt (.t 56)),oo 58 (.pk (.t 52) (.t 57) (.k (.bool false))),qM 4 58]) (.rt)))) }
theorem Zd5:ZH Proofs.Tryz.prog Q8 DL=true:=by kernel_rfl
def DM:F2 :=
 { nt:=11,res:=[.t 2 [0]],body:=(.sq (rg [om 2 (i6 0)]) (.sq (rg [qM 4 0,oo 5 (.ca .pure true (.f JE) [.t 4]),qM 3 5]) (.sq (rg [qM 6 3,oo 7 (.ca .any false (.f JR) [.t 6])]) (.sq (rg [qM 8 3,oo 9 (.ca .any false (.f Jq) [.t 8]),qN 10 9,qM 2 10]) (.rt))))) }
theorem Zd6:ZH Proofs.Tryz.prog Q9 DM=true:=by kernel_rfl
def Xy:F2 :=
 { nt:=127,res:=[.t 4 [0]],body:=(.sq (rg [oo 2 (.bt (.t 0)),oo 3 (.bt (.t 1)),om 4 (.k (.bool false))]) (.sq (.sq (rg [qF 18 0 3,qF 19 0 18,qL 20 19,om 21 (i6 0)]) (.bl 0 (.lp [2,3,20,21] [] (.sq (rg [qB 22 .lss 21 20]) (.sq (.cd (.t 22) (.sk) (.ex 0)) (.sq (.bl 1 (.sq (rg [qM 23 21,qM 5 23]) (.sq (rg [qF 25 0 3,qS 26 6 25,qM 27 5,oo 28 (.bi .sub 0 (i6 (-1)) (.t 27)),oo 29 (.ca .pure false (.f ZJ) [.t 26,.t 28]),qM 24 29,qE 30 0 24,qE 31 1 24,qM 6 30,qM 7 31]) (.sq (rg [qF 33 6 3,qS 34 6 33,qM 35 5,oo 36 (.bi .sub 0 (i6 (-1)) (.t 35)),oo 37 (.ca .pure false (.f ZJ) [.t 34,.t 36]),qM 32 37,qE 38 0 32,qE 39 1 32,qM 8 38,qM 9 39]) (.sq (rg [oo 40 (.bs 1 0 [] []),oo 10 (.al [.slice none 0 0] []),on1 (.st 1 (.t 10) (.t 40))]) (.sq (.sq (rg [qM 41 6,qN 42 41,om 43 (i6 0)]) (.bl 2 (.lp [2,3,8,10,20,21,41,42,43] [320,1280,1792] (.sq (rg [qB 44 .lss 43 42]) (.sq (.cd (.t 44) (.sk) (.ex 2)) (.sq (.bl 3 (.sq (rg [qI 45 1 41 43,qL 46 45,qM 12 46]) (.rg (some 0) [qL 47 10,qF 48 0 3,qF 49 1 48,qL 50 49,qM 51 12,qI 52 3 50 51,qF 53 0 52,qL 54 53,oo 55 (.bs 1 1 [.int .i64 0] [(0,.t 54)]),oo 56 (.ap 1 0 (.t 47) (.t 55)),on1 (.st 1 (.t 10) (.t 56))])))
 (rg [oo 57 (.bi .add 0 (.t 43) (i6 1)),qM 43 57]))))))) (.sq (rg [qM 58 8,oo 59 (.mf JY [.t 10,.t 3]),oo 60 (.ca .pure false (.f Zp) [.t 58,.t 59])]) (.cd (.t 60) (.sq (rg [om 4 (.k (.bool false))]) (.rt)) (.sk)))))))))
 (rg [oo 61 (.bi .add 0 (.t 21) (i6 1)),qM 21 61]))))))) (.sq (.sq (rg [qF 62 6 3,qF 63 1 62,qL 64 63,qN 65 64,om 66 (i6 0)]) (.bl 4 (.lp [2,3,64,65,66] [] (.sq (rg [qB 67 .lss 66 65]) (.sq (.cd (.t 67) (.sk) (.ex 4)) (.sq (.bl 5 (.sq (rg [qI 68 3 64 66,qS 69 3 68,oo 14 (.al [.int .i64 0,.int .i64 0,.slice none 0 0] []),on1 (.st 3 (.t 14) (.t 69))]) (.sq (.rg (some 0) [qF 70 1 14,qL 71 70,oo 72 (.bi .geq 0 (.t 71) (i6 0)),qM 73 72,og 74 73 true (.ld (some 5) (.t 2)),og 75 73 true (.fa 6 (.t 3)),og 76 73 true (.ld (some 6) (.t 75)),og 77 73 true (.fa 1 (.t 14)),og 78 73 true (.ld none (.t 77)),og 79 73 true (.ca .pure false (.f ZY) [.t 74,.t 76,.t 78]),og 80 73 true (.fa 0 (.t 14)),og 81 73 true (.ld none (.t 80)),og 82 73 true (.ca .pure false (.f ZK) [.t 79,.t 81]),og 83 73 true (.nt (.t 82)),oo 84 (.pk (.t 73) (.t 83) (.k (.bool false)))]) (.cd (.t 84) (.sq (rg [om 4 (.k (.bool false))]) (.rt)) (.sk)))))
 (rg [oo 85 (.bi .add 0 (.t 66) (i6 1)),qM 66 85]))))))) (.sq (.sq (rg [qF 86 6 3,qF 87 2 86,qL 88 87,qN 89 88,om 90 (i6 0)]) (.bl 6 (.lp [2,3,88,89,90] [] (.sq (rg [qB 91 .lss 90 89]) (.sq (.cd (.t 91) (.sk) (.ex 6)) (.sq (.bl 7 (.sq (rg [qM 92 90,qI 93 1 88 90,qL 94 93,qM 15 92,qM 16 94]) (.sq (.rg (some 0) [qS 95 5 2,qF 96 0 3,qS 97 6 96,qF 98 0 3,qF 99 2 98,qL 100 99,qF 101 12 3,qL 102 101,qM 103 15,qI 104 1 102 103,qL 105 104,qI 106 1 100 105,qL 107 106,oo 108 (.ca .pure false (.f ZY) [.t 95,.t 97,.t 107]),qM 17 108]) (.sq (rg [qM 109 17,qN 110 109,oo 111 (.bi .gtr 0 (.t 110) (i6 0)),qM 112 111,og 113 112 true (.mv (.t 16) none),og 114 112 true (.bi .lss 0 (.t 113) (i6 0)),og 115 112 true (.mv (.t 114) none),og 116 115 false (.mv (.t 17) none),og 117 115 false (.ld (some 5) (.t 2)),og 118 115 false (.fa 6 (.t 3)),og 119 115 false (.ld (some 6) (.t 118)),og 120 115 false (.mv (.t 16) none),og 121 115 false (.ca .pure false (.f ZY) [.t 117,.t 119,.t 120]),og 122 115 false (.ca .pure false (.f Xc) [.t 116,.t 121]),og 123 115 false (.nt (.t 122)),og 124 112 true (.pk (.t 115) (.k (.bool true)) (.t 123)),oo 125 (.pk (.t 112) (.t 124) (.k (.bool false)))]) (.cd (.t 125) (.sq (rg [om 4 (.k (.bool false))]) (.rt)) (.sk))))))
 (rg [oo 126 (.bi .add 0 (.t 90) (i6 1)),qM 90 126]))))))) (.sq (rg [om 4 (.k (.bool true))]) (.rt)))))) }
theorem DN:ZH Proofs.Tryz.prog Yq Xy=true:=by kernel_rfl
def X2:F2 :=
 { nt:=68,res:=[.t 4 [0]],body:=(.sq (rg [oo 2 (.bt (.t 0)),oo 3 (.bt (.t 1)),om 4 (.k (.bool false))]) (.sq (.sq (rg [qF 11 6 3,qF 12 3 11,qL 13 12,om 14 (i6 0)]) (.bl 0 (.lp [2,3,13,14] [] (.sq (rg [qB 15 .lss 14 13]) (.sq (.cd (.t 15) (.sk) (.ex 0)) (.sq (.bl 1 (.sq (rg [qM 16 14,qM 5 16]) (.sq (.rg (some 0) [qS 17 5 2,qM 18 5,qS 19 5 2,qF 20 6 3,qS 21 6 20,qM 22 5,oo 23 (.ca .pure false (.f ZZ) [.t 19,.t 21,.t 22]),oo 24 (.ca .pure false (.f Jl) [.t 17,.t 18,.t 23]),qN 25 24,oo 26 (.bi .gtr 0 (.t 25) (i6 0))]) (.cd (.t 26) (.sq (rg [om 4 (.k (.bool false))]) (.rt)) (.sk)))))
 (rg [oo 27 (.bi .add 0 (.t 14) (i6 1)),qM 14 27]))))))) (.sq (.sq (rg [qF 28 0 3,qF 29 4 28,qL 30 29,qN 31 30,om 32 (i6 0)]) (.bl 2 (.lp [2,3,31,32] [] (.sq (rg [qB 33 .lss 32 31]) (.sq (.cd (.t 33) (.sk) (.ex 2)) (.sq (.bl 3 (.sq (rg [qM 34 32,qM 6 34]) (.sq (.rg (some 0) [qS 35 5 2,qF 36 0 3,qS 37 6 36,qF 38 0 3,qF 39 3 38,qL 40 39,qM 41 6,qB 42 .add 40 41,oo 43 (.ca .pure false (.f ZZ) [.t 35,.t 37,.t 42]),qS 44 5 2,qF 45 6 3,qS 46 6 45,qF 47 6 3,qF 48 3 47,qL 49 48,qM 50 6,qB 51 .add 49 50,oo 52 (.ca .pure false (.f ZZ) [.t 44,.t 46,.t 51]),qM 7 43,qM 8 52]) (.sq (rg [qM 53 8,qN 54 53,om 55 (i6 0)]) (.bl 4 (.lp [2,3,7,31,32,53,54,55] [] (.sq (rg [qB 56 .lss 55 54]) (.sq (.cd (.t 56) (.sk) (.ex 4)) (.sq (.bl 5 (.sq (rg [qM 57 55,qI 58 1 53 55,qL 59 58,qM 9 57,qM 10 59]) (.sq (rg [qM 60 10,qM 61 7,qM 62 9,qI 63 1 61 62,qL 64 63,qB 65 .gtr 60 64]) (.cd (.t 65) (.sq (rg [om 4 (.k (.bool false))]) (.rt)) (.sk)))))
 (rg [oo 66 (.bi .add 0 (.t 55) (i6 1)),qM 55 66]))))))))))
 (rg [oo 67 (.bi .add 0 (.t 32) (i6 1)),qM 32 67]))))))) (.sq (rg [om 4 (.k (.bool true))]) (.rt))))) }
theorem ZaH:ZH Proofs.Tryz.prog YX X2=true:=by kernel_rfl
def ZaX:F2 :=
 { nt:=55,res:=[.t 2 [0]],body:=(.sq (rg [om 2 (.k (.bool false))]) (.sq (.sq (rg [om 3 (i6 0)]) (.bl 0 (.lp [0,3] [] (.sq (.sq (rg [qM 5 3,qM 6 0,qN 7 6,qB 8 .lss 5 7]) (.cd (.t 8) (.sk) (.ex 0))) (.sq (.bl 1 (.sq (.sq (rg [qM 11 0,qM 12 3,qI 13 3 11 12,qF 14 0 13,qL 15 14,oo 16 (.ca .pure false (.f Vy) [.t 15]),oo 17 (.nt (.t 16)),qM 18 17,og 19 18 false (.mv (.t 0) none),og 20 18 false (.mv (.t 3) none),og 21 18 false (.ia 3 (.t 19) (.t 20)),og 22 18 false (.fa 1 (.t 21)),og 23 18 false (.ld none (.t 22)),og 24 18 false (.ca .pure false (.f ZA) [.t 23,i6 0,i6 3]),og 25 18 false (.nt (.t 24)),oo 26 (.pk (.t 18) (.k (.bool true)) (.t 25)),qM 27 26,og 28 27 false (.mv (.t 0) none),og 29 27 false (.mv (.t 3) none),og 30 27 false (.ia 3 (.t 28) (.t 29)),og 31 27 false (.fa 2 (.t 30)),og 32 27 false (.ld none (.t 31)),og 33 27 false (.ca .pure false (.f ZA) [.t 32,i6 0,i6 2]),og 34 27 false (.nt (.t 33)),oo 35 (.pk (.t 27) (.k (.bool true)) (.t 34))]) (.cd (.t 35) (.sq (rg [om 2 (.k (.bool false))]) (.rt)) (.sk))) (.sq (rg [om 4 (i6 0)]) (.bl 2 (.lp [0,3,4] [] (.sq (.sq (rg [qM 36 4,qM 37 3,qB 38 .lss 36 37]) (.cd (.t 38) (.sk) (.ex 2))) (.sq (.bl 3 (.sq (.rg (some 0) [qM 41 0,qM 42 4,qI 43 3 41 42,qF 44 0 43,qL 45 44,qM 46 0,qM 47 3,qI 48 3 46 47,qF 49 0 48,qL 50 49,qB 51 .eql 45 50]) (.cd (.t 51) (.sq (rg [om 2 (.k (.bool false))]) (.rt)) (.sk))))
 (rg [qM 39 4,oo 40 (.bi .add 0 (.t 39) (i6 1)),qM 4 40]))))))))
 (rg [qM 9 3,oo 10 (.bi .add 0 (.t 9) (i6 1)),qM 3 10])))))) (.sq (rg [qM 52 0,qN 53 52,oo 54 (.ca .pure false (.f ZA) [.t 53,i6 1,i6 6]),qM 2 54]) (.rt)))) }
theorem Zfh:ZH Proofs.Tryz.prog Qc ZaX=true:=by kernel_rfl
def X3:F2 :=
 { nt:=10,res:=[.t 4 [0]],body:=(.sq (rg [om 4 (.k (.bool false))]) (.sq (rg [qM 5 1,qM 6 0,qN 7 6,oo 8 (.bi .sub 0 (.t 7) (i6 1)),oo 9 (.ca .pure false (.f V5) [.t 5,i6 0,.t 8]),qM 4 9]) (.rt))) }
theorem ZaI:ZH Proofs.Tryz.prog JP X3=true:=by kernel_rfl
def DO:F2 :=
 { nt:=40,res:=[.t 4 [0]],body:=(.sq (rg [om 4 (.k (.bool false))]) (.sq (.sq (rg [qM 6 1,qN 7 6,qM 8 0,qN 9 8,qB 10 .neq 7 9]) (.cd (.t 10) (.sq (rg [om 4 (.k (.bool false))]) (.rt)) (.sk))) (.sq (.sq (rg [om 5 (i6 0)]) (.bl 0 (.lp [0,1,5] [] (.sq (.sq (rg [qM 11 5,qM 12 1,qN 13 12,qB 14 .lss 11 13]) (.cd (.t 14) (.sk) (.ex 0))) (.sq (.bl 1 (.sq (rg [qM 17 0,qM 18 1,qM 19 5,qI 20 1 18 19,qL 21 20,oo 22 (.ca .pure false (.f JP) [.t 17,.t 21]),oo 23 (.nt (.t 22)),qM 24 23,og 25 24 false (.mv (.t 0) none),og 26 24 false (.mv (.t 5) none),og 27 24 false (.ia 3 (.t 25) (.t 26)),og 28 24 false (.fa 2 (.t 27)),og 29 24 false (.ld none (.t 28)),og 30 24 false (.bi .eql 0 (.t 29) (i6 2)),og 31 24 false (.mv (.t 30) none),og 32 31 true (.mv (.t 1) none),og 33 31 true (.mv (.t 5) none),og 34 31 true (.ia 1 (.t 32) (.t 33)),og 35 31 true (.ld none (.t 34)),og 36 31 true (.ln (.t 35)),og 37 31 true (.bi .gtr 0 (.t 36) (i6 0)),og 38 24 false (.pk (.t 31) (.t 37) (.k (.bool false))),oo 39 (.pk (.t 24) (.k (.bool true)) (.t 38))]) (.cd (.t 39) (.sq (rg [om 4 (.k (.bool false))]) (.rt)) (.sk))))
 (rg [qM 15 5,oo 16 (.bi .add 0 (.t 15) (i6 1)),qM 5 16])))))) (.sq (rg [om 4 (.k (.bool true))]) (.rt))))) }
theorem Zd7:ZH Proofs.Tryz.prog Xa DO=true:=by kernel_rfl
def Zb4:F2 :=
 { nt:=15,res:=[.t 6 [0]],body:=(.sq (rg [om 6 (.k (.bool false))]) (.sq (rg [qM 7 0,qM 8 1,qB 9 .geq 7 8,qM 10 9,og 11 10 true (.mv (.t 0) none),og 12 10 true (.mv (.t 2) none),og 13 10 true (.bi .leq 0 (.t 11) (.t 12)),oo 14 (.pk (.t 10) (.t 13) (.k (.bool false))),qM 6 14]) (.rt))) }
theorem Zgi:ZH Proofs.Tryz.prog ZA Zb4=true:=by kernel_rfl
def UU:F2 :=
 { nt:=51,res:=[.t 6 [0]],body:=(.sq (rg [om 6 (.k (.bool false))]) (.sq (.sq (rg [qM 9 1,qN 10 9,qM 11 0,qN 12 11,qB 13 .neq 10 12]) (.cd (.t 13) (.sq (rg [om 6 (.k (.bool false))]) (.rt)) (.sk))) (.sq (.sq (rg [om 7 (i6 0)]) (.bl 0 (.lp [0,1,2,7] [] (.sq (.sq (rg [qM 14 7,qM 15 1,qN 16 15,qB 17 .lss 14 16]) (.cd (.t 17) (.sk) (.ex 0))) (.sq (.bl 1 (.sq (.sq (.rg (some 0) [qM 20 1,qM 21 7,qI 22 1 20 21,qL 23 22,qN 24 23,qM 25 0,qM 26 7,qI 27 3 25 26,qF 28 1 27,qL 29 28,qB 30 .neq 24 29]) (.cd (.t 30) (.sq (rg [om 6 (.k (.bool false))]) (.rt)) (.sk))) (.sq (rg [om 8 (i6 0)]) (.bl 2 (.lp [0,1,2,7,8] [] (.sq (.sq (rg [qM 31 8,qM 32 1,qM 33 7,qI 34 1 32 33,qL 35 34,qN 36 35,qB 37 .lss 31 36]) (.cd (.t 37) (.sk) (.ex 2))) (.sq (.bl 3 (.sq (rg [qM 40 1,qM 41 7,qI 42 1 40 41,qL 43 42,qM 44 8,qI 45 1 43 44,qL 46 45,qM 47 2,oo 48 (.bi .sub 0 (.t 47) (i6 1)),oo 49 (.ca .pure false (.f ZA) [.t 46,i6 0,.t 48]),oo 50 (.nt (.t 49))]) (.cd (.t 50) (.sq (rg [om 6 (.k (.bool false))]) (.rt)) (.sk))))
 (rg [qM 38 8,oo 39 (.bi .add 0 (.t 38) (i6 1)),qM 8 39]))))))))
 (rg [qM 18 7,oo 19 (.bi .add 0 (.t 18) (i6 1)),qM 7 19])))))) (.sq (rg [om 6 (.k (.bool true))]) (.rt))))) }
theorem ZcH:ZH Proofs.Tryz.prog Qt UU=true:=by kernel_rfl
def Ua:F2 :=
 { nt:=24,res:=[.t 4 [0]],body:=(.sq (rg [oo 2 (.bt (.t 0)),oo 3 (.bt (.t 1)),om 4 (.k (.bool false))]) (.sq (rg [oo 5 (.ja 1 2 (.t 2) (i6 0)),qL 6 5,oo 7 (.ja 1 2 (.t 3) (i6 0)),qL 8 7,qB 9 .lss 6 8,qM 10 9,og 11 10 false (.ja 1 2 (.t 2) (i6 0)),og 12 10 false (.ld none (.t 11)),og 13 10 false (.ja 1 2 (.t 3) (i6 0)),og 14 10 false (.ld none (.t 13)),og 15 10 false (.bi .eql 0 (.t 12) (.t 14)),og 16 10 false (.mv (.t 15) none),og 17 16 true (.ja 1 2 (.t 2) (i6 1)),og 18 16 true (.ld none (.t 17)),og 19 16 true (.ja 1 2 (.t 3) (i6 1)),og 20 16 true (.ld none (.t 19)),og 21 16 true (.bi .lss 0 (.t 18) (.t 20)),og 22 10 false (.pk (.t 16) (.t 21) (.k (.bool false))),oo 23 (.pk (.t 10) (.k (.bool true)) (.t 22)),qM 4 23]) (.rt))) }
theorem Zb5:ZH Proofs.Tryz.prog V0 Ua=true:=by kernel_rfl
def UV:F2 :=
 { nt:=12,res:=[.t 4 [0]],body:=(.sq (rg [oo 3 (.bt (.t 1)),om 4 (.k (.bool false))]) (.sq (rg [qM 5 0,qS 6 6 3,oo 7 (.ca .pure false (.f Vt) [.t 5,.t 6]),qM 8 7,og 9 8 true (.ld (some 6) (.t 3)),og 10 8 true (.ca .pure false (.f QC) [.t 9]),oo 11 (.pk (.t 8) (.t 10) (.k (.bool false))),qM 4 11]) (.rt))) }
theorem ZcI:ZH Proofs.Tryz.prog Qu UV=true:=by kernel_rfl
def DP:F2 :=
 { nt:=98,res:=[.t 4 [0]],body:=(.sq (rg [oo 3 (.bt (.t 1)),om 4 (.k (.bool false))]) (.sq (.sq (rg [qM 8 0,oo 9 (.ca .pure false (.f Qc) [.t 8]),oo 10 (.nt (.t 9)),qM 11 10,og 12 11 false (.fa 0 (.t 3)),og 13 11 false (.ld none (.t 12)),og 14 11 false (.ca .pure false (.f ZA) [.t 13,i6 0,i6 4]),og 15 11 false (.nt (.t 14)),oo 16 (.pk (.t 11) (.k (.bool true)) (.t 15)),qM 17 16,og 18 17 false (.fa 1 (.t 3)),og 19 17 false (.ld none (.t 18)),og 20 17 false (.ln (.t 19)),og 21 17 false (.bi .gtr 0 (.t 20) (i6 8)),oo 22 (.pk (.t 17) (.k (.bool true)) (.t 21)),qM 23 22,og 24 23 false (.fa 2 (.t 3)),og 25 23 false (.ld none (.t 24)),og 26 23 false (.ln (.t 25)),og 27 23 false (.bi .gtr 0 (.t 26) (i6 4)),oo 28 (.pk (.t 23) (.k (.bool true)) (.t 27)),qM 29 28,og 30 29 false (.fa 3 (.t 3)),og 31 29 false (.ld none (.t 30)),og 32 29 false (.ca .pure false (.f ZA) [.t 31,i6 0,i6 8]),og 33 29 false (.nt (.t 32)),oo 34 (.pk (.t 29) (.k (.bool true)) (.t 33))]) (.cd (.t 34) (.sq (rg [om 4 (.k (.bool false))]) (.rt)) (.sk))) (.sq (.sq (rg [qF 35 4 3,qL 36 35,oo 37 (.ca .pure false (.f YN) [.t 36]),oo 38 (.nt (.t 37)),qM 39 38,og 40 39 false (.fa 5 (.t 3)),og 41 39 false (.ld none (.t 40)),og 42 39 false (.ln (.t 41)),og 43 39 false (.bi .gtr 0 (.t 42) (i6 16)),oo 44 (.pk (.t 39) (.k (.bool true)) (.t 43)),qM 45 44,og 46 45 false (.ld (some 6) (.t 3)),og 47 45 false (.ca .pure false (.f QD) [.t 46]),og 48 45 false (.ca .pure false (.f YN) [.t 47]),og 49 45 false (.nt (.t 48)),oo 50 (.pk (.t 45) (.k (.bool true)) (.t 49))]) (.cd (.t 50) (.sq (rg [om 4 (.k (.bool false))]) (.rt)) (.sk))) (.sq (.sq (rg [om 5 (i6 0)]) (.bl 0 (.lp [0,3,5] [] (.sq (.sq (rg [qM 51 5,qF 52 1 3,qL 53 52,qN 54 53,qB 55 .lss 51 54]) (.cd (.t 55) (.sk) (.ex 0))) (.sq (.bl 1 (.sq (rg [qM 58 0,qS 59 6 3,qM 60 5,oo 61 (.ca .pure false (.f Xf) [.t 58,.t 59,.t 60]),oo 62 (.nt (.t 61))]) (.cd (.t 62) (.sq (rg [om 4 (.k (.bool false))]) (.rt)) (.sk))))
 (rg [qM 56 5,oo 57 (.bi .add 0 (.t 56) (i6 1)),qM 5 57])))))) (.sq (.sq (rg [om 6 (i6 0)]) (.bl 2 (.lp [0,3,6] [] (.sq (.sq (rg [qM 63 6,qF 64 2 3,qL 65 64,qN 66 65,qB 67 .lss 63 66]) (.cd (.t 67) (.sk) (.ex 2))) (.sq (.bl 3 (.sq (.rg (some 0) [qM 70 0,qS 71 6 3,qF 72 2 3,qL 73 72,qM 74 6,qI 75 1 73 74,qL 76 75,qF 77 1 3,qL 78 77,qN 79 78,oo 80 (.ca .pure false (.f YO) [.t 70,.t 71,.t 76,.t 79]),oo 81 (.nt (.t 80))]) (.cd (.t 81) (.sq (rg [om 4 (.k (.bool false))]) (.rt)) (.sk))))
 (rg [qM 68 6,oo 69 (.bi .add 0 (.t 68) (i6 1)),qM 6 69])))))) (.sq (.sq (rg [om 7 (i6 0)]) (.bl 4 (.lp [3,7] [] (.sq (.sq (rg [qM 82 7,qF 83 5 3,qL 84 83,qN 85 84,qB 86 .lss 82 85]) (.cd (.t 86) (.sk) (.ex 4))) (.sq (.bl 5 (.sq (.rg (some 0) [qS 89 6 3,qF 90 5 3,qL 91 90,qM 92 7,qI 93 2 91 92,qF 94 1 93,qL 95 94,oo 96 (.ca .pure false (.f Vz) [.t 89,.t 95]),oo 97 (.nt (.t 96))]) (.cd (.t 97) (.sq (rg [om 4 (.k (.bool false))]) (.rt)) (.sk))))
 (rg [qM 87 7,oo 88 (.bi .add 0 (.t 87) (i6 1)),qM 7 88])))))) (.sq (rg [om 4 (.k (.bool true))]) (.rt)))))))) }
theorem Zd8:ZH Proofs.Tryz.prog Vt DP=true:=by kernel_rfl
def Xz:F2 :=
 { nt:=32,res:=[.t 4 [0]],body:=(.sq (rg [om 4 (.k (.bool false))]) (.sq (.sq (rg [om 5 (i6 0)]) (.bl 0 (.lp [0,1,5] [] (.sq (.sq (rg [qM 6 5,qM 7 0,qN 8 7,qB 9 .lss 6 8,qM 10 9,og 11 10 true (.mv (.t 5) none),og 12 10 true (.mv (.t 1) none),og 13 10 true (.ln (.t 12)),og 14 10 true (.bi .lss 0 (.t 11) (.t 13)),oo 15 (.pk (.t 10) (.t 14) (.k (.bool false)))]) (.cd (.t 15) (.sk) (.ex 0))) (.sq (.bl 1 (.sq (.rg (some 0) [qM 18 0,qM 19 5,qI 20 1 18 19,qL 21 20,qM 22 1,qM 23 5,qI 24 1 22 23,qL 25 24,qB 26 .neq 21 25]) (.cd (.t 26) (.sq (rg [om 4 (.k (.bool false))]) (.rt)) (.sk))))
 (rg [qM 16 5,oo 17 (.bi .add 0 (.t 16) (i6 1)),qM 5 17])))))) (.sq (rg [qM 27 0,qN 28 27,qM 29 1,qN 30 29,qB 31 .eql 28 30,qM 4 31]) (.rt)))) }
theorem DQ:ZH Proofs.Tryz.prog Yr Xz=true:=by kernel_rfl
def Ub:F2 :=
 { nt:=31,res:=[.t 2 [0]],body:=(.sq (rg [oo 1 (.bt (.t 0)),om 2 (.k (.bool false))]) (.sq (.sq (rg [om 3 (i6 0)]) (.bl 0 (.lp [1,3] [] (.sq (.sq (rg [qM 4 3,qF 5 12 1,qL 6 5,qN 7 6,qB 8 .lss 4 7]) (.cd (.t 8) (.sk) (.ex 0))) (.sq (.bl 1 (.sq (.rg (some 0) [qF 11 12 1,qL 12 11,qM 13 3,qI 14 1 12 13,qL 15 14,qF 16 0 1,qF 17 2 16,qL 18 17,qN 19 18,oo 20 (.bi .sub 0 (.t 19) (i6 1)),oo 21 (.ca .pure false (.f ZA) [.t 15,i6 0,.t 20]),oo 22 (.nt (.t 21))]) (.cd (.t 22) (.sq (rg [om 2 (.k (.bool false))]) (.rt)) (.sk))))
 (rg [qM 9 3,oo 10 (.bi .add 0 (.t 9) (i6 1)),qM 3 10])))))) (.sq (rg [qF 23 12 1,qL 24 23,qN 25 24,qF 26 6 1,qF 27 2 26,qL 28 27,qN 29 28,qB 30 .eql 25 29,qM 2 30]) (.rt)))) }
theorem Zb6:ZH Proofs.Tryz.prog V1 Ub=true:=by kernel_rfl
def ZaY:F2 :=
 { nt:=18,res:=[.t 4 [0]],body:=(.sq (rg [om 4 (.k (.bool false))]) (.sq (.sq (rg [om 5 (i6 0)]) (.bl 0 (.lp [0,1,5] [] (.sq (.sq (rg [qM 6 5,qM 7 0,qN 8 7,qB 9 .lss 6 8]) (.cd (.t 9) (.sk) (.ex 0))) (.sq (.bl 1 (.sq (rg [qM 12 0,qM 13 5,qI 14 1 12 13,qL 15 14,qM 16 1,qB 17 .eql 15 16]) (.cd (.t 17) (.sq (rg [om 4 (.k (.bool true))]) (.rt)) (.sk))))
 (rg [qM 10 5,oo 11 (.bi .add 0 (.t 10) (i6 1)),qM 5 11])))))) (.sq (rg [om 4 (.k (.bool false))]) (.rt)))) }
theorem Zfi:ZH Proofs.Tryz.prog YD ZaY=true:=by kernel_rfl
def DR:F2 :=
 { nt:=19,res:=[.t 4 [0]],body:=(.sq (rg [om 4 (.k (.bool false))]) (.sq (.sq (rg [om 5 (i6 0)]) (.bl 0 (.lp [0,1,5] [] (.sq (.sq (rg [qM 6 5,qM 7 0,qN 8 7,qB 9 .lss 6 8]) (.cd (.t 9) (.sk) (.ex 0))) (.sq (.bl 1 (.sq (rg [qM 12 1,qM 13 0,qM 14 5,qI 15 1 13 14,qL 16 15,oo 17 (.ca .pure false (.f YD) [.t 12,.t 16]),oo 18 (.nt (.t 17))]) (.cd (.t 18) (.sq (rg [om 4 (.k (.bool false))]) (.rt)) (.sk))))
 (rg [qM 10 5,oo 11 (.bi .add 0 (.t 10) (i6 1)),qM 5 11])))))) (.sq (rg [om 4 (.k (.bool true))]) (.rt)))) }
theorem Zd9:ZH Proofs.Tryz.prog Vu DR=true:=by kernel_rfl
def X4:F2 :=
 { nt:=30,res:=[.t 4 [0]],body:=(.sq (rg [oo 2 (.bt (.t 0)),om 4 (.k (.slice none 0 0))]) (.sq (rg [oo 8 (.bs 1 0 [] []),oo 5 (.fz (.t 8))]) (.sq (rg [qS 9 6 2,qM 10 1,oo 11 (.ca .pure false (.f VA) [.t 9,.t 10]),qM 6 11]) (.sq (.sq (rg [om 7 (i6 0)]) (.bl 0 (.lp [2,5,6,7] [] (.sq (.sq (rg [qM 12 7,qM 13 6,qN 14 13,qB 15 .lss 12 14]) (.cd (.t 15) (.sk) (.ex 0))) (.sq (.bl 1 (.rg (some 0) [qM 18 5,qF 19 1 2,qL 20 19,qM 21 6,qM 22 7,qI 23 1 21 22,qL 24 23,qI 25 3 20 24,qF 26 0 25,qL 27 26,oo 28 (.ca .pure false (.f XK) [.t 18,.t 27]),qM 5 28]))
 (rg [qM 16 7,oo 17 (.bi .add 0 (.t 16) (i6 1)),qM 7 17])))))) (.sq (rg [qM 29 5,qM 4 29]) (.rt)))))) }
theorem ZaJ:ZH Proofs.Tryz.prog JQ X4=true:=by kernel_rfl
def WE:F2 :=
 { nt:=21,res:=[.t 6 [2]],body:=(.sq (rg [oo 3 (.bt (.t 0)),oo 4 (.bt (.t 1)),om 6 (.k (.slice none 0 0))]) (.sq (.sq (rg [qM 7 2,oo 8 (.bi .lss 0 (.t 7) (i6 0))]) (.cd (.t 8) (.sq (rg [qF 9 0 3,qL 10 9,qM 6 10]) (.rt)) (.sk))) (.sq (.rg (some 0) [qF 11 1 3,qL 12 11,qF 13 1 4,qL 14 13,qM 15 2,qI 16 3 14 15,qF 17 0 16,qL 18 17,qI 19 1 12 18,qL 20 19,qM 6 20]) (.rt)))) }
theorem Zba:ZH Proofs.Tryz.prog Jy WE=true:=by kernel_rfl
def Uc:F2 :=
 { nt:=69,res:=[.t 6 [4]],body:=(.sq (rg [oo 3 (.bt (.t 0)),om 6 (.k (.slice none 0 0))]) (.sq (rg [oo 10 (.bs 3 0 [] []),qM 7 10]) (.sq (.sq (rg [om 8 (i6 0)]) (.bl 0 (.lp [1,2,3,7,8] [320,1024,2144] (.sq (.sq (rg [qM 11 8,qM 12 2,qN 13 12,qB 14 .lss 11 13]) (.cd (.t 14) (.sk) (.ex 0))) (.sq (.bl 1 (.sq (.rg (some 0) [qM 17 2,qM 18 8,qI 19 1 17 18,qL 20 19,qF 21 3 3,qL 22 21,qM 23 8,qI 24 1 22 23,qL 25 24,qB 26 .gtr 20 25]) (.cd (.t 26) (rg [qM 27 7,qM 28 1,qM 29 8,oo 30 (.bd [.int .i64 0,.int .i64 0,.int .i64 0] [(0,1,i6 3),(1,1,.t 28),(2,1,.t 29)] []),oo 31 (.bs 3 1 [.int .i64 0,.int .i64 0,.int .i64 0] [(0,.t 30)]),oo 32 (.ap 3 0 (.t 27) (.t 31)),qM 7 32]) (.sk))))
 (rg [qM 15 8,oo 16 (.bi .add 0 (.t 15) (i6 1)),qM 8 16])))))) (.sq (.sq (rg [om 9 (i6 0)]) (.bl 2 (.lp [1,2,3,7,9] [320,1024,2144] (.sq (.sq (rg [qM 33 9,qF 34 4 3,qL 35 34,qN 36 35,qB 37 .lss 33 36]) (.cd (.t 37) (.sk) (.ex 2))) (.sq (.bl 3 (.sq (rg [qM 40 2,qF 41 4 3,qL 42 41,qM 43 9,qI 44 2 42 43,oo 45 (.ja 1 2 (.t 44) (i6 0)),qL 46 45,qI 47 1 40 46,qL 48 47,oo 49 (.bi .gtr 0 (.t 48) (i6 0)),qM 50 49,og 51 50 true (.mv (.t 2) none),og 52 50 true (.fa 4 (.t 3)),og 53 50 true (.ld none (.t 52)),og 54 50 true (.mv (.t 9) none),og 55 50 true (.ia 2 (.t 53) (.t 54)),og 56 50 true (.ja 1 2 (.t 55) (i6 1)),og 57 50 true (.ld none (.t 56)),og 58 50 true (.ia 1 (.t 51) (.t 57)),og 59 50 true (.ld none (.t 58)),og 60 50 true (.bi .gtr 0 (.t 59) (i6 0)),oo 61 (.pk (.t 50) (.t 60) (.k (.bool false)))]) (.cd (.t 61) (rg [qM 62 7,qM 63 1,qM 64 9,oo 65 (.bd [.int .i64 0,.int .i64 0,.int .i64 0] [(0,1,i6 4),(1,1,.t 63),(2,1,.t 64)] []),oo 66 (.bs 3 1 [.int .i64 0,.int .i64 0,.int .i64 0] [(0,.t 65)]),oo 67 (.ap 3 0 (.t 62) (.t 66)),qM 7 67]) (.sk))))
 (rg [qM 38 9,oo 39 (.bi .add 0 (.t 38) (i6 1)),qM 9 39])))))) (.sq (rg [qM 68 7,qM 6 68]) (.rt)))))) }
theorem Zb7:ZH Proofs.Tryz.prog V2 Uc=true:=by kernel_rfl
def Zb8:F2 :=
 { nt:=54,res:=[.t 6 [2]],body:=(.sq (rg [oo 3 (.bt (.t 0)),oo 4 (.bt (.t 1)),om 6 (.k (.slice none 0 0))]) (.sq (rg [qF 11 3 3,qL 12 11,qN 13 12,oo 14 (.ms 1 [.int .i64 0] (.t 13)),qM 7 14]) (.sq (rg [qS 15 6 4,qM 16 2,oo 17 (.ca .pure false (.f YP) [.t 15,.t 16]),qM 8 17]) (.sq (.sq (rg [om 9 (i6 0)]) (.bl 0 (.lp [3,4,7,8,9] [448] (.sq (.sq (rg [qM 18 9,qM 19 8,qN 20 19,qB 21 .lss 18 20]) (.cd (.t 21) (.sk) (.ex 0))) (.sq (.bl 1 (.sq (.rg (some 0) [qF 24 2 3,qL 25 24,qF 26 1 4,qL 27 26,qM 28 8,qM 29 9,qI 30 2 28 29,oo 31 (.ja 1 2 (.t 30) (i6 0)),qL 32 31,qI 33 3 27 32,qF 34 0 33,qL 35 34,qI 36 1 25 35,qL 37 36,qM 38 8,qM 39 9,qI 40 2 38 39,oo 41 (.ja 1 2 (.t 40) (i6 1)),qL 42 41,qI 43 1 37 42,qL 44 43,qM 10 44])
 (rg [qM 45 7,qM 46 10,qM 47 7,qM 48 10,qI 49 1 47 48,qL 50 49,oo 51 (.bi .add 0 (.t 50) (i6 1)),qI 52 1 45 46,on1 (.st 1 (.t 52) (.t 51))])))
 (rg [qM 22 9,oo 23 (.bi .add 0 (.t 22) (i6 1)),qM 9 23])))))) (.sq (rg [qM 53 7,qM 6 53]) (.rt)))))) }
theorem Zgj:ZH Proofs.Tryz.prog Vv Zb8=true:=by kernel_rfl
def XA:F2 :=
 { nt:=40,res:=[.t 2 [0]],body:=(.sq (rg [om 2 (.k (.bool false))]) (.sq (.sq (rg [qM 5 0,qN 6 5,oo 7 (.ca .pure false (.f Zt) [.t 6,i6 1,i6 6]),oo 8 (.nt (.t 7))]) (.cd (.t 8) (.sq (rg [om 2 (.k (.bool false))]) (.rt)) (.sk))) (.sq (.sq (rg [qM 9 0,qN 10 9,om 11 (i6 0)]) (.bl 0 (.lp [0,9,10,11] [] (.sq (rg [qB 12 .lss 11 10]) (.sq (.cd (.t 12) (.sk) (.ex 0)) (.sq (.bl 1 (.sq (rg [qM 13 11,qI 14 3 9 11,qS 15 3 14,oo 4 (.al [.string ⟨#[]⟩,.int .i64 0,.int .i64 0] []),qM 3 13,on1 (.st 3 (.t 4) (.t 15))]) (.sq (rg [qF 16 0 4,qL 17 16,oo 18 (.ca .pure false (.f VB) [.t 17]),oo 19 (.nt (.t 18)),qM 20 19,og 21 20 false (.fa 1 (.t 4)),og 22 20 false (.ld none (.t 21)),og 23 20 false (.ca .pure false (.f Zt) [.t 22,i6 0,i6 3]),og 24 20 false (.nt (.t 23)),oo 25 (.pk (.t 20) (.k (.bool true)) (.t 24)),qM 26 25,og 27 26 false (.fa 2 (.t 4)),og 28 26 false (.ld none (.t 27)),og 29 26 false (.ca .pure false (.f Zt) [.t 28,i6 0,i6 2]),og 30 26 false (.nt (.t 29)),oo 31 (.pk (.t 26) (.k (.bool true)) (.t 30)),qM 32 31,og 33 32 false (.mv (.t 0) none),og 34 32 false (.mv (.t 3) none),og 35 32 false (.sx 3 (.t 33) none (some (.t 34)) none),og 36 32 false (.mf Jn [.t 4]),og 37 32 false (.ca .pure false (.f ZQ) [.t 35,.t 36]),oo 38 (.pk (.t 32) (.k (.bool true)) (.t 37))]) (.cd (.t 38) (.sq (rg [om 2 (.k (.bool false))]) (.rt)) (.sk)))))
 (rg [oo 39 (.bi .add 0 (.t 11) (i6 1)),qM 11 39]))))))) (.sq (rg [om 2 (.k (.bool true))]) (.rt))))) }
theorem DS:ZH Proofs.Tryz.prog JC XA=true:=by kernel_rfl
def Ud:F2 :=
 { nt:=33,res:=[.t 4 [0]],body:=(.sq (rg [om 4 (.k (.bool false))]) (.sq (.sq (rg [qM 7 0,qN 8 7,om 9 (i6 0)]) (.bl 0 (.lp [0,1,7,8,9] [] (.sq (rg [qB 10 .lss 9 8]) (.sq (.cd (.t 10) (.sk) (.ex 0)) (.sq (.bl 1 (.sq (rg [qM 11 9,qI 12 1 7 9,qL 13 12,qM 5 11,qM 6 13]) (.sq (rg [qM 14 6,qM 15 1,oo 16 (.bi .sub 0 (.t 15) (i6 1)),oo 17 (.ca .pure false (.f Zt) [.t 14,i6 0,.t 16]),oo 18 (.nt (.t 17)),qM 19 18,og 20 19 false (.mv (.t 5) none),og 21 19 false (.bi .gtr 0 (.t 20) (i6 0)),og 22 19 false (.mv (.t 21) none),og 23 22 true (.mv (.t 6) none),og 24 22 true (.mv (.t 0) none),og 25 22 true (.mv (.t 5) none),og 26 22 true (.bi .sub 0 (.t 25) (i6 1)),og 27 22 true (.ia 1 (.t 24) (.t 26)),og 28 22 true (.ld none (.t 27)),og 29 22 true (.bi .leq 0 (.t 23) (.t 28)),og 30 19 false (.pk (.t 22) (.t 29) (.k (.bool false))),oo 31 (.pk (.t 19) (.k (.bool true)) (.t 30))]) (.cd (.t 31) (.sq (rg [om 4 (.k (.bool false))]) (.rt)) (.sk)))))
 (rg [oo 32 (.bi .add 0 (.t 9) (i6 1)),qM 9 32]))))))) (.sq (rg [om 4 (.k (.bool true))]) (.rt)))) }
theorem Zb9:ZH Proofs.Tryz.prog Yk Ud=true:=by kernel_rfl
def DT:F2 :=
 { nt:=15,res:=[.t 6 [0]],body:=(.sq (rg [om 6 (.k (.bool false))]) (.sq (rg [qM 7 0,qM 8 1,qB 9 .geq 7 8,qM 10 9,og 11 10 true (.mv (.t 0) none),og 12 10 true (.mv (.t 2) none),og 13 10 true (.bi .leq 0 (.t 11) (.t 12)),oo 14 (.pk (.t 10) (.t 13) (.k (.bool false))),qM 6 14]) (.rt))) }
theorem Zea:ZH Proofs.Tryz.prog Zt DT=true:=by kernel_rfl
def XB:F2 :=
 { nt:=6,res:=[.t 2 [0]],body:=(.sq (rg [om 2 (.k (.bool false))]) (.sq (rg [qM 3 0,oo 4 (.ca .pure false (.f Zt) [.t 3,i6 0,i6 24]),oo 5 (.nt (.t 4)),qM 2 5]) (.rt))) }
theorem DU:ZH Proofs.Tryz.prog Ys XB=true:=by kernel_rfl
def Ue:F2 :=
 { nt:=44,res:=[.t 4 [0]],body:=(.sq (rg [om 4 (.k (.bool false))]) (.sq (.sq (rg [qM 7 0,qN 8 7,om 9 (i6 0)]) (.bl 0 (.lp [0,1,7,8,9] [] (.sq (rg [qB 10 .lss 9 8]) (.sq (.cd (.t 10) (.sk) (.ex 0)) (.sq (.bl 1 (.sq (rg [qM 11 9,qI 12 2 7 9,qS 13 2 12,oo 6 (.al [.int .i64 0,.int .i64 0] []),qM 5 11,on1 (.st 2 (.t 6) (.t 13))]) (.sq (.rg (some 0) [oo 14 (.ja 1 2 (.t 6) (i6 0)),qL 15 14,oo 16 (.ja 1 2 (.t 6) (i6 1)),qL 17 16,oo 18 (.bi .sub 1 (.t 17) (i6 1)),oo 19 (.ca .pure false (.f Zt) [.t 15,i6 0,.t 18]),oo 20 (.nt (.t 19)),qM 21 20,og 22 21 false (.ja 1 2 (.t 6) (i6 1)),og 23 21 false (.ld none (.t 22)),og 24 21 false (.mv (.t 1) none),og 25 21 false (.bi .sub 0 (.t 24) (i6 1)),og 26 21 false (.ca .pure false (.f Zt) [.t 23,i6 0,.t 25]),og 27 21 false (.nt (.t 26)),oo 28 (.pk (.t 21) (.k (.bool true)) (.t 27)),qM 29 28,og 30 29 false (.mv (.t 5) none),og 31 29 false (.bi .gtr 0 (.t 30) (i6 0)),og 32 29 false (.mv (.t 31) none),og 33 32 true (.mv (.t 0) none),og 34 32 true (.mv (.t 5) none),og 35 32 true (.bi .sub 0 (.t 34) (i6 1)),og 36 32 true (.ia 2 (.t 33) (.t 35)),og 37 32 true (.ld (some 2) (.t 36)),og 38 32 true (.ld (some 2) (.t 6)),og 39 32 true (.ca .pure false (.f Yc) [.t 37,.t 38]),og 40 32 true (.bi .geq 0 (.t 39) (i6 0)),og 41 29 false (.pk (.t 32) (.t 40) (.k (.bool false))),oo 42 (.pk (.t 29) (.k (.bool true)) (.t 41))]) (.cd (.t 42) (.sq (rg [om 4 (.k (.bool false))]) (.rt)) (.sk)))))
 (rg [oo 43 (.bi .add 0 (.t 9) (i6 1)),qM 9 43]))))))) (.sq (rg [om 4 (.k (.bool true))]) (.rt)))) }
theorem Zca:ZH Proofs.Tryz.prog V3 Ue=true:=by kernel_rfl
def XC:F2 :=
 { nt:=11,res:=[.t 3 [0]],body:=(.sq (rg [om 3 (.k (.bool false))]) (.sq (rg [qM 4 0,qF 5 3 1,qL 6 5,qN 7 6,oo 8 (.bi .sub 0 (.t 7) (i6 1)),oo 9 (.ca .pure false (.f Zt) [.t 4,i6 0,.t 8]),oo 10 (.nt (.t 9)),qM 3 10]) (.rt))) }
theorem DV:ZH Proofs.Tryz.prog Yt XC=true:=by kernel_rfl
def DW:F2 :=
 { nt:=15,res:=[.t 6 [0]],body:=(.sq (rg [oo 4 (.bt (.t 1)),oo 5 (.bt (.t 2)),om 6 (.k (.bool false))]) (.sq (rg [qM 7 0,qS 8 6 4,oo 9 (.ca .pure false (.f J5) [.t 7,.t 8]),qM 10 9,og 11 10 true (.mv (.t 0) none),og 12 10 true (.ld (some 6) (.t 5)),og 13 10 true (.ca .pure false (.f J5) [.t 11,.t 12]),oo 14 (.pk (.t 10) (.t 13) (.k (.bool false))),qM 6 14]) (.rt))) }
theorem Zeb:ZH Proofs.Tryz.prog Xb DW=true:=by kernel_rfl
def UW:F2 :=
 { nt:=62,res:=[.t 2 [0]],body:=(.sq (rg [oo 1 (.bt (.t 0)),om 2 (.k (.bool false))]) (.sq (.sq (rg [qF 7 5 1,qL 8 7,qN 9 8,oo 10 (.bi .gtr 0 (.t 9) (i6 0)),qM 11 10,og 12 11 false (.fa 0 (.t 1)),og 13 11 false (.ld none (.t 12)),og 14 11 false (.bi .eql 0 (.t 13) (i6 0)),oo 15 (.pk (.t 11) (.k (.bool true)) (.t 14))]) (.cd (.t 15) (.sq (rg [om 2 (.k (.bool false))]) (.rt)) (.sk))) (.sq (.sq (rg [qF 16 0 1,qL 17 16,oo 18 (.ng (.t 17)),qM 3 18]) (.bl 0 (.lp [1,3] [] (.sq (.sq (rg [qM 19 3,qF 20 1 1,qL 21 20,qN 22 21,qB 23 .lss 19 22]) (.cd (.t 23) (.sk) (.ex 0))) (.sq (.bl 1 (.sq (rg [qS 27 6 1,qM 28 3,oo 29 (.ca .pure false (.f ZJ) [.t 27,.t 28]),qM 26 29,qE 30 0 26,qE 31 1 26,qM 4 30,qM 5 31]) (.sq (rg [qM 32 3,oo 33 (.bi .lss 0 (.t 32) (i6 0)),qM 34 33,og 35 34 true (.mv (.t 4) none),og 36 34 true (.ln (.t 35)),og 37 34 true (.bi .eql 0 (.t 36) (i6 0)),og 38 34 true (.mv (.t 37) none),og 39 38 false (.mv (.t 5) none),og 40 38 false (.ln (.t 39)),og 41 38 false (.bi .gtr 0 (.t 40) (i6 0)),og 42 34 true (.pk (.t 38) (.k (.bool true)) (.t 41)),oo 43 (.pk (.t 34) (.t 42) (.k (.bool false))),qM 44 43,og 45 44 false (.mv (.t 5) none),og 46 44 false (.ln (.t 45)),og 47 44 false (.bi .gtr 0 (.t 46) (i6 1)),oo 48 (.pk (.t 44) (.k (.bool true)) (.t 47))]) (.cd (.t 48) (.sq (rg [om 2 (.k (.bool false))]) (.rt)) (.sk)))))
 (rg [qM 24 3,oo 25 (.bi .add 0 (.t 24) (i6 1)),qM 3 25])))))) (.sq (.sq (rg [qF 49 3 1,qL 50 49,qF 51 4 1,qL 52 51,qN 53 52,qB 54 .add 50 53,om 55 (i6 0)]) (.bl 2 (.lp [1,54,55] [] (.sq (rg [qB 56 .lss 55 54]) (.sq (.cd (.t 56) (.sk) (.ex 2)) (.sq (.bl 3 (.sq (rg [qM 57 55,qM 6 57]) (.sq (rg [qS 58 6 1,qM 59 6,oo 60 (.ca .pure false (.f JS) [.t 58,.t 59])]) (.cd (.t 60) (.sq (rg [om 2 (.k (.bool false))]) (.rt)) (.sk)))))
 (rg [oo 61 (.bi .add 0 (.t 55) (i6 1)),qM 55 61]))))))) (.sq (rg [om 2 (.k (.bool true))]) (.rt)))))) }
theorem ZcJ:ZH Proofs.Tryz.prog Qy UW=true:=by kernel_rfl
def Uf:F2 :=
 { nt:=12,res:=[.t 3 [0]],body:=(.sq (rg [om 3 (.k (.bool false))]) (.sq (rg [qM 4 0,qF 5 0 1,qF 6 2 5,qL 7 6,qN 8 7,oo 9 (.bi .sub 0 (.t 8) (i6 1)),oo 10 (.ca .pure false (.f Zt) [.t 4,i6 0,.t 9]),oo 11 (.nt (.t 10)),qM 3 11]) (.rt))) }
theorem Zcb:ZH Proofs.Tryz.prog V4 Uf=true:=by kernel_rfl
def VL:F2 :=
 { nt:=8,res:=[.t 2 [2]],body:=(.sq (rg [om 2 (.k (.slice none 0 0))]) (.sq (.sq (rg [qM 3 0,oo 4 (.nl false (.t 3))]) (.cd (.t 4) (.sq (rg [om 2 (.k (.slice none 0 0))]) (.rt)) (.sk))) (.sq (rg [oo 5 (.bs 1 0 [] []),qM 6 0,oo 7 (.ap 1 0 (.t 5) (.t 6)),qM 2 7]) (.rt)))) }
theorem WP:ZH Proofs.Tryz.prog JE VL=true:=by kernel_rfl
def Qj:F2 :=
 { nt:=11,res:=[],body:=(.sq (rg [qM 3 0,qN 4 3,qM 2 4])
 (rg [qM 5 0,qM 6 2,qM 7 2,oo 8 (.cv (.int .u64) (.t 7)),oo 9 (.ca .pure false (.f V6) [.t 8]),oo 10 (.ca .any false (.f ZG) [.t 5,i6 0,.t 6,.t 9])])) }
theorem Ug:ZH Proofs.Tryz.prog JR Qj=true:=by kernel_rfl
def JG:F2 :=
 { nt:=61,res:=[.t 2 [2]],body:=(.sq (rg [om 2 (.k (.slice none 0 0))]) (.sq (.sq (rg [qM 6 0,qN 7 6,oo 8 (.bi .lss 0 (.t 7) (i6 2))]) (.cd (.t 8) (.sq (rg [qM 9 0,qM 2 9]) (.rt)) (.sk))) (.sq (.sq (rg [om 3 (i6 1)]) (.bl 0 (.lp [0,3] [] (.sq (.sq (rg [qM 10 3,qM 11 0,qN 12 11,qB 13 .lss 10 12]) (.cd (.t 13) (.sk) (.ex 0))) (.sq (.bl 1 (.sq (.rg (some 0) [qM 16 0,qM 17 3,qI 18 1 16 17,qL 19 18,qM 20 0,qM 21 3,oo 22 (.bi .sub 0 (.t 21) (i6 1)),qI 23 1 20 22,qL 24 23,qB 25 .eql 19 24]) (.cd (.t 25) (.sq (rg [qM 26 0,qM 27 3,oo 28 (.sx 1 (.t 26) (some (.t 27)) none none),qM 4 28]) (.sq (.sq (rg [om 5 (i6 1)]) (.bl 2 (.lp [0,3,4,5] [] (.sq (.sq (rg [qM 29 5,qM 30 4,qN 31 30,qB 32 .lss 29 31]) (.cd (.t 32) (.sk) (.ex 2))) (.sq (.bl 3 (.sq (.rg (some 0) [qM 35 4,qM 36 5,qI 37 1 35 36,qL 38 37,qM 39 4,qM 40 5,oo 41 (.bi .sub 0 (.t 40) (i6 1)),qI 42 1 39 41,qL 43 42,qB 44 .neq 38 43]) (.cd (.t 44) (.sq (rg [qM 45 0,qM 46 3,qM 47 4,qM 48 5,qI 49 1 47 48,qL 50 49,qI 51 1 45 46,on1 (.st 1 (.t 51) (.t 50))])
 (rg [qM 52 3,oo 53 (.bi .add 0 (.t 52) (i6 1)),qM 3 53])) (.sk))))
 (rg [qM 33 5,oo 34 (.bi .add 0 (.t 33) (i6 1)),qM 5 34])))))) (.sq (rg [qM 54 0,qM 55 3,oo 56 (.sx 1 (.t 54) (some (.t 55)) none none),on1 (.cl 1 [.int .i64 0] (.t 56))]) (.sq (rg [qM 57 0,qM 58 3,oo 59 (.sx 1 (.t 57) none (some (.t 58)) none),qM 2 59]) (.rt))))) (.sk))))
 (rg [qM 14 3,oo 15 (.bi .add 0 (.t 14) (i6 1)),qM 3 15])))))) (.sq (rg [qM 60 0,qM 2 60]) (.rt))))) }
theorem Y7:ZH Proofs.Tryz.prog Jq JG=true:=by kernel_rfl
def YF:F2 :=
 { nt:=49,res:=[.t 4 [2],.t 5 [2]],body:=(.sq (rg [oo 2 (.bt (.t 0)),om 4 (.k (.slice none 0 0)),om 5 (.k (.slice none 0 0))]) (.sq (rg [oo 12 (.bs 1 0 [] []),oo 13 (.bs 1 0 [] []),qM 6 12,qM 7 13]) (.sq (.sq (rg [qF 14 1 2,qL 15 14,qN 16 15,om 17 (i6 0)]) (.bl 0 (.lp [1,2,6,7,15,16,17] [384,416,928,1440] (.sq (rg [qB 18 .lss 17 16]) (.sq (.cd (.t 18) (.sk) (.ex 0)) (.sq (.bl 1 (.sq (rg [qM 19 17,qI 20 3 15 17,qS 21 3 20,oo 9 (.al [.int .i64 0,.int .i64 0,.slice none 0 0] []),qM 8 19,on1 (.st 3 (.t 9) (.t 21))]) (.sq (rg [qF 22 1 9,qL 23 22,qM 24 1,qB 25 .eql 23 24]) (.cd (.t 25) (rg [qM 26 6,qM 27 8,oo 28 (.bs 1 1 [.int .i64 0] [(0,.t 27)]),oo 29 (.ap 1 0 (.t 26) (.t 28)),qM 6 29]) (.sk)))))
 (rg [oo 30 (.bi .add 0 (.t 17) (i6 1)),qM 17 30]))))))) (.sq (.sq (rg [qF 31 2 2,qL 32 31,qN 33 32,om 34 (i6 0)]) (.bl 2 (.lp [1,6,7,32,33,34] [384,416,928,1440] (.sq (rg [qB 35 .lss 34 33]) (.sq (.cd (.t 35) (.sk) (.ex 2)) (.sq (.bl 3 (.sq (rg [qM 36 34,qI 37 1 32 34,qL 38 37,qM 10 36,qM 11 38]) (.sq (rg [qM 39 11,qM 40 1,qB 41 .eql 39 40]) (.cd (.t 41) (rg [qM 42 7,qM 43 10,oo 44 (.bs 1 1 [.int .i64 0] [(0,.t 43)]),oo 45 (.ap 1 0 (.t 42) (.t 44)),qM 7 45]) (.sk)))))
 (rg [oo 46 (.bi .add 0 (.t 34) (i6 1)),qM 34 46]))))))) (.sq (rg [qM 47 6,qM 48 7,qM 4 47,qM 5 48]) (.rt)))))) }
theorem XL:ZH Proofs.Tryz.prog ZJ YF=true:=by kernel_rfl
def QH:F2 :=
 { nt:=15,res:=[.t 4 [0]],body:=(.sq (rg [om 4 (.k (.bool false))]) (.sq (.rg (some 0) [qL 5 1,qF 6 6 2,qF 7 1 6,qL 8 7,qM 9 0,qI 10 3 8 9,qF 11 0 10,qL 12 11,oo 13 (.ca .pure false (.f ZK) [.t 5,.t 12]),oo 14 (.nt (.t 13)),qM 4 14]) (.rt))) }
theorem UK:ZH Proofs.Tryz.prog JY QH=true:=by kernel_rfl
def YG:F2 :=
 { nt:=9,res:=[.t 4 [0]],body:=(.sq (rg [om 4 (.k (.bool false))]) (.sq (rg [qM 5 0,qM 6 1,oo 7 (.ca .pure false (.f JF) [.t 5,.t 6]),oo 8 (.bi .geq 0 (.t 7) (i6 0)),qM 4 8]) (.rt))) }
theorem XM:ZH Proofs.Tryz.prog ZK YG=true:=by kernel_rfl
def VM:F2 :=
 { nt:=21,res:=[.t 6 [2]],body:=(.sq (rg [oo 3 (.bt (.t 0)),oo 4 (.bt (.t 1)),om 6 (.k (.slice none 0 0))]) (.sq (.sq (rg [qM 7 2,oo 8 (.bi .lss 0 (.t 7) (i6 0))]) (.cd (.t 8) (.sq (rg [qF 9 0 3,qL 10 9,qM 6 10]) (.rt)) (.sk))) (.sq (.rg (some 0) [qF 11 1 3,qL 12 11,qF 13 1 4,qL 14 13,qM 15 2,qI 16 3 14 15,qF 17 0 16,qL 18 17,qI 19 1 12 18,qL 20 19,qM 6 20]) (.rt)))) }
theorem WQ:ZH Proofs.Tryz.prog ZY VM=true:=by kernel_rfl
def DX:F2 :=
 { nt:=9,res:=[.t 4 [0]],body:=(.sq (rg [oo 3 (.bt (.t 1)),om 4 (.k (.bool false))]) (.sq (rg [qM 5 0,oo 6 (.mf V7 [.t 3]),oo 7 (.ca .pure false (.f Zp) [.t 5,.t 6]),oo 8 (.nt (.t 7)),qM 4 8]) (.rt))) }
theorem Zec:ZH Proofs.Tryz.prog Xc DX=true:=by kernel_rfl
def YH:F2 :=
 { nt:=64,res:=[.t 6 [4]],body:=(.sq (rg [oo 3 (.bt (.t 0)),om 6 (.k (.slice none 0 0))]) (.sq (rg [oo 12 (.bs 3 0 [] []),qM 7 12]) (.sq (.sq (rg [qM 13 2,qN 14 13,om 15 (i6 0)]) (.bl 0 (.lp [1,2,3,7,13,14,15] [384,1024,1952] (.sq (rg [qB 16 .lss 15 14]) (.sq (.cd (.t 16) (.sk) (.ex 0)) (.sq (.bl 1 (.sq (rg [qM 17 15,qI 18 1 13 15,qL 19 18,qM 8 17,qM 9 19]) (.sq (rg [qM 20 9,qF 21 3 3,qL 22 21,qM 23 8,qI 24 1 22 23,qL 25 24,qB 26 .gtr 20 25]) (.cd (.t 26) (rg [qM 27 7,qM 28 1,qM 29 8,oo 30 (.bd [.int .i64 0,.int .i64 0,.int .i64 0] [(0,1,i6 3),(1,1,.t 28),(2,1,.t 29)] []),oo 31 (.bs 3 1 [.int .i64 0,.int .i64 0,.int .i64 0] [(0,.t 30)]),oo 32 (.ap 3 0 (.t 27) (.t 31)),qM 7 32]) (.sk)))))
 (rg [oo 33 (.bi .add 0 (.t 15) (i6 1)),qM 15 33]))))))) (.sq (.sq (rg [qF 34 4 3,qL 35 34,qN 36 35,om 37 (i6 0)]) (.bl 2 (.lp [1,2,7,35,36,37] [384,1024,1952] (.sq (rg [qB 38 .lss 37 36]) (.sq (.cd (.t 38) (.sk) (.ex 2)) (.sq (.bl 3 (.sq (rg [qM 39 37,qI 40 2 35 37,qS 41 2 40,oo 11 (.al [.int .i64 0,.int .i64 0] []),qM 10 39,on1 (.st 2 (.t 11) (.t 41))]) (.sq (rg [qM 42 2,oo 43 (.ja 1 2 (.t 11) (i6 0)),qL 44 43,qI 45 1 42 44,qL 46 45,oo 47 (.bi .gtr 0 (.t 46) (i6 0)),qM 48 47,og 49 48 true (.mv (.t 2) none),og 50 48 true (.ja 1 2 (.t 11) (i6 1)),og 51 48 true (.ld none (.t 50)),og 52 48 true (.ia 1 (.t 49) (.t 51)),og 53 48 true (.ld none (.t 52)),og 54 48 true (.bi .gtr 0 (.t 53) (i6 0)),oo 55 (.pk (.t 48) (.t 54) (.k (.bool false)))]) (.cd (.t 55) (rg [qM 56 7,qM 57 1,qM 58 10,oo 59 (.bd [.int .i64 0,.int .i64 0,.int .i64 0] [(0,1,i6 4),(1,1,.t 57),(2,1,.t 58)] []),oo 60 (.bs 3 1 [.int .i64 0,.int .i64 0,.int .i64 0] [(0,.t 59)]),oo 61 (.ap 3 0 (.t 56) (.t 60)),qM 7 61]) (.sk)))))
 (rg [oo 62 (.bi .add 0 (.t 37) (i6 1)),qM 37 62]))))))) (.sq (rg [qM 63 7,qM 6 63]) (.rt)))))) }
theorem XN:ZH Proofs.Tryz.prog Jl YH=true:=by kernel_rfl
def VN:F2 :=
 { nt:=50,res:=[.t 6 [2]],body:=(.sq (rg [oo 3 (.bt (.t 0)),oo 4 (.bt (.t 1)),om 6 (.k (.slice none 0 0))]) (.sq (rg [qF 12 3 3,qL 13 12,qN 14 13,oo 15 (.ms 1 [.int .i64 0] (.t 14)),qM 7 15]) (.sq (rg [qS 17 6 4,qM 18 2,oo 19 (.ca .pure false (.f Z8) [.t 17,.t 18]),qM 16 19,qE 20 0 16,qE 21 1 16,qM 8 20,qM 9 21]) (.sq (.sq (rg [qM 22 8,qN 23 22,om 24 (i6 0)]) (.bl 0 (.lp [3,4,7,22,23,24] [480] (.sq (rg [qB 25 .lss 24 23]) (.sq (.cd (.t 25) (.sk) (.ex 0)) (.sq (.bl 1 (.sq (rg [qI 26 2 22 24,qS 27 2 26,oo 11 (.al [.int .i64 0,.int .i64 0] []),on1 (.st 2 (.t 11) (.t 27))]) (.rg (some 0) [qM 28 7,qF 29 2 3,qL 30 29,qF 31 1 4,qL 32 31,oo 33 (.ja 1 2 (.t 11) (i6 0)),qL 34 33,qI 35 3 32 34,qF 36 0 35,qL 37 36,qI 38 1 30 37,qL 39 38,oo 40 (.ja 1 2 (.t 11) (i6 1)),qL 41 40,qI 42 1 39 41,qL 43 42,qI 44 1 28 43,qL 45 44,oo 46 (.bi .add 0 (.t 45) (i6 1)),qI 47 1 28 43,on1 (.st 1 (.t 47) (.t 46))])))
 (rg [oo 48 (.bi .add 0 (.t 24) (i6 1)),qM 24 48]))))))) (.sq (rg [qM 49 7,qM 6 49]) (.rt)))))) }
theorem WR:ZH Proofs.Tryz.prog ZZ VN=true:=by kernel_rfl
def DY:F2 :=
 { nt:=23,res:=[.t 2 [0]],body:=(.sq (rg [om 2 (.k (.bool false))]) (.sq (.sq (rg [om 3 (i6 0)]) (.bl 0 (.lp [0,3] [] (.sq (.sq (rg [qM 4 3,qM 5 0,oo 6 (.lg (.t 5)),qB 7 .lss 4 6]) (.cd (.t 7) (.sk) (.ex 0))) (.sq (.bl 1 (.sq (rg [qM 10 0,qM 11 3,oo 12 (.ix (.t 10) (.t 11)),oo 13 (.bi .lss 0 (.t 12) (.k (.int .u8 97))),qM 14 13,og 15 14 false (.mv (.t 0) none),og 16 14 false (.mv (.t 3) none),og 17 14 false (.ix (.t 15) (.t 16)),og 18 14 false (.bi .gtr 0 (.t 17) (.k (.int .u8 122))),oo 19 (.pk (.t 14) (.k (.bool true)) (.t 18))]) (.cd (.t 19) (.sq (rg [om 2 (.k (.bool false))]) (.rt)) (.sk))))
 (rg [qM 8 3,oo 9 (.bi .add 0 (.t 8) (i6 1)),qM 3 9])))))) (.sq (rg [qM 20 0,oo 21 (.lg (.t 20)),oo 22 (.ca .pure false (.f ZA) [.t 21,i6 1,i6 4]),qM 2 22]) (.rt)))) }
theorem Zed:ZH Proofs.Tryz.prog Vy DY=true:=by kernel_rfl
def Uh:F2 :=
 { nt:=38,res:=[.t 6 [0]],body:=(.sq (rg [om 6 (.k (.bool false))]) (.sq (.sq (rg [om 7 (i6 0)]) (.bl 0 (.lp [0,1,2,7] [] (.sq (.sq (rg [qM 8 7,qM 9 0,qN 10 9,qB 11 .lss 8 10]) (.cd (.t 11) (.sk) (.ex 0))) (.sq (.bl 1 (.sq (.rg (some 0) [qM 14 0,qM 15 7,qI 16 1 14 15,qL 17 16,qM 18 1,qM 19 2,oo 20 (.ca .pure false (.f ZA) [.t 17,.t 18,.t 19]),oo 21 (.nt (.t 20)),qM 22 21,og 23 22 false (.mv (.t 7) none),og 24 22 false (.bi .gtr 0 (.t 23) (i6 0)),og 25 22 false (.mv (.t 24) none),og 26 25 true (.mv (.t 0) none),og 27 25 true (.mv (.t 7) none),og 28 25 true (.bi .sub 0 (.t 27) (i6 1)),og 29 25 true (.ia 1 (.t 26) (.t 28)),og 30 25 true (.ld none (.t 29)),og 31 25 true (.mv (.t 0) none),og 32 25 true (.mv (.t 7) none),og 33 25 true (.ia 1 (.t 31) (.t 32)),og 34 25 true (.ld none (.t 33)),og 35 25 true (.bi .geq 0 (.t 30) (.t 34)),og 36 22 false (.pk (.t 25) (.t 35) (.k (.bool false))),oo 37 (.pk (.t 22) (.k (.bool true)) (.t 36))]) (.cd (.t 37) (.sq (rg [om 6 (.k (.bool false))]) (.rt)) (.sk))))
 (rg [qM 12 7,oo 13 (.bi .add 0 (.t 12) (i6 1)),qM 7 13])))))) (.sq (rg [om 6 (.k (.bool true))]) (.rt)))) }
theorem Zcc:ZH Proofs.Tryz.prog V5 Uh=true:=by kernel_rfl
def UX:F2 :=
 { nt:=60,res:=[.t 2 [0]],body:=(.sq (rg [oo 1 (.bt (.t 0)),om 2 (.k (.bool false))]) (.sq (.sq (rg [qF 6 5 1,qL 7 6,qN 8 7,oo 9 (.bi .gtr 0 (.t 8) (i6 0)),qM 10 9,og 11 10 false (.fa 0 (.t 1)),og 12 10 false (.ld none (.t 11)),og 13 10 false (.bi .eql 0 (.t 12) (i6 0)),oo 14 (.pk (.t 10) (.k (.bool true)) (.t 13))]) (.cd (.t 14) (.sq (rg [om 2 (.k (.bool false))]) (.rt)) (.sk))) (.sq (.sq (rg [om 3 (i6 0)]) (.bl 0 (.lp [1,3] [] (.sq (.sq (rg [qM 15 3,qF 16 0 1,qL 17 16,qB 18 .lss 15 17]) (.cd (.t 18) (.sk) (.ex 0))) (.sq (.bl 1 (.sq (rg [qS 21 6 1,qM 22 3,oo 23 (.bi .sub 0 (i6 (-1)) (.t 22)),oo 24 (.ca .pure false (.f VA) [.t 21,.t 23]),qN 25 24,oo 26 (.bi .eql 0 (.t 25) (i6 0)),qM 27 26,og 28 27 false (.ld (some 6) (.t 1)),og 29 27 false (.mv (.t 3) none),og 30 27 false (.bi .sub 0 (i6 (-1)) (.t 29)),og 31 27 false (.ca .pure false (.f YQ) [.t 28,.t 30]),og 32 27 false (.ln (.t 31)),og 33 27 false (.bi .gtr 0 (.t 32) (i6 0)),oo 34 (.pk (.t 27) (.k (.bool true)) (.t 33))]) (.cd (.t 34) (.sq (rg [om 2 (.k (.bool false))]) (.rt)) (.sk))))
 (rg [qM 19 3,oo 20 (.bi .add 0 (.t 19) (i6 1)),qM 3 20])))))) (.sq (.sq (rg [om 4 (i6 0)]) (.bl 2 (.lp [1,4] [] (.sq (.sq (rg [qM 35 4,qF 36 1 1,qL 37 36,qN 38 37,qB 39 .lss 35 38]) (.cd (.t 39) (.sk) (.ex 2))) (.sq (.bl 3 (.sq (rg [qS 42 6 1,qM 43 4,oo 44 (.ca .pure false (.f YQ) [.t 42,.t 43]),qN 45 44,oo 46 (.bi .gtr 0 (.t 45) (i6 1))]) (.cd (.t 46) (.sq (rg [om 2 (.k (.bool false))]) (.rt)) (.sk))))
 (rg [qM 40 4,oo 41 (.bi .add 0 (.t 40) (i6 1)),qM 4 41])))))) (.sq (.sq (rg [om 5 (i6 0)]) (.bl 4 (.lp [1,5] [] (.sq (.sq (rg [qM 47 5,qF 48 3 1,qL 49 48,qF 50 4 1,qL 51 50,qN 52 51,qB 53 .add 49 52,qB 54 .lss 47 53]) (.cd (.t 54) (.sk) (.ex 4))) (.sq (.bl 5 (.sq (rg [qS 57 6 1,qM 58 5,oo 59 (.ca .pure false (.f Xk) [.t 57,.t 58])]) (.cd (.t 59) (.sq (rg [om 2 (.k (.bool false))]) (.rt)) (.sk))))
 (rg [qM 55 5,oo 56 (.bi .add 0 (.t 55) (i6 1)),qM 5 56])))))) (.sq (rg [om 2 (.k (.bool true))]) (.rt))))))) }
theorem ZcK:ZH Proofs.Tryz.prog QC UX=true:=by kernel_rfl
def UY:F2 :=
 { nt:=35,res:=[.t 2 [0]],body:=(.sq (rg [om 2 (.k (.bool false))]) (.sq (.sq (rg [om 3 (i6 0)]) (.bl 0 (.lp [0,3] [] (.sq (.sq (rg [qM 4 3,qM 5 0,qN 6 5,qB 7 .lss 4 6]) (.cd (.t 7) (.sk) (.ex 0))) (.sq (.bl 1 (.sq (.rg (some 0) [qM 10 0,qM 11 3,qI 12 1 10 11,qL 13 12,oo 14 (.ca .pure false (.f Vy) [.t 13]),oo 15 (.nt (.t 14)),qM 16 15,og 17 16 false (.mv (.t 3) none),og 18 16 false (.bi .gtr 0 (.t 17) (i6 0)),og 19 16 false (.mv (.t 18) none),og 20 19 true (.mv (.t 0) none),og 21 19 true (.mv (.t 3) none),og 22 19 true (.bi .sub 0 (.t 21) (i6 1)),og 23 19 true (.ia 1 (.t 20) (.t 22)),og 24 19 true (.ld none (.t 23)),og 25 19 true (.mv (.t 0) none),og 26 19 true (.mv (.t 3) none),og 27 19 true (.ia 1 (.t 25) (.t 26)),og 28 19 true (.ld none (.t 27)),og 29 19 true (.bi .geq 0 (.t 24) (.t 28)),og 30 16 false (.pk (.t 19) (.t 29) (.k (.bool false))),oo 31 (.pk (.t 16) (.k (.bool true)) (.t 30))]) (.cd (.t 31) (.sq (rg [om 2 (.k (.bool false))]) (.rt)) (.sk))))
 (rg [qM 8 3,oo 9 (.bi .add 0 (.t 8) (i6 1)),qM 3 9])))))) (.sq (rg [qM 32 0,qN 33 32,oo 34 (.bi .leq 0 (.t 33) (i6 16)),qM 2 34]) (.rt)))) }
theorem ZcL:ZH Proofs.Tryz.prog YN UY=true:=by kernel_rfl
def UZ:F2 :=
 { nt:=23,res:=[.t 2 [2]],body:=(.sq (rg [oo 1 (.bt (.t 0)),om 2 (.k (.slice none 0 0))]) (.sq (rg [oo 5 (.bs 1 0 [] []),qM 3 5]) (.sq (.sq (rg [om 4 (i6 0)]) (.bl 0 (.lp [1,3,4] [160,672] (.sq (.sq (rg [qM 6 4,qF 7 5 1,qL 8 7,qN 9 8,qB 10 .lss 6 9]) (.cd (.t 10) (.sk) (.ex 0))) (.sq (.bl 1 (rg [qM 13 3,qF 14 5 1,qL 15 14,qM 16 4,qI 17 2 15 16,qF 18 0 17,qL 19 18,oo 20 (.bs 1 1 [.string ⟨#[]⟩] [(0,.t 19)]),oo 21 (.ap 1 0 (.t 13) (.t 20)),qM 3 21]))
 (rg [qM 11 4,oo 12 (.bi .add 0 (.t 11) (i6 1)),qM 4 12])))))) (.sq (rg [qM 22 3,qM 2 22]) (.rt))))) }
theorem ZcM:ZH Proofs.Tryz.prog QD UZ=true:=by kernel_rfl
def DZ:F2 :=
 { nt:=57,res:=[.t 6 [0]],body:=(.sq (rg [oo 4 (.bt (.t 1)),om 6 (.k (.bool false))]) (.sq (rg [qF 9 1 4,qL 10 9,qM 11 2,qI 12 3 10 11,qS 13 3 12,oo 7 (.al [.int .i64 0,.int .i64 0,.slice none 0 0] []),on1 (.st 3 (.t 7) (.t 13))]) (.sq (.sq (.rg (some 0) [qF 14 0 7,qL 15 14,qM 16 0,qN 17 16,oo 18 (.bi .sub 0 (.t 17) (i6 1)),oo 19 (.ca .pure false (.f ZA) [.t 15,i6 0,.t 18]),oo 20 (.nt (.t 19)),qM 21 20,og 22 21 false (.mv (.t 0) none),og 23 21 false (.ld (some 6) (.t 4)),og 24 21 false (.fa 1 (.t 7)),og 25 21 false (.ld none (.t 24)),og 26 21 false (.mv (.t 2) none),og 27 21 false (.ca .pure false (.f YO) [.t 22,.t 23,.t 25,.t 26]),og 28 21 false (.nt (.t 27)),oo 29 (.pk (.t 21) (.k (.bool true)) (.t 28)),qM 30 29,og 31 30 false (.fa 2 (.t 7)),og 32 30 false (.ld none (.t 31)),og 33 30 false (.ln (.t 32)),og 34 30 false (.mv (.t 0) none),og 35 30 false (.fa 0 (.t 7)),og 36 30 false (.ld none (.t 35)),og 37 30 false (.ia 3 (.t 34) (.t 36)),og 38 30 false (.fa 1 (.t 37)),og 39 30 false (.ld none (.t 38)),og 40 30 false (.bi .neq 0 (.t 33) (.t 39)),oo 41 (.pk (.t 30) (.k (.bool true)) (.t 40))]) (.cd (.t 41) (.sq (rg [om 6 (.k (.bool false))]) (.rt)) (.sk))) (.sq (.sq (rg [om 8 (i6 0)]) (.bl 0 (.lp [4,7,8] [224] (.sq (.sq (rg [qM 42 8,qF 43 2 7,qL 44 43,qN 45 44,qB 46 .lss 42 45]) (.cd (.t 46) (.sk) (.ex 0))) (.sq (.bl 1 (.sq (.rg (some 0) [qS 49 6 4,qF 50 2 7,qL 51 50,qM 52 8,qI 53 1 51 52,qL 54 53,oo 55 (.ca .pure false (.f Vz) [.t 49,.t 54]),oo 56 (.nt (.t 55))]) (.cd (.t 56) (.sq (rg [om 6 (.k (.bool false))]) (.rt)) (.sk))))
 (rg [qM 47 8,oo 48 (.bi .add 0 (.t 47) (i6 1)),qM 8 48])))))) (.sq (rg [om 6 (.k (.bool true))]) (.rt)))))) }
theorem Zee:ZH Proofs.Tryz.prog Xf DZ=true:=by kernel_rfl
def U0:F2 :=
 { nt:=33,res:=[.t 8 [0]],body:=(.sq (rg [oo 5 (.bt (.t 1)),om 8 (.k (.bool false))]) (.sq (.sq (rg [qM 9 2,oo 10 (.bi .lss 0 (.t 9) (i6 0))]) (.cd (.t 10) (.sq (rg [qM 11 2,oo 12 (.bi .sub 0 (i6 (-1)) (.t 11)),qF 13 0 5,qL 14 13,oo 15 (.bi .sub 0 (.t 14) (i6 1)),oo 16 (.ca .pure false (.f ZA) [.t 12,i6 0,.t 15]),qM 8 16]) (.rt)) (.sk))) (.sq (rg [qM 17 2,qM 18 3,qB 19 .lss 17 18,qM 20 19,og 21 20 true (.mv (.t 0) none),og 22 20 true (.fa 1 (.t 5)),og 23 20 true (.ld none (.t 22)),og 24 20 true (.mv (.t 2) none),og 25 20 true (.ia 3 (.t 23) (.t 24)),og 26 20 true (.fa 0 (.t 25)),og 27 20 true (.ld none (.t 26)),og 28 20 true (.ia 3 (.t 21) (.t 27)),og 29 20 true (.fa 2 (.t 28)),og 30 20 true (.ld none (.t 29)),og 31 20 true (.bi .neq 0 (.t 30) (i6 2)),oo 32 (.pk (.t 20) (.t 31) (.k (.bool false))),qM 8 32]) (.rt)))) }
theorem ZcN:ZH Proofs.Tryz.prog YO U0=true:=by kernel_rfl
def D0:F2 :=
 { nt:=14,res:=[.t 4 [0]],body:=(.sq (rg [oo 2 (.bt (.t 0)),om 4 (.k (.bool false))]) (.sq (rg [qM 5 1,qF 6 3 2,qL 7 6,qF 8 4 2,qL 9 8,qN 10 9,qB 11 .add 7 10,oo 12 (.bi .sub 0 (.t 11) (i6 1)),oo 13 (.ca .pure false (.f ZA) [.t 5,i6 0,.t 12]),qM 4 13]) (.rt))) }
theorem Zef:ZH Proofs.Tryz.prog Vz D0=true:=by kernel_rfl
def D7:F2 :=
 { nt:=28,res:=[.t 4 [2]],body:=(.sq (rg [oo 2 (.bt (.t 0)),om 4 (.k (.slice none 0 0))]) (.sq (rg [oo 7 (.bs 1 0 [] []),qM 5 7]) (.sq (.sq (rg [om 6 (i6 0)]) (.bl 0 (.lp [1,2,5,6] [224,832] (.sq (.sq (rg [qM 8 6,qF 9 1 2,qL 10 9,qN 11 10,qB 12 .lss 8 11]) (.cd (.t 12) (.sk) (.ex 0))) (.sq (.bl 1 (.sq (rg [qF 15 1 2,qL 16 15,qM 17 6,qI 18 3 16 17,qF 19 1 18,qL 20 19,qM 21 1,qB 22 .eql 20 21]) (.cd (.t 22) (rg [qM 23 5,qM 24 6,oo 25 (.bs 1 1 [.int .i64 0] [(0,.t 24)]),oo 26 (.ap 1 0 (.t 23) (.t 25)),qM 5 26]) (.sk))))
 (rg [qM 13 6,oo 14 (.bi .add 0 (.t 13) (i6 1)),qM 6 14])))))) (.sq (rg [qM 27 5,qM 4 27]) (.rt))))) }
theorem Zeg:ZH Proofs.Tryz.prog VA D7=true:=by kernel_rfl
def ZaZ:F2 :=
 { nt:=45,res:=[.t 4 [0]],body:=(.sq (rg [om 4 (.k (.slice none 0 0))]) (.sq (rg [om 5 (i6 0)]) (.sq (.bl 0 (.lp [0,1,5] [] (.sq (.sq (rg [qM 6 5,qM 7 0,qN 8 7,qB 9 .lss 6 8,qM 10 9,og 11 10 true (.mv (.t 0) none),og 12 10 true (.mv (.t 5) none),og 13 10 true (.ia 1 (.t 11) (.t 12)),og 14 10 true (.ld none (.t 13)),og 15 10 true (.mv (.t 1) none),og 16 10 true (.bi .lss 0 (.t 14) (.t 15)),oo 17 (.pk (.t 10) (.t 16) (.k (.bool false)))]) (.cd (.t 17) (.sk) (.ex 0))) (.bl 1 (rg [qM 18 5,oo 19 (.bi .add 0 (.t 18) (i6 1)),qM 5 19]))))) (.sq (.sq (rg [qM 20 5,qM 21 0,qN 22 21,qB 23 .lss 20 22,qM 24 23,og 25 24 true (.mv (.t 0) none),og 26 24 true (.mv (.t 5) none),og 27 24 true (.ia 1 (.t 25) (.t 26)),og 28 24 true (.ld none (.t 27)),og 29 24 true (.mv (.t 1) none),og 30 24 true (.bi .eql 0 (.t 28) (.t 29)),oo 31 (.pk (.t 24) (.t 30) (.k (.bool false)))]) (.cd (.t 31) (.sq (rg [qM 32 0,qM 4 32]) (.rt)) (.sk))) (.sq (.rg (some 0) [oo 33 (.bs 1 0 [] []),qM 34 0,qM 35 5,oo 36 (.sx 1 (.t 34) none (some (.t 35)) none),oo 37 (.a0 1 (.t 33) (.t 36)),qM 38 1,oo 39 (.bs 1 1 [.int .i64 0] [(0,.t 38)]),oo 40 (.a0 1 (.t 37) (.t 39)),qM 41 0,qM 42 5,oo 43 (.sy 1 (.t 41) (some (.t 42)) none none),oo 44 (.ap 1 0 (.t 40) (.t 43)),qM 4 44]) (.rt)))))) }
theorem Zfj:ZH Proofs.Tryz.prog XK ZaZ=true:=by kernel_rfl
def U1:F2 :=
 { nt:=45,res:=[.t 4 [3]],body:=(.sq (rg [oo 2 (.bt (.t 0)),om 4 (.k (.slice none 0 0))]) (.sq (rg [oo 8 (.bs 2 0 [] []),qM 5 8]) (.sq (.sq (rg [om 6 (i6 0)]) (.bl 0 (.lp [1,2,5,6] [256,1376] (.sq (.sq (rg [qM 9 6,qF 10 1 2,qL 11 10,qN 12 11,qB 13 .lss 9 12]) (.cd (.t 13) (.sk) (.ex 0))) (.sq (.bl 1 (.sq (rg [om 7 (i6 0)]) (.bl 2 (.lp [1,2,5,6,7] [256,1376] (.sq (.sq (rg [qM 16 7,qF 17 1 2,qL 18 17,qM 19 6,qI 20 3 18 19,qF 21 2 20,qL 22 21,qN 23 22,qB 24 .lss 16 23]) (.cd (.t 24) (.sk) (.ex 2))) (.sq (.bl 3 (.sq (rg [qF 27 1 2,qL 28 27,qM 29 6,qI 30 3 28 29,qF 31 2 30,qL 32 31,qM 33 7,qI 34 1 32 33,qL 35 34,qM 36 1,qB 37 .eql 35 36]) (.cd (.t 37) (rg [qM 38 5,qM 39 6,qM 40 7,oo 41 (.bd [.int .i64 0,.int .i64 0] [(0,1,.t 39),(1,1,.t 40)] []),oo 42 (.bs 2 1 [.int .i64 0,.int .i64 0] [(0,.t 41)]),oo 43 (.ap 2 0 (.t 38) (.t 42)),qM 5 43]) (.sk))))
 (rg [qM 25 7,oo 26 (.bi .add 0 (.t 25) (i6 1)),qM 7 26])))))))
 (rg [qM 14 6,oo 15 (.bi .add 0 (.t 14) (i6 1)),qM 6 15])))))) (.sq (rg [qM 44 5,qM 4 44]) (.rt))))) }
theorem ZcO:ZH Proofs.Tryz.prog YP U1=true:=by kernel_rfl
def D8:F2 :=
 { nt:=11,res:=[.t 2 [0]],body:=(.sq (rg [om 2 (.k (.bool false))]) (.sq (rg [qM 3 0,oo 4 (.lg (.t 3)),oo 5 (.ca .pure false (.f Zt) [.t 4,i6 1,i6 4]),qM 6 5,og 7 6 true (.mv (.t 0) none),og 8 6 true (.ca .pure false (.f WC) [.t 7,.k (.string ⟨#[97,98,99,100,101,102,103,104,105,106,107,108,109,110,111,112,113,114,115,116,117,118,119,120,121,122]⟩)]),og 9 6 true (.bi .eql 0 (.t 8) (.k (.string ⟨#[]⟩))),oo 10 (.pk (.t 6) (.t 9) (.k (.bool false))),qM 2 10]) (.rt))) }
theorem Zeh:ZH Proofs.Tryz.prog VB D8=true:=by kernel_rfl
def QI:F2 :=
 { nt:=9,res:=[.t 3 [0]],body:=(.sq (rg [oo 2 (.bt (.t 0)),om 3 (.k (.bool false))]) (.sq (rg [qF 4 0 2,qL 5 4,qF 6 0 1,qL 7 6,qB 8 .eql 5 7,qM 3 8]) (.rt))) }
theorem UL:ZH Proofs.Tryz.prog Jn QI=true:=by kernel_rfl
def Xo:F2 :=
 { nt:=8,res:=[.t 4 [0]],body:=(.sq (rg [oo 2 (.bt (.t 0)),oo 3 (.bt (.t 1)),om 4 (i6 0)]) (.sq (.rg (some 0) [oo 5 (.sa 2 (.t 2)),oo 6 (.sa 2 (.t 3)),oo 7 (.ca .pure false (.f Jr) [.t 5,.t 6]),qM 4 7]) (.rt))) }
theorem Df:ZH Proofs.Tryz.prog Yc Xo=true:=by kernel_rfl
def WF:F2 :=
 { nt:=101,res:=[.t 4 [0]],body:=(.sq (rg [oo 2 (.bt (.t 0)),oo 3 (.bt (.t 1)),om 4 (.k (.bool false))]) (.sq (.sq (rg [qL 7 2,oo 8 (.ca .pure false (.f JC) [.t 7]),oo 9 (.nt (.t 8)),qM 10 9,og 11 10 false (.fa 0 (.t 3)),og 12 10 false (.ld none (.t 11)),og 13 10 false (.ca .pure false (.f Zt) [.t 12,i6 0,i6 4]),og 14 10 false (.nt (.t 13)),oo 15 (.pk (.t 10) (.k (.bool true)) (.t 14)),qM 16 15,og 17 16 false (.fa 1 (.t 3)),og 18 16 false (.ld none (.t 17)),og 19 16 false (.ln (.t 18)),og 20 16 false (.bi .gtr 0 (.t 19) (i6 8)),oo 21 (.pk (.t 16) (.k (.bool true)) (.t 20)),qM 22 21,og 23 22 false (.fa 2 (.t 3)),og 24 22 false (.ld none (.t 23)),og 25 22 false (.ln (.t 24)),og 26 22 false (.bi .gtr 0 (.t 25) (i6 4)),oo 27 (.pk (.t 22) (.k (.bool true)) (.t 26)),qM 28 27,og 29 28 false (.fa 3 (.t 3)),og 30 28 false (.ld none (.t 29)),og 31 28 false (.ca .pure false (.f Zt) [.t 30,i6 0,i6 8]),og 32 28 false (.nt (.t 31)),oo 33 (.pk (.t 28) (.k (.bool true)) (.t 32)),qM 34 33,og 35 34 false (.fa 4 (.t 3)),og 36 34 false (.ld none (.t 35)),og 37 34 false (.ca .pure false (.f Yl) [.t 36]),og 38 34 false (.nt (.t 37)),oo 39 (.pk (.t 34) (.k (.bool true)) (.t 38)),qM 40 39,og 41 40 false (.ld (some 6) (.t 3)),og 42 40 false (.ca .pure false (.f Jm) [.t 41]),og 43 40 false (.ca .pure false (.f Yl) [.t 42]),og 44 40 false (.nt (.t 43)),oo 45 (.pk (.t 40) (.k (.bool true)) (.t 44))]) (.cd (.t 45) (.sq (rg [om 4 (.k (.bool false))]) (.rt)) (.sk))) (.sq (.sq (rg [qF 46 1 3,qL 47 46,qN 48 47,om 49 (i6 0)]) (.bl 0 (.lp [2,3,47,48,49] [] (.sq (rg [qB 50 .lss 49 48]) (.sq (.cd (.t 50) (.sk) (.ex 0)) (.sq (.bl 1 (.sq (rg [qM 51 49,qI 52 3 47 49,qS 53 3 52,oo 6 (.al [.int .i64 0,.int .i64 0,.slice none 0 0] []),qM 5 51,on1 (.st 3 (.t 6) (.t 53))]) (.sq (.rg (some 0) [qF 54 0 6,qL 55 54,qL 56 2,qN 57 56,oo 58 (.bi .sub 0 (.t 57) (i6 1)),oo 59 (.ca .pure false (.f Zt) [.t 55,i6 0,.t 58]),oo 60 (.nt (.t 59)),qM 61 60,og 62 61 false (.ld (some 6) (.t 3)),og 63 61 false (.ld none (.t 2)),og 64 61 false (.fa 1 (.t 6)),og 65 61 false (.ld none (.t 64)),og 66 61 false (.mv (.t 5) none),og 67 61 false (.ca .pure false (.f Z9) [.t 62,.t 63,.t 65,.t 66]),og 68 61 false (.nt (.t 67)),oo 69 (.pk (.t 61) (.k (.bool true)) (.t 68)),qM 70 69,og 71 70 false (.fa 2 (.t 6)),og 72 70 false (.ld none (.t 71)),og 73 70 false (.ln (.t 72)),og 74 70 false (.ld none (.t 2)),og 75 70 false (.fa 0 (.t 6)),og 76 70 false (.ld none (.t 75)),og 77 70 false (.ia 3 (.t 74) (.t 76)),og 78 70 false (.fa 1 (.t 77)),og 79 70 false (.ld none (.t 78)),og 80 70 false (.bi .neq 0 (.t 73) (.t 79)),oo 81 (.pk (.t 70) (.k (.bool true)) (.t 80)),qM 82 81,og 83 82 false (.fa 2 (.t 6)),og 84 82 false (.ld none (.t 83)),og 85 82 false (.mf Yu [.t 3]),og 86 82 false (.ca .pure false (.f Zp) [.t 84,.t 85]),oo 87 (.pk (.t 82) (.k (.bool true)) (.t 86))]) (.cd (.t 87) (.sq (rg [om 4 (.k (.bool false))]) (.rt)) (.sk)))))
 (rg [oo 88 (.bi .add 0 (.t 49) (i6 1)),qM 49 88]))))))) (.sq (rg [qF 89 2 3,qL 90 89,oo 91 (.mf Yv [.t 3,.t 2]),oo 92 (.ca .pure false (.f Zp) [.t 90,.t 91]),oo 93 (.nt (.t 92)),qM 94 93,og 95 94 true (.fa 5 (.t 3)),og 96 94 true (.ld none (.t 95)),og 97 94 true (.mf Yw [.t 3]),og 98 94 true (.ca .pure false (.f Z2) [.t 96,.t 97]),og 99 94 true (.nt (.t 98)),oo 100 (.pk (.t 94) (.t 99) (.k (.bool false))),qM 4 100]) (.rt))))) }
theorem Zbb:ZH Proofs.Tryz.prog J5 WF=true:=by kernel_rfl
def Qk:F2 :=
 { nt:=19,res:=[.t 4 [0]],body:=(.sq (rg [oo 2 (.bt (.t 0)),om 4 (.k (.bool false))]) (.sq (rg [qS 8 6 2,qM 9 1,oo 10 (.ca .pure false (.f Z8) [.t 8,.t 9]),qM 7 10,qE 11 0 7,qE 12 1 7,qM 5 11,qM 6 12]) (.sq (rg [qM 13 5,qN 14 13,qM 15 6,qN 16 15,qB 17 .add 14 16,oo 18 (.bi .eql 0 (.t 17) (i6 0)),qM 4 18]) (.rt)))) }
theorem Ui:ZH Proofs.Tryz.prog JS Qk=true:=by kernel_rfl
def Yd:F2 :=
 { nt:=134,res:=[],body:=(.sq (rg [om 8 (.k (.bool true))]) (.sq (rg [om 9 (.k (.bool true))]) (.bl 0 (.lp [0,1,2,3,8,9] [] (.bl 1 (.sq (rg [qM 19 2,qM 20 1,qB 21 .sub 19 20,qM 10 21]) (.sq (.sq (rg [qM 22 10,oo 23 (.bi .leq 0 (.t 22) (i6 12))]) (.cd (.t 23) (.sq (rg [qM 24 0,qM 25 1,qM 26 2,oo 27 (.ca .any false (.f ZW) [.t 24,.t 25,.t 26])]) (.rt)) (.sk))) (.sq (.sq (rg [qM 28 3,oo 29 (.bi .eql 0 (.t 28) (i6 0))]) (.cd (.t 29) (.sq (rg [qM 30 0,qM 31 1,qM 32 2,oo 33 (.ca .pure false (.f Qi) [.t 30,.t 31,.t 32])]) (.rt)) (.sk))) (.sq (.sq (rg [qM 34 8,oo 35 (.nt (.t 34))]) (.cd (.t 35) (.sq (rg [qM 36 0,qM 37 1,qM 38 2,oo 39 (.ca .pure false (.f YY) [.t 36,.t 37,.t 38])])
 (rg [qM 40 3,oo 41 (.bi .sub 0 (.t 40) (i6 1)),qM 3 41])) (.sk))) (.sq (rg [qM 43 0,qM 44 1,qM 45 2,oo 46 (.ca .pure false (.f VC) [.t 43,.t 44,.t 45]),qM 42 46,qE 47 0 42,qE 48 1 42,qM 11 47,qM 12 48]) (.sq (.sq (rg [qM 49 12,oo 50 (.bi .eql 0 (.t 49) (i6 2))]) (.cd (.t 50) (.sq (rg [qM 51 0,qM 52 1,qM 53 2,oo 54 (.ca .pure false (.f Vb) [.t 51,.t 52,.t 53])]) (.sq (rg [qM 55 2,oo 56 (.bi .sub 0 (.t 55) (i6 1)),qM 57 11,qM 58 1,qB 59 .sub 57 58,qB 60 .sub 56 59,qM 11 60])
 (rg [om 12 (i6 1)]))) (.sk))) (.sq (.sq (rg [qM 61 8,qM 62 61,og 63 62 true (.mv (.t 9) none),oo 64 (.pk (.t 62) (.t 63) (.k (.bool false))),qM 65 64,og 66 65 true (.mv (.t 12) none),og 67 65 true (.bi .eql 0 (.t 66) (i6 1)),oo 68 (.pk (.t 65) (.t 67) (.k (.bool false)))]) (.cd (.t 68) (.sq (rg [qM 69 0,qM 70 1,qM 71 2,oo 72 (.ca .pure false (.f JU) [.t 69,.t 70,.t 71])]) (.cd (.t 72) (.rt) (.sk))) (.sk))) (.sq (.sq (.rg (some 0) [qM 73 1,oo 74 (.bi .gtr 0 (.t 73) (i6 0)),qM 75 74,og 76 75 true (.mv (.t 0) none),og 77 75 true (.mv (.t 1) none),og 78 75 true (.bi .sub 0 (.t 77) (i6 1)),og 79 75 true (.ia 1 (.t 76) (.t 78)),og 80 75 true (.ld none (.t 79)),og 81 75 true (.mv (.t 0) none),og 82 75 true (.mv (.t 11) none),og 83 75 true (.ia 1 (.t 81) (.t 82)),og 84 75 true (.ld none (.t 83)),og 85 75 true (.ca .pure false (.f YR) [.t 80,.t 84]),og 86 75 true (.nt (.t 85)),oo 87 (.pk (.t 75) (.t 86) (.k (.bool false)))]) (.cd (.t 87) (.sq (rg [qM 88 0,qM 89 1,qM 90 2,qM 91 11,oo 92 (.ca .pure false (.f YE) [.t 88,.t 89,.t 90,.t 91]),qM 13 92]) (.sq (rg [qM 93 13,qM 1 93]) (.ex 1))) (.sk))) (.sq (rg [qM 95 0,qM 96 1,qM 97 2,qM 98 11,oo 99 (.ca .pure false (.f V8) [.t 95,.t 96,.t 97,.t 98]),qM 94 99,qE 100 0 94,qE 101 1 94,qM 14 100,qM 15 101]) (.sq (rg [qM 102 15,qM 9 102]) (.sq (rg [qM 103 14,qM 104 1,qB 105 .sub 103 104,qM 106 2,qM 107 14,qB 108 .sub 106 107,qM 16 105,qM 17 108]) (.sq (rg [qM 109 10,oo 110 (.bi .quo 0 (.t 109) (i6 8)),qM 18 110]) (.sq (rg [qM 111 16,qM 112 17,qB 113 .lss 111 112]) (.cd (.t 113) (.sq (rg [qM 114 16,qM 115 18,qB 116 .geq 114 115,qM 8 116]) (.sq (rg [qM 117 0,qM 118 1,qM 119 14,qM 120 3,oo 121 (.ca .any false (.f ZG) [.t 117,.t 118,.t 119,.t 120])])
 (rg [qM 122 14,oo 123 (.bi .add 0 (.t 122) (i6 1)),qM 1 123]))) (.sq (rg [qM 124 17,qM 125 18,qB 126 .geq 124 125,qM 8 126]) (.sq (rg [qM 127 0,qM 128 14,oo 129 (.bi .add 0 (.t 128) (i6 1)),qM 130 2,qM 131 3,oo 132 (.ca .any false (.f ZG) [.t 127,.t 129,.t 130,.t 131])])
 (rg [qM 133 14,qM 2 133])))))))))))))))))))))) }
theorem Xp:ZH Proofs.Tryz.prog ZG Yd=true:=by kernel_rfl
def Uj:F2 :=
 { nt:=8,res:=[.t 2 [0]],body:=(.sq (rg [om 2 (i6 0)]) (.sq (.cd (.k (.bool false)) (.sq (rg [qM 3 0,oo 4 (.cv (.int .u32) (.t 3)),oo 5 (.ca .pure false (.f Dc) [.t 4]),qM 2 5]) (.rt)) (.sk)) (.sq (rg [qM 6 0,oo 7 (.ca .pure false (.f YZ) [.t 6]),qM 2 7]) (.rt)))) }
theorem Zcd:ZH Proofs.Tryz.prog V6 Uj=true:=by kernel_rfl
def VO:F2 :=
 { nt:=19,res:=[.t 4 [0]],body:=(.sq (rg [om 4 (i6 0)]) (.sq (.sq (rg [qM 6 0,qN 7 6,om 8 (i6 0)]) (.bl 0 (.lp [0,1,7,8] [] (.sq (rg [qB 9 .lss 8 7]) (.sq (.cd (.t 9) (.sk) (.ex 0)) (.sq (.bl 1 (.sq (rg [qM 10 8,qM 5 10]) (.sq (rg [qM 11 1,qM 12 0,qM 13 5,qI 14 1 12 13,qL 15 14,qB 16 .eql 11 15]) (.cd (.t 16) (.sq (rg [qM 17 5,qM 4 17]) (.rt)) (.sk)))))
 (rg [oo 18 (.bi .add 0 (.t 8) (i6 1)),qM 8 18]))))))) (.sq (rg [om 4 (i6 (-1))]) (.rt)))) }
theorem WS:ZH Proofs.Tryz.prog JF VO=true:=by kernel_rfl
def Uk:F2 :=
 { nt:=8,res:=[.t 3 [0]],body:=(.sq (rg [om 3 (.k (.bool false))]) (.sq (rg [qL 4 1,qM 5 0,oo 6 (.ca .pure false (.f ZK) [.t 4,.t 5]),oo 7 (.nt (.t 6)),qM 3 7]) (.rt))) }
theorem Zce:ZH Proofs.Tryz.prog V7 Uk=true:=by kernel_rfl
def VD:F2 :=
 { nt:=62,res:=[.t 4 [3],.t 5 [2]],body:=(.sq (rg [oo 2 (.bt (.t 0)),om 4 (.k (.slice none 0 0)),om 5 (.k (.slice none 0 0))]) (.sq (rg [oo 14 (.bs 2 0 [] []),oo 15 (.bs 1 0 [] []),qM 6 14,qM 7 15]) (.sq (.sq (rg [qF 16 1 2,qL 17 16,qN 18 17,om 19 (i6 0)]) (.bl 0 (.lp [1,2,6,7,17,18,19] [448,480,1280,1856] (.sq (rg [qB 20 .lss 19 18]) (.sq (.cd (.t 20) (.sk) (.ex 0)) (.sq (.bl 1 (.sq (rg [qM 21 19,qI 22 3 17 19,qS 23 3 22,oo 9 (.al [.int .i64 0,.int .i64 0,.slice none 0 0] []),qM 8 21,on1 (.st 3 (.t 9) (.t 23))]) (.sq (rg [qF 24 2 9,qL 25 24,qN 26 25,om 27 (i6 0)]) (.bl 2 (.lp [1,2,6,7,8,17,18,19,25,26,27] [288,448,480,1280,1856] (.sq (rg [qB 28 .lss 27 26]) (.sq (.cd (.t 28) (.sk) (.ex 2)) (.sq (.bl 3 (.sq (rg [qM 29 27,qI 30 1 25 27,qL 31 30,qM 10 29,qM 11 31]) (.sq (rg [qM 32 11,qM 33 1,qB 34 .eql 32 33]) (.cd (.t 34) (rg [qM 35 6,qM 36 8,qM 37 10,oo 38 (.bd [.int .i64 0,.int .i64 0] [(0,1,.t 36),(1,1,.t 37)] []),oo 39 (.bs 2 1 [.int .i64 0,.int .i64 0] [(0,.t 38)]),oo 40 (.ap 2 0 (.t 35) (.t 39)),qM 6 40]) (.sk)))))
 (rg [oo 41 (.bi .add 0 (.t 27) (i6 1)),qM 27 41])))))))))
 (rg [oo 42 (.bi .add 0 (.t 19) (i6 1)),qM 19 42]))))))) (.sq (.sq (rg [qF 43 5 2,qL 44 43,qN 45 44,om 46 (i6 0)]) (.bl 4 (.lp [1,6,7,44,45,46] [448,480,1280,1856] (.sq (rg [qB 47 .lss 46 45]) (.sq (.cd (.t 47) (.sk) (.ex 4)) (.sq (.bl 5 (.sq (rg [qI 48 2 44 46,qS 49 2 48,oo 13 (.al [.string ⟨#[]⟩,.int .i64 0] []),on1 (.st 2 (.t 13) (.t 49))]) (.sq (rg [qF 50 1 13,qL 51 50,qM 52 1,qB 53 .eql 51 52]) (.cd (.t 53) (rg [qM 54 7,qF 55 0 13,qL 56 55,oo 57 (.bs 1 1 [.string ⟨#[]⟩] [(0,.t 56)]),oo 58 (.ap 1 0 (.t 54) (.t 57)),qM 7 58]) (.sk)))))
 (rg [oo 59 (.bi .add 0 (.t 46) (i6 1)),qM 46 59]))))))) (.sq (rg [qM 60 6,qM 61 7,qM 4 60,qM 5 61]) (.rt)))))) }
theorem Wn:ZH Proofs.Tryz.prog Z8 VD=true:=by kernel_rfl
def U2:F2 :=
 { nt:=27,res:=[.t 4 [2]],body:=(.sq (rg [oo 2 (.bt (.t 0)),om 4 (.k (.slice none 0 0))]) (.sq (rg [oo 7 (.bs 1 0 [] []),qM 5 7]) (.sq (.sq (rg [om 6 (i6 0)]) (.bl 0 (.lp [1,2,5,6] [224,800] (.sq (.sq (rg [qM 8 6,qF 9 2 2,qL 10 9,qN 11 10,qB 12 .lss 8 11]) (.cd (.t 12) (.sk) (.ex 0))) (.sq (.bl 1 (.sq (rg [qF 15 2 2,qL 16 15,qM 17 6,qI 18 1 16 17,qL 19 18,qM 20 1,qB 21 .eql 19 20]) (.cd (.t 21) (rg [qM 22 5,qM 23 6,oo 24 (.bs 1 1 [.int .i64 0] [(0,.t 23)]),oo 25 (.ap 1 0 (.t 22) (.t 24)),qM 5 25]) (.sk))))
 (rg [qM 13 6,oo 14 (.bi .add 0 (.t 13) (i6 1)),qM 6 14])))))) (.sq (rg [qM 26 5,qM 4 26]) (.rt))))) }
theorem ZcP:ZH Proofs.Tryz.prog YQ U2=true:=by kernel_rfl
def D9:F2 :=
 { nt:=17,res:=[.t 4 [0]],body:=(.sq (rg [oo 2 (.bt (.t 0)),om 4 (.k (.bool false))]) (.sq (rg [qS 5 6 2,qM 6 1,oo 7 (.ca .pure false (.f YP) [.t 5,.t 6]),qN 8 7,oo 9 (.bi .eql 0 (.t 8) (i6 0)),qM 10 9,og 11 10 true (.ld (some 6) (.t 2)),og 12 10 true (.mv (.t 1) none),og 13 10 true (.ca .pure false (.f Xl) [.t 11,.t 12]),og 14 10 true (.ln (.t 13)),og 15 10 true (.bi .eql 0 (.t 14) (i6 0)),oo 16 (.pk (.t 10) (.t 15) (.k (.bool false))),qM 4 16]) (.rt))) }
theorem Zei:ZH Proofs.Tryz.prog Xk D9=true:=by kernel_rfl
def Y8:F2 :=
 { nt:=36,res:=[.t 4 [0]],body:=(.sq (rg [om 4 (i6 0)]) (.sq (.sq (rg [qM 9 0,qN 10 9,om 11 (i6 0)]) (.bl 0 (.lp [0,1,9,10,11] [] (.sq (rg [qB 12 .lss 11 10]) (.sq (.cd (.t 12) (.sk) (.ex 0)) (.sq (.bl 1 (.sq (rg [qM 13 11,qI 14 1 9 11,qL 15 14,qM 5 13,qM 6 15]) (.sq (.sq (rg [qM 16 5,qM 17 1,qN 18 17,qB 19 .geq 16 18]) (.cd (.t 19) (.sq (rg [om 4 (i6 1)]) (.rt)) (.sk))) (.sq (rg [qM 20 1,qM 21 5,qI 22 1 20 21,qL 23 22,qM 7 23]) (.sq (rg [qM 24 6,qM 25 7,oo 26 (.ca .pure false (.f Y0) [.t 24,.t 25]),qM 8 26]) (.sq (rg [qM 27 8,oo 28 (.bi .neq 0 (.t 27) (i6 0))]) (.cd (.t 28) (.sq (rg [qM 29 8,qM 4 29]) (.rt)) (.sk))))))))
 (rg [oo 30 (.bi .add 0 (.t 11) (i6 1)),qM 11 30]))))))) (.sq (.sq (rg [qM 31 0,qN 32 31,qM 33 1,qN 34 33,qB 35 .lss 32 34]) (.cd (.t 35) (.sq (rg [om 4 (i6 (-1))]) (.rt)) (.sk))) (.sq (rg [om 4 (i6 0)]) (.rt))))) }
theorem X5:ZH Proofs.Tryz.prog Jr Y8=true:=by kernel_rfl
def Ul:F2 :=
 { nt:=32,res:=[.t 2 [0]],body:=(.sq (rg [om 2 (.k (.bool false))]) (.sq (.sq (rg [qM 5 0,qN 6 5,om 7 (i6 0)]) (.bl 0 (.lp [0,5,6,7] [] (.sq (rg [qB 8 .lss 7 6]) (.sq (.cd (.t 8) (.sk) (.ex 0)) (.sq (.bl 1 (.sq (rg [qM 9 7,qI 10 1 5 7,qL 11 10,qM 3 9,qM 4 11]) (.sq (rg [qM 12 4,oo 13 (.ca .pure false (.f VB) [.t 12]),oo 14 (.nt (.t 13)),qM 15 14,og 16 15 false (.mv (.t 3) none),og 17 15 false (.bi .gtr 0 (.t 16) (i6 0)),og 18 15 false (.mv (.t 17) none),og 19 18 true (.mv (.t 4) none),og 20 18 true (.mv (.t 0) none),og 21 18 true (.mv (.t 3) none),og 22 18 true (.bi .sub 0 (.t 21) (i6 1)),og 23 18 true (.ia 1 (.t 20) (.t 22)),og 24 18 true (.ld none (.t 23)),og 25 18 true (.bi .leq 0 (.t 19) (.t 24)),og 26 15 false (.pk (.t 18) (.t 25) (.k (.bool false))),oo 27 (.pk (.t 15) (.k (.bool true)) (.t 26))]) (.cd (.t 27) (.sq (rg [om 2 (.k (.bool false))]) (.rt)) (.sk)))))
 (rg [oo 28 (.bi .add 0 (.t 7) (i6 1)),qM 7 28]))))))) (.sq (rg [qM 29 0,qN 30 29,oo 31 (.bi .leq 0 (.t 30) (i6 16)),qM 2 31]) (.rt)))) }
theorem Zcf:ZH Proofs.Tryz.prog Yl Ul=true:=by kernel_rfl
def YI:F2 :=
 { nt:=21,res:=[.t 2 [2]],body:=(.sq (rg [oo 1 (.bt (.t 0)),om 2 (.k (.slice none 0 0))]) (.sq (rg [oo 6 (.bs 1 0 [] []),qM 3 6]) (.sq (.sq (rg [qF 7 5 1,qL 8 7,qN 9 8,om 10 (i6 0)]) (.bl 0 (.lp [3,8,9,10] [192,576] (.sq (rg [qB 11 .lss 10 9]) (.sq (.cd (.t 11) (.sk) (.ex 0)) (.sq (.bl 1 (.sq (rg [qI 12 2 8 10,qS 13 2 12,oo 5 (.al [.string ⟨#[]⟩,.int .i64 0] []),on1 (.st 2 (.t 5) (.t 13))])
 (rg [qM 14 3,qF 15 0 5,qL 16 15,oo 17 (.bs 1 1 [.string ⟨#[]⟩] [(0,.t 16)]),oo 18 (.ap 1 0 (.t 14) (.t 17)),qM 3 18])))
 (rg [oo 19 (.bi .add 0 (.t 10) (i6 1)),qM 10 19]))))))) (.sq (rg [qM 20 3,qM 2 20]) (.rt))))) }
theorem XO:ZH Proofs.Tryz.prog Jm YI=true:=by kernel_rfl
def VE:F2 :=
 { nt:=32,res:=[.t 8 [0]],body:=(.sq (rg [oo 4 (.bt (.t 0)),om 8 (.k (.bool false))]) (.sq (.sq (rg [qM 9 2,oo 10 (.bi .lss 0 (.t 9) (i6 0))]) (.cd (.t 10) (.sq (rg [qM 11 2,qF 12 0 4,qL 13 12,oo 14 (.ng (.t 13)),qB 15 .geq 11 14,qM 8 15]) (.rt)) (.sk))) (.sq (rg [qM 16 2,qM 17 3,qB 18 .lss 16 17,qM 19 18,og 20 19 true (.mv (.t 1) none),og 21 19 true (.fa 1 (.t 4)),og 22 19 true (.ld none (.t 21)),og 23 19 true (.mv (.t 2) none),og 24 19 true (.ia 3 (.t 22) (.t 23)),og 25 19 true (.fa 0 (.t 24)),og 26 19 true (.ld none (.t 25)),og 27 19 true (.ia 3 (.t 20) (.t 26)),og 28 19 true (.fa 2 (.t 27)),og 29 19 true (.ld none (.t 28)),og 30 19 true (.bi .neq 0 (.t 29) (i6 2)),oo 31 (.pk (.t 19) (.t 30) (.k (.bool false))),qM 8 31]) (.rt)))) }
theorem Wo:ZH Proofs.Tryz.prog Z9 VE=true:=by kernel_rfl
def XD:F2 :=
 { nt:=8,res:=[.t 3 [0]],body:=(.sq (rg [om 3 (.k (.bool false))]) (.sq (rg [qS 4 6 1,qM 5 0,oo 6 (.ca .pure false (.f Jg) [.t 4,.t 5]),oo 7 (.nt (.t 6)),qM 3 7]) (.rt))) }
theorem Zaa:ZH Proofs.Tryz.prog Yu XD=true:=by kernel_rfl
def Ql:F2 :=
 { nt:=14,res:=[.t 4 [0]],body:=(.sq (rg [oo 2 (.bt (.t 0)),om 4 (.k (.bool false))]) (.sq (rg [qM 5 1,qF 6 3 2,qL 7 6,qF 8 4 2,qL 9 8,qN 10 9,qB 11 .add 7 10,oo 12 (.bi .sub 0 (.t 11) (i6 1)),oo 13 (.ca .pure false (.f Zt) [.t 5,i6 0,.t 12]),qM 4 13]) (.rt))) }
theorem Um:ZH Proofs.Tryz.prog Jg Ql=true:=by kernel_rfl
def XE:F2 :=
 { nt:=13,res:=[.t 4 [0]],body:=(.sq (rg [om 4 (.k (.bool false))]) (.sq (rg [qS 5 6 1,qL 6 2,qM 7 0,qF 8 1 1,qL 9 8,qN 10 9,oo 11 (.ca .pure false (.f Z9) [.t 5,.t 6,.t 7,.t 10]),oo 12 (.nt (.t 11)),qM 4 12]) (.rt))) }
theorem Zab:ZH Proofs.Tryz.prog Yv XE=true:=by kernel_rfl
def XF:F2 :=
 { nt:=9,res:=[.t 3 [0]],body:=(.sq (rg [oo 2 (.bt (.t 0)),om 3 (.k (.bool false))]) (.sq (rg [qS 4 6 1,qF 5 1 2,qL 6 5,oo 7 (.ca .pure false (.f Jg) [.t 4,.t 6]),oo 8 (.nt (.t 7)),qM 3 8]) (.rt))) }
theorem Zac:ZH Proofs.Tryz.prog Yw XF=true:=by kernel_rfl
def Jz:F2 :=
 { nt:=49,res:=[],body:=(.sq (rg [qM 8 1,oo 9 (.bi .add 0 (.t 8) (i6 1)),qM 6 9]) (.bl 0 (.lp [0,1,2,6] [] (.sq (.sq (rg [qM 10 6,qM 11 2,qB 12 .lss 10 11]) (.cd (.t 12) (.sk) (.ex 0))) (.sq (.bl 1 (.sq (rg [qM 15 6,qM 7 15]) (.bl 2 (.lp [0,1,2,6,7] [] (.sq (.sq (.rg (some 0) [qM 16 7,qM 17 1,qB 18 .gtr 16 17,qM 19 18,og 20 19 true (.mv (.t 0) none),og 21 19 true (.mv (.t 7) none),og 22 19 true (.ia 1 (.t 20) (.t 21)),og 23 19 true (.ld none (.t 22)),og 24 19 true (.mv (.t 0) none),og 25 19 true (.mv (.t 7) none),og 26 19 true (.bi .sub 0 (.t 25) (i6 1)),og 27 19 true (.ia 1 (.t 24) (.t 26)),og 28 19 true (.ld none (.t 27)),og 29 19 true (.ca .pure false (.f YR) [.t 23,.t 28]),oo 30 (.pk (.t 19) (.t 29) (.k (.bool false)))]) (.cd (.t 30) (.sk) (.ex 2))) (.sq (.bl 3 (.rg (some 0) [qM 33 0,qM 34 7,qM 35 0,qM 36 7,oo 37 (.bi .sub 0 (.t 36) (i6 1)),qM 38 0,qM 39 7,oo 40 (.bi .sub 0 (.t 39) (i6 1)),qI 41 1 38 40,qL 42 41,qM 43 0,qM 44 7,qI 45 1 43 44,qL 46 45,qI 47 1 33 34,on1 (.s0 1 (.t 47) (.t 42)),qI 48 1 35 37,on1 (.st 1 (.t 48) (.t 46))]))
 (rg [qM 31 7,oo 32 (.bi .sub 0 (.t 31) (i6 1)),qM 7 32])))))))
 (rg [qM 13 6,oo 14 (.bi .add 0 (.t 13) (i6 1)),qM 6 14])))))) }
theorem VF:ZH Proofs.Tryz.prog ZW Jz=true:=by kernel_rfl
def U3:F2 :=
 { nt:=17,res:=[.t 4 [0]],body:=(.sq (rg [om 4 (.k (.bool false))]) (.sq (rg [qM 5 0,oo 6 (.ca .pure false (.f Jh) [.t 5]),qM 7 6,og 8 7 true (.mv (.t 1) none),og 9 7 true (.ca .pure false (.f Jh) [.t 8]),og 10 7 true (.nt (.t 9)),oo 11 (.pk (.t 7) (.t 10) (.k (.bool false))),qM 12 11,og 13 12 false (.mv (.t 0) none),og 14 12 false (.mv (.t 1) none),og 15 12 false (.bi .lss 0 (.t 13) (.t 14)),oo 16 (.pk (.t 12) (.k (.bool true)) (.t 15)),qM 4 16]) (.rt))) }
theorem ZcQ:ZH Proofs.Tryz.prog YR U3=true:=by kernel_rfl
def Zu:F2 :=
 { nt:=25,res:=[.t 2 [0]],body:=(.sq (rg [om 2 (i6 0)]) (.sq (.sq (rg [qM 3 0,oo 4 (.bi .geq 0 (.t 3) (.k (.int .u64 4294967296)))]) (.cd (.t 4) (.sq (rg [qM 5 0,oo 6 (.bi .shr 0 (.t 5) (.k (.int .u64 32))),qM 0 6])
 (rg [om 2 (i6 32)])) (.sk))) (.sq (.sq (rg [qM 7 0,oo 8 (.bi .geq 0 (.t 7) (.k (.int .u64 65536)))]) (.cd (.t 8) (.sq (rg [qM 9 0,oo 10 (.bi .shr 0 (.t 9) (.k (.int .u64 16))),qM 0 10])
 (rg [qM 11 2,oo 12 (.bi .add 0 (.t 11) (i6 16)),qM 2 12])) (.sk))) (.sq (.sq (rg [qM 13 0,oo 14 (.bi .geq 0 (.t 13) (.k (.int .u64 256)))]) (.cd (.t 14) (.sq (rg [qM 15 0,oo 16 (.bi .shr 0 (.t 15) (.k (.int .u64 8))),qM 0 16])
 (rg [qM 17 2,oo 18 (.bi .add 0 (.t 17) (i6 8)),qM 2 18])) (.sk))) (.sq (rg [qM 19 2,qM 20 0,oo 21 (.cv (.int .u8) (.t 20)),oo 22 (.ix (.k (.string ⟨#[0,1,2,2,3,3,3,3,4,4,4,4,4,4,4,4,5,5,5,5,5,5,5,5,5,5,5,5,5,5,5,5,6,6,6,6,6,6,6,6,6,6,6,6,6,6,6,6,6,6,6,6,6,6,6,6,6,6,6,6,6,6,6,6,7,7,7,7,7,7,7,7,7,7,7,7,7,7,7,7,7,7,7,7,7,7,7,7,7,7,7,7,7,7,7,7,7,7,7,7,7,7,7,7,7,7,7,7,7,7,7,7,7,7,7,7,7,7,7,7,7,7,7,7,7,7,7,7,8,8,8,8,8,8,8,8,8,8,8,8,8,8,8,8,8,8,8,8,8,8,8,8,8,8,8,8,8,8,8,8,8,8,8,8,8,8,8,8,8,8,8,8,8,8,8,8,8,8,8,8,8,8,8,8,8,8,8,8,8,8,8,8,8,8,8,8,8,8,8,8,8,8,8,8,8,8,8,8,8,8,8,8,8,8,8,8,8,8,8,8,8,8,8,8,8,8,8,8,8,8,8,8,8,8,8,8,8,8,8,8,8,8,8,8,8,8,8,8,8,8,8,8,8,8,8,8]⟩)) (.t 21)),oo 23 (.cv (.int .i64) (.t 22)),qB 24 .add 19 23,qM 2 24]) (.rt)))))) }
theorem Zw:ZH Proofs.Tryz.prog YZ Zu=true:=by kernel_rfl
def Zad:F2 :=
 { nt:=33,res:=[.t 4 [2]],body:=(.sq (rg [oo 2 (.bt (.t 0)),om 4 (.k (.slice none 0 0))]) (.sq (rg [oo 7 (.bs 1 0 [] []),qM 5 7]) (.sq (.sq (rg [om 6 (i6 0)]) (.bl 0 (.lp [1,2,5,6] [224,992] (.sq (.sq (rg [qM 8 6,qF 9 5 2,qL 10 9,qN 11 10,qB 12 .lss 8 11]) (.cd (.t 12) (.sk) (.ex 0))) (.sq (.bl 1 (.sq (rg [qF 15 5 2,qL 16 15,qM 17 6,qI 18 2 16 17,qF 19 1 18,qL 20 19,qM 21 1,qB 22 .eql 20 21]) (.cd (.t 22) (rg [qM 23 5,qF 24 5 2,qL 25 24,qM 26 6,qI 27 2 25 26,qF 28 0 27,qL 29 28,oo 30 (.bs 1 1 [.string ⟨#[]⟩] [(0,.t 29)]),oo 31 (.ap 1 0 (.t 23) (.t 30)),qM 5 31]) (.sk))))
 (rg [qM 13 6,oo 14 (.bi .add 0 (.t 13) (i6 1)),qM 6 14])))))) (.sq (rg [qM 32 5,qM 4 32]) (.rt))))) }
theorem Zej:ZH Proofs.Tryz.prog Xl Zad=true:=by kernel_rfl
def X6:F2 :=
 { nt:=20,res:=[.t 4 [0]],body:=(.sq (rg [om 4 (i6 0)]) (.sq (rg [qM 7 0,oo 8 (.ca .pure false (.f Jh) [.t 7]),qM 5 8]) (.sq (rg [qM 9 1,oo 10 (.ca .pure false (.f Jh) [.t 9]),qM 6 10]) (.sq (.sq (rg [qM 11 5]) (.cd (.t 11) (.sq (.sq (rg [qM 12 6]) (.cd (.t 12) (.sq (rg [om 4 (i6 0)]) (.rt)) (.sk))) (.sq (rg [om 4 (i6 (-1))]) (.rt))) (.sk))) (.sq (.sq (rg [qM 13 6]) (.cd (.t 13) (.sq (rg [om 4 (i6 1)]) (.rt)) (.sk))) (.sq (.sq (rg [qM 14 0,qM 15 1,qB 16 .lss 14 15]) (.cd (.t 16) (.sq (rg [om 4 (i6 (-1))]) (.rt)) (.sk))) (.sq (.sq (rg [qM 17 0,qM 18 1,qB 19 .gtr 17 18]) (.cd (.t 19) (.sq (rg [om 4 (i6 1)]) (.rt)) (.sk))) (.sq (rg [om 4 (i6 0)]) (.rt))))))))) }
theorem ZaK:ZH Proofs.Tryz.prog Y0 X6=true:=by kernel_rfl
def Un:F2 :=
 { nt:=6,res:=[.t 2 [0]],body:=(.sq (rg [om 2 (.k (.bool false))]) (.sq (rg [qM 3 0,qM 4 0,qB 5 .neq 3 4,qM 2 5]) (.rt))) }
theorem Zcg:ZH Proofs.Tryz.prog Jh Un=true:=by kernel_rfl
end Go.Fd

/-
  ANNOTATED CODES OF GO'S GENERIC FUNCTIONS ON SLICES, AT ANY ELEMENT (printed by generic.py out of one instance each). Own work.
-/
namespace Go.Fd
def Zkd(k:Nat)(m:Option Nat):F2 :=
 { nt:=19,res:=[.t 4 [0]],body:=(.sq (.rg none [⟨some 4,none,.mv (.k (.int .i64 0)) none⟩]) (.sq (.sq (.rg none [⟨some 6,none,.mv (.t 0) none⟩,
    ⟨some 7,none,.ln (.t 6)⟩,
    ⟨some 8,none,.mv (.k (.int .i64 0)) none⟩]) (.bl 0 (.lp [0,1,7,8] [] (.sq (.rg none [⟨some 9,none,.bi .lss 0 (.t 8) (.t 7)⟩]) (.sq (.cd (.t 9) (.sk) (.ex 0)) (.sq (.bl 1 (.sq (.rg none [⟨some 10,none,.mv (.t 8) none⟩,
      ⟨some 5,none,.mv (.t 10) none⟩]) (.sq (.rg none [⟨some 11,none,.mv (.t 1) none⟩,
      ⟨some 12,none,.mv (.t 0) none⟩,
      ⟨some 13,none,.mv (.t 5) none⟩,
      ⟨some 14,none,.ia k (.t 12) (.t 13)⟩,
      ⟨some 15,none,.ld m (.t 14)⟩,
      ⟨some 16,none,.ca .pure false (.t 11) [.t 15]⟩]) (.cd (.t 16) (.sq (.rg none [⟨some 17,none,.mv (.t 5) none⟩,
      ⟨some 4,none,.mv (.t 17) none⟩]) (.rt)) (.sk))))) (.rg none [⟨some 18,none,.bi .add 0 (.t 8) (.k (.int .i64 1))⟩,
    ⟨some 8,none,.mv (.t 18) none⟩]))))))) (.sq (.rg none [⟨some 4,none,.mv (.k (.int .i64 (-1))) none⟩]) (.rt)))) }
def Zmf(fi:FuncId):F2 :=
 { nt:=9,res:=[.t 4 [0]],body:=(.sq (.rg none [⟨some 4,none,.mv (.k (.bool false)) none⟩]) (.sq (.rg none [⟨some 5,none,.mv (.t 0) none⟩,
   ⟨some 6,none,.mv (.t 1) none⟩,
   ⟨some 7,none,.ca .pure false (.f fi) [.t 5,.t 6]⟩,
   ⟨some 8,none,.bi .geq 0 (.t 7) (.k (.int .i64 0))⟩,
   ⟨some 4,none,.mv (.t 8) none⟩]) (.rt))) }
def Ztp  : F2 :=
 { nt:=26,res:=[.t 4 [0]],body:=(.sq (.rg none [⟨some 4,none,.mv (.k (.bool false)) none⟩]) (.sq (.sq (.rg none [⟨some 6,none,.mv (.t 0) none⟩,
    ⟨some 7,none,.ln (.t 6)⟩,
    ⟨some 8,none,.mv (.t 1) none⟩,
    ⟨some 9,none,.ln (.t 8)⟩,
    ⟨some 10,none,.bi .neq 0 (.t 7) (.t 9)⟩]) (.cd (.t 10) (.sq (.rg none [⟨some 4,none,.mv (.k (.bool false)) none⟩]) (.rt)) (.sk))) (.sq (.sq (.rg none [⟨some 11,none,.mv (.t 0) none⟩,
    ⟨some 12,none,.ln (.t 11)⟩,
    ⟨some 13,none,.mv (.k (.int .i64 0)) none⟩]) (.bl 0 (.lp [0,1,12,13] [] (.sq (.rg none [⟨some 14,none,.bi .lss 0 (.t 13) (.t 12)⟩]) (.sq (.cd (.t 14) (.sk) (.ex 0)) (.sq (.bl 1 (.sq (.rg none [⟨some 15,none,.mv (.t 13) none⟩,
      ⟨some 5,none,.mv (.t 15) none⟩]) (.sq (.rg (some 0) [⟨some 16,none,.mv (.t 0) none⟩,
      ⟨some 17,none,.mv (.t 5) none⟩,
      ⟨some 18,none,.ia 1 (.t 16) (.t 17)⟩,
      ⟨some 19,none,.ld none (.t 18)⟩,
      ⟨some 20,none,.mv (.t 1) none⟩,
      ⟨some 21,none,.mv (.t 5) none⟩,
      ⟨some 22,none,.ia 1 (.t 20) (.t 21)⟩,
      ⟨some 23,none,.ld none (.t 22)⟩,
      ⟨some 24,none,.bi .neq 0 (.t 19) (.t 23)⟩]) (.cd (.t 24) (.sq (.rg none [⟨some 4,none,.mv (.k (.bool false)) none⟩]) (.rt)) (.sk))))) (.rg none [⟨some 25,none,.bi .add 0 (.t 13) (.k (.int .i64 1))⟩,
    ⟨some 13,none,.mv (.t 25) none⟩]))))))) (.sq (.rg none [⟨some 4,none,.mv (.k (.bool true)) none⟩]) (.rt))))) }
end Go.Fd

/-
  GO'S GENERIC FUNCTIONS ON SLICES, AT ANY ELEMENT. Own work.
-/
namespace Go.Fd
set_option maxRecDepth 20000
section rules
variable {L:Sto} {F:List IV->Prop} {lvl:Nat}
theorem Zfk:∀{l:List (List Tr)} {F:List IV->Prop},Z4 L (l.map IV.ta) F=F (l.map IV.ta)
 | [],F=>Zlq
 | x::r,F=>by
  simp only[List.map_cons]
  rw[ZnH,Zfk]
  rfl
theorem XG{Pd:Oid->Prop}:∀{l:List (List Tr)},Zc Pd (l.map IV.ta)=True
 | []=>rfl
 | x::r=>by
  simp only[List.map_cons,Zc,men,true_and]
  exact XG
theorem VG{js:List Nat}{l:List (List Tr)}:Zhg lvl js (l.map IV.ta)=True:=XG
end rules
section
variable {P:Program} {α:Type}
theorem VK{α β:Type}{c:α->β}{l:List α}{j:Nat}(h:j<l.length):(l.map c)[j]? = some (c l[j]):=by simp [h]
theorem Zfl{α:Type}{c:α->List Tr}{l:List α}{j:Nat}:cut (l.map c) 0 (j-0)=(l.take j).map c:=by
 simp only[cut,List.drop_zero,Nat.sub_zero,List.map_take]
theorem Zfm{α:Type}{l:List α}{j:Nat}(h:j<l.length):l.drop j=l[j]::l.drop (j+1):=List.drop_eq_getElem_cons h
def ixF(f:α->Bool):List α->Int->Int
 | [],_=>-1
 | x::r,j=>if f x=true then j else ixF f r (j+1)
theorem Zek{f:α->Bool}{x:α}{r:List α}{j:Int}:ixF f (x::r) j=if f x=true then j else ixF f r (j+1):=rfl
theorem ZiL{f:α->Bool}:∀{l:List α} {j:Int},0<=j->(0<=ixF f l j↔l.any f=true)
 | [],j,_=>by simp [ixF]
 | x::r,j,h=>by
  rw[Zek,List.any_cons]
  cases hx:f x with
  | true=>simp [h]
  | false =>
   simp only[Bool.false_eq_true,if_false,Bool.false_or]
   exact ZiL (by omega)
theorem Zke{fid:FuncId}(hc:ZH P fid (Zkd 1 none)=true){t:α->Tr}{f:α->Bool}{fe:FuncId}{cs:List (List Tr)}(l:List α)(hl:l.length<=9223372036854775807)
  (hf:∀ x∈l,∀ lvl S,Sem P fe lvl (.tr (t x)::cs.map IV.ta) S (iB (f x)) S) (lvl:Nat) (S:Sto):Sem P fid lvl [.tr (.sl (l.map fun x=>[t x])),.fn fe (cs.map IV.ta)] S (iI (ixF f l 0)) S:=by
 refine Zb hc trivial ?_
 simp only[Zkd,List.length_map,VG,EVA,seval,Zc,men]
 refine Zx (α:=Unit) l.length (fun j _=>[(8,iI j)]) (fun _ _=>[]) (fun j _=>ixF f (l.drop j) j=ixF f l 0) () (by simp only[VG,EVA,seval,Zc,men]) (by (simp only[EVA,seval,Zc,men]) <;> rfl) rfl ?_
 intro j _ hj hA
 simp only[List.length_map,VG,EVA,seval,Zc,men]
 refine Zj (fun hlt=>?_) (fun hge=>?_)
 ·have hja:j<l.length:=by omega
  have ga:=VK (c:=fun x=>[t x]) hja
  rw[Zfm hja,Zek] at hA
  simp only[ga,VG,Zfk,XG,EVA,seval,Zc,men]
  refine Za (hf _ (List.getElem_mem hja)) ?_
  simp only[XG,VG,EVA,seval,Zc,men]
  refine Zj (fun h=>?_) (fun h=>?_)
  ·rw[if_pos h] at hA
   rw[<-hA]
  ·rw[if_neg h] at hA
   exact⟨by rw[Zd];omega,Ze () hja rfl hA⟩
 ·have:j=l.length:=by omega
  subst this
  rw[List.drop_length] at hA
  rw[<-hA]
  rfl
theorem Zkf{k:Nat}{fid:FuncId}(hc:ZH P fid (Zkd k (some k))=true){c:α->List Tr}(hk:∀ x,(c x).length=k){f:α->Bool}{fe:FuncId}{cs:List (List Tr)}(l:List α)(hl:l.length<=9223372036854775807)
  (hf:∀ x∈l,∀ lvl S,Sem P fe lvl (.ag ((c x).map .tr)::cs.map IV.ta) S (iB (f x)) S) (lvl:Nat) (S:Sto):Sem P fid lvl [.tr (.sl (l.map c)),.fn fe (cs.map IV.ta)] S (iI (ixF f l 0)) S:=by
 refine Zb hc trivial ?_
 simp only[Zkd,List.length_map,VG,EVA,seval,Zc,men]
 refine Zx (α:=Unit) l.length (fun j _=>[(8,iI j)]) (fun _ _=>[]) (fun j _=>ixF f (l.drop j) j=ixF f l 0) () (by simp only[VG,EVA,seval,Zc,men]) (by (simp only[EVA,seval,Zc,men]) <;> rfl) rfl ?_
 intro j _ hj hA
 simp only[List.length_map,VG,EVA,seval,Zc,men]
 refine Zj (fun hlt=>?_) (fun hge=>?_)
 ·have hja:j<l.length:=by omega
  have ga:=VK (c:=c) hja
  have hkk:=hk l[j]
  have htk:(c l[j]).take k=c l[j]:=List.take_of_length_le (by omega)
  rw[Zfm hja,Zek] at hA
  simp only[ga,hkk,htk,VG,Zfk,ZlY,XG,ZdZ,EVA,seval,Zc,men]
  refine Za (hf _ (List.getElem_mem hja)) ?_
  simp only[XG,ZdZ,VG,EVA,seval,Zc,men]
  refine Zj (fun h=>?_) (fun h=>?_)
  ·rw[if_pos h] at hA
   rw[<-hA]
  ·rw[if_neg h] at hA
   exact⟨by rw[Zd];omega,Ze () hja rfl hA⟩
 ·have:j=l.length:=by omega
  subst this
  rw[List.drop_length] at hA
  rw[<-hA]
  rfl
theorem ZiM{fid fi:FuncId}(hc:ZH P fid (Zmf fi)=true){es:Row}{f:α->Bool}{fe:FuncId}{cs:List (List Tr)}{l:List α}
  (hi:∀ lvl S,Sem P fi lvl [.tr (.sl es),.fn fe (cs.map IV.ta)] S (iI (ixF f l 0)) S) (lvl:Nat) (S:Sto):Sem P fid lvl [.tr (.sl es),.fn fe (cs.map IV.ta)] S (iB (l.any f)) S:=by
 refine Zb hc trivial ?_
 simp only[Zmf,Zfk,XG,VG,EVA,seval,Zc,men]
 refine Za hi ?_
 simp only[Zfk,XG,EVA,seval,Zc,men]
 have:=ZiL (f:=f) (l:=l) (Int.le_refl 0)
 by_cases h:l.any f=true
 ·simp [h,this.2 h]
 ·simp [h,mt this.1 h]
theorem XH{fid fi:FuncId}(hc:ZH P fid (Zmf fi)=true)(hi:ZH P fi (Zkd 1 none)=true){t:α->Tr}{f:α->Bool}{fe:FuncId}{cs:List (List Tr)}(l:List α)(hl:l.length<=9223372036854775807)
  (hf:∀ x∈l,∀ lvl S,Sem P fe lvl (.tr (t x)::cs.map IV.ta) S (iB (f x)) S) (lvl:Nat) (S:Sto):Sem P fid lvl [.tr (.sl (l.map fun x=>[t x])),.fn fe (cs.map IV.ta)] S (iB (l.any f)) S :=
 ZiM hc (Zke hi l hl hf) lvl S
theorem Zg6{k:Nat}{fid fi:FuncId}(hc:ZH P fid (Zmf fi)=true)(hi:ZH P fi (Zkd k (some k))=true){c:α->List Tr}(hk:∀ x,(c x).length=k){f:α->Bool}{fe:FuncId}{cs:List (List Tr)}(l:List α)(hl:l.length<=9223372036854775807)
  (hf:∀ x∈l,∀ lvl S,Sem P fe lvl (.ag ((c x).map .tr)::cs.map IV.ta) S (iB (f x)) S) (lvl:Nat) (S:Sto):Sem P fid lvl [.tr (.sl (l.map c)),.fn fe (cs.map IV.ta)] S (iB (l.any f)) S :=
 ZiM hc (Zkf hi hk l hl hf) lvl S
structure Cmp (t:α->Tr):Prop where
 neq:∀(x y:α) (F:IV->Prop),bi2 .neq 0 (.tr (t x)) (.tr (t y)) F=F (iB (!(@decide (x=y) (Classical.propDecidable _))))
 eql:∀(x y:α) (F:IV->Prop),bi2 .eql 0 (.tr (t x)) (.tr (t y)) F=F (iB (@decide (x=y) (Classical.propDecidable _)))
theorem Ztq:Cmp ts:=⟨fun x y F=>by rw[Znp];congr 2;by_cases h:x=y <;> simp [h],fun x y F=>by rw[Zno];congr 2;by_cases h:x=y <;> simp [h]⟩
theorem Zmg{fid:FuncId}(hc:ZH P fid Ztp=true)[DecidableEq α]{t:α->Tr}(hT:Cmp t)(a b:List α)(ha:a.length<=9223372036854775807)(lvl:Nat)(S:Sto):Sem P fid lvl [.tr (.sl (a.map fun x=>[t x])),.tr (.sl (b.map fun x=>[t x]))] S (iB (decide (a=b))) S:=by
 refine Zb hc trivial ?_
 simp only[Ztp,List.length_map,EVA,seval,Zc,men]
 refine Zj (fun h=>?_) (fun h=>?_)
 ·have:¬ a=b:=fun e=>h (by rw[e])
  simp [this]
 have hlen:a.length=b.length:=by omega
 refine Zx (α:=Unit) a.length (fun j _=>[(13,iI j)]) (fun _ _=>[]) (fun j _=>a.take j=b.take j) () (by simp only[EVA,seval,Zc,men]) (by (simp only[EVA,seval,Zc,men]) <;> rfl) rfl ?_
 intro j _ hj hA
 simp only[List.length_map,EVA,seval,Zc,men]
 refine Zj (fun hlt=>?_) (fun hge=>?_)
 ·have hja:j<a.length:=by omega
  have hjb:j<b.length:=by omega
  have ga:=VK (c:=fun x=>[t x]) hja
  have gb:=VK (c:=fun x=>[t x]) hjb
  have hq:=hT.neq a[j] b[j]
  simp only[ga,gb,hq,EVA,seval,Zc,men]
  refine Zj (fun hne=>?_) (fun he=>?_)
  ·have:¬ a=b:=X0 hja hjb (by simpa using hne)
   simp [this]
  ·exact⟨by rw[Zd];omega,Ze () hja rfl (Qg hja hjb hA (by simpa using he))⟩
 ·have:j=a.length:=by omega
  subst this
  have:a=b:=Q1 hlen hA
  simp [this]
end
end Go.Fd

/-
  WHAT HOLDS OF THE PROGRAM'S AND THE REFERENCE'S SMALL FUNCTIONS ON NUMBERS. Own work.
-/
namespace Go.Fd
set_option maxRecDepth 20000
noncomputable def dc(p:Prop):Bool:=@decide p (Classical.propDecidable p)
theorem dc_iff{p:Prop}:dc p=true↔p:=by unfold dc;simp
theorem ZD{p:Prop}(h:p):dc p=true:=dc_iff.2 h
theorem Zf{p:Prop}(h:¬ p):dc p=false:=by
 cases hh:dc p with
 | false=>rfl
 | true=>exact absurd (dc_iff.1 hh) h
theorem dc_not{p:Prop}:dc p=false ↔ ¬ p:=⟨fun h hp=>(by rw[ZD hp] at h;cases h),Zf⟩
theorem Jf{p q:Prop}(h:p↔q):dc p=dc q:=by rw[propext h]
theorem JH{p:Prop}[Decidable p]:dc p=decide p:=by
 by_cases h:p
 ·rw[ZD h];simp [h]
 ·rw[Zf h];simp [h]
abbrev g0(l:List Int)(i:Nat):Int:=l.getD i 0
abbrev A3:=Int×Int×Int
abbrev g3(l:List A3)(i:Nat):A3:=l.getD i (0,0,0)
theorem Zz{l:List Int}{i:Nat}(h:i<l.length):(rI l)[i]? = some [tv (g0 l i)]:=by simp [h]
def inB(n a b:Int):Bool:=decide (a<=n)&&decide (n<=b)
theorem inB_iff{n a b:Int}:inB n a b=true↔a<=n/\n<=b:=by simp [inB]
theorem inB_not{n a b:Int}:inB n a b=false ↔ ¬ (a<=n/\n<=b):=by
 rw[<-inB_iff];cases inB n a b <;> simp
theorem J6(n a b:Int)(lvl:Nat)(S:Sto):Sem Proofs.Tryz.prog ZA lvl [iI n,iI a,iI b] S (iB (inB n a b)) S:=by
 refine Zb Zgi trivial ?_
 simp only[Zb4,EVA,seval,Zc,men]
 refine Zj (fun h=>?_) (fun h=>?_) <;> simp [inB,h]
theorem Z5(n a b:Int)(lvl:Nat)(S:Sto):Sem Proofs.Tryz.prog Zt lvl [iI n,iI a,iI b] S (iB (inB n a b)) S:=by
 refine Zb Zea trivial ?_
 simp only[DT,EVA,seval,Zc,men]
 refine Zj (fun h=>?_) (fun h=>?_) <;> simp [inB,h]
theorem Zch(l:List Int)(n:Int)(hl:l.length<=9223372036854775807)(lvl:Nat)(S:Sto):Sem Proofs.Tryz.prog YD lvl [tI l,iI n] S (iB (decide (n∈l))) S:=by
 refine Zb Zfi trivial ?_
 simp only[ZaY,EVA,seval,Zc,men]
 refine ZI (α:=Unit) l.length (fun j _=>⟨lvl,[(0,tI l),(1,iI n),(5,iI j)],[],S⟩) (fun j _=>n ∉ l.take j) () ⟨by simp only[EVA,seval,Zc,men],by (simp only[EVA,seval,Zc,men]) <;> rfl⟩ (by simp) ?_
 intro j _ hj hA
 simp only[List.length_map,EVA,seval,Zc,men]
 refine Zj (fun hlt=>?_) (fun hge=>?_)
 ·have hja:j<l.length:=by omega
  have ga:=Zz hja
  simp only[ga,EVA,seval,Zc,men]
  have hg:g0 l j=l[j]:=by simp [hja]
  refine Zj (fun he=>?_) (fun hne=>?_)
  ·have:n∈l:=by rw[<-he,hg];exact List.getElem_mem hja
   simp [this]
  ·refine⟨by rw[Zd];omega,Ze () hja rfl ?_⟩
   rw[List.take_succ_eq_append_getElem hja]
   simp only[List.mem_append,List.mem_singleton,not_or]
   exact⟨hA,fun e=>hne (by rw[hg,e])⟩
 ·have:j=l.length:=by omega
  subst this
  rw[List.take_length] at hA
  simp [hA]
def Zpc(l:List Int)(v:Int):Int:=if v∈l then (l.idxOf v:Int) else -1
theorem Zkg{l:List Int}{v:Int}:0<=Zpc l v↔v∈l:=by
 unfold Zpc;split
 ·rename_i h;simp [h]
 ·rename_i h;simp [h]
theorem ZiN(l:List Int)(n:Int)(hl:l.length<=9223372036854775807)(lvl:Nat)(S:Sto):Sem Proofs.Tryz.prog JF lvl [tI l,iI n] S (iI (Zpc l n)) S:=by
 refine Zb WS trivial ?_
 simp only[VO,List.length_map,EVA,seval,Zc,men]
 refine ZI (α:=Unit) l.length (fun j _=>⟨lvl,[(0,tI l),(1,iI n),(7,iI l.length),(8,iI j)],[],S⟩) (fun j _=>n ∉ l.take j) () ⟨by simp only[EVA,seval,Zc,men],by (simp only[EVA,seval,Zc,men]) <;> rfl⟩ (by simp) ?_
 intro j _ hj hA
 simp only[List.length_map,EVA,seval,Zc,men]
 refine Zj (fun hlt=>?_) (fun hge=>?_)
 ·have hja:j<l.length:=by omega
  have ga:=Zz hja
  simp only[ga,EVA,seval,Zc,men]
  have hg:g0 l j=l[j]:=by simp [hja]
  refine Zj (fun he=>?_) (fun hne=>?_)
  ·have hm:n∈l:=by rw[he,hg];exact List.getElem_mem hja
   unfold Zpc
   rw[if_pos hm]
   have:l.idxOf n=j:=by
    have h1:l.take j++l.drop j=l:=List.take_append_drop j l
    rw[<-h1,List.idxOf_append,if_neg hA,List.drop_eq_getElem_cons hja,List.idxOf_cons]
    rw[he,hg]
    simp
    omega
   rw[this]
  ·refine⟨by rw[Zd];omega,Ze () hja rfl ?_⟩
   rw[List.take_succ_eq_append_getElem hja]
   simp only[List.mem_append,List.mem_singleton,not_or]
   exact⟨hA,fun e=>hne (by rw[hg,e])⟩
 ·have:j=l.length:=by omega
  subst this
  rw[List.take_length] at hA
  simp [Zpc,hA]
theorem Uo(l:List Int)(n:Int)(hl:l.length<=9223372036854775807)(lvl:Nat)(S:Sto):Sem Proofs.Tryz.prog ZK lvl [tI l,iI n] S (iB (decide (n∈l))) S:=by
 refine Zb XM trivial ?_
 simp only[YG,EVA,seval,Zc,men]
 refine Za (ZiN l n hl) ?_
 simp only[Zkg,EVA,seval,Zc,men]
def Ris(lo hi:Int)(l:List Int):Prop:=∀ i,i<l.length->lo<=g0 l i/\g0 l i<=hi/\(0<i->g0 l (i-1)<g0 l i)
theorem Zfn(l:List Int)(lo hi:Int)(hl:l.length<=9223372036854775807)(lvl:Nat)(S:Sto):Sem Proofs.Tryz.prog V5 lvl [tI l,iI lo,iI hi] S (iB (dc (Ris lo hi l))) S:=by
 refine Zb Zcc trivial ?_
 simp only[Uh,EVA,seval,Zc,men]
 refine ZI (α:=Unit) l.length (fun j _=>⟨lvl,[(0,tI l),(1,iI lo),(2,iI hi),(7,iI j)],[],S⟩) (fun j _=>∀ i,i<j->lo<=g0 l i/\g0 l i<=hi/\(0<i->g0 l (i-1)<g0 l i)) () ⟨by simp only[EVA,seval,Zc,men],by (simp only[EVA,seval,Zc,men]) <;> rfl⟩ (fun i hi=>by omega) ?_
 intro j _ hj hA
 simp only[List.length_map,EVA,seval,Zc,men]
 refine Zj (fun hlt=>?_) (fun hge=>?_)
 ·have hja:j<l.length:=by omega
  have ga:=Zz hja
  simp only[ga,EVA,seval,Zc,men]
  refine Za (J6 (g0 l j) lo hi) ?_
  simp only[EVA,seval,Zc,men]
  refine Zj (fun hin=>?_) (fun hin=>?_)
  ·have hin':=inB_iff.1 hin
   have hgo:(0<j->g0 l (j-1)<g0 l j)->∀ i,i<j+1->lo<=g0 l i/\g0 l i<=hi/\(0<i->g0 l (i-1)<g0 l i):=fun hp i hi=>by
    by_cases e:i=j
    ·subst e;exact⟨hin'.1,hin'.2,hp⟩
    ·exact hA i (by omega)
   refine Zj (fun hpos=>?_) (fun hpos=>?_)
   ·have hp:((j:Int)-1).toNat=j-1:=by omega
    have hp0:(0:Int)<=j-1:=by omega
    have gb:=Zz (l:=l) (i:=j-1) (by omega)
    simp only[hp,hp0,gb,ga,EVA,seval,Zc,men]
    refine⟨by rw[Zd];omega,Zj (fun hge=>?_) (fun hlt2=>?_)⟩
    ·have:¬ Ris lo hi l:=fun hr=>by have:=(hr j hja).2.2 (by omega);omega
     rw[Zf this]
    ·exact⟨by rw[Zd];omega,Ze () hja rfl (hgo fun _=>by omega)⟩
   ·exact⟨by rw[Zd];omega,Ze () hja rfl (hgo fun h=>by omega)⟩
  ·have:¬ Ris lo hi l:=fun hr=>hin (inB_iff.2 ⟨(hr j hja).1,(hr j hja).2.1⟩)
   rw[Zf this]
 ·have:j=l.length:=by omega
  subst this
  rw[ZD (p:=Ris lo hi l) hA]
theorem Za0(l:List Int)(Qn:Int)(hl:l.length<=9223372036854775807)(hb:0<=Qn)(hb2:Qn<=9223372036854775807)(lvl:Nat)(S:Sto):Sem Proofs.Tryz.prog Yk lvl [tI l,iI Qn] S (iB (dc (Ris 0 (Qn-1) l))) S:=by
 refine Zb Zb9 trivial ?_
 simp only[Ud,List.length_map,EVA,seval,Zc,men]
 refine ZI (α:=Unit) l.length (fun j _=>⟨lvl,[(0,tI l),(1,iI Qn),(7,tI l),(8,iI l.length),(9,iI j)],[],S⟩) (fun j _=>∀ i,i<j->0<=g0 l i/\g0 l i<=Qn-1/\(0<i->g0 l (i-1)<g0 l i)) () ⟨by simp only[EVA,seval,Zc,men],by (simp only[EVA,seval,Zc,men]) <;> rfl⟩ (fun i hi=>by omega) ?_
 intro j _ hj hA
 simp only[List.length_map,EVA,seval,Zc,men]
 refine Zj (fun hlt=>?_) (fun hge=>?_)
 ·have hja:j<l.length:=by omega
  have ga:=Zz hja
  have hfb:VJ .i64 (Qn-1):=by rw[Zd];omega
  simp only[ga,hfb,EVA,seval,Zc,men]
  refine Za (Z5 (g0 l j) 0 (Qn-1)) ?_
  simp only[EVA,seval,Zc,men]
  refine Zj (fun hin=>?_) (fun hin=>?_)
  ·have hin':=inB_iff.1 hin
   have hgo:(0<j->g0 l (j-1)<g0 l j)->∀ i,i<j+1->0<=g0 l i/\g0 l i<=Qn-1/\(0<i->g0 l (i-1)<g0 l i):=fun hp i hi=>by
    by_cases e:i=j
    ·subst e;exact⟨hin'.1,hin'.2,hp⟩
    ·exact hA i (by omega)
   refine Zj (fun hpos=>?_) (fun hpos=>?_)
   ·have hp:((j:Int)-1).toNat=j-1:=by omega
    have hp0:(0:Int)<=j-1:=by omega
    have gb:=Zz (l:=l) (i:=j-1) (by omega)
    simp only[hp,hp0,gb,ga,EVA,seval,Zc,men]
    refine⟨by rw[Zd];omega,Zj (fun hge=>?_) (fun hlt2=>?_)⟩
    ·have:¬ Ris 0 (Qn-1) l:=fun hr=>by have:=(hr j hja).2.2 (by omega);omega
     rw[Zf this]
    ·exact⟨by rw[Zd];omega,Ze () hja rfl (hgo fun _=>by omega)⟩
   ·exact⟨by rw[Zd];omega,Ze () hja rfl (hgo fun h=>by omega)⟩
  ·have:¬ Ris 0 (Qn-1) l:=fun hr=>hin (inB_iff.2 ⟨(hr j hja).1,(hr j hja).2.1⟩)
   rw[Zf this]
 ·have:j=l.length:=by omega
  subst this
  rw[ZD (p:=Ris 0 (Qn-1) l) hA]
def Zjm:List Int->List Int->Int
 | [],[]=>0
 | [],_::_=>-1
 | _::_,[]=>1
 | x::r,y::s=>if x<y then -1 else if y<x then 1 else Zjm r s
def Ztr(x y:Int):Int:=if x<y then -1 else if y<x then 1 else 0
theorem Zci(x:Int)(lvl:Nat)(S:Sto):Sem Proofs.Tryz.prog Jh lvl [iI x] S (iB false) S:=by
 refine Zb Zcg trivial ?_
 simp only[Un,EVA,seval,Zc,men]
theorem Zmh(x y:Int)(lvl:Nat)(S:Sto):Sem Proofs.Tryz.prog Y0 lvl [iI x,iI y] S (iI (Ztr x y)) S:=by
 refine Zb ZaK trivial ?_
 simp only[X6,EVA,seval,Zc,men]
 refine Za (Zci x) ?_
 simp only[EVA,seval,Zc,men]
 refine Za (Zci y) ?_
 simp only[EVA,seval,Zc,men]
 unfold Ztr
 refine Zj (fun h=>?_) (fun h=>?_)
 ·rw[if_pos h]
 ·rw[if_neg h]
  refine Zj (fun h2=>?_) (fun h2=>?_)
  ·rw[if_pos h2]
  ·rw[if_neg h2]
theorem Zgk(a b:List Int)(ha:a.length<=9223372036854775807)(hb:b.length<=9223372036854775807)(lvl:Nat)(S:Sto):Sem Proofs.Tryz.prog Jr lvl [tI a,tI b] S (iI (Zjm a b)) S:=by
 refine Zb X5 trivial ?_
 simp only[Y8,List.length_map,EVA,seval,Zc,men]
 refine ZI (α:=Unit) a.length (fun j _=>⟨lvl,[(0,tI a),(1,tI b),(9,tI a),(10,iI a.length),(11,iI j)],[],S⟩) (fun j _=>j<=b.length/\Zjm (a.drop j) (b.drop j)=Zjm a b) () ⟨by simp only[EVA,seval,Zc,men],by (simp only[EVA,seval,Zc,men]) <;> rfl⟩ ⟨Nat.zero_le _,rfl⟩ ?_
 intro j _ hj ⟨hjb,hA⟩
 simp only[List.length_map,EVA,seval,Zc,men]
 refine Zj (fun hlt=>?_) (fun hge=>?_)
 ·have hja:j<a.length:=by omega
  have ga:=Zz hja
  have e1:a.drop j=g0 a j::a.drop (j+1):=by rw[List.drop_eq_getElem_cons hja];simp [hja]
  rw[e1] at hA
  simp only[ga,List.length_map,EVA,seval,Zc,men]
  refine Zj (fun hbe=>?_) (fun hbl=>?_)
  ·have:b.drop j=[]:=List.drop_eq_nil_of_le (by omega)
   rw[this] at hA
   simp only[Zjm] at hA
   rw[<-hA]
  ·have hjb2:j<b.length:=by omega
   have gb:=Zz hjb2
   have e2:b.drop j=g0 b j::b.drop (j+1):=by rw[List.drop_eq_getElem_cons hjb2];simp [hjb2]
   rw[e2] at hA
   simp only[Zjm] at hA
   simp only[gb,EVA,seval,Zc,men]
   refine Za (Zmh (g0 a j) (g0 b j)) ?_
   simp only[EVA,seval,Zc,men]
   unfold Ztr
   by_cases h1:g0 a j<g0 b j
   ·rw[if_pos h1] at hA
    rw[if_pos h1,if_pos (by decide),<-hA]
   ·rw[if_neg h1] at hA
    rw[if_neg h1]
    by_cases h2:g0 b j<g0 a j
    ·rw[if_pos h2] at hA
     rw[if_pos h2,if_pos (by decide),<-hA]
    ·rw[if_neg h2] at hA
     rw[if_neg h2,if_neg (by decide)]
     exact⟨by rw[Zd];omega,Ze () hja rfl ⟨by omega,hA⟩⟩
 ·have:j=a.length:=by omega
  subst this
  rw[List.drop_length] at hA
  refine Zj (fun h1=>?_) (fun h1=>?_)
  ·have hb1:a.length<b.length:=by omega
   have e2:b.drop a.length=g0 b a.length::b.drop (a.length+1):=by rw[List.drop_eq_getElem_cons hb1];simp [hb1]
   rw[e2] at hA
   simp only[Zjm] at hA
   rw[<-hA]
  ·have:b.drop a.length=[]:=List.drop_eq_nil_of_le (by omega)
   rw[this] at hA
   simp only[Zjm] at hA
   rw[<-hA]
end Go.Fd

/-
  NUMBERS OF LIBRARY FUNCTIONS IN THIS PROGRAM, as the guide's shelf lays them (printed by lay.py out of the kit's own command).
-/
namespace Go.Proofs
open Go.Shelf
def Tryz.lays160_ren:Go.Shelf.Ren:=⟨fun | 160=>119 | 232=>143 | 231=>142 | 227=>144 | 234=>146 | 233=>145 | 236=>148 | 235=>147 | 228=>157 | 271=>160 | 151=>159 | 197=>158 | 120=>164 | 152=>163 | 260=>162 | 137=>165 | 119=>166 | 224=>167 | 225=>168 | 217=>169 | 266=>170 | n=>n,fun | 9=>9 | 4=>4 | 3=>3 | 5=>5 | 117=>165 | 116=>164 | 0=>0 | 124=>168 | 21=>21 | 105=>178 | 46=>137 | 119=>185 | 139=>188 | 138=>187 | n=>n,fun | 3=>0 | 4=>1 | n=>n⟩
theorem Tryz.lays160:Go.Proofs.Lays.n160 Tryz.prog Tryz.lays160_ren:={
  mixed:=by kernel_rfl,
  f119:=Tryz.func166.trans (congrArg some (by kernel_rfl)),
  f120:=Tryz.func164.trans (congrArg some (by kernel_rfl)),
  f137:=Tryz.func165.trans (congrArg some (by kernel_rfl)),
  f151:=Tryz.func159.trans (congrArg some (by kernel_rfl)),
  f152:=Tryz.func163.trans (congrArg some (by kernel_rfl)),
  f160:=Tryz.func119.trans (congrArg some (by kernel_rfl)),
  f197:=Tryz.func158.trans (congrArg some (by kernel_rfl)),
  f217:=Tryz.func169.trans (congrArg some (by kernel_rfl)),
  f224:=Tryz.func167.trans (congrArg some (by kernel_rfl)),
  f225:=Tryz.func168.trans (congrArg some (by kernel_rfl)),
  f227:=Tryz.func144.trans (congrArg some (by kernel_rfl)),
  f228:=Tryz.func157.trans (congrArg some (by kernel_rfl)),
  f231:=Tryz.func142.trans (congrArg some (by kernel_rfl)),
  f232:=Tryz.func143.trans (congrArg some (by kernel_rfl)),
  f233:=Tryz.func145.trans (congrArg some (by kernel_rfl)),
  f234:=Tryz.func146.trans (congrArg some (by kernel_rfl)),
  f235:=Tryz.func147.trans (congrArg some (by kernel_rfl)),
  f236:=Tryz.func148.trans (congrArg some (by kernel_rfl)),
  f260:=Tryz.func162.trans (congrArg some (by kernel_rfl)),
  f266:=Tryz.func170.trans (congrArg some (by kernel_rfl)),
  f271:=Tryz.func160.trans (congrArg some (by kernel_rfl)),
  t0:=Tryz.underlying0,
  a0:=Tryz.isAgg0,
  z0:=Tryz.sizeOf0,
  v0:=Tryz.zeroValue0,
  t3:=Tryz.underlying3,
  a3:=Tryz.isAgg3,
  z3:=Tryz.sizeOf3,
  v3:=Tryz.zeroValue3,
  t4:=Tryz.underlying4,
  a4:=Tryz.isAgg4,
  z4:=Tryz.sizeOf4,
  v4:=Tryz.zeroValue4,
  t5:=Tryz.underlying5,
  a5:=Tryz.isAgg5,
  z5:=Tryz.sizeOf5,
  v5:=Tryz.zeroValue5,
  t9:=Tryz.underlying9,
  a9:=Tryz.isAgg9,
  z9:=Tryz.sizeOf9,
  v9:=Tryz.zeroValue9,
  t21:=Tryz.underlying21,
  a21:=Tryz.isAgg21,
  z21:=Tryz.sizeOf21,
  v21:=Tryz.zeroValue21,
  t46:=Tryz.underlying137,
  a46:=Tryz.isAgg137,
  z46:=Tryz.sizeOf137,
  v46:=Tryz.zeroValue137,
  t105:=Tryz.underlying178,
  a105:=Tryz.isAgg178,
  z105:=Tryz.sizeOf178,
  v105:=Tryz.zeroValue178,
  t116:=Tryz.underlying164,
  a116:=Tryz.isAgg164,
  z116:=Tryz.sizeOf164,
  t117:=Tryz.underlying165,
  a117:=Tryz.isAgg165,
  z117:=Tryz.sizeOf165,
  v117:=Tryz.zeroValue165,
  t119:=Tryz.underlying185,
  a119:=Tryz.isAgg185,
  z119:=Tryz.sizeOf185,
  t124:=Tryz.underlying168,
  a124:=Tryz.isAgg168,
  z124:=Tryz.sizeOf168,
  v124:=Tryz.zeroValue168,
  t138:=Tryz.underlying187,
  a138:=Tryz.isAgg187,
  z138:=Tryz.sizeOf187,
  v138:=Tryz.zeroValue187,
  t139:=Tryz.underlying188,
  a139:=Tryz.isAgg188,
  z139:=Tryz.sizeOf188,
  v139:=Tryz.zeroValue188,
  g3:=by kernel_rfl,
  g4:=by kernel_rfl }
end Go.Proofs

/-
  NAMES AND SIGNATURES, BOTH SIDES. Own work.
-/
namespace Go.Fd
set_option maxRecDepth 20000
def Zpd(P:Program)(f:FuncId):Bool:=match P.funcs[f]? with | some fn=>fn.body.isSome && !(fn.name == "runtime.NumGoroutine") | none=>false
theorem Zkh{P:Program}{f:FuncId}(h:Zpd P f=true):Dx P f:=by
 unfold Zpd at h
 split at h
 ·rename_i fn hf
  simp only[Bool.and_eq_true,Bool.not_eq_true'] at h
  exact⟨fn,hf,h.1,h.2⟩
 ·cases h
abbrev AZ:ByteArray:=⟨#[97,98,99,100,101,102,103,104,105,106,107,108,109,110,111,112,113,114,115,116,117,118,119,120,121,122]⟩
theorem Zki(s:ByteArray)(hs:s.size<=9223372036854775807)(lvl:Nat)(S:Sto):Sem Proofs.Tryz.prog WC lvl [iS s,iS AZ] S (iS ⟨(Lib.trimS s.data.toList AZ.data.toList).toArray⟩) S :=
 Zgh (xs:=[.string s,.string AZ]) (Zkh (by kernel_rfl)) rfl (fun w=>Go.Proofs.Any.strings_Trim_laid Proofs.Tryz.lays160 (by kernel_rfl) s AZ w hs (by decide) (Go.Proofs.ascii_of_all (by decide)))
def ZiO(s:ByteArray):Prop:=(∀ b∈s.data.toList,97<=b.toNat/\b.toNat<=122)/\1<=s.size/\s.size<=4
theorem Zfo(s:ByteArray):s.size=s.data.toList.length:=by rw[Array.length_toList];rfl
theorem ZkP(b:UInt8):b∈AZ.data.toList↔97<=b.toNat/\b.toNat<=122:=by
 have:∀ n:Fin 256,(UInt8.ofNat n.val)∈AZ.data.toList↔97<=n.val/\n.val<=122:=by decide +kernel
 have h:UInt8.ofNat b.toNat∈AZ.data.toList↔97<=b.toNat/\b.toNat<=122:=this ⟨b.toNat,b.toNat_lt⟩
 rw[show UInt8.ofNat b.toNat=b from UInt8.ofNat_toNat] at h
 exact h
theorem ZiP{p:UInt8->Bool}:∀{l:List UInt8},l.dropWhile p=[]↔∀ b∈l,p b=true
 | []=>by simp
 | x::r=>by
  simp only[List.dropWhile_cons,List.mem_cons,forall_eq_or_imp]
  cases h:p x with
  | true=>simp [ZiP (l:=r)]
  | false=>simp
theorem ZkQ{p:UInt8->Bool}{b:UInt8}:∀{l:List UInt8},b∈l.takeWhile p->p b=true
 | [],h=>by simp at h
 | x::r,h=>by
  rw[List.takeWhile_cons] at h
  split at h
  ·rename_i hx
   rcases List.mem_cons.1 h with rfl | h
   ·exact hx
   ·exact ZkQ h
  ·cases h
theorem Zkj{l cs:List UInt8}(h:∀ b∈l,b∈cs):l.dropWhile (cs.contains ·)=[]:=by
 rw[ZiP]
 intro b hb
 simpa using h b hb
theorem trimS_nil{l cs:List UInt8}:Lib.trimS l cs=[]↔∀ b∈l,b∈cs:=by
 unfold Lib.trimS Lib.trimLeftS Lib.trimRightS
 constructor
 ·intro h b hb
  rw[ZiP] at h
  have hrev:∀ x∈(l.reverse.dropWhile (cs.contains ·)),x∈cs:=fun x hx=>by
   have:=h x (by simpa using hx)
   simpa using this
  have hsplit:l.reverse=l.reverse.takeWhile (cs.contains ·)++l.reverse.dropWhile (cs.contains ·):=(List.takeWhile_append_dropWhile).symm
  have hb2:b∈l.reverse:=by simpa using hb
  rw[hsplit] at hb2
  rcases List.mem_append.1 hb2 with h1 | h1
  ·have:=ZkQ h1
   simpa using this
  ·exact hrev b h1
 ·intro h
  rw[Zkj (l:=l.reverse) (fun b hb=>h b (by simpa using hb))]
  rfl
theorem Zdf(s:ByteArray)(hs:s.size<=9223372036854775807)(lvl:Nat)(S:Sto):Sem Proofs.Tryz.prog Vy lvl [iS s] S (iB (dc (ZiO s))) S:=by
 refine Zb Zed trivial ?_
 simp only[DY,EVA,seval,Zc,men]
 refine Zx (α:=Unit) s.size (fun j _=>[(3,iI j)]) (fun _ _=>[]) (fun j _=>∀ b∈s.data.toList.take j,97<=b.toNat/\b.toNat<=122) () (by simp only[EVA,seval,Zc,men]) (by (simp only[EVA,seval,Zc,men]) <;> rfl) (fun b hb=>by simp at hb) ?_
 intro j _ hj hA
 simp only[EVA,seval,Zc,men]
 refine Zj (fun hlt=>?_) (fun hge=>?_)
 ·have hja:j<s.data.toList.length:=by rw[<-Zfo];omega
  have ga:s.data.toList[j]? = some (s.data.toList[j]):=List.getElem?_eq_getElem hja
  have hno:¬ (97<=(s.data.toList[j]).toNat/\(s.data.toList[j]).toNat<=122) -> ¬ ZiO s:=fun h hn=>h (hn.1 _ (List.getElem_mem hja))
  by_cases h1:((s.data.toList[j]).toNat:Int)<97
  ·simp only[ga,h1,EVA,seval,Zc,men]
   rw[Zf (hno (by omega))]
  by_cases h2:(122:Int)<(s.data.toList[j]).toNat
  ·simp only[ga,h1,h2,EVA,seval,Zc,men]
   rw[Zf (hno (by omega))]
  ·simp only[ga,h1,h2,EVA,seval,Zc,men]
   refine⟨by rw[Zd];omega,Ze () (by omega) rfl ?_⟩
   intro b hb
   rw[List.take_succ_eq_append_getElem hja] at hb
   rcases List.mem_append.1 hb with h | h
   ·exact hA b h
   ·have:b=s.data.toList[j]:=by simpa using h
    subst this
    omega
 ·have:j=s.size:=by omega
  subst this
  rw[Zfo,List.take_length] at hA
  refine Za (J6 s.size 1 4) ?_
  simp only[EVA,seval,Zc,men]
  rw[Jf (q:=1<=s.size/\s.size<=4) ⟨fun h=>h.2,fun h=>⟨hA,h⟩⟩]
  by_cases h:1<=s.size/\s.size<=4
  ·rw[ZD h,inB_iff.2 (by omega)]
  ·rw[Zf h,inB_not.2 (by omega)]
theorem Zdg(s:ByteArray)(hs:s.size<=9223372036854775807)(lvl:Nat)(S:Sto):Sem Proofs.Tryz.prog VB lvl [iS s] S (iB (dc (ZiO s))) S:=by
 refine Zb Zeh trivial ?_
 simp only[D8,EVA,seval,Zc,men]
 refine Za (Z5 s.size 1 4) ?_
 simp only[EVA,seval,Zc,men]
 cases hin:inB (s.size:Int) 1 4 with
 | false =>
  have:¬ ZiO s:=fun h=>(inB_not.1 hin) (by have:=h.2;omega)
  rw[Zf this]
  simp only[EVA,seval,Zc,men]
 | true =>
  have hin':=inB_iff.1 hin
  simp only[EVA,seval,Zc,men]
  refine Za (Zki s hs) ?_
  simp only[EVA,seval,Zc,men]
  by_cases h:ZiO s
  ·have:Lib.trimS s.data.toList AZ.data.toList=[]:=trimS_nil.2 (fun b hb=>(ZkP b).2 (h.1 b hb))
   rw[ZD h,this]
   rfl
  ·have:¬ Lib.trimS s.data.toList AZ.data.toList=[]:=fun e=>h ⟨fun b hb=>(ZkP b).1 (trimS_nil.1 e b hb),by omega,by omega⟩
   rw[Zf h]
   have h2:¬ (⟨(Lib.trimS s.data.toList AZ.data.toList).toArray⟩:ByteArray)=⟨#[]⟩:=fun e=>this (by
    have:=congrArg (fun b:ByteArray=>b.data.toList) e
    simpa using this)
   simp [h2]
def Zmi(c:TControl):Prop:=ZiO c.name/\(0<=c.ports/\c.ports<=3)/\0<=c.kind_/\c.kind_<=2
def ZiQ(sig:List TControl)(i:Nat):Prop:=∀ h:i<sig.length,Zmi sig[i]/\∀ k (hk:k<i),(sig[k]'(by omega)).name≠sig[i].name
def UM(sig:List TControl):Prop:=(∀ i,ZiQ sig i)/\1<=sig.length/\sig.length<=6
theorem ZaL(c d:TControl)(lvl:Nat)(S:Sto):Sem Proofs.Tryz.prog Jn lvl [.ag ((Zi d).map .tr),.ta (Zi c)] S (iB (decide (d.name=c.name))) S:=by
 refine Zb UL trivial ?_
 simp only[QI,Zi,EVA,seval,Zc,men]
theorem Zfp:ZH Proofs.Tryz.prog ZV (Zkd 3 (some 3))=true:=by kernel_rfl
theorem Zfq:ZH Proofs.Tryz.prog ZQ (Zmf ZV)=true:=by kernel_rfl
theorem Zfr(sig:List TControl)(hl:sig.length<=9223372036854775807)(hb:∀ y∈sig,ZF 9223372036854775807 y)(lvl:Nat)(S:Sto):Sem Proofs.Tryz.prog Qc lvl [.tr (.sl (sig.map Zi))] S (iB (dc (UM sig))) S:=by
 refine Zb Zfh trivial ?_
 simp only[ZaX,List.length_map,EVA,seval,Zc,men]
 refine Zx (α:=Unit) sig.length (fun j _=>[(3,iI j)]) (fun _ _=>[]) (fun j _=>∀ i,i<j->ZiQ sig i) () (by simp only[EVA,seval,Zc,men]) (by (simp only[EVA,seval,Zc,men]) <;> rfl) (fun i hi=>by omega) ?_
 intro j _ hj hA
 simp only[List.length_map,EVA,seval,Zc,men]
 refine Zj (fun hlt=>?_) (fun hge=>?_)
 ·have hja:j<sig.length:=by omega
  have ga:=VK (c:=Zi) hja
  have hbj:sig[j].name.size<=9223372036854775807:=hb _ (List.getElem_mem hja)
  have hno:¬ Zmi sig[j] -> ¬ UM sig:=fun h hs=>h (hs.1 j hja).1
  simp only[ga,Zi,EVA,seval,Zc,men]
  refine Za (Zdf sig[j].name hbj) ?_
  simp only[ga,Zi,EVA,seval,Zc,men]
  cases hn:dc (ZiO sig[j].name) with
  | false =>
   simp only[EVA,seval,Zc,men]
   rw[Zf (hno fun h=>dc_not.1 hn h.1)]
  | true =>
   have hn':=dc_iff.1 hn
   simp only[ga,Zi,EVA,seval,Zc,men]
   refine Za (J6 sig[j].ports 0 3) ?_
   simp only[ga,Zi,EVA,seval,Zc,men]
   cases hp:inB sig[j].ports 0 3 with
   | false =>
    simp only[EVA,seval,Zc,men]
    rw[Zf (hno fun h=>inB_not.1 hp h.2.1)]
   | true =>
    have hp':=inB_iff.1 hp
    simp only[ga,Zi,EVA,seval,Zc,men]
    refine Za (J6 sig[j].kind_ 0 2) ?_
    simp only[ga,Zi,EVA,seval,Zc,men]
    cases hk:inB sig[j].kind_ 0 2 with
    | false =>
     simp only[EVA,seval,Zc,men]
     rw[Zf (hno fun h=>inB_not.1 hk h.2.2)]
    | true =>
     have hk':=inB_iff.1 hk
     simp only[EVA,seval,Zc,men]
     refine Zx (α:=Unit) j (fun k _=>[(4,iI k)]) (fun _ _=>[]) (fun k _=>∀ i (hi:i<k),k<=j->∀ hi2:i<sig.length,(sig[i]'hi2).name≠sig[j].name) () (by simp only[EVA,seval,Zc,men]) (by (simp only[EVA,seval,Zc,men]) <;> rfl) (fun i hi=>by omega) ?_
     intro k _ hkj hB
     simp only[List.length_map,EVA,seval,Zc,men]
     refine Zj (fun hlt2=>?_) (fun hge2=>?_)
     ·have hka:k<sig.length:=by omega
      have gb:=VK (c:=Zi) hka
      simp only[ga,gb,Zi,EVA,seval,Zc,men]
      refine Zj (fun he=>?_) (fun hne=>?_)
      ·rw[Zf (fun hs:UM sig=>(hs.1 j hja).2 k (by omega) he)]
      ·refine⟨by rw[Zd];omega,Ze () (by omega) rfl (fun i hi _ hi2=>?_)⟩
       by_cases e:i=k
       ·subst e;exact hne
       ·exact hB i (by omega) (by omega) hi2
     ·have:k=j:=by omega
      subst this
      refine⟨by rw[Zd];omega,Ze () hja rfl (fun i hi=>?_)⟩
      by_cases e:i=k
      ·subst e
       exact fun h=>⟨⟨hn',hp',hk'⟩,fun q hq=>hB q hq (Nat.le_refl _) (by omega)⟩
      ·exact hA i (by omega)
 ·have:j=sig.length:=by omega
  subst this
  refine Za (J6 sig.length 1 6) ?_
  simp only[EVA,seval,Zc,men]
  have hall:∀ i,ZiQ sig i:=fun i h=>hA i h h
  rw[Jf (q:=1<=sig.length/\sig.length<=6) ⟨fun h=>h.2,fun h=>⟨hall,h⟩⟩]
  by_cases h:1<=sig.length/\sig.length<=6
  ·rw[ZD h,inB_iff.2 (by omega)]
  ·rw[Zf h,inB_not.2 (by omega)]
theorem QJ(sig:List TControl)(hl:sig.length<=9223372036854775807)(hb:∀ y∈sig,ZF 9223372036854775807 y)(lvl:Nat)(S:Sto):Sem Proofs.Tryz.prog JC lvl [.tr (.sl (sig.map Zi))] S (iB (dc (UM sig))) S:=by
 refine Zb DS trivial ?_
 simp only[XA,List.length_map,EVA,seval,Zc,men]
 refine Za (Z5 sig.length 1 6) ?_
 simp only[List.length_map,EVA,seval,Zc,men]
 refine Zj (fun h=>?_) (fun h=>?_)
 ·rw[Zf (fun hs:UM sig=>(inB_not.1 h) (by have:=hs.2;omega))]
 have hln:=inB_iff.1 (by simpa using h)
 refine Zx (α:=Unit) sig.length (fun j _=>[(11,iI j)]) (fun _ _=>[]) (fun j _=>∀ i,i<j->ZiQ sig i) () (by simp only[EVA,seval,Zc,men]) (by (simp only[EVA,seval,Zc,men]) <;> rfl) (fun i hi=>by omega) ?_
 intro j _ hj hA
 simp only[List.length_map,EVA,seval,Zc,men]
 refine Zj (fun hlt=>?_) (fun hge=>?_)
 ·have hja:j<sig.length:=by omega
  have ga:=VK (c:=Zi) hja
  have hbj:sig[j].name.size<=9223372036854775807:=hb _ (List.getElem_mem hja)
  have hno:¬ Zmi sig[j] -> ¬ UM sig:=fun h hs=>h (hs.1 j hja).1
  simp only[ga,Zi,EVA,seval,Zc,men]
  refine Za (Zdg sig[j].name hbj) ?_
  simp only[ga,Zi,EVA,seval,Zc,men]
  cases hn:dc (ZiO sig[j].name) with
  | false =>
   simp only[EVA,seval,Zc,men]
   rw[Zf (hno fun h=>dc_not.1 hn h.1)]
  | true =>
   have hn':=dc_iff.1 hn
   simp only[ga,Zi,EVA,seval,Zc,men]
   refine Za (Z5 sig[j].ports 0 3) ?_
   simp only[ga,Zi,EVA,seval,Zc,men]
   cases hp:inB sig[j].ports 0 3 with
   | false =>
    simp only[EVA,seval,Zc,men]
    rw[Zf (hno fun h=>inB_not.1 hp h.2.1)]
   | true =>
    have hp':=inB_iff.1 hp
    simp only[ga,Zi,EVA,seval,Zc,men]
    refine Za (Z5 sig[j].kind_ 0 2) ?_
    simp only[ga,Zi,EVA,seval,Zc,men]
    cases hk:inB sig[j].kind_ 0 2 with
    | false =>
     simp only[EVA,seval,Zc,men]
     rw[Zf (hno fun h=>inB_not.1 hk h.2.2)]
    | true =>
     have hk':=inB_iff.1 hk
     have hjl:j<=sig.length:=by omega
     simp only[List.length_map,hjl,EVA,seval,Zc,men]
     have hc:=Zg6 (P:=Proofs.Tryz.prog) Zfq Zfp ZaW (f:=fun d:TControl=>decide (d.name=sig[j].name)) (fe:=Jn) (cs:=[Zi sig[j]]) (sig.take j) (by rw[List.length_take];omega) (fun d _ lvl S=>ZaL sig[j] d lvl S)
     rw[<-Zfl] at hc
     refine⟨fun h=>h.elim,Nat.zero_le _,Za hc ?_⟩
     simp only[EVA,seval,Zc,men]
     cases ha:(sig.take j).any (fun d:TControl=>decide (d.name=sig[j].name)) with
     | true =>
      simp only[EVA,seval,Zc,men]
      obtain⟨d,hd,he⟩:=List.any_eq_true.1 ha
      obtain⟨q,hq,rfl⟩:=List.getElem_of_mem hd
      rw[List.length_take] at hq
      rw[Zf (fun hs:UM sig=>(hs.1 j hja).2 q (by omega) (by simpa using he))]
     | false =>
      simp only[EVA,seval,Zc,men]
      refine⟨by rw[Zd];omega,Ze () hja rfl (fun i hi=>?_)⟩
      by_cases e:i=j
      ·subst e
       refine fun h=>⟨⟨hn',hp',hk'⟩,fun q hq=>?_⟩
       have:=(List.any_eq_false.1 ha) sig[q] (by
        rw[List.mem_take_iff_getElem]
        exact⟨q,by omega,rfl⟩)
       simpa using this
      ·exact hA i (by omega)
 ·have:j=sig.length:=by omega
  subst this
  have hall:∀ i,ZiQ sig i:=fun i h=>hA i h h
  rw[ZD (p:=UM sig) ⟨hall,by omega,by omega⟩]
theorem Zfs(a b:List Int):rI (a++b)=rI a++rI b:=List.map_append
theorem Za1:ZH Proofs.Tryz.prog J4 (Zkd 1 none)=true:=by kernel_rfl
theorem Za2:ZH Proofs.Tryz.prog Zp (Zmf J4)=true:=by kernel_rfl
end Go.Fd

/-
  WHAT A SIZE THAT IS LEFT SAYS OF BOUNDS (printed by lawgen.py). Own work.
-/
namespace Go.Fd
def Zm(s:Int->Int)(P:Prop):Prop:=∀ l:Int,0<=l->l<=1048576->s l<=l/\(0<=s l->P)
theorem Zhp:Zm (fun l=>l) True:=fun _ _ _=>⟨Int.le_refl _,fun _=>trivial⟩
theorem Dg{s g:Int->Int}{P Q:Prop}(hs:Zm s P)(hg:Zm g Q):Zm (fun l=>QG (s l) g) (P/\Q):=fun l h0 h1=>by
 have a:=hs l h0 h1
 by_cases h:s l<0
 ·simp only[QG,if_pos h]
  exact⟨by omega,fun h=>by omega⟩
 ·simp only[QG,if_neg h]
  have b:=hg (s l) (by omega) (by omega)
  exact⟨by omega,fun h2=>⟨a.2 (by omega),b.2 h2⟩⟩
theorem ZkR(n:Nat):Zm (fun l=>szN n l) (n<=4294967296):=fun l h0 h1=>by
 simp only[szN]
 split
 ·exact⟨by omega,fun h=>by omega⟩
 ·exact⟨by omega,fun h=>by omega⟩
theorem ZiR(n:Nat):Zm (fun l=>l-n) (n<=4294967296):=fun l h0 h1=>⟨by simp only;omega,fun h=>by simp only at h;omega⟩
theorem Zt4{α:Type}{f:α->Int->Int}{P:α->Prop}(hf:∀ x,Zm (f x) (P x)):∀(a:List α),Zm (fun l=>szF f a l) (∀ y∈a,P y)
 | []=>fun l _ _=>⟨Int.le_refl l,fun _ y hy=>by cases hy⟩
 | x::r=>fun l h0 h1=>by
  simp only[szF]
  have a:=hf x l h0 h1
  split
  ·exact⟨by omega,fun h=>by omega⟩
  ·have b:=Zt4 hf r (f x l) (by omega) (by omega)
   refine⟨by simp only at b;omega,fun h y hy=>?_⟩
   cases hy with
   | head=>exact a.2 (by omega)
   | tail _ hy=>exact b.2 h y hy
theorem ZmD{α:Type}{f:α->Int->Int}{P:α->Prop}(hf:∀ x,Zm (f x) (P x))(a:List α):Zm (fun l=>szL f a l) (a.length<=4294967296/\∀ y∈a,P y):=fun l h0 h1=>by
 simp only[szL]
 split
 ·exact⟨by omega,fun h=>by omega⟩
 ·have b:=Zt4 hf a (l-a.length) (by omega) (by omega)
  simp only at b
  exact⟨by omega,fun h=>⟨by omega,b.2 h⟩⟩
theorem Zdh{s:Int->Int}{P Q:Prop}(h:Zm s P)(hq:P->Q):Zm s Q:=fun l h0 h1=>⟨(h l h0 h1).1,fun h2=>hq ((h l h0 h1).2 h2)⟩
theorem ZiS(x:TSorting):Zm (fun l=>Qh x l) (Jv 4294967296 x):=by
 unfold Qh
 exact Zdh (Dg (ZkR _) (Dg (ZmD (fun y=>(ZkR _)) _) (Dg (ZmD (fun y=>(ZkR _)) _) (Dg (ZkR _) (Dg (ZkR _) Zhp))))) (fun h=>by unfold Jv;simp only[and_assoc,and_true,true_and,implies_true,forall_const] at h ⊢;try exact h)
theorem Zpe(x:TNode):Zm (fun l=>W6 x l) (W5 4294967296 x):=by
 unfold W6
 exact Zdh (Dg (ZkR _) Zhp) (fun h=>by unfold W5;simp only[and_assoc,and_true,true_and,implies_true,forall_const] at h ⊢;try exact h)
theorem Zpf(x:TWire):Zm (fun l=>W7 x l) (WA 4294967296 x):=by
 unfold W7
 exact Zdh (Dg (ZiR _) Zhp) (fun h=>by unfold WA;simp only[and_assoc,and_true,true_and,implies_true,forall_const] at h ⊢;try exact h)
theorem Zft(x:TBigraph):Zm (fun l=>YC x l) (JD 4294967296 x):=by
 unfold YC
 exact Zdh (Dg (ZmD (fun y=>(Zpe _)) _) (Dg (ZkR _) (Dg (ZmD (fun y=>(ZiR _)) _) (Dg (ZmD (fun y=>(Zpf _)) _) Zhp)))) (fun h=>by unfold JD;simp only[and_assoc,and_true,true_and,implies_true,forall_const] at h ⊢;try exact h)
theorem Zpg(x:TRule):Zm (fun l=>Zde x l) (WB 4294967296 x):=by
 unfold Zde
 exact Zdh (Dg (Zft _) (Dg (Zft _) (Dg (ZkR _) Zhp))) (fun h=>by unfold WB;simp only[and_assoc,and_true,true_and,implies_true,forall_const] at h ⊢;try exact h)
theorem ZiT(x:TControl):Zm (fun l=>Jw x l) (ZF 4294967296 x):=by
 unfold Jw
 exact Zdh (Dg (ZiR _) Zhp) (fun h=>by unfold ZF;simp only[and_assoc,and_true,true_and,implies_true,forall_const] at h ⊢;try exact h)
theorem Zmj{a:Nat}(h:a<=4294967296):a<=9223372036854775807:=by omega
theorem Wp{x:TControl}(h:ZF 4294967296 x):ZF 9223372036854775807 x:=by
 exact(Zmj h)
end Go.Fd

/-
  SORTINGS, BOTH SIDES: VALID, FREE, FINER. Own work.
-/
namespace Go.Fd
set_option maxRecDepth 20000
theorem Ym{P:Nat->Prop}{j:Nat}(h:∀ k,k<j->P k)(hj:P j):∀ k,k<j+1->P k:=fun k hk=>by
 by_cases e:k=j
 ·subst e;exact hj
 ·exact h k (by omega)
abbrev A2:=Int×Int
abbrev eIS:List Int->List Tr:=fun l=>[Tr.sl (rI l)]
def Zfu(sig:List TControl)(nest:List (List Int))(k:Nat):Prop:=∀(h:k<nest.length) (h2:k<sig.length),Ris 0 ((sig.length:Int)-1) nest[k]/\(sig[k].kind_=2->nest[k]=[])
def Zcj(sig:List TControl)(sorts:List (List Int))(many:Nat)(k:Nat):Prop:=∀(h:k<sorts.length) (h2:k<sig.length),(sorts[k].length:Int)=sig[k].ports/\∀ n∈sorts[k],0<=n/\n<=(many:Int)-1
def lt2(a b:A2):Prop:=a.1<b.1\/a.1=b.1/\a.2<b.2
def Dh(l:List A2)(many:Nat)(i:Nat):Prop:=∀ h:i<l.length,0<=l[i].1/\l[i].1<l[i].2/\l[i].2<(many:Int)/\(∀ h0:0<i,lt2 (l[i-1]'(by omega)) l[i])
structure sortOK (sig:List TControl) (s:TSorting):Prop where
 sg:UM sig
 tops:Ris 0 ((sig.length:Int)-1) s.tops
 nestL:s.nest.length=sig.length
 nest:∀ k,Zfu sig s.nest k
 sortsL:s.sorts.length=sig.length
 sorts:∀ k,Zcj sig s.sorts s.most.length k
 many:1<=s.most.length/\s.most.length<=4
 most:∀ n∈s.most,0<=n/\n<=24
 apart:∀ i,Dh s.apart s.most.length i
theorem Zgl{es:Row}{n:Nat}(h:es.length=n):cut es 0 n=es:=by
 simp only[cut,List.drop_zero]
 exact List.take_of_length_le (by omega)
theorem ZkS(n:Nat):List.replicate n [Tr.v (Value.int .i64 0)]=rI (List.replicate n 0):=by simp [rI]
end Go.Fd

/-
  WHAT A VALID SORTING IS, BOTH SIDES. Own work.
-/
namespace Go.Fd
set_option maxRecDepth 20000
theorem U4(sig:List TControl)(l:List Int)(hn:sig.length<=4294967296)(hl:l.length<=9223372036854775807)(lvl:Nat)(S:Sto):Sem Proofs.Tryz.prog JP lvl [.tr (.sl (sig.map Zi)),tI l] S (iB (dc (Ris 0 ((sig.length:Int)-1) l))) S:=by
 refine Zb ZaI trivial ?_
 simp only[X3,List.length_map,EVA,seval,Zc,men]
 refine⟨by rw[Zd];omega,?_⟩
 refine Za (Zfn l 0 ((sig.length:Int)-1) hl) ?_
 simp only[EVA,seval,Zc,men]
def Zck(sig:List TControl)(nest:List (List Int)):Prop:=nest.length=sig.length/\∀ k,Zfu sig nest k
theorem Zhq(sig:List TControl)(nest:List (List Int))(hn:sig.length<=4294967296)(hl:nest.length<=4294967296)(hb:∀ y∈nest,y.length<=4294967296)(lvl:Nat)(S:Sto):Sem Proofs.Tryz.prog Xa lvl [.tr (.sl (sig.map Zi)),.tr (.sl (nest.map eIS))] S (iB (dc (Zck sig nest))) S:=by
 refine Zb Zd7 trivial ?_
 simp only[DO,List.length_map,EVA,seval,Zc,men]
 refine Zj (fun hne=>?_) (fun heq=>?_)
 ·have:¬ Zck sig nest:=fun h=>by have:=h.1;omega
  rw[Zf this]
 have hE:nest.length=sig.length:=by omega
 refine Zx (α:=Unit) nest.length (fun j _=>[(5,iI j)]) (fun j _=>[]) (fun j _=>∀ k,k<j->Zfu sig nest k) () (by simp only[EVA,seval,Zc,men]) (by (simp only[EVA,seval,Zc,men]) <;> rfl) (fun k hk=>absurd hk (Nat.not_lt_zero k)) ?_
 intro j _ hj hA
 simp only[List.length_map,EVA,seval,Zc,men]
 refine Zj (fun hlt=>?_) (fun hge=>?_)
 ·have hja:j<nest.length:=by omega
  have hjs:j<sig.length:=by omega
  have ga:=VK (c:=eIS) hja
  have gs:=VK (c:=Zi) hjs
  have hy:nest[j].length<=4294967296:=hb _ (List.getElem_mem hja)
  simp only[ga,gs,List.length_map,Zi,EVA,seval,Zc,men]
  refine Za (U4 sig nest[j] hn (by omega)) ?_
  cases hc:dc (Ris 0 ((sig.length:Int)-1) nest[j])
  ·simp only[EVA,seval,Zc,men]
   have:¬ Zck sig nest:=fun h=>dc_not.1 hc (h.2 j hja hjs).1
   rw[Zf this]
  have hR:=dc_iff.1 hc
  by_cases hk:sig[j].kind_=2
  ·simp only[ga,gs,List.length_map,Zi,hk,EVA,seval,Zc,men]
   refine Zj (fun hpos=>?_) (fun hz=>?_)
   ·have:¬ Zck sig nest:=fun h=>by
     have:=(h.2 j hja hjs).2 hk
     rw[this] at hpos
     simp at hpos
    rw[Zf this]
   ·have hz2:nest[j]=[]:=List.length_eq_zero_iff.1 (by omega)
    exact⟨by rw[Zd];omega,Ze () hja rfl (Ym hA fun _ _=>⟨hR,fun _=>hz2⟩)⟩
  ·simp only[ga,gs,List.length_map,Zi,hk,EVA,seval,Zc,men]
   exact⟨by rw[Zd];omega,Ze () hja rfl (Ym hA fun _ _=>⟨hR,fun h=>absurd h hk⟩)⟩
 ·have:j=nest.length:=by omega
  subst this
  have:Zck sig nest:=⟨hE,fun k h h2=>hA k h h h2⟩
  rw[ZD this]
def Di(sig:List TControl)(sorts:List (List Int))(many:Nat):Prop:=sorts.length=sig.length/\∀ k,Zcj sig sorts many k
theorem Zgm(sig:List TControl)(sorts:List (List Int))(many:Nat)(hm:many<=4294967296)(hn:sig.length<=4294967296)(hl:sorts.length<=4294967296)(hb:∀ y∈sorts,y.length<=4294967296)(lvl:Nat)(S:Sto):Sem Proofs.Tryz.prog Qt lvl [.tr (.sl (sig.map Zi)),.tr (.sl (sorts.map eIS)),iI many] S (iB (dc (Di sig sorts many))) S:=by
 refine Zb ZcH trivial ?_
 simp only[UU,List.length_map,EVA,seval,Zc,men]
 refine Zj (fun hne=>?_) (fun heq=>?_)
 ·have:¬ Di sig sorts many:=fun h=>by have:=h.1;omega
  rw[Zf this]
 have hE:sorts.length=sig.length:=by omega
 refine Zx (α:=Unit) sorts.length (fun j _=>[(7,iI j)]) (fun j _=>[]) (fun j _=>∀ k,k<j->Zcj sig sorts many k) () (by simp only[EVA,seval,Zc,men]) (by (simp only[EVA,seval,Zc,men]) <;> rfl) (fun k hk=>absurd hk (Nat.not_lt_zero k)) ?_
 intro j _ hj hA
 simp only[List.length_map,EVA,seval,Zc,men]
 refine Zj (fun hlt=>?_) (fun hge=>?_)
 ·have hja:j<sorts.length:=by omega
  have hjs:j<sig.length:=by omega
  have ga:=VK (c:=eIS) hja
  have gs:=VK (c:=Zi) hjs
  have hy:sorts[j].length<=4294967296:=hb _ (List.getElem_mem hja)
  simp only[ga,gs,List.length_map,Zi,EVA,seval,Zc,men]
  refine Zj (fun hne=>?_) (fun heq=>?_)
  ·have:¬ Di sig sorts many:=fun h=>hne (h.2 j hja hjs).1
   rw[Zf this]
  have heq2:(sorts[j].length:Int)=sig[j].ports:=by omega
  refine Zx (α:=Unit) sorts[j].length (fun i _=>[(8,iI i)]) (fun i _=>[]) (fun i _=>∀ k,k<i->0<=g0 sorts[j] k/\g0 sorts[j] k<=(many:Int)-1) () (by simp only[EVA,seval,Zc,men]) (by (simp only[EVA,seval,Zc,men]) <;> rfl) (fun k hk=>absurd hk (Nat.not_lt_zero k)) ?_
  intro i _ hi hB
  simp only[ga,gs,List.length_map,Zi,EVA,seval,Zc,men]
  refine Zj (fun hlt2=>?_) (fun hge2=>?_)
  ·have hia:i<sorts[j].length:=by omega
   have gi:=Zz hia
   simp only[ga,gs,gi,List.length_map,EVA,seval,Zc,men]
   refine⟨by rw[Zd];omega,?_⟩
   refine Za (J6 (g0 sorts[j] i) 0 ((many:Int)-1)) ?_
   cases hc:inB (g0 sorts[j] i) 0 ((many:Int)-1)
   ·simp only[EVA,seval,Zc,men]
    have:¬ Di sig sorts many:=fun h=>inB_not.1 hc (by
     have:=(h.2 j hja hjs).2 (g0 sorts[j] i) (by simp [hia])
     exact this)
    rw[Zf this]
   ·simp only[EVA,seval,Zc,men]
    exact⟨by rw[Zd];omega,Ze () hia rfl (Ym hB (inB_iff.1 hc))⟩
  ·have:i=sorts[j].length:=by omega
   subst this
   exact⟨by rw[Zd];omega,Ze () hja rfl (Ym hA fun _ _=>⟨heq2,fun n hn=>by
    obtain⟨k,hk,rfl⟩:=List.getElem_of_mem hn
    have:=hB k hk
    simpa [hk] using this⟩)⟩
 ·have:j=sorts.length:=by omega
  subst this
  have:Di sig sorts many:=⟨hE,fun k h h2=>hA k h h h2⟩
  rw[ZD this]
theorem Zfv(a b:A2)(lvl:Nat)(S:Sto):Sem Proofs.Tryz.prog V0 lvl [.ag ((cA2 a).map .tr),.ag ((cA2 b).map .tr)] S (iB (dc (lt2 a b))) S:=by
 refine Zb Zb5 trivial ?_
 simp only[Ua,cA2,EVA,seval,Zc,men]
 by_cases h1:a.1<b.1
 ·simp only[h1,EVA,seval,Zc,men]
  have:lt2 a b:=.inl h1
  rw[ZD this]
 by_cases h2:a.1=b.1
 ·have h3:¬ b.1<b.1:=Int.lt_irrefl _
  simp only[h1,h2,h3,EVA,seval,Zc,men]
  have:lt2 a b↔a.2<b.2:=⟨fun h=>by rcases h with h | h <;> omega,fun h=>.inr ⟨h2,h⟩⟩
  rw[Jf this,JH]
 ·simp only[h1,h2,EVA,seval,Zc,men]
  have:¬ lt2 a b:=fun h=>by rcases h with h | h <;> omega
  rw[Zf this]
theorem sortOK_iff{sig:List TControl}{s:TSorting}:sortOK sig s↔UM sig/\Ris 0 ((sig.length:Int)-1) s.tops/\Zck sig s.nest/\Di sig s.sorts s.most.length/\(1<=s.most.length/\s.most.length<=4)/\(∀ n∈s.most,0<=n/\n<=24)/\∀ i,Dh s.apart s.most.length i :=
 ⟨fun h=>⟨h.sg,h.tops,⟨h.nestL,h.nest⟩,⟨h.sortsL,h.sorts⟩,h.many,h.most,h.apart⟩,fun⟨a,b,c,d,e,f,g⟩=>⟨a,b,c.1,c.2,d.1,d.2,e,f,g⟩⟩
set_option maxHeartbeats 1000000 in
theorem Zhr(sig:List TControl)(s:TSorting)(hn:sig.length<=4294967296)(hbs:∀ y∈sig,ZF 4294967296 y)(hb:Jv 4294967296 s)(lvl:Nat)(S:Sto):Sem Proofs.Tryz.prog Q5 lvl [.tr (.sl (sig.map Zi)),.ag ((Zh s).map .tr)] S (iB (dc (sortOK sig s))) S:=by
 obtain⟨b1,b2,b3,b4,b5,b6,b7⟩:=hb
 refine Zb Zd2 trivial ?_
 simp only[DI,List.length_map,Zh,EVA,seval,Zc,men]
 refine Za (Zfr sig (by omega) (fun y hy=>Wp (hbs y hy))) ?_
 cases h1:dc (UM sig)
 ·simp only[EVA,seval,Zc,men]
  rw[Zf fun h=>dc_not.1 h1 h.sg]
 simp only[List.length_map,Zh,EVA,seval,Zc,men]
 refine Za (U4 sig s.tops hn (by omega)) ?_
 cases h2:dc (Ris 0 ((sig.length:Int)-1) s.tops)
 ·simp only[EVA,seval,Zc,men]
  rw[Zf fun h=>dc_not.1 h2 h.tops]
 simp only[List.length_map,Zh,EVA,seval,Zc,men]
 refine Za (Zhq sig s.nest hn b2 b3) ?_
 cases h3:dc (Zck sig s.nest)
 ·simp only[EVA,seval,Zc,men]
  rw[Zf fun h=>dc_not.1 h3 ⟨h.nestL,h.nest⟩]
 simp only[List.length_map,Zh,EVA,seval,Zc,men]
 refine Za (J6 s.most.length 1 4) ?_
 cases h4:inB s.most.length 1 4
 ·simp only[EVA,seval,Zc,men]
  rw[Zf fun h=>inB_not.1 h4 (by have:=h.many;omega)]
 simp only[List.length_map,Zh,EVA,seval,Zc,men]
 refine Za (Zgm sig s.sorts s.most.length b6 hn b4 b5) ?_
 cases h5:dc (Di sig s.sorts s.most.length)
 ·simp only[EVA,seval,Zc,men]
  rw[Zf fun h=>dc_not.1 h5 ⟨h.sortsL,h.sorts⟩]
 simp only[List.length_map,Zh,EVA,seval,Zc,men]
 refine Zx (α:=Unit) s.most.length (fun j _=>[(5,iI j)]) (fun j _=>[]) (fun j _=>∀ k,k<j->0<=g0 s.most k/\g0 s.most k<=24) () (by simp only[EVA,seval,Zc,men]) (by (simp only[EVA,seval,Zc,men]) <;> rfl) (fun k hk=>absurd hk (Nat.not_lt_zero k)) ?_
 intro j _ hj hA
 simp only[List.length_map,Zh,EVA,seval,Zc,men]
 refine Zj (fun hlt=>?_) (fun hge=>?_)
 ·have hja:j<s.most.length:=by omega
  have ga:=Zz hja
  simp only[ga,List.length_map,Zh,EVA,seval,Zc,men]
  refine Za (J6 (g0 s.most j) 0 24) ?_
  cases hc:inB (g0 s.most j) 0 24
  ·simp only[EVA,seval,Zc,men]
   rw[Zf fun h=>inB_not.1 hc (h.most _ (by simp [hja]))]
  ·simp only[EVA,seval,Zc,men]
   exact⟨by rw[Zd];omega,Ze () hja rfl (Ym hA (inB_iff.1 hc))⟩
 have hj0:j=s.most.length:=by omega
 subst hj0
 have hM:∀ n∈s.most,0<=n/\n<=24:=fun n hn=>by
  obtain⟨k,hk,rfl⟩:=List.getElem_of_mem hn
  have:=hA k hk
  simpa [hk] using this
 refine Zx (α:=Unit) s.apart.length (fun j _=>[(6,iI j)]) (fun j _=>[]) (fun j _=>∀ k,k<j->Dh s.apart s.most.length k) () (by simp only[EVA,seval,Zc,men]) (by (simp only[EVA,seval,Zc,men]) <;> rfl) (fun k hk=>absurd hk (Nat.not_lt_zero k)) ?_
 intro j _ hj hB
 simp only[List.length_map,Zh,EVA,seval,Zc,men]
 refine Zj (fun hlt=>?_) (fun hge=>?_)
 ·have hja:j<s.apart.length:=by omega
  have ga:=VK (c:=cA2) hja
  have hno:¬ Dh s.apart s.most.length j->dc (sortOK sig s)=false:=fun h=>Zf fun g=>h (g.apart j)
  simp only[ga,List.length_map,Zh,cA2,EVA,seval,Zc,men]
  by_cases q1:s.apart[j].1<0
  ·simp only[q1,EVA,seval,Zc,men]
   rw[hno fun h=>by have:=(h hja).1;omega]
  by_cases q2:s.apart[j].1 ≥ s.apart[j].2
  ·simp only[q1,q2,EVA,seval,Zc,men]
   rw[hno fun h=>by have:=(h hja).2.1;omega]
  by_cases q3:s.apart[j].2 ≥ (s.most.length:Int)
  ·simp only[q1,q2,q3,List.length_map,Zh,EVA,seval,Zc,men]
   rw[hno fun h=>by have:=(h hja).2.2.1;omega]
  by_cases q4:0<j
  ·have e1:((j:Int)-1).toNat=j-1:=by omega
   have e2:(0:Int)<=j-1:=by omega
   have q5:(0:Int)<j:=by omega
   have gb:=VK (c:=cA2) (l:=s.apart) (j:=j-1) (by omega)
   simp only[q1,q2,q3,q5,e1,e2,ga,gb,List.length_map,Zh,cA2,EVA,seval,Zc,men]
   refine⟨by rw[Zd];omega,?_⟩
   refine Za (Zfv (s.apart[j-1]'(by omega)) s.apart[j]) ?_
   cases hc:dc (lt2 (s.apart[j-1]'(by omega)) s.apart[j])
   ·simp only[EVA,seval,Zc,men]
    rw[hno fun h=>dc_not.1 hc ((h hja).2.2.2 q4)]
   ·simp only[EVA,seval,Zc,men]
    exact⟨by rw[Zd];omega,Ze () hja rfl (Ym hB fun _=>⟨by omega,by omega,by omega,fun _=>dc_iff.1 hc⟩)⟩
  ·have q5:¬ (0:Int)<j:=by omega
   simp only[q1,q2,q3,q5,ga,List.length_map,Zh,cA2,EVA,seval,Zc,men]
   exact⟨by rw[Zd];omega,Ze () hja rfl (Ym hB fun _=>⟨by omega,by omega,by omega,fun h=>absurd h q4⟩)⟩
 ·have hj1:j=s.apart.length:=by omega
  subst hj1
  rw[ZD (sortOK_iff.2 ⟨dc_iff.1 h1,dc_iff.1 h2,dc_iff.1 h3,dc_iff.1 h5,by have:=inB_iff.1 h4;omega,hM,fun i h=>hB i h h⟩)]
end Go.Fd

/-
  A VALID SORTING, THE PROGRAM'S SIDE. Own work.
-/
namespace Go.Fd
set_option maxRecDepth 20000
def Zph(a b:A2):Int:=Zjm [a.1,a.2] [b.1,b.2]
theorem cmp2_lt{a b:A2}:Zph a b<0↔lt2 a b:=by
 unfold Zph lt2
 simp only[Zjm]
 by_cases h1:a.1<b.1
 ·simp [h1]
 ·by_cases h2:b.1<a.1
  ·simp [h1,h2];omega
  ·by_cases h3:a.2<b.2
   ·simp [h1,h2,h3];omega
   ·by_cases h4:b.2<a.2 <;> simp [h1,h2,h3,h4]
theorem Zbc(a b:A2)(lvl:Nat)(S:Sto):Sem Proofs.Tryz.prog Yc lvl [.ag ((cA2 a).map .tr),.ag ((cA2 b).map .tr)] S (iI (Zph a b)) S:=by
 refine Zb Df trivial ?_
 simp only[Xo,cA2,EVA,seval,Zc,men]
 refine Za (Zgk [a.1,a.2] [b.1,b.2] (by simp) (by simp)) ?_
 simp only[EVA,seval,Zc,men]
 rfl
def Zel(l:List A2)(many:Nat):Prop:=∀ i,Dh l many i
theorem Zfw(l:List A2)(many:Nat)(hm:many<=4294967296)(hl:l.length<=4294967296)(lvl:Nat)(S:Sto):Sem Proofs.Tryz.prog V3 lvl [.tr (.sl (l.map cA2)),iI many] S (iB (dc (Zel l many))) S:=by
 refine Zb Zca trivial ?_
 simp only[Ue,List.length_map,EVA,seval,Zc,men]
 refine Zx (α:=Unit) l.length (fun j _=>[(9,iI j)]) (fun j _=>[]) (fun j _=>∀ k,k<j->Dh l many k) () (by simp only[EVA,seval,Zc,men]) (by (simp only[EVA,seval,Zc,men]) <;> rfl) (fun k hk=>absurd hk (Nat.not_lt_zero k)) ?_
 intro j _ hj hB
 simp only[List.length_map,EVA,seval,Zc,men]
 refine Zj (fun hlt=>?_) (fun hge=>?_)
 ·have hja:j<l.length:=by omega
  have ga:=VK (c:=cA2) hja
  have hno:¬ Dh l many j->dc (Zel l many)=false:=fun h=>Zf fun g=>h (g j)
  simp only[ga,List.length_map,cA2,EVA,seval,Zc,men]
  refine Za (Z5 l[j].1 0 (IntKind.wrap .i64 (l[j].2-1))) ?_
  cases p1:inB l[j].1 0 (IntKind.wrap .i64 (l[j].2-1))
  ·simp only[EVA,seval,Zc,men]
   rw[hno fun h=>inB_not.1 p1 (by
    have h2:=h hja
    rw[Vg (by rw[Zd];omega)]
    omega)]
  simp only[ga,List.length_map,cA2,EVA,seval,Zc,men]
  refine⟨by rw[Zd];omega,?_⟩
  refine Za (Z5 l[j].2 0 ((many:Int)-1)) ?_
  cases p2:inB l[j].2 0 ((many:Int)-1)
  ·simp only[EVA,seval,Zc,men]
   rw[hno fun h=>inB_not.1 p2 (by
    have h2:=h hja
    omega)]
  have r2:=inB_iff.1 p2
  have r1:=inB_iff.1 p1
  rw[Vg (by rw[Zd];omega)] at r1
  by_cases q4:0<j
  ·have e1:((j:Int)-1).toNat=j-1:=by omega
   have e2:(0:Int)<=j-1:=by omega
   have q5:(0:Int)<j:=by omega
   have gb:=VK (c:=cA2) (l:=l) (j:=j-1) (by omega)
   simp only[q5,e1,e2,ga,gb,List.length_map,cA2,EVA,seval,Zc,men]
   refine⟨by rw[Zd];omega,?_⟩
   refine Za (Zbc (l[j-1]'(by omega)) l[j]) ?_
   by_cases hc:0<=Zph (l[j-1]'(by omega)) l[j]
   ·simp only[hc,EVA,seval,Zc,men]
    rw[hno fun h=>by
     have:=cmp2_lt.2 ((h hja).2.2.2 q4)
     omega]
   ·have hc2:Zph (l[j-1]'(by omega)) l[j]<0:=by omega
    simp only[hc,EVA,seval,Zc,men]
    exact⟨by rw[Zd];omega,Ze () hja rfl (Ym hB fun _=>⟨by omega,by omega,by omega,fun _=>cmp2_lt.1 hc2⟩)⟩
  ·have q5:¬ (0:Int)<j:=by omega
   simp only[q5,ga,List.length_map,cA2,EVA,seval,Zc,men]
   exact⟨by rw[Zd];omega,Ze () hja rfl (Ym hB fun _=>⟨by omega,by omega,by omega,fun h=>absurd h q4⟩)⟩
 ·have hj1:j=l.length:=by omega
  subst hj1
  have:Zel l many:=fun i h=>hB i h h
  rw[ZD this]
theorem Zcl(n:Int)(lvl:Nat)(S:Sto):Sem Proofs.Tryz.prog Ys lvl [iI n] S (iB (!inB n 0 24)) S:=by
 refine Zb DU trivial ?_
 simp only[XB,EVA,seval,Zc,men]
 refine Za (Z5 n 0 24) ?_
 simp only[EVA,seval,Zc,men]
theorem Up(n:Int)(s:TSorting)(hm:s.most.length<=4294967296)(lvl:Nat)(S:Sto):Sem Proofs.Tryz.prog Yt lvl [iI n,.ta (Zh s)] S (iB (!inB n 0 ((s.most.length:Int)-1))) S:=by
 refine Zb DV trivial ?_
 simp only[XC,Zh,List.length_map,EVA,seval,Zc,men]
 refine⟨by rw[Zd];omega,?_⟩
 refine Za (Z5 n 0 ((s.most.length:Int)-1)) ?_
 simp only[EVA,seval,Zc,men]
theorem any_out{l:List Int}{a b:Int}:(l.any fun n=>!inB n a b)=false↔∀ n∈l,a<=n/\n<=b:=by
 simp only[List.any_eq_false,Bool.not_eq_true',Bool.not_eq_false,inB_iff]
set_option maxHeartbeats 2000000 in
theorem Zae(sig:List TControl)(s:TSorting)(hn:sig.length<=4294967296)(hbs:∀ y∈sig,ZF 4294967296 y)(hb:Jv 4294967296 s)(lvl:Nat)(S:Sto):Sem Proofs.Tryz.prog Vq lvl [.tr (.sl (sig.map Zi)),.ag ((Zh s).map .tr)] S (iB (dc (sortOK sig s))) S:=by
 obtain⟨b1,b2,b3,b4,b5,b6,b7⟩:=hb
 refine Zb Za9 trivial ?_
 simp only[WD,List.length_map,Zh,EVA,seval,Zc,men]
 refine Za (QJ sig (by omega) (fun y hy=>Wp (hbs y hy))) ?_
 cases h1:dc (UM sig)
 ·simp only[EVA,seval,Zc,men]
  rw[Zf fun h=>dc_not.1 h1 h.sg]
 simp only[List.length_map,Zh,EVA,seval,Zc,men]
 refine Za (Za0 s.tops sig.length (by omega) (by omega) (by omega)) ?_
 cases h2:dc (Ris 0 ((sig.length:Int)-1) s.tops)
 ·simp only[EVA,seval,Zc,men]
  rw[Zf fun h=>dc_not.1 h2 h.tops]
 by_cases e3:s.nest.length=sig.length
 case neg =>
  have e3':¬ (s.nest.length:Int)=sig.length:=by omega
  simp only[e3',List.length_map,Zh,EVA,seval,Zc,men]
  rw[Zf fun h=>e3 h.nestL]
 by_cases e4:s.sorts.length=sig.length
 case neg =>
  have e4':¬ (s.sorts.length:Int)=sig.length:=by omega
  simp only[e3,e4',List.length_map,Zh,EVA,seval,Zc,men]
  rw[Zf fun h=>e4 h.sortsL]
 simp only[e3,e4,List.length_map,Zh,EVA,seval,Zc,men]
 refine Za (Z5 s.most.length 1 4) ?_
 cases h4:inB s.most.length 1 4
 ·simp only[EVA,seval,Zc,men]
  rw[Zf fun h=>inB_not.1 h4 (by have:=h.many;omega)]
 simp only[List.length_map,Zh,EVA,seval,Zc,men]
 refine Za (XH (t:=tv) (cs:=[]) Za2 Za1 s.most (by omega) (fun x _ lvl S=>Zcl x lvl S)) ?_
 cases h5:s.most.any fun n=>!inB n 0 24
 case true =>
  simp only[EVA,seval,Zc,men]
  rw[Zf fun h=>by rw[any_out.2 h.most] at h5;cases h5]
 simp only[List.length_map,Zh,EVA,seval,Zc,men]
 refine Za (Zfw s.apart s.most.length b6 b7) ?_
 cases h6:dc (Zel s.apart s.most.length)
 ·simp only[EVA,seval,Zc,men]
  rw[Zf fun h=>dc_not.1 h6 h.apart]
 simp only[List.length_map,Zh,EVA,seval,Zc,men]
 refine Zx (α:=Unit) sig.length (fun j _=>[(55,iI j)]) (fun j _=>[]) (fun j _=>∀ k,k<j->Zfu sig s.nest k/\Zcj sig s.sorts s.most.length k) () (by simp only[EVA,seval,Zc,men]) (by (simp only[EVA,seval,Zc,men]) <;> rfl) (fun k hk=>absurd hk (Nat.not_lt_zero k)) ?_
 intro j _ hj hA
 simp only[List.length_map,Zh,EVA,seval,Zc,men]
 refine Zj (fun hlt=>?_) (fun hge=>?_)
 ·have hja:j<sig.length:=by omega
  have hjn:j<s.nest.length:=by omega
  have hjs:j<s.sorts.length:=by omega
  have ga:=VK (c:=Zi) hja
  have gn:=VK (c:=eIS) hjn
  have gs:=VK (c:=eIS) hjs
  have y1:s.nest[j].length<=4294967296:=b3 _ (List.getElem_mem hjn)
  have y2:s.sorts[j].length<=4294967296:=b5 _ (List.getElem_mem hjs)
  simp only[ga,gn,gs,List.length_map,Zh,Zi,EVA,seval,Zc,men]
  refine Za (Za0 s.nest[j] sig.length (by omega) (by omega) (by omega)) ?_
  cases p1:dc (Ris 0 ((sig.length:Int)-1) s.nest[j])
  ·simp only[EVA,seval,Zc,men]
   rw[Zf fun h=>dc_not.1 p1 (h.nest j hjn hja).1]
  by_cases p2:sig[j].kind_=2/\(0:Int)<s.nest[j].length
  ·simp only[p2.1,p2.2,ga,gn,gs,List.length_map,Zh,Zi,EVA,seval,Zc,men]
   rw[Zf fun h=>by
    have h1:=(h.nest j hjn hja).2 p2.1
    have h2:=p2.2
    rw[h1] at h2
    simp at h2]
  have hN:Zfu sig s.nest j:=fun _ _=>⟨dc_iff.1 p1,fun h=>List.length_eq_zero_iff.1 (by
   have:¬ (0:Int)<s.nest[j].length:=fun h2=>p2 ⟨h,h2⟩
   omega)⟩
  have go:∀ K:Prop,((¬ (s.sorts[j].length:Int)=sig[j].ports->dc (sortOK sig s)=false)->(∀ e:(s.sorts[j].length:Int)=sig[j].ports,(s.sorts[j].any (fun n=>!inB n 0 ((s.most.length:Int)-1)))=true->dc (sortOK sig s)=false)->(∀ e:(s.sorts[j].length:Int)=sig[j].ports,(s.sorts[j].any (fun n=>!inB n 0 ((s.most.length:Int)-1)))=false->Zcj sig s.sorts s.most.length j)->K)->K:=fun K h=>h
   (fun h=>Zf fun g=>h (g.sorts j hjs hja).1)
   (fun e h=>Zf fun g=>by rw[any_out.2 (g.sorts j hjs hja).2] at h;cases h)
   (fun e h _ _=>⟨e,any_out.1 h⟩)
  refine go _ fun g1 g2 g3=>?_
  by_cases k1:sig[j].kind_=2
  ·have k2:¬ (0:Int)<s.nest[j].length:=fun h=>p2 ⟨k1,h⟩
   by_cases k3:(s.sorts[j].length:Int)=sig[j].ports
   case neg =>
    simp only[k1,k2,k3,ga,gn,gs,List.length_map,Zh,Zi,EVA,seval,Zc,men]
    rw[g1 k3]
   simp only[k1,k2,k3,ga,gn,gs,List.length_map,Zh,Zi,EVA,seval,Zc,men]
   refine Za (XH (t:=tv) (cs:=[Zh s]) Za2 Za1 s.sorts[j] (by omega) (fun x _ lvl S=>Up x s b6 lvl S)) ?_
   cases h7:s.sorts[j].any fun n=>!inB n 0 ((s.most.length:Int)-1)
   case true =>
    simp only[EVA,seval,Zc,men]
    rw[g2 k3 h7]
   simp only[EVA,seval,Zc,men]
   exact⟨by rw[Zd];omega,Ze () hja rfl (Ym hA ⟨hN,g3 k3 h7⟩)⟩
  ·by_cases k3:(s.sorts[j].length:Int)=sig[j].ports
   case neg =>
    simp only[k1,k3,ga,gn,gs,List.length_map,Zh,Zi,EVA,seval,Zc,men]
    rw[g1 k3]
   simp only[k1,k3,ga,gn,gs,List.length_map,Zh,Zi,EVA,seval,Zc,men]
   refine Za (XH (t:=tv) (cs:=[Zh s]) Za2 Za1 s.sorts[j] (by omega) (fun x _ lvl S=>Up x s b6 lvl S)) ?_
   cases h7:s.sorts[j].any fun n=>!inB n 0 ((s.most.length:Int)-1)
   case true =>
    simp only[EVA,seval,Zc,men]
    rw[g2 k3 h7]
   simp only[EVA,seval,Zc,men]
   exact⟨by rw[Zd];omega,Ze () hja rfl (Ym hA ⟨hN,g3 k3 h7⟩)⟩
 ·have hj1:j=sig.length:=by omega
  subst hj1
  have:sortOK sig s:=⟨dc_iff.1 h1,dc_iff.1 h2,e3,fun k hk h2=>(hA k h2).1 hk h2,e4,fun k hk h2=>(hA k h2).2 hk h2,by have:=inB_iff.1 h4;omega,any_out.1 h5,dc_iff.1 h6⟩
  rw[ZD this]
end Go.Fd

/-
  WHAT A VALID BIGRAPH IS, BOTH SIDES. Own work.
-/
namespace Go.Fd
set_option maxRecDepth 20000
theorem UN{P:Nat->Prop}{j:Nat}(h:∀ k,k<j->P k)(hj:P j):∀ k,k<j+1->P k:=fun k hk=>by
 by_cases e:k=j
 ·subst e;exact hj
 ·exact h k (by omega)
theorem Zg7{n a b:Int}:inB n a b=dc (a<=n/\n<=b):=by
 unfold inB
 rw[JH,Bool.decide_and]
theorem ZkT:∀(x y:List UInt8),(!Op.bytesLess x y)=(Op.bytesLess y x || decide (x=y))
 | [],[]=>by simp [Op.bytesLess]
 | [],_::_=>by simp [Op.bytesLess]
 | _::_,[]=>by simp [Op.bytesLess]
 | a::x,b::y=>by
  have ih:=ZkT x y
  simp only[Op.bytesLess]
  by_cases h:a=b
  ·subst h
   have e:¬ a<a:=UInt8.lt_irrefl a
   simp [e,ih]
  ·by_cases h1:a<b
   ·have h2:¬ b<a:=fun h2=>UInt8.lt_irrefl a (UInt8.lt_trans h1 h2)
    have h3:¬ b=a:=fun e=>h e.symm
    simp [h,h1,h2,h3]
   ·have h2:b<a:=by
     rcases UInt8.lt_or_lt_of_ne h with h | h
     ·exact absurd h h1
     ·exact h
    simp [h,h1,h2]
def ltS(s t:ByteArray):Prop:=Op.bytesLess s.data.toList t.data.toList=true
theorem Zmk{s t:ByteArray}:(!Op.bytesLess s.data.toList t.data.toList) = !dc (ltS s t):=by
 unfold ltS
 rw[JH,Bool.decide_eq_true]
theorem Zml{s t:ByteArray}:(Op.bytesLess t.data.toList s.data.toList || decide (t=s)) = !dc (ltS s t):=by
 rw[<-Zmk,ZkT]
 congr 1
 have:t=s↔s.data.toList=t.data.toList:=⟨fun h=>by rw[h],fun h=>by
  cases s with | mk s=>cases t with | mk t=>exact congrArg ByteArray.mk (Array.toList_inj.1 h.symm)⟩
 simp only[this]
def Zpi(l:List ByteArray)(i:Nat):Prop:=∀ h:i<l.length,ZiO l[i]/\∀ _:0<i,ltS (l[i-1]'(by omega)) l[i]
def QE(l:List ByteArray):Prop:=(∀ i,Zpi l i)/\l.length<=16
theorem Zcm(l:List ByteArray)(hl:l.length<=4294967296)(hb:∀ y∈l,y.size<=4294967296)(lvl:Nat)(S:Sto):Sem Proofs.Tryz.prog YN lvl [.tr (.sl (rS l))] S (iB (dc (QE l))) S:=by
 refine Zb ZcL trivial ?_
 simp only[UY,List.length_map,EVA,seval,Zc,men]
 refine Zx (α:=Unit) l.length (fun j _=>[(3,iI j)]) (fun j _=>[]) (fun j _=>∀ k,k<j->Zpi l k) () (by simp only[EVA,seval,Zc,men]) (by (simp only[EVA,seval,Zc,men]) <;> rfl) (fun k hk=>absurd hk (Nat.not_lt_zero k)) ?_
 intro j _ hj hA
 simp only[List.length_map,EVA,seval,Zc,men]
 refine Zj (fun hlt=>?_) (fun hge=>?_)
 ·have hja:j<l.length:=by omega
  have ga:=VK (c:=fun s=>[ts s]) hja
  have hno:¬ Zpi l j->dc (QE l)=false:=fun h=>Zf fun g=>h (g.1 j)
  simp only[ga,List.length_map,EVA,seval,Zc,men]
  refine Za (Zdf l[j] (by have:=hb _ (List.getElem_mem hja);omega)) ?_
  cases h1:dc (ZiO l[j])
  ·simp only[EVA,seval,Zc,men]
   rw[hno fun h=>dc_not.1 h1 (h hja).1]
  by_cases q:0<j
  ·have e1:((j:Int)-1).toNat=j-1:=by omega
   have e2:(0:Int)<=j-1:=by omega
   have q5:(0:Int)<j:=by omega
   have gb:=VK (c:=fun s=>[ts s]) (l:=l) (j:=j-1) (by omega)
   simp only[q5,e1,e2,ga,gb,List.length_map,EVA,seval,Zc,men]
   cases hc:Op.bytesLess (l[j-1]'(by omega)).data.toList l[j].data.toList
   ·simp only[EVA,seval,Zc,men]
    exact⟨by rw[Zd];omega,by rw[hno fun h=>by have:=(h hja).2 q;unfold ltS at this;rw[this] at hc;cases hc]⟩
   ·simp only[EVA,seval,Zc,men]
    exact⟨by rw[Zd];omega,by rw[Zd];omega,Ze () hja rfl (UN hA fun _=>⟨dc_iff.1 h1,fun _=>hc⟩)⟩
  ·have q5:¬ (0:Int)<j:=by omega
   simp only[q5,ga,List.length_map,EVA,seval,Zc,men]
   exact⟨by rw[Zd];omega,Ze () hja rfl (UN hA fun _=>⟨dc_iff.1 h1,fun h=>absurd h q⟩)⟩
 ·have hj1:j=l.length:=by omega
  subst hj1
  rw[Jf (p:=QE l) (q:=(l.length:Int)<=16) ⟨fun g=>by have:=g.2;omega,fun g=>⟨fun i h=>hA i h h,by omega⟩⟩,JH]
theorem Za3(l:List ByteArray)(hl:l.length<=4294967296)(hb:∀ y∈l,y.size<=4294967296)(lvl:Nat)(S:Sto):Sem Proofs.Tryz.prog Yl lvl [.tr (.sl (rS l))] S (iB (dc (QE l))) S:=by
 refine Zb Zcf trivial ?_
 simp only[Ul,List.length_map,EVA,seval,Zc,men]
 refine Zx (α:=Unit) l.length (fun j _=>[(7,iI j)]) (fun j _=>[]) (fun j _=>∀ k,k<j->Zpi l k) () (by simp only[EVA,seval,Zc,men]) (by (simp only[EVA,seval,Zc,men]) <;> rfl) (fun k hk=>absurd hk (Nat.not_lt_zero k)) ?_
 intro j _ hj hA
 simp only[List.length_map,EVA,seval,Zc,men]
 refine Zj (fun hlt=>?_) (fun hge=>?_)
 ·have hja:j<l.length:=by omega
  have ga:=VK (c:=fun s=>[ts s]) hja
  have hno:¬ Zpi l j->dc (QE l)=false:=fun h=>Zf fun g=>h (g.1 j)
  simp only[ga,List.length_map,EVA,seval,Zc,men]
  refine Za (Zdg l[j] (by have:=hb _ (List.getElem_mem hja);omega)) ?_
  cases h1:dc (ZiO l[j])
  ·simp only[EVA,seval,Zc,men]
   rw[hno fun h=>dc_not.1 h1 (h hja).1]
  by_cases q:0<j
  ·have e1:((j:Int)-1).toNat=j-1:=by omega
   have e2:(0:Int)<=j-1:=by omega
   have q5:(0:Int)<j:=by omega
   have gb:=VK (c:=fun s=>[ts s]) (l:=l) (j:=j-1) (by omega)
   simp only[q5,e1,e2,ga,gb,List.length_map,EVA,seval,Zc,men]
   rw[Zml]
   cases hc:dc (ltS (l[j-1]'(by omega)) l[j])
   ·simp only[EVA,seval,Zc,men]
    exact⟨by rw[Zd];omega,by rw[hno fun h=>dc_not.1 hc ((h hja).2 q)]⟩
   ·simp only[EVA,seval,Zc,men]
    exact⟨by rw[Zd];omega,by rw[Zd];omega,Ze () hja rfl (UN hA fun _=>⟨dc_iff.1 h1,fun _=>dc_iff.1 hc⟩)⟩
  ·have q5:¬ (0:Int)<j:=by omega
   simp only[q5,ga,List.length_map,EVA,seval,Zc,men]
   exact⟨by rw[Zd];omega,Ze () hja rfl (UN hA fun _=>⟨dc_iff.1 h1,fun h=>absurd h q⟩)⟩
 ·have hj1:j=l.length:=by omega
  subst hj1
  rw[Jf (p:=QE l) (q:=(l.length:Int)<=16) ⟨fun g=>by have:=g.2;omega,fun g=>⟨fun i h=>hA i h h,by omega⟩⟩,JH]
def X7(b:TBigraph)(l:Int):Prop:=0<=l/\l<=b.edges+b.outer.length-1
theorem Zdi(b:TBigraph)(l:Int)(he:0<=b.edges/\b.edges<=8)(ho:b.outer.length<=4294967296)(lvl:Nat)(S:Sto):Sem Proofs.Tryz.prog Vz lvl [.ag ((Zg b).map .tr),iI l] S (iB (dc (X7 b l))) S:=by
 refine Zb Zef trivial ?_
 simp only[D0,Zg,List.length_map,EVA,seval,Zc,men]
 refine⟨by rw[Zd];omega,by rw[Zd];omega,?_⟩
 refine Za (J6 l 0 (b.edges+b.outer.length-1)) ?_
 simp only[EVA,seval,Zc,men]
 rw[Zg7]
 rfl
theorem Zdj(b:TBigraph)(l:Int)(he:0<=b.edges/\b.edges<=8)(ho:b.outer.length<=4294967296)(lvl:Nat)(S:Sto):Sem Proofs.Tryz.prog Jg lvl [.ag ((Zg b).map .tr),iI l] S (iB (dc (X7 b l))) S:=by
 refine Zb Um trivial ?_
 simp only[Ql,Zg,List.length_map,EVA,seval,Zc,men]
 refine⟨by rw[Zd];omega,by rw[Zd];omega,?_⟩
 refine Za (Z5 l 0 (b.edges+b.outer.length-1)) ?_
 simp only[EVA,seval,Zc,men]
 rw[Zg7]
 rfl
def Zfx(sig:List TControl)(c:Int):Int:=((sig[c.toNat]?).map TControl.kind_).getD 0
def Wq(sig:List TControl)(c:Int):Int:=((sig[c.toNat]?).map TControl.ports).getD 0
def Ye(b:TBigraph)(p:Int):Int:=((b.nodes[p.toNat]?).map TNode.control).getD 0
def UO(sig:List TControl)(b:TBigraph)(p Qn:Int):Prop:=(p<0/\-b.roots<=p)\/(0<=p/\p<Qn/\¬ Zfx sig (Ye b p)=2)
def Zfy(sig:List TControl)(b:TBigraph)(n:Nat):Prop:=∀ i,i<n->∀ h:i<b.nodes.length,0<=b.nodes[i].control/\b.nodes[i].control<=(sig.length:Int)-1
theorem Zcn(sig:List TControl)(b:TBigraph)(p:Int)(k:Nat)(hp:VJ .i64 p)(hr:0<=b.roots/\b.roots<=4)(hk:k<=b.nodes.length)(hc:Zfy sig b k)(lvl:Nat)(S:Sto):Sem Proofs.Tryz.prog YO lvl [.tr (.sl (sig.map Zi)),.ag ((Zg b).map .tr),iI p,iI k] S (iB (dc (UO sig b p k))) S:=by
 rw[Zd] at hp
 refine Zb ZcN trivial ?_
 simp only[U0,Zg,List.length_map,EVA,seval,Zc,men]
 refine Zj (fun hneg=>?_) (fun hpos=>?_)
 ·refine⟨by rw[Zd];omega,by rw[Zd];omega,?_⟩
  refine Za (J6 (-1-p) 0 (b.roots-1)) ?_
  simp only[EVA,seval,Zc,men]
  have hiff:(0 <= -1-p/\-1-p<=b.roots-1)↔UO sig b p k:=⟨fun h=>.inl (by omega),fun h=>by rcases h with h | h <;> omega⟩
  rw[Zg7,Jf hiff]
 ·refine Zj (fun hb=>?_) (fun hb=>?_)
  ·obtain⟨q,rfl⟩:∃ q:Nat,p=q:=⟨p.toNat,by omega⟩
   have hq:q<b.nodes.length:=by omega
   have ga:=VK (c:=ZE) hq
   obtain⟨m1,m2⟩:=hc q (by omega) hq
   obtain⟨m,hm⟩:∃ m:Nat,b.nodes[q].control=m:=⟨b.nodes[q].control.toNat,by omega⟩
   have hms:m<sig.length:=by omega
   have gs:=VK (c:=Zi) hms
   simp only[hb,ga,gs,ZE,Zi,hm,Int.toNat_natCast,Int.natCast_nonneg,List.length_map,EVA,seval,Zc,men]
   have e:Zfx sig (Ye b q)=sig[m].kind_:=by simp [Zfx,Ye,hq,hm,hms]
   have hiff:UO sig b q k ↔ ¬ sig[m].kind_=2:=by
    constructor
    ·intro h
     rcases h with h | h
     ·omega
     ·rw[<-e];exact h.2.2
    ·intro h
     exact .inr ⟨by omega,hb,by rw[e];exact h⟩
   rw[Jf hiff,JH]
  ·rw[Zf fun h:UO sig b p k=>by rcases h with h | h <;> omega]
theorem Za4(sig:List TControl)(b:TBigraph)(p:Int)(k:Nat)(hr:0<=b.roots/\b.roots<=4)(hk:k<=b.nodes.length)(hc:Zfy sig b k)(lvl:Nat)(S:Sto):Sem Proofs.Tryz.prog Z9 lvl [.ag ((Zg b).map .tr),.tr (.sl (sig.map Zi)),iI p,iI k] S (iB (dc (UO sig b p k))) S:=by
 refine Zb Wo trivial ?_
 simp only[VE,Zg,List.length_map,EVA,seval,Zc,men]
 refine Zj (fun hneg=>?_) (fun hpos=>?_)
 ·refine⟨by rw[Zd];omega,?_⟩
  have hiff:UO sig b p k ↔ -b.roots<=p:=⟨fun h=>by rcases h with h | h <;> omega,fun h=>.inl (by omega)⟩
  rw[Jf hiff,JH]
 ·refine Zj (fun hb=>?_) (fun hb=>?_)
  ·obtain⟨q,rfl⟩:∃ q:Nat,p=q:=⟨p.toNat,by omega⟩
   have hq:q<b.nodes.length:=by omega
   have ga:=VK (c:=ZE) hq
   obtain⟨m1,m2⟩:=hc q (by omega) hq
   obtain⟨m,hm⟩:∃ m:Nat,b.nodes[q].control=m:=⟨b.nodes[q].control.toNat,by omega⟩
   have hms:m<sig.length:=by omega
   have gs:=VK (c:=Zi) hms
   simp only[hb,ga,gs,ZE,Zi,hm,Int.toNat_natCast,Int.natCast_nonneg,List.length_map,EVA,seval,Zc,men]
   have e:Zfx sig (Ye b q)=sig[m].kind_:=by simp [Zfx,Ye,hq,hm,hms]
   have hiff:UO sig b q k ↔ ¬ sig[m].kind_=2:=by
    constructor
    ·intro h
     rcases h with h | h
     ·omega
     ·rw[<-e];exact h.2.2
    ·intro h
     exact .inr ⟨by omega,hb,by rw[e];exact h⟩
   rw[Jf hiff,JH]
  ·rw[Zf fun h:UO sig b p k=>by rcases h with h | h <;> omega]
structure nodeOK (sig:List TControl) (b:TBigraph) (x:TNode) (i:Nat):Prop where
 ctl:0<=x.control/\x.control<=(sig.length:Int)-1
 par:UO sig b x.parent i
 ports:(x.links.length:Int)=Wq sig x.control
 links:∀ l∈x.links,X7 b l
theorem Zhs(sig:List TControl)(b:TBigraph)(i:Nat)(hi:i<b.nodes.length)(hn:sig.length<=4294967296)(hl:b.nodes[i].links.length<=4294967296)(hp:VJ .i64 b.nodes[i].parent)(hr:0<=b.roots/\b.roots<=4)(he:0<=b.edges/\b.edges<=8)(ho:b.outer.length<=4294967296)(hc:Zfy sig b i)(lvl:Nat)(S:Sto):Sem Proofs.Tryz.prog Xf lvl [.tr (.sl (sig.map Zi)),.ag ((Zg b).map .tr),iI i] S (iB (dc (nodeOK sig b b.nodes[i] i))) S:=by
 refine Zb Zee trivial ?_
 have ga:=VK (c:=ZE) hi
 simp only[DZ,Zg,List.length_map,ga,ZE,EVA,seval,Zc,men]
 refine⟨by rw[Zd];omega,?_⟩
 refine Za (J6 b.nodes[i].control 0 ((sig.length:Int)-1)) ?_
 cases h1:inB b.nodes[i].control 0 ((sig.length:Int)-1)
 ·simp only[EVA,seval,Zc,men]
  rw[Zf fun h:nodeOK sig b b.nodes[i] i=>inB_not.1 h1 h.ctl]
 have r1:=inB_iff.1 h1
 simp only[Zg,List.length_map,ZE,EVA,seval,Zc,men]
 refine Za (Zcn sig b b.nodes[i].parent i hp hr (by omega) hc) ?_
 cases h2:dc (UO sig b b.nodes[i].parent i)
 ·simp only[EVA,seval,Zc,men]
  rw[Zf fun h:nodeOK sig b b.nodes[i] i=>dc_not.1 h2 h.par]
 obtain⟨m,hm⟩:∃ m:Nat,b.nodes[i].control=m:=⟨b.nodes[i].control.toNat,by omega⟩
 have hms:m<sig.length:=by omega
 have gs:=VK (c:=Zi) hms
 have e:Wq sig b.nodes[i].control=sig[m].ports:=by simp [Wq,hm,hms]
 simp only[hm,gs,Zi,Zg,List.length_map,ZE,EVA,seval,Zc,men]
 refine Zj (fun hne=>?_) (fun heq=>?_)
 ·rw[Zf fun h:nodeOK sig b b.nodes[i] i=>by have:=h.ports;rw[e] at this;exact hne this]
 refine Zx (α:=Unit) b.nodes[i].links.length (fun j _=>[(8,iI j)]) (fun j _=>[]) (fun j _=>∀ k,k<j->X7 b (g0 b.nodes[i].links k)) () (by simp only[EVA,seval,Zc,men]) (by (simp only[EVA,seval,Zc,men]) <;> rfl) (fun k hk=>absurd hk (Nat.not_lt_zero k)) ?_
 intro j _ hj hA
 simp only[List.length_map,EVA,seval,Zc,men]
 refine Zj (fun hlt=>?_) (fun hge=>?_)
 ·have hja:j<b.nodes[i].links.length:=by omega
  have gl:=Zz hja
  simp only[gl,List.length_map,EVA,seval,Zc,men]
  refine Za (Zdi b (g0 b.nodes[i].links j) he ho) ?_
  cases hc:dc (X7 b (g0 b.nodes[i].links j))
  ·simp only[EVA,seval,Zc,men]
   rw[Zf fun h:nodeOK sig b b.nodes[i] i=>dc_not.1 hc (h.links _ (by simp [hja]))]
  ·simp only[EVA,seval,Zc,men]
   exact⟨by rw[Zd];omega,Ze () hja rfl (UN hA (dc_iff.1 hc))⟩
 ·have hj1:j=b.nodes[i].links.length:=by omega
  subst hj1
  have:nodeOK sig b b.nodes[i] i:=⟨r1,dc_iff.1 h2,by rw[e];omega,fun l hl=>by
   obtain⟨k,hk,rfl⟩:=List.getElem_of_mem hl
   have:=hA k hk
   simpa [hk] using this⟩
  rw[ZD this]
def inn(b:TBigraph):List ByteArray:=b.inner.map TWire.name
theorem Zg8(a b:List ByteArray):rS (a++b)=rS a++rS b:=List.map_append
theorem Zgn(b:TBigraph)(hn:b.inner.length<=4294967296)(lvl:Nat)(S:Sto):Sem Proofs.Tryz.prog QD lvl [.ag ((Zg b).map .tr)] S (.ow 1 (rS (inn b)) true) S:=by
 refine Zb ZcM trivial ?_
 simp only[UZ,List.length_map,Zg,EVA,seval,Zc,men]
 refine Zx (α:=Unit) b.inner.length (fun j _=>[(3,.hd (lvl,160) [] 0 j none j),(4,iI j)]) (fun j _=>[(160,.ar 1 (rS ((inn b).take j)) true j 0)]) (fun _ _=>True) () (by simp only[EVA,seval,Zc,men]) (by (simp only[EVA,seval,Zc,men]) <;> rfl) trivial ?_
 intro j _ hj _
 have hil:(inn b).length=b.inner.length:=by simp [inn]
 simp only[List.length_map,EVA,seval,Zc,men]
 refine Zj (fun hlt=>?_) (fun hge=>?_)
 ·have hja:j<b.inner.length:=by omega
  have ga:=VK (c:=JA) hja
  have hlN:(rS ((inn b).take j)).length=j:=by rw[List.length_map,List.length_take];omega
  simp only[ga,JA,hlN,List.length_map,EVA,seval,Zc,men]
  have hstep:rS ((inn b).take j)++[[ts b.inner[j].name]]=rS ((inn b).take (j+1)):=by
   rw[List.take_succ_eq_append_getElem (by omega),Zg8]
   simp [inn]
  refine⟨by omega,by rw[Zd];omega,Ze () hja ?_ trivial⟩
  rw[<-hstep]
  rfl
 ·have:j=b.inner.length:=by omega
  subst this
  rw[List.take_of_length_le (by omega)]
  exact⟨hil.symm,rfl⟩
end Go.Fd

/-
  A VALID BIGRAPH: THE WHOLE, BOTH SIDES. Own work.
-/
namespace Go.Fd
set_option maxRecDepth 20000
theorem ZcR(b:TBigraph)(hn:b.inner.length<=4294967296)(lvl:Nat)(S:Sto):Sem Proofs.Tryz.prog Jm lvl [.ag ((Zg b).map .tr)] S (.ow 1 (rS (inn b)) true) S:=by
 refine Zb XO trivial ?_
 simp only[YI,List.length_map,Zg,EVA,seval,Zc,men]
 refine Zx (α:=Unit) b.inner.length (fun j _=>[(3,.hd (lvl,192) [] 0 j none j),(10,iI j)]) (fun j _=>[(192,.ar 1 (rS ((inn b).take j)) true j 0)]) (fun _ _=>True) () (by simp only[EVA,seval,Zc,men]) (by (simp only[EVA,seval,Zc,men]) <;> rfl) trivial ?_
 intro j _ hj _
 have hil:(inn b).length=b.inner.length:=by simp [inn]
 simp only[List.length_map,EVA,seval,Zc,men]
 refine Zj (fun hlt=>?_) (fun hge=>?_)
 ·have hja:j<b.inner.length:=by omega
  have ga:=VK (c:=JA) hja
  have hlN:(rS ((inn b).take j)).length=j:=by rw[List.length_map,List.length_take];omega
  simp only[ga,JA,hlN,List.length_map,EVA,seval,Zc,men]
  have hstep:rS ((inn b).take j)++[[ts b.inner[j].name]]=rS ((inn b).take (j+1)):=by
   rw[List.take_succ_eq_append_getElem (by omega),Zg8]
   simp [inn]
  refine⟨by omega,by rw[Zd];omega,Ze () hja ?_ trivial⟩
  rw[<-hstep]
  rfl
 ·have:j=b.inner.length:=by omega
  subst this
  rw[List.take_of_length_le (by omega)]
  exact⟨hil.symm,rfl⟩
def Zg9(sig:List TControl)(b:TBigraph)(i:Nat):Prop:=∀ h:i<b.nodes.length,nodeOK sig b b.nodes[i] i
structure bigOK (sig:List TControl) (b:TBigraph):Prop where
 sg:UM sig
 roots:0<=b.roots/\b.roots<=4
 nodesL:b.nodes.length<=8
 sitesL:b.sites.length<=4
 edges:0<=b.edges/\b.edges<=8
 outer:QE b.outer
 inn:QE (inn b)
 nodes:∀ i,Zg9 sig b i
 sites:∀ p∈b.sites,UO sig b p b.nodes.length
 inner:∀ w∈b.inner,X7 b w.link
theorem Zem{sig:List TControl}{b:TBigraph}{j:Nat}(h:∀ k,k<j->Zg9 sig b k):Zfy sig b j:=fun i hi hl=>(h i hi hl).ctl
theorem Zen{b:TBigraph}:(inn b).length=b.inner.length:=by simp [inn]
theorem ZiU{b:TBigraph}{n:Nat}(h:∀ y∈b.inner,WA n y):∀ y∈inn b,y.size<=n:=fun y hy=>by
 obtain⟨w,hw,rfl⟩:=List.mem_map.1 hy
 exact h w hw
theorem Zdk(sig:List TControl)(b:TBigraph)(hn:sig.length<=4294967296)(hbs:∀ y∈sig,ZF 4294967296 y)(hb:JD 4294967296 b)(hf:W8 b)(lvl:Nat)(S:Sto):Sem Proofs.Tryz.prog Vt lvl [.tr (.sl (sig.map Zi)),.ag ((Zg b).map .tr)] S (iB (dc (bigOK sig b))) S:=by
 obtain⟨b1,b2,b3,b4,b5,b6,b7⟩:=hb
 obtain⟨f1,f2,f3,f4,f5⟩:=hf
 refine Zb Zd8 trivial ?_
 simp only[DP,List.length_map,Zg,EVA,seval,Zc,men]
 refine Za (Zfr sig (by omega) (fun y hy=>Wp (hbs y hy))) ?_
 cases h1:dc (UM sig)
 ·simp only[EVA,seval,Zc,men]
  rw[Zf fun h:bigOK sig b=>dc_not.1 h1 h.sg]
 simp only[List.length_map,Zg,EVA,seval,Zc,men]
 refine Za (J6 b.roots 0 4) ?_
 cases h2:inB b.roots 0 4
 ·simp only[EVA,seval,Zc,men]
  rw[Zf fun h:bigOK sig b=>inB_not.1 h2 h.roots]
 by_cases h3:(8:Int)<b.nodes.length
 ·simp only[h3,List.length_map,Zg,EVA,seval,Zc,men]
  rw[Zf fun h:bigOK sig b=>by have:=h.nodesL;omega]
 by_cases h4:(4:Int)<b.sites.length
 ·simp only[h3,h4,List.length_map,Zg,EVA,seval,Zc,men]
  rw[Zf fun h:bigOK sig b=>by have:=h.sitesL;omega]
 simp only[h3,h4,List.length_map,Zg,EVA,seval,Zc,men]
 refine Za (J6 b.edges 0 8) ?_
 cases h5:inB b.edges 0 8
 ·simp only[EVA,seval,Zc,men]
  rw[Zf fun h:bigOK sig b=>inB_not.1 h5 h.edges]
 have r2:=inB_iff.1 h2
 have r5:=inB_iff.1 h5
 simp only[List.length_map,Zg,EVA,seval,Zc,men]
 refine Za (Zcm b.outer (by assumption) (by assumption)) ?_
 cases h6:dc (QE b.outer)
 ·simp only[EVA,seval,Zc,men]
  rw[Zf fun h:bigOK sig b=>dc_not.1 h6 h.outer]
 by_cases h7:(16:Int)<b.inner.length
 ·simp only[h7,List.length_map,Zg,EVA,seval,Zc,men]
  rw[Zf fun h:bigOK sig b=>by have:=h.inn.2;rw[Zen] at this;omega]
 simp only[h7,List.length_map,Zg,EVA,seval,Zc,men]
 refine Za (Zgn b (by omega)) ?_
 simp only[List.length_map,Zg,EVA,seval,Zc,men]
 refine Za (Zcm (inn b) (by rw[Zen];omega) (ZiU (by assumption))) ?_
 cases h8:dc (QE (inn b))
 ·simp only[EVA,seval,Zc,men]
  rw[Zf fun h:bigOK sig b=>dc_not.1 h8 h.inn]
 simp only[List.length_map,Zg,EVA,seval,Zc,men]
 have ho:=(dc_iff.1 h6).2
 refine Zx (α:=Unit) b.nodes.length (fun j _=>[(5,iI j)]) (fun j _=>[]) (fun j _=>∀ k,k<j->Zg9 sig b k) () (by simp only[EVA,seval,Zc,men]) (by (simp only[EVA,seval,Zc,men]) <;> rfl) (fun k hk=>absurd hk (Nat.not_lt_zero k)) ?_
 intro j _ hj hA
 simp only[List.length_map,Zg,EVA,seval,Zc,men]
 refine Zj (fun hlt=>?_) (fun hge=>?_)
 ·have hja:j<b.nodes.length:=by omega
  have hm:=List.getElem_mem hja
  refine Za (Zhs sig b j hja hn (by first | exact(b2 _ hm) | exact(b3 _ hm)) (by first | exact(f1 _ hm).2.1 | exact(f2 _ hm).2.1) r2 r5 (by omega) (Zem hA)) ?_
  cases hc:dc (nodeOK sig b b.nodes[j] j)
  ·simp only[EVA,seval,Zc,men]
   rw[Zf fun h:bigOK sig b=>dc_not.1 hc (h.nodes j hja)]
  ·simp only[EVA,seval,Zc,men]
   exact⟨by rw[Zd];omega,Ze () hja rfl (UN hA fun _=>dc_iff.1 hc)⟩
 have hj1:j=b.nodes.length:=by omega
 subst hj1
 refine Zx (α:=Unit) b.sites.length (fun j _=>[(6,iI j)]) (fun j _=>[]) (fun j _=>∀ k,k<j->UO sig b (g0 b.sites k) b.nodes.length) () (by simp only[EVA,seval,Zc,men]) (by (simp only[EVA,seval,Zc,men]) <;> rfl) (fun k hk=>absurd hk (Nat.not_lt_zero k)) ?_
 intro j _ hj hB
 simp only[List.length_map,Zg,EVA,seval,Zc,men]
 refine Zj (fun hlt=>?_) (fun hge=>?_)
 ·have hja:j<b.sites.length:=by omega
  have ga:=Zz hja
  have hg:g0 b.sites j∈b.sites:=by simp [hja]
  simp only[ga,List.length_map,Zg,EVA,seval,Zc,men]
  refine Za (Zcn sig b (g0 b.sites j) b.nodes.length (by first | exact f3 _ hg | exact f2 _ hg | exact f4 _ hg) r2 (Nat.le_refl _) (Zem hA)) ?_
  cases hc:dc (UO sig b (g0 b.sites j) b.nodes.length)
  ·simp only[EVA,seval,Zc,men]
   rw[Zf fun h:bigOK sig b=>dc_not.1 hc (h.sites _ hg)]
  ·simp only[EVA,seval,Zc,men]
   exact⟨by rw[Zd];omega,Ze () hja rfl (UN hB (dc_iff.1 hc))⟩
 have hj1:j=b.sites.length:=by omega
 subst hj1
 refine Zx (α:=Unit) b.inner.length (fun j _=>[(7,iI j)]) (fun j _=>[]) (fun j _=>∀ k,k<j->∀ h:k<b.inner.length,X7 b b.inner[k].link) () (by simp only[EVA,seval,Zc,men]) (by (simp only[EVA,seval,Zc,men]) <;> rfl) (fun k hk=>absurd hk (Nat.not_lt_zero k)) ?_
 intro j _ hj hC
 simp only[List.length_map,Zg,EVA,seval,Zc,men]
 refine Zj (fun hlt=>?_) (fun hge=>?_)
 ·have hja:j<b.inner.length:=by omega
  have ga:=VK (c:=JA) hja
  simp only[ga,JA,List.length_map,Zg,EVA,seval,Zc,men]
  refine Za (Zdi b b.inner[j].link r5 (by omega)) ?_
  cases hc:dc (X7 b b.inner[j].link)
  ·simp only[EVA,seval,Zc,men]
   rw[Zf fun h:bigOK sig b=>dc_not.1 hc (h.inner _ (List.getElem_mem hja))]
  ·simp only[EVA,seval,Zc,men]
   exact⟨by rw[Zd];omega,Ze () hja rfl (UN hC fun _=>dc_iff.1 hc)⟩
 have hj1:j=b.inner.length:=by omega
 subst hj1
 have:bigOK sig b:=⟨dc_iff.1 h1,r2,by omega,by omega,r5,dc_iff.1 h6,dc_iff.1 h8,fun i h=>hA i h h,fun p hp=>by
  obtain⟨k,hk,rfl⟩:=List.getElem_of_mem hp
  have:=hB k hk
  simpa [hk] using this,fun w hw=>by
  obtain⟨k,hk,rfl⟩:=List.getElem_of_mem hw
  exact hC k hk hk⟩
 rw[ZD this]
theorem Zco(l:Int)(b:TBigraph)(he:0<=b.edges/\b.edges<=8)(ho:b.outer.length<=4294967296)(lvl:Nat)(S:Sto):Sem Proofs.Tryz.prog Yu lvl [iI l,.ta (Zg b)] S (iB (!dc (X7 b l))) S:=by
 refine Zb Zaa trivial ?_
 simp only[XD,Zg,EVA,seval,Zc,men]
 refine Za (Zdj b l he ho) ?_
 simp only[EVA,seval,Zc,men]
theorem Zcp(p:Int)(sig:List TControl)(b:TBigraph)(hr:0<=b.roots/\b.roots<=4)(hc:Zfy sig b b.nodes.length)(lvl:Nat)(S:Sto):Sem Proofs.Tryz.prog Yv lvl [iI p,.ta (Zg b),.ta [Tr.sl (sig.map Zi)]] S (iB (!dc (UO sig b p b.nodes.length))) S:=by
 refine Zb Zab trivial ?_
 simp only[XE,Zg,List.length_map,EVA,seval,Zc,men]
 refine Za (Za4 sig b p b.nodes.length hr (Nat.le_refl _) hc) ?_
 simp only[EVA,seval,Zc,men]
theorem Zcq(w:TWire)(b:TBigraph)(he:0<=b.edges/\b.edges<=8)(ho:b.outer.length<=4294967296)(lvl:Nat)(S:Sto):Sem Proofs.Tryz.prog Yw lvl [.ag ((JA w).map .tr),.ta (Zg b)] S (iB (!dc (X7 b w.link))) S:=by
 refine Zb Zac trivial ?_
 simp only[XF,Zg,JA,EVA,seval,Zc,men]
 refine Za (Zdj b w.link he ho) ?_
 simp only[EVA,seval,Zc,men]
theorem Zpj:ZH Proofs.Tryz.prog Z6 (Zkd 2 (some 2))=true:=by kernel_rfl
theorem Zpk:ZH Proofs.Tryz.prog Z2 (Zmf Z6)=true:=by kernel_rfl
theorem any_no{α:Type}{l:List α}{p:α->Prop}:(l.any fun n=>!dc (p n))=false↔∀ n∈l,p n:=by
 simp only[List.any_eq_false,Bool.not_eq_true',Bool.not_eq_false,dc_iff]
theorem XI(sig:List TControl)(b:TBigraph)(hn:sig.length<=4294967296)(hbs:∀ y∈sig,ZF 4294967296 y)(hb:JD 4294967296 b)(lvl:Nat)(S:Sto):Sem Proofs.Tryz.prog J5 lvl [.tr (.sl (sig.map Zi)),.ag ((Zg b).map .tr)] S (iB (dc (bigOK sig b))) S:=by
 obtain⟨b1,b2,b3,b4,b5,b6,b7⟩:=hb
 refine Zb Zbb trivial ?_
 simp only[WF,List.length_map,Zg,EVA,seval,Zc,men]
 refine Za (QJ sig (by omega) (fun y hy=>Wp (hbs y hy))) ?_
 cases h1:dc (UM sig)
 ·simp only[EVA,seval,Zc,men]
  rw[Zf fun h:bigOK sig b=>dc_not.1 h1 h.sg]
 simp only[List.length_map,Zg,EVA,seval,Zc,men]
 refine Za (Z5 b.roots 0 4) ?_
 cases h2:inB b.roots 0 4
 ·simp only[EVA,seval,Zc,men]
  rw[Zf fun h:bigOK sig b=>inB_not.1 h2 h.roots]
 by_cases h3:(8:Int)<b.nodes.length
 ·simp only[h3,List.length_map,Zg,EVA,seval,Zc,men]
  rw[Zf fun h:bigOK sig b=>by have:=h.nodesL;omega]
 by_cases h4:(4:Int)<b.sites.length
 ·simp only[h3,h4,List.length_map,Zg,EVA,seval,Zc,men]
  rw[Zf fun h:bigOK sig b=>by have:=h.sitesL;omega]
 simp only[h3,h4,List.length_map,Zg,EVA,seval,Zc,men]
 refine Za (Z5 b.edges 0 8) ?_
 cases h5:inB b.edges 0 8
 ·simp only[EVA,seval,Zc,men]
  rw[Zf fun h:bigOK sig b=>inB_not.1 h5 h.edges]
 have r2:=inB_iff.1 h2
 have r5:=inB_iff.1 h5
 simp only[List.length_map,Zg,EVA,seval,Zc,men]
 refine Za (Za3 b.outer (by assumption) (by assumption)) ?_
 cases h6:dc (QE b.outer)
 ·simp only[EVA,seval,Zc,men]
  rw[Zf fun h:bigOK sig b=>dc_not.1 h6 h.outer]
 simp only[List.length_map,Zg,EVA,seval,Zc,men]
 refine Za (ZcR b (by omega)) ?_
 simp only[List.length_map,Zg,EVA,seval,Zc,men]
 refine Za (Za3 (inn b) (by rw[Zen];omega) (ZiU (by assumption))) ?_
 cases h8:dc (QE (inn b))
 ·simp only[EVA,seval,Zc,men]
  rw[Zf fun h:bigOK sig b=>dc_not.1 h8 h.inn]
 simp only[List.length_map,Zg,EVA,seval,Zc,men]
 have ho:=(dc_iff.1 h6).2
 refine Zx (α:=Unit) b.nodes.length (fun j _=>[(49,iI j)]) (fun j _=>[]) (fun j _=>∀ k,k<j->Zg9 sig b k) () (by simp only[EVA,seval,Zc,men]) (by (simp only[EVA,seval,Zc,men]) <;> rfl) (fun k hk=>absurd hk (Nat.not_lt_zero k)) ?_
 intro j _ hj hA
 simp only[List.length_map,Zg,EVA,seval,Zc,men]
 refine Zj (fun hlt=>?_) (fun hge=>?_)
 ·have hja:j<b.nodes.length:=by omega
  have hm:=List.getElem_mem hja
  have ga:=VK (c:=ZE) hja
  have hll:b.nodes[j].links.length<=4294967296:=by first | exact(b2 _ hm) | exact(b3 _ hm)
  have hno:¬ nodeOK sig b b.nodes[j] j->dc (bigOK sig b)=false:=fun h=>Zf fun g=>h (g.nodes j hja)
  simp only[ga,ZE,List.length_map,Zg,EVA,seval,Zc,men]
  refine⟨by rw[Zd];omega,?_⟩
  refine Za (Z5 b.nodes[j].control 0 ((sig.length:Int)-1)) ?_
  cases p1:inB b.nodes[j].control 0 ((sig.length:Int)-1)
  ·simp only[EVA,seval,Zc,men]
   rw[hno fun h=>inB_not.1 p1 h.ctl]
  have q1:=inB_iff.1 p1
  simp only[ZE,List.length_map,Zg,EVA,seval,Zc,men]
  refine Za (Za4 sig b b.nodes[j].parent j r2 (by omega) (Zem hA)) ?_
  cases p2:dc (UO sig b b.nodes[j].parent j)
  ·simp only[EVA,seval,Zc,men]
   rw[hno fun h=>dc_not.1 p2 h.par]
  obtain⟨m,hmm⟩:∃ m:Nat,b.nodes[j].control=m:=⟨b.nodes[j].control.toNat,by omega⟩
  have hms:m<sig.length:=by omega
  have gs:=VK (c:=Zi) hms
  have e:Wq sig b.nodes[j].control=sig[m].ports:=by simp [Wq,hmm,hms]
  by_cases p3:(b.nodes[j].links.length:Int)=sig[m].ports
  case neg =>
   simp only[p3,hmm,gs,Int.toNat_natCast,Int.natCast_nonneg,Zi,ZE,List.length_map,Zg,EVA,seval,Zc,men]
   rw[hno fun h=>p3 (by rw[<-e];exact h.ports)]
  simp only[p3,hmm,gs,Int.toNat_natCast,Int.natCast_nonneg,Zi,ZE,List.length_map,Zg,EVA,seval,Zc,men]
  refine Za (XH (t:=tv) (cs:=[Zg b]) Za2 Za1 b.nodes[j].links (by omega) (fun x _ lvl S=>Zco x b r5 (by omega) lvl S)) ?_
  cases p4:b.nodes[j].links.any fun l=>!dc (X7 b l)
  ·simp only[EVA,seval,Zc,men]
   exact⟨by rw[Zd];omega,Ze () hja rfl (UN hA fun _=>⟨q1,dc_iff.1 p2,by rw[e];exact p3,any_no.1 p4⟩)⟩
  ·simp only[EVA,seval,Zc,men]
   rw[hno fun h=>by rw[any_no.2 h.links] at p4;cases p4]
 have hj1:j=b.nodes.length:=by omega
 subst hj1
 refine Za (XH (t:=tv) (cs:=[Zg b,[Tr.sl (sig.map Zi)]]) Za2 Za1 b.sites (by omega) (fun x _ lvl S=>Zcp x sig b r2 (Zem hA) lvl S)) ?_
 cases h9:b.sites.any fun p=>!dc (UO sig b p b.nodes.length)
 case true =>
  simp only[EVA,seval,Zc,men]
  rw[Zf fun h:bigOK sig b=>by rw[any_no.2 h.sites] at h9;cases h9]
 simp only[List.length_map,Zg,EVA,seval,Zc,men]
 refine Za (Zg6 (cs:=[Zg b]) Zpk Zpj (fun x=>rfl) b.inner (by omega) (fun x _ lvl S=>Zcq x b r5 (by omega) lvl S)) ?_
 cases h10:b.inner.any fun w=>!dc (X7 b w.link)
 case true =>
  simp only[EVA,seval,Zc,men]
  rw[Zf fun h:bigOK sig b=>by rw[(any_no (p:=fun w:TWire=>X7 b w.link)).2 h.inner] at h10;cases h10]
 simp only[EVA,seval,Zc,men]
 have:bigOK sig b:=⟨dc_iff.1 h1,r2,by omega,by omega,r5,dc_iff.1 h6,dc_iff.1 h8,fun i h=>hA i h h,any_no.1 h9,any_no.1 h10⟩
 rw[ZD this]
end Go.Fd
