/-
  The annotated codes of the functions, printed by a program of mine (gen.py), and the check that they belong to the program.
-/
import Derived.Test.YtilephfpcfclgaaGreatDoorT04
import Derived.KernelRfl
import Derived.Shelf.Strings.SlTrimAscii
import Derived.Test.YtilephfpcfclgaaGreatDoorProg
set_option linter.all false
namespace Go.Fd
open Go.Proofs.Tryz renaming prog->UbM
def Zdp:F2 :=
 { nt:=40,res:=[.c 6 (some 6) [0,4,2,0,2,3],.t 7 [0]],body:=(.sq (rg [oo 4 (.bt (.t 1)),oo 5 (.bt (.t 2)),oo 6 (.al [.int .i64 0,.slice none 0 0,.slice none 0 0,.int .i64 0,.slice none 0 0,.slice none 0 0] []),om 7 (.k (.bool false))]) (.sq (.sq (rg [qM 8 0,qS 9 13 4,oo 10 (.ca .pure false (.f Zcw) [.t 8,.t 9]),oo 11 (.nt (.t 10)),qM 12 11,og 13 12 false (.mv (.t 0) none),og 14 12 false (.ld (some 6) (.t 5)),og 15 12 false (.ca .pure false (.f Zcx) [.t 13,.t 14]),og 16 12 false (.nt (.t 15)),oo 17 (.pk (.t 12) (.k (.bool true)) (.t 16)),qM 18 17,og 19 18 false (.fa 3 (.t 5)),og 20 18 false (.ld none (.t 19)),og 21 18 false (.bi .gtr 0 (.t 20) (i6 0)),oo 22 (.pk (.t 18) (.k (.bool true)) (.t 21)),qM 23 22,og 24 23 false (.fa 0 (.t 5)),og 25 23 false (.ld none (.t 24)),og 26 23 false (.fa 0 (.t 4)),og 27 23 false (.fa 2 (.t 26)),og 28 23 false (.ld none (.t 27)),og 29 23 false (.ln (.t 28)),og 30 23 false (.bi .neq 0 (.t 25) (.t 29)),oo 31 (.pk (.t 23) (.k (.bool true)) (.t 30))]) (.cd (.t 31) (.sq (rg [oo 32 (.bd [.int .i64 0,.slice none 0 0,.slice none 0 0,.int .i64 0,.slice none 0 0,.slice none 0 0] [] []),
 ZN (.st 6 (.t 6) (.t 32)),om 7 (.k (.bool false))]) (.rt)) (.sk))) (.sq (rg [qM 33 0,qS 34 13 4,qS 35 6 5,oo 36 (.ca .pure false (.f Zcy) [.t 34,.t 35]),oo 37 (.ca .pure true (.f Zar) [.t 33,.t 36]),qE 38 0 37,qE 39 1 37,
 ZN (.st 6 (.t 6) (.t 38)),qM 7 39]) (.rt)))) }
theorem ZgG:Zo UbM WF Zdp=true:=by kernel_rfl
def ZgH:F2 :=
 { nt:=40,res:=[.c 6 (some 6) [0,4,2,0,2,3],.t 7 [0]],body:=(.sq (rg [oo 4 (.bt (.t 1)),oo 5 (.bt (.t 2)),oo 6 (.al [.int .i64 0,.slice none 0 0,.slice none 0 0,.int .i64 0,.slice none 0 0,.slice none 0 0] []),om 7 (.k (.bool false))]) (.sq (.sq (rg [qM 8 0,qS 9 13 4,oo 10 (.ca .pure false (.f ZcD) [.t 8,.t 9]),oo 11 (.nt (.t 10)),qM 12 11,og 13 12 false (.mv (.t 0) none),og 14 12 false (.ld (some 6) (.t 5)),og 15 12 false (.ca .pure false (.f ZcE) [.t 13,.t 14]),og 16 12 false (.nt (.t 15)),oo 17 (.pk (.t 12) (.k (.bool true)) (.t 16)),qM 18 17,og 19 18 false (.fa 3 (.t 5)),og 20 18 false (.ld none (.t 19)),og 21 18 false (.bi .gtr 0 (.t 20) (i6 0)),oo 22 (.pk (.t 18) (.k (.bool true)) (.t 21)),qM 23 22,og 24 23 false (.fa 0 (.t 5)),og 25 23 false (.ld none (.t 24)),og 26 23 false (.fa 0 (.t 4)),og 27 23 false (.fa 2 (.t 26)),og 28 23 false (.ld none (.t 27)),og 29 23 false (.ln (.t 28)),og 30 23 false (.bi .neq 0 (.t 25) (.t 29)),oo 31 (.pk (.t 23) (.k (.bool true)) (.t 30))]) (.cd (.t 31) (.sq (rg [oo 32 (.bd [.int .i64 0,.slice none 0 0,.slice none 0 0,.int .i64 0,.slice none 0 0,.slice none 0 0] [] []),
 ZN (.st 6 (.t 6) (.t 32)),om 7 (.k (.bool false))]) (.rt)) (.sk))) (.sq (rg [qM 33 0,qS 34 13 4,qS 35 6 5,oo 36 (.ca .pure false (.f ZcG) [.t 34,.t 35]),oo 37 (.ca .pure true (.f ZcF) [.t 33,.t 36]),qE 38 0 37,qE 39 1 37,
 ZN (.st 6 (.t 6) (.t 38)),qM 7 39]) (.rt)))) }
theorem Ztv:Zo UbM Zao ZgH=true:=by kernel_rfl
def ZgI:F2 :=
 { nt:=44,res:=[.t 4 [0]],body:=(.sq (rg [oo 3 (.bt (.t 1)),om 4 (.k (.bool false))]) (.sq (rg [qM 5 0,qF 6 0 3,qS 7 6 6,oo 8 (.ca .pure false (.f ZcT) [.t 5,.t 7]),qM 9 8,og 10 9 true (.mv (.t 0) none),og 11 9 true (.fa 6 (.t 3)),og 12 9 true (.ld (some 6) (.t 11)),og 13 9 true (.ca .pure false (.f WI) [.t 10,.t 12]),oo 14 (.pk (.t 9) (.t 13) (.k (.bool false))),qM 15 14,og 16 15 true (.fa 6 (.t 3)),og 17 15 true (.fa 5 (.t 16)),og 18 15 true (.ld none (.t 17)),og 19 15 true (.ln (.t 18)),og 20 15 true (.bi .eql 0 (.t 19) (i6 0)),oo 21 (.pk (.t 15) (.t 20) (.k (.bool false))),qM 22 21,og 23 22 true (.fa 0 (.t 3)),og 24 22 true (.fa 0 (.t 23)),og 25 22 true (.ld none (.t 24)),og 26 22 true (.fa 6 (.t 3)),og 27 22 true (.fa 0 (.t 26)),og 28 22 true (.ld none (.t 27)),og 29 22 true (.bi .eql 0 (.t 25) (.t 28)),oo 30 (.pk (.t 22) (.t 29) (.k (.bool false))),qM 31 30,og 32 31 true (.fa 0 (.t 3)),og 33 31 true (.fa 4 (.t 32)),og 34 31 true (.ld none (.t 33)),og 35 31 true (.fa 6 (.t 3)),og 36 31 true (.fa 4 (.t 35)),og 37 31 true (.ld none (.t 36)),og 38 31 true (.ca .pure false (.f ZcU) [.t 34,.t 37]),oo 39 (.pk (.t 31) (.t 38) (.k (.bool false))),qM 40 39,og 41 40 true (.ld (some 13) (.t 3)),og 42 40 true (.ca .pure false (.f ZcV) [.t 41]),oo 43 (.pk (.t 40) (.t 42) (.k (.bool false))),qM 4 43]) (.rt))) }
theorem Ztw:Zo UbM Zcw ZgI=true:=by kernel_rfl
def ZgJ:F2 :=
 { nt:=20,res:=[.t 4 [0]],body:=(.sq (rg [oo 3 (.bt (.t 1)),om 4 (.k (.bool false))]) (.sq (rg [qM 5 0,qS 6 6 3,oo 7 (.ca .pure false (.f WI) [.t 5,.t 6]),qM 8 7,og 9 8 true (.fa 2 (.t 3)),og 10 8 true (.ld none (.t 9)),og 11 8 true (.ln (.t 10)),og 12 8 true (.bi .eql 0 (.t 11) (i6 0)),oo 13 (.pk (.t 8) (.t 12) (.k (.bool false))),qM 14 13,og 15 14 true (.fa 5 (.t 3)),og 16 14 true (.ld none (.t 15)),og 17 14 true (.ln (.t 16)),og 18 14 true (.bi .eql 0 (.t 17) (i6 0)),oo 19 (.pk (.t 14) (.t 18) (.k (.bool false))),qM 4 19]) (.rt))) }
theorem Ztx:Zo UbM Zcx ZgJ=true:=by kernel_rfl
def Zdq:F2 :=
 { nt:=12,res:=[.c 4 (some 6) [0,4,2,0,2,3],.t 5 [0]],body:=(.sq (rg [oo 3 (.bt (.t 1)),oo 4 (.al [.int .i64 0,.slice none 0 0,.slice none 0 0,.int .i64 0,.slice none 0 0,.slice none 0 0] []),om 5 (.k (.bool false))]) (.sq (.sq (rg [qM 6 0,qS 7 6 3,oo 8 (.ca .pure false (.f WI) [.t 6,.t 7]),oo 9 (.nt (.t 8))]) (.cd (.t 9) (.sq (rg [oo 10 (.bd [.int .i64 0,.slice none 0 0,.slice none 0 0,.int .i64 0,.slice none 0 0,.slice none 0 0] [] []),
 ZN (.st 6 (.t 4) (.t 10)),om 5 (.k (.bool false))]) (.rt)) (.sk))) (.sq (rg [qS 11 6 3,
 ZN (.st 6 (.t 4) (.t 11)),om 5 (.k (.bool true))]) (.rt)))) }
theorem ZgK:Zo UbM Zar Zdq=true:=by kernel_rfl
def ZgL:F2 :=
 { nt:=86,res:=[.c 4 (some 6) [0,4,2,0,2,3]],body:=(.sq (rg [oo 2 (.bt (.t 0)),oo 3 (.bt (.t 1)),oo 4 (.al [.int .i64 0,.slice none 0 0,.slice none 0 0,.int .i64 0,.slice none 0 0,.slice none 0 0] [])]) (.sq (.rg (some 0) [qF 12 12 2,oo 13 (.lt none (.t 12)),qN 14 13,oo 15 (.bs 3 0 [] []),oo 16 (.bs 1 0 [] []),qF 17 4 3,qL 18 17,oo 19 (.a0 1 (.t 16) (.t 18)),oo 20 (.bd [.int .i64 0,.slice none 0 0,.slice none 0 0,.int .i64 0,.slice none 0 0,.slice none 0 0] [(0,1,.t 14),(1,1,.t 15),(4,1,.t 19)] []),oo 5 (.al [.int .i64 0,.slice none 0 0,.slice none 0 0,.int .i64 0,.slice none 0 0,.slice none 0 0] []),
 ZN (.st 6 (.t 5) (.t 20))]) (.sq (.sq (rg [om 6 (i6 0)]) (.bl 0 (.lp [2,3,4,5,6] [128,160,480,512,608,2656] (.sq (.sq (rg [qM 21 6,qF 22 12 2,qL 23 22,qN 24 23,qB 25 .lss 21 24]) (.cd (.t 25) (.sk) (.ex 0))) (.sq (.bl 1 (.sq (.rg (some 0) [qS 28 6 3,qF 29 12 2,qL 30 29,qM 31 6,qI 32 1 30 31,qL 33 32,oo 34 (.bi .sub 0 (i6 (-1)) (.t 33)),oo 35 (.ca .pure false (.f ZcW) [.t 28,.t 34]),qM 7 35]) (.sq (rg [qF 36 1 3,qL 37 36,qN 38 37,oo 39 (.ms 1 [.int .i64 0] (.t 38)),qM 8 39]) (.sq (rg [om 9 (i6 0)]) (.bl 2 (.lp [2,3,4,5,6,7,8,9] [128,160,480,512,608,1248,2656] (.sq (.sq (rg [qM 40 9,qM 41 7,qN 42 41,qB 43 .lss 40 42]) (.cd (.t 43) (.sk) (.ex 2))) (.sq (.bl 3 (.sq (.rg (some 0) [qM 46 8,qM 47 7,qM 48 9,qI 49 1 47 48,qL 50 49,qF 51 1 5,qL 52 51,qN 53 52,qI 54 1 46 50,
 ZN (.st 1 (.t 54) (.t 53))]) (.sq (.rg (some 0) [qF 55 1 3,qL 56 55,qM 57 7,qM 58 9,qI 59 1 57 58,qL 60 59,qI 61 3 56 60,qS 62 3 61,oo 10 (.al [.int .i64 0,.int .i64 0,.slice none 0 0] []),
 ZN (.st 3 (.t 10) (.t 62))]) (.sq (rg [qM 63 6,oo 64 (.bi .sub 0 (i6 (-1)) (.t 63)),qM 11 64]) (.sq (.sq (rg [qF 65 1 10,qL 66 65,oo 67 (.bi .geq 0 (.t 66) (i6 0))]) (.cd (.t 67) (rg [qM 68 8,qF 69 1 10,qL 70 69,qI 71 1 68 70,qL 72 71,qM 11 72]) (.sk))) (.rg (some 0) [qF 73 1 5,qL 74 73,qF 75 0 10,qL 76 75,qM 77 11,qF 78 2 10,qL 79 78,oo 80 (.ca .pure true (.f ZcX) [.t 79]),oo 81 (.bd [.int .i64 0,.int .i64 0,.slice none 0 0] [(0,1,.t 76),(1,1,.t 77),(2,1,.t 80)] []),oo 82 (.bv 3 1 [.int .i64 0,.int .i64 0,.slice none 0 0] [(0,.t 81)]),oo 83 (.ap 3 2 (.t 74) (.t 82)),qF 84 1 5,
 ZN (.st 1 (.t 84) (.t 83))]))))))
 (rg [qM 44 9,oo 45 (.bi .add 0 (.t 44) (i6 1)),qM 9 45])))))))))
 (rg [qM 26 6,oo 27 (.bi .add 0 (.t 26) (i6 1)),qM 6 27])))))) (.sq (rg [qS 85 6 5,
 ZN (.st 6 (.t 4) (.t 85))]) (.rt))))) }
theorem Zty:Zo UbM Zcy ZgL=true:=by kernel_rfl
def ZgM:F2 :=
 { nt:=59,res:=[.t 4 [0]],body:=(.sq (rg [oo 3 (.bt (.t 1)),om 4 (.k (.bool false))]) (.sq (.sq (rg [qM 5 0,qF 6 0 3,qS 7 6 6,qF 8 6 3,qS 9 6 8,oo 10 (.ca .pure false (.f Zc0) [.t 5,.t 7,.t 9]),oo 11 (.nt (.t 10)),qM 12 11,og 13 12 false (.fa 0 (.t 3)),og 14 12 false (.ld (some 6) (.t 13)),og 15 12 false (.ca .pure false (.f Zc1) [.t 14]),og 16 12 false (.nt (.t 15)),oo 17 (.pk (.t 12) (.k (.bool true)) (.t 16)),qM 18 17,og 19 18 false (.fa 6 (.t 3)),og 20 18 false (.fa 5 (.t 19)),og 21 18 false (.ld none (.t 20)),og 22 18 false (.ln (.t 21)),og 23 18 false (.bi .gtr 0 (.t 22) (i6 0)),oo 24 (.pk (.t 18) (.k (.bool true)) (.t 23)),qM 25 24,og 26 25 false (.fa 0 (.t 3)),og 27 25 false (.fa 0 (.t 26)),og 28 25 false (.ld none (.t 27)),og 29 25 false (.fa 6 (.t 3)),og 30 25 false (.fa 0 (.t 29)),og 31 25 false (.ld none (.t 30)),og 32 25 false (.bi .neq 0 (.t 28) (.t 31)),oo 33 (.pk (.t 25) (.k (.bool true)) (.t 32)),qM 34 33,og 35 34 false (.fa 0 (.t 3)),og 36 34 false (.fa 4 (.t 35)),og 37 34 false (.ld none (.t 36)),og 38 34 false (.fa 6 (.t 3)),og 39 34 false (.fa 4 (.t 38)),og 40 34 false (.ld none (.t 39)),og 41 34 false (.ca .pure false (.f Zgz) [.t 37,.t 40]),og 42 34 false (.nt (.t 41)),oo 43 (.pk (.t 34) (.k (.bool true)) (.t 42))]) (.cd (.t 43) (.sq (rg [om 4 (.k (.bool false))]) (.rt)) (.sk))) (.sq (rg [qF 44 12 3,qL 45 44,qN 46 45,qF 47 6 3,qF 48 2 47,qL 49 48,qN 50 49,qB 51 .eql 46 50,qM 52 51,og 53 52 true (.fa 12 (.t 3)),og 54 52 true (.ld none (.t 53)),og 55 52 true (.mf Zc2 [.t 3]),og 56 52 true (.ca .pure false (.f Zat) [.t 54,.t 55]),og 57 52 true (.nt (.t 56)),oo 58 (.pk (.t 52) (.t 57) (.k (.bool false))),qM 4 58]) (.rt)))) }
theorem Ztz:Zo UbM ZcD ZgM=true:=by kernel_rfl
def ZgN:F2 :=
 { nt:=12,res:=[.t 4 [0]],body:=(.sq (rg [oo 3 (.bt (.t 1)),om 4 (.k (.bool false))]) (.sq (rg [qM 5 0,qS 6 6 3,oo 7 (.ca .pure false (.f WJ) [.t 5,.t 6]),qM 8 7,og 9 8 true (.ld (some 6) (.t 3)),og 10 8 true (.ca .pure false (.f Zc3) [.t 9]),oo 11 (.pk (.t 8) (.t 10) (.k (.bool false))),qM 4 11]) (.rt))) }
theorem ZtA:Zo UbM ZcE ZgN=true:=by kernel_rfl
def ZgO:F2 :=
 { nt:=13,res:=[.c 4 (some 6) [0,4,2,0,2,3],.t 5 [0]],body:=(.sq (rg [oo 3 (.bt (.t 1)),oo 4 (.al [.int .i64 0,.slice none 0 0,.slice none 0 0,.int .i64 0,.slice none 0 0,.slice none 0 0] []),om 5 (.k (.bool false))]) (.sq (.sq (rg [qM 6 0,qS 7 6 3,oo 8 (.ca .pure false (.f WJ) [.t 6,.t 7]),oo 9 (.nt (.t 8))]) (.cd (.t 9) (.sq (rg [oo 10 (.bd [.int .i64 0,.slice none 0 0,.slice none 0 0,.int .i64 0,.slice none 0 0,.slice none 0 0] [] []),
 ZN (.st 6 (.t 4) (.t 10)),om 5 (.k (.bool false))]) (.rt)) (.sk))) (.sq (rg [qS 11 6 3,oo 12 (.ca .pure true (.f Zc4) [.t 11]),
 ZN (.st 6 (.t 4) (.t 12)),om 5 (.k (.bool true))]) (.rt)))) }
theorem ZtB:Zo UbM ZcF ZgO=true:=by kernel_rfl
def ZgP:F2 :=
 { nt:=71,res:=[.c 4 (some 6) [0,4,2,0,2,3]],body:=(.sq (rg [oo 2 (.bt (.t 0)),oo 3 (.bt (.t 1)),oo 4 (.al [.int .i64 0,.slice none 0 0,.slice none 0 0,.int .i64 0,.slice none 0 0,.slice none 0 0] [])]) (.sq (.rg (some 0) [qF 13 12 2,qL 14 13,qN 15 14,qF 16 4 3,qL 17 16,oo 18 (.ca .pure true (.f Zau) [.t 17]),oo 19 (.bd [.int .i64 0,.slice none 0 0,.slice none 0 0,.int .i64 0,.slice none 0 0,.slice none 0 0] [(0,1,.t 15),(4,1,.t 18)] [(1,3)]),oo 5 (.al [.int .i64 0,.slice none 0 0,.slice none 0 0,.int .i64 0,.slice none 0 0,.slice none 0 0] []),
 ZN (.st 6 (.t 5) (.t 19))]) (.sq (.sq (rg [qF 20 12 2,qL 21 20,qN 22 21,om 23 (i6 0)]) (.bl 0 (.lp [3,4,5,21,22,23] [128,160,576,608,2112] (.sq (rg [qB 24 .lss 23 22]) (.sq (.cd (.t 24) (.sk) (.ex 0)) (.sq (.bl 1 (.sq (rg [qM 25 23,qI 26 1 21 23,qL 27 26,qM 6 25,qM 7 27]) (.sq (rg [oo 28 (.mk),qM 29 7,oo 30 (.bi .sub 0 (i6 (-1)) (.t 29)),qM 31 6,oo 32 (.bi .sub 0 (i6 (-1)) (.t 31)),
 ZN (.mu (.t 28) (.t 30) (.t 32)),qM 33 28,qM 8 33]) (.sq (rg [qF 34 1 3,qL 35 34,qN 36 35,om 37 (i6 0)]) (.bl 2 (.lp [3,4,5,8,21,22,23,35,36,37] [128,160,576,608,896,2112] (.sq (rg [qB 38 .lss 37 36]) (.sq (.cd (.t 38) (.sk) (.ex 2)) (.sq (.bl 3 (.sq (rg [qM 39 37,qI 40 3 35 37,qS 41 3 40,oo 10 (.al [.int .i64 0,.int .i64 0,.slice none 0 0] []),qM 9 39,
 ZN (.st 3 (.t 10) (.t 41))]) (.sq (rg [qM 43 8,qF 44 1 10,qL 45 44,oo 46 (.ml (.t 43) (.t 45)),qM 42 46,qE 47 0 42,qE 48 1 42,qM 11 47,qM 12 48]) (.sq (.sq (rg [qM 49 12,oo 50 (.nt (.t 49))]) (.cd (.t 50) (.ex 3) (.sk))) (.sq (rg [qM 51 8,qM 52 9,qF 53 1 5,qL 54 53,qN 55 54,
 ZN (.mu (.t 51) (.t 52) (.t 55))]) (.rg (some 0) [qF 56 1 5,qL 57 56,qF 58 0 10,qL 59 58,qM 60 11,qF 61 2 10,qL 62 61,oo 63 (.ca .pure true (.f US) [.t 62]),oo 64 (.bd [.int .i64 0,.int .i64 0,.slice none 0 0] [(0,1,.t 59),(1,1,.t 60),(2,1,.t 63)] []),oo 65 (.bv 3 1 [.int .i64 0,.int .i64 0,.slice none 0 0] [(0,.t 64)]),oo 66 (.ap 3 2 (.t 57) (.t 65)),qF 67 1 5,
 ZN (.st 1 (.t 67) (.t 66))]))))))
 (rg [oo 68 (.bi .add 0 (.t 37) (i6 1)),qM 37 68]))))))))))
 (rg [oo 69 (.bi .add 0 (.t 23) (i6 1)),qM 23 69]))))))) (.sq (rg [qS 70 6 5,
 ZN (.st 6 (.t 4) (.t 70))]) (.rt))))) }
theorem ZtC:Zo UbM ZcG ZgP=true:=by kernel_rfl
def ZgQ:F2 :=
 { nt:=12,res:=[.t 4 [0]],body:=(.sq (rg [oo 3 (.bt (.t 1)),om 4 (.k (.bool false))]) (.sq (rg [qM 5 0,qS 6 6 3,oo 7 (.ca .pure false (.f WI) [.t 5,.t 6]),qM 8 7,og 9 8 true (.ld (some 6) (.t 3)),og 10 8 true (.ca .pure false (.f Zc7) [.t 9]),oo 11 (.pk (.t 8) (.t 10) (.k (.bool false))),qM 4 11]) (.rt))) }
theorem ZtD:Zo UbM ZcT ZgQ=true:=by kernel_rfl
def ZgR:F2 :=
 { nt:=98,res:=[.t 4 [0]],body:=(.sq (rg [oo 3 (.bt (.t 1)),om 4 (.k (.bool false))]) (.sq (.sq (rg [qM 8 0,oo 9 (.ca .pure false (.f Zc8) [.t 8]),oo 10 (.nt (.t 9)),qM 11 10,og 12 11 false (.fa 0 (.t 3)),og 13 11 false (.ld none (.t 12)),og 14 11 false (.ca .pure false (.f VC) [.t 13,i6 0,i6 4]),og 15 11 false (.nt (.t 14)),oo 16 (.pk (.t 11) (.k (.bool true)) (.t 15)),qM 17 16,og 18 17 false (.fa 1 (.t 3)),og 19 17 false (.ld none (.t 18)),og 20 17 false (.ln (.t 19)),og 21 17 false (.bi .gtr 0 (.t 20) (i6 8)),oo 22 (.pk (.t 17) (.k (.bool true)) (.t 21)),qM 23 22,og 24 23 false (.fa 2 (.t 3)),og 25 23 false (.ld none (.t 24)),og 26 23 false (.ln (.t 25)),og 27 23 false (.bi .gtr 0 (.t 26) (i6 4)),oo 28 (.pk (.t 23) (.k (.bool true)) (.t 27)),qM 29 28,og 30 29 false (.fa 3 (.t 3)),og 31 29 false (.ld none (.t 30)),og 32 29 false (.ca .pure false (.f VC) [.t 31,i6 0,i6 8]),og 33 29 false (.nt (.t 32)),oo 34 (.pk (.t 29) (.k (.bool true)) (.t 33))]) (.cd (.t 34) (.sq (rg [om 4 (.k (.bool false))]) (.rt)) (.sk))) (.sq (.sq (rg [qF 35 4 3,qL 36 35,oo 37 (.ca .pure false (.f Zav) [.t 36]),oo 38 (.nt (.t 37)),qM 39 38,og 40 39 false (.fa 5 (.t 3)),og 41 39 false (.ld none (.t 40)),og 42 39 false (.ln (.t 41)),og 43 39 false (.bi .gtr 0 (.t 42) (i6 16)),oo 44 (.pk (.t 39) (.k (.bool true)) (.t 43)),qM 45 44,og 46 45 false (.ld (some 6) (.t 3)),og 47 45 false (.ca .pure false (.f Zc9) [.t 46]),og 48 45 false (.ca .pure false (.f Zav) [.t 47]),og 49 45 false (.nt (.t 48)),oo 50 (.pk (.t 45) (.k (.bool true)) (.t 49))]) (.cd (.t 50) (.sq (rg [om 4 (.k (.bool false))]) (.rt)) (.sk))) (.sq (.sq (rg [om 5 (i6 0)]) (.bl 0 (.lp [0,3,5] [] (.sq (.sq (rg [qM 51 5,qF 52 1 3,qL 53 52,qN 54 53,qB 55 .lss 51 54]) (.cd (.t 55) (.sk) (.ex 0))) (.sq (.bl 1 (.sq (rg [qM 58 0,qS 59 6 3,qM 60 5,oo 61 (.ca .pure false (.f Zda) [.t 58,.t 59,.t 60]),oo 62 (.nt (.t 61))]) (.cd (.t 62) (.sq (rg [om 4 (.k (.bool false))]) (.rt)) (.sk))))
 (rg [qM 56 5,oo 57 (.bi .add 0 (.t 56) (i6 1)),qM 5 57])))))) (.sq (.sq (rg [om 6 (i6 0)]) (.bl 2 (.lp [0,3,6] [] (.sq (.sq (rg [qM 63 6,qF 64 2 3,qL 65 64,qN 66 65,qB 67 .lss 63 66]) (.cd (.t 67) (.sk) (.ex 2))) (.sq (.bl 3 (.sq (.rg (some 0) [qM 70 0,qS 71 6 3,qF 72 2 3,qL 73 72,qM 74 6,qI 75 1 73 74,qL 76 75,qF 77 1 3,qL 78 77,qN 79 78,oo 80 (.ca .pure false (.f Zaw) [.t 70,.t 71,.t 76,.t 79]),oo 81 (.nt (.t 80))]) (.cd (.t 81) (.sq (rg [om 4 (.k (.bool false))]) (.rt)) (.sk))))
 (rg [qM 68 6,oo 69 (.bi .add 0 (.t 68) (i6 1)),qM 6 69])))))) (.sq (.sq (rg [om 7 (i6 0)]) (.bl 4 (.lp [3,7] [] (.sq (.sq (rg [qM 82 7,qF 83 5 3,qL 84 83,qN 85 84,qB 86 .lss 82 85]) (.cd (.t 86) (.sk) (.ex 4))) (.sq (.bl 5 (.sq (.rg (some 0) [qS 89 6 3,qF 90 5 3,qL 91 90,qM 92 7,qI 93 2 91 92,qF 94 1 93,qL 95 94,oo 96 (.ca .pure false (.f Zax) [.t 89,.t 95]),oo 97 (.nt (.t 96))]) (.cd (.t 97) (.sq (rg [om 4 (.k (.bool false))]) (.rt)) (.sk))))
 (rg [qM 87 7,oo 88 (.bi .add 0 (.t 87) (i6 1)),qM 7 88])))))) (.sq (rg [om 4 (.k (.bool true))]) (.rt)))))))) }
theorem ZtE:Zo UbM WI ZgR=true:=by kernel_rfl
def ZgS:F2 :=
 { nt:=32,res:=[.t 4 [0]],body:=(.sq (rg [om 4 (.k (.bool false))]) (.sq (.sq (rg [om 5 (i6 0)]) (.bl 0 (.lp [0,1,5] [] (.sq (.sq (rg [qM 6 5,qM 7 0,qN 8 7,qB 9 .lss 6 8,qM 10 9,og 11 10 true (.mv (.t 5) none),og 12 10 true (.mv (.t 1) none),og 13 10 true (.ln (.t 12)),og 14 10 true (.bi .lss 0 (.t 11) (.t 13)),oo 15 (.pk (.t 10) (.t 14) (.k (.bool false)))]) (.cd (.t 15) (.sk) (.ex 0))) (.sq (.bl 1 (.sq (.rg (some 0) [qM 18 0,qM 19 5,qI 20 1 18 19,qL 21 20,qM 22 1,qM 23 5,qI 24 1 22 23,qL 25 24,qB 26 .neq 21 25]) (.cd (.t 26) (.sq (rg [om 4 (.k (.bool false))]) (.rt)) (.sk))))
 (rg [qM 16 5,oo 17 (.bi .add 0 (.t 16) (i6 1)),qM 5 17])))))) (.sq (rg [qM 27 0,qN 28 27,qM 29 1,qN 30 29,qB 31 .eql 28 30,qM 4 31]) (.rt)))) }
theorem ZtF:Zo UbM ZcU ZgS=true:=by kernel_rfl
def ZgT:F2 :=
 { nt:=31,res:=[.t 2 [0]],body:=(.sq (rg [oo 1 (.bt (.t 0)),om 2 (.k (.bool false))]) (.sq (.sq (rg [om 3 (i6 0)]) (.bl 0 (.lp [1,3] [] (.sq (.sq (rg [qM 4 3,qF 5 12 1,qL 6 5,qN 7 6,qB 8 .lss 4 7]) (.cd (.t 8) (.sk) (.ex 0))) (.sq (.bl 1 (.sq (.rg (some 0) [qF 11 12 1,qL 12 11,qM 13 3,qI 14 1 12 13,qL 15 14,qF 16 0 1,qF 17 2 16,qL 18 17,qN 19 18,oo 20 (.bi .sub 0 (.t 19) (i6 1)),oo 21 (.ca .pure false (.f VC) [.t 15,i6 0,.t 20]),oo 22 (.nt (.t 21))]) (.cd (.t 22) (.sq (rg [om 2 (.k (.bool false))]) (.rt)) (.sk))))
 (rg [qM 9 3,oo 10 (.bi .add 0 (.t 9) (i6 1)),qM 3 10])))))) (.sq (rg [qF 23 12 1,qL 24 23,qN 25 24,qF 26 6 1,qF 27 2 26,qL 28 27,qN 29 28,qB 30 .eql 25 29,qM 2 30]) (.rt)))) }
theorem ZtG:Zo UbM ZcV ZgT=true:=by kernel_rfl
def ZgU:F2 :=
 { nt:=30,res:=[.t 4 [2]],body:=(.sq (rg [oo 2 (.bt (.t 0)),om 4 (.k (.slice none 0 0))]) (.sq (rg [oo 7 (.bs 1 0 [] []),qM 5 7]) (.sq (.sq (rg [om 6 (i6 0)]) (.bl 0 (.lp [1,2,5,6] [224,896] (.sq (.sq (rg [qM 8 6,qF 9 1 2,qL 10 9,qN 11 10,qB 12 .lss 8 11]) (.cd (.t 12) (.sk) (.ex 0))) (.sq (.bl 1 (.sq (.rg (some 0) [qS 15 6 2,qF 16 1 2,qL 17 16,qM 18 6,qI 19 3 17 18,qF 20 1 19,qL 21 20,oo 22 (.ca .pure false (.f Zdb) [.t 15,.t 21]),qM 23 1,qB 24 .eql 22 23]) (.cd (.t 24) (rg [qM 25 5,qM 26 6,oo 27 (.bs 1 1 [.int .i64 0] [(0,.t 26)]),oo 28 (.ap 1 0 (.t 25) (.t 27)),qM 5 28]) (.sk))))
 (rg [qM 13 6,oo 14 (.bi .add 0 (.t 13) (i6 1)),qM 6 14])))))) (.sq (rg [qM 29 5,qM 4 29]) (.rt))))) }
theorem ZtH:Zo UbM ZcW ZgU=true:=by kernel_rfl
def ZgV:F2 :=
 { nt:=6,res:=[.t 2 [2]],body:=(.sq (rg [om 2 (.k (.slice none 0 0))]) (.sq (rg [oo 3 (.bs 1 0 [] []),qM 4 0,oo 5 (.ap 1 0 (.t 3) (.t 4)),qM 2 5]) (.rt))) }
theorem ZtI:Zo UbM ZcX ZgV=true:=by kernel_rfl
def ZgW:F2 :=
 { nt:=15,res:=[.t 6 [0]],body:=(.sq (rg [oo 4 (.bt (.t 1)),oo 5 (.bt (.t 2)),om 6 (.k (.bool false))]) (.sq (rg [qM 7 0,qS 8 6 4,oo 9 (.ca .pure false (.f WJ) [.t 7,.t 8]),qM 10 9,og 11 10 true (.mv (.t 0) none),og 12 10 true (.ld (some 6) (.t 5)),og 13 10 true (.ca .pure false (.f WJ) [.t 11,.t 12]),oo 14 (.pk (.t 10) (.t 13) (.k (.bool false))),qM 6 14]) (.rt))) }
theorem ZtJ:Zo UbM Zc0 ZgW=true:=by kernel_rfl
def ZgX:F2 :=
 { nt:=62,res:=[.t 2 [0]],body:=(.sq (rg [oo 1 (.bt (.t 0)),om 2 (.k (.bool false))]) (.sq (.sq (rg [qF 7 5 1,qL 8 7,qN 9 8,oo 10 (.bi .gtr 0 (.t 9) (i6 0)),qM 11 10,og 12 11 false (.fa 0 (.t 1)),og 13 11 false (.ld none (.t 12)),og 14 11 false (.bi .eql 0 (.t 13) (i6 0)),oo 15 (.pk (.t 11) (.k (.bool true)) (.t 14))]) (.cd (.t 15) (.sq (rg [om 2 (.k (.bool false))]) (.rt)) (.sk))) (.sq (.sq (rg [qF 16 0 1,qL 17 16,oo 18 (.ng (.t 17)),qM 3 18]) (.bl 0 (.lp [1,3] [] (.sq (.sq (rg [qM 19 3,qF 20 1 1,qL 21 20,qN 22 21,qB 23 .lss 19 22]) (.cd (.t 23) (.sk) (.ex 0))) (.sq (.bl 1 (.sq (rg [qS 27 6 1,qM 28 3,oo 29 (.ca .pure false (.f Zdc) [.t 27,.t 28]),qM 26 29,qE 30 0 26,qE 31 1 26,qM 4 30,qM 5 31]) (.sq (rg [qM 32 3,oo 33 (.bi .lss 0 (.t 32) (i6 0)),qM 34 33,og 35 34 true (.mv (.t 4) none),og 36 34 true (.ln (.t 35)),og 37 34 true (.bi .eql 0 (.t 36) (i6 0)),og 38 34 true (.mv (.t 37) none),og 39 38 false (.mv (.t 5) none),og 40 38 false (.ln (.t 39)),og 41 38 false (.bi .gtr 0 (.t 40) (i6 0)),og 42 34 true (.pk (.t 38) (.k (.bool true)) (.t 41)),oo 43 (.pk (.t 34) (.t 42) (.k (.bool false))),qM 44 43,og 45 44 false (.mv (.t 5) none),og 46 44 false (.ln (.t 45)),og 47 44 false (.bi .gtr 0 (.t 46) (i6 1)),oo 48 (.pk (.t 44) (.k (.bool true)) (.t 47))]) (.cd (.t 48) (.sq (rg [om 2 (.k (.bool false))]) (.rt)) (.sk)))))
 (rg [qM 24 3,oo 25 (.bi .add 0 (.t 24) (i6 1)),qM 3 25])))))) (.sq (.sq (rg [qF 49 3 1,qL 50 49,qF 51 4 1,qL 52 51,qN 53 52,qB 54 .add 50 53,om 55 (i6 0)]) (.bl 2 (.lp [1,54,55] [] (.sq (rg [qB 56 .lss 55 54]) (.sq (.cd (.t 56) (.sk) (.ex 2)) (.sq (.bl 3 (.sq (rg [qM 57 55,qM 6 57]) (.sq (rg [qS 58 6 1,qM 59 6,oo 60 (.ca .pure false (.f Zdd) [.t 58,.t 59])]) (.cd (.t 60) (.sq (rg [om 2 (.k (.bool false))]) (.rt)) (.sk)))))
 (rg [oo 61 (.bi .add 0 (.t 55) (i6 1)),qM 55 61]))))))) (.sq (rg [om 2 (.k (.bool true))]) (.rt)))))) }
theorem ZtK:Zo UbM Zc1 ZgX=true:=by kernel_rfl
def ZgY:F2 :=
 { nt:=12,res:=[.t 3 [0]],body:=(.sq (rg [om 3 (.k (.bool false))]) (.sq (rg [qM 4 0,qF 5 0 1,qF 6 2 5,qL 7 6,qN 8 7,oo 9 (.bi .sub 0 (.t 8) (i6 1)),oo 10 (.ca .pure false (.f V1) [.t 4,i6 0,.t 9]),oo 11 (.nt (.t 10)),qM 3 11]) (.rt))) }
theorem ZtL:Zo UbM Zc2 ZgY=true:=by kernel_rfl
def ZgZ:F2 :=
 { nt:=15,res:=[.t 6 [0]],body:=(.sq (rg [om 6 (.k (.bool false))]) (.sq (rg [qM 7 0,qM 8 1,qB 9 .geq 7 8,qM 10 9,og 11 10 true (.mv (.t 0) none),og 12 10 true (.mv (.t 2) none),og 13 10 true (.bi .leq 0 (.t 11) (.t 12)),oo 14 (.pk (.t 10) (.t 13) (.k (.bool false))),qM 6 14]) (.rt))) }
theorem ZtM:Zo UbM V1 ZgZ=true:=by kernel_rfl
def Zg0:F2 :=
 { nt:=101,res:=[.t 4 [0]],body:=(.sq (rg [oo 2 (.bt (.t 0)),oo 3 (.bt (.t 1)),om 4 (.k (.bool false))]) (.sq (.sq (rg [qL 7 2,oo 8 (.ca .pure false (.f Zde) [.t 7]),oo 9 (.nt (.t 8)),qM 10 9,og 11 10 false (.fa 0 (.t 3)),og 12 10 false (.ld none (.t 11)),og 13 10 false (.ca .pure false (.f V1) [.t 12,i6 0,i6 4]),og 14 10 false (.nt (.t 13)),oo 15 (.pk (.t 10) (.k (.bool true)) (.t 14)),qM 16 15,og 17 16 false (.fa 1 (.t 3)),og 18 16 false (.ld none (.t 17)),og 19 16 false (.ln (.t 18)),og 20 16 false (.bi .gtr 0 (.t 19) (i6 8)),oo 21 (.pk (.t 16) (.k (.bool true)) (.t 20)),qM 22 21,og 23 22 false (.fa 2 (.t 3)),og 24 22 false (.ld none (.t 23)),og 25 22 false (.ln (.t 24)),og 26 22 false (.bi .gtr 0 (.t 25) (i6 4)),oo 27 (.pk (.t 22) (.k (.bool true)) (.t 26)),qM 28 27,og 29 28 false (.fa 3 (.t 3)),og 30 28 false (.ld none (.t 29)),og 31 28 false (.ca .pure false (.f V1) [.t 30,i6 0,i6 8]),og 32 28 false (.nt (.t 31)),oo 33 (.pk (.t 28) (.k (.bool true)) (.t 32)),qM 34 33,og 35 34 false (.fa 4 (.t 3)),og 36 34 false (.ld none (.t 35)),og 37 34 false (.ca .pure false (.f Zay) [.t 36]),og 38 34 false (.nt (.t 37)),oo 39 (.pk (.t 34) (.k (.bool true)) (.t 38)),qM 40 39,og 41 40 false (.ld (some 6) (.t 3)),og 42 40 false (.ca .pure false (.f Zdf) [.t 41]),og 43 40 false (.ca .pure false (.f Zay) [.t 42]),og 44 40 false (.nt (.t 43)),oo 45 (.pk (.t 40) (.k (.bool true)) (.t 44))]) (.cd (.t 45) (.sq (rg [om 4 (.k (.bool false))]) (.rt)) (.sk))) (.sq (.sq (rg [qF 46 1 3,qL 47 46,qN 48 47,om 49 (i6 0)]) (.bl 0 (.lp [2,3,47,48,49] [] (.sq (rg [qB 50 .lss 49 48]) (.sq (.cd (.t 50) (.sk) (.ex 0)) (.sq (.bl 1 (.sq (rg [qM 51 49,qI 52 3 47 49,qS 53 3 52,oo 6 (.al [.int .i64 0,.int .i64 0,.slice none 0 0] []),qM 5 51,
 ZN (.st 3 (.t 6) (.t 53))]) (.sq (.rg (some 0) [qF 54 0 6,qL 55 54,qL 56 2,qN 57 56,oo 58 (.bi .sub 0 (.t 57) (i6 1)),oo 59 (.ca .pure false (.f V1) [.t 55,i6 0,.t 58]),oo 60 (.nt (.t 59)),qM 61 60,og 62 61 false (.ld (some 6) (.t 3)),og 63 61 false (.ld none (.t 2)),og 64 61 false (.fa 1 (.t 6)),og 65 61 false (.ld none (.t 64)),og 66 61 false (.mv (.t 5) none),og 67 61 false (.ca .pure false (.f Zaz) [.t 62,.t 63,.t 65,.t 66]),og 68 61 false (.nt (.t 67)),oo 69 (.pk (.t 61) (.k (.bool true)) (.t 68)),qM 70 69,og 71 70 false (.fa 2 (.t 6)),og 72 70 false (.ld none (.t 71)),og 73 70 false (.ln (.t 72)),og 74 70 false (.ld none (.t 2)),og 75 70 false (.fa 0 (.t 6)),og 76 70 false (.ld none (.t 75)),og 77 70 false (.ia 3 (.t 74) (.t 76)),og 78 70 false (.fa 1 (.t 77)),og 79 70 false (.ld none (.t 78)),og 80 70 false (.bi .neq 0 (.t 73) (.t 79)),oo 81 (.pk (.t 70) (.k (.bool true)) (.t 80)),qM 82 81,og 83 82 false (.fa 2 (.t 6)),og 84 82 false (.ld none (.t 83)),og 85 82 false (.mf Zdg [.t 3]),og 86 82 false (.ca .pure false (.f Zat) [.t 84,.t 85]),oo 87 (.pk (.t 82) (.k (.bool true)) (.t 86))]) (.cd (.t 87) (.sq (rg [om 4 (.k (.bool false))]) (.rt)) (.sk)))))
 (rg [oo 88 (.bi .add 0 (.t 49) (i6 1)),qM 49 88]))))))) (.sq (rg [qF 89 2 3,qL 90 89,oo 91 (.mf Zdh [.t 3,.t 2]),oo 92 (.ca .pure false (.f Zat) [.t 90,.t 91]),oo 93 (.nt (.t 92)),qM 94 93,og 95 94 true (.fa 5 (.t 3)),og 96 94 true (.ld none (.t 95)),og 97 94 true (.mf Zdi [.t 3]),og 98 94 true (.ca .pure false (.f ZgB) [.t 96,.t 97]),og 99 94 true (.nt (.t 98)),oo 100 (.pk (.t 94) (.t 99) (.k (.bool false))),qM 4 100]) (.rt))))) }
theorem ZtN:Zo UbM WJ Zg0=true:=by kernel_rfl
def Zdr:F2 :=
 { nt:=13,res:=[.t 2 [0]],body:=(.sq (rg [oo 1 (.bt (.t 0)),om 2 (.k (.bool false))]) (.sq (rg [qF 3 2 1,qL 4 3,qN 5 4,oo 6 (.bi .eql 0 (.t 5) (i6 0)),qM 7 6,og 8 7 true (.fa 5 (.t 1)),og 9 7 true (.ld none (.t 8)),og 10 7 true (.ln (.t 9)),og 11 7 true (.bi .eql 0 (.t 10) (i6 0)),oo 12 (.pk (.t 7) (.t 11) (.k (.bool false))),qM 2 12]) (.rt))) }
theorem ZtO:Zo UbM Zc3 Zdr=true:=by kernel_rfl
def Zg1:F2 :=
 { nt:=42,res:=[.c 2 (some 6) [0,4,2,0,2,3]],body:=(.sq (rg [oo 1 (.bt (.t 0)),oo 2 (.al [.int .i64 0,.slice none 0 0,.slice none 0 0,.int .i64 0,.slice none 0 0,.slice none 0 0] [])]) (.sq (.rg (some 0) [qF 6 0 1,qL 7 6,qF 8 2 1,qL 9 8,oo 10 (.ca .pure true (.f US) [.t 9]),qF 11 3 1,qL 12 11,qF 13 4 1,qL 14 13,oo 15 (.ca .pure true (.f Zau) [.t 14]),qF 16 5 1,qL 17 16,oo 18 (.ca .pure true (.f Zdj) [.t 17]),oo 19 (.bd [.int .i64 0,.slice none 0 0,.slice none 0 0,.int .i64 0,.slice none 0 0,.slice none 0 0] [(0,1,.t 7),(2,1,.t 10),(3,1,.t 12),(4,1,.t 15),(5,1,.t 18)] [(1,3)]),oo 3 (.al [.int .i64 0,.slice none 0 0,.slice none 0 0,.int .i64 0,.slice none 0 0,.slice none 0 0] []),
 ZN (.st 6 (.t 3) (.t 19))]) (.sq (.sq (rg [qF 20 1 1,qL 21 20,qN 22 21,om 23 (i6 0)]) (.bl 0 (.lp [2,3,21,22,23] [64,96,320,480,576,608,1216] (.sq (rg [qB 24 .lss 23 22]) (.sq (.cd (.t 24) (.sk) (.ex 0)) (.sq (.bl 1 (.sq (rg [qI 25 3 21 23,qS 26 3 25,oo 5 (.al [.int .i64 0,.int .i64 0,.slice none 0 0] []),
 ZN (.st 3 (.t 5) (.t 26))]) (.rg (some 0) [qF 27 1 3,qL 28 27,qF 29 0 5,qL 30 29,qF 31 1 5,qL 32 31,qF 33 2 5,qL 34 33,oo 35 (.ca .pure true (.f US) [.t 34]),oo 36 (.bd [.int .i64 0,.int .i64 0,.slice none 0 0] [(0,1,.t 30),(1,1,.t 32),(2,1,.t 35)] []),oo 37 (.bv 3 1 [.int .i64 0,.int .i64 0,.slice none 0 0] [(0,.t 36)]),oo 38 (.ap 3 2 (.t 28) (.t 37)),qF 39 1 3,
 ZN (.st 1 (.t 39) (.t 38))])))
 (rg [oo 40 (.bi .add 0 (.t 23) (i6 1)),qM 23 40]))))))) (.sq (rg [qS 41 6 3,
 ZN (.st 6 (.t 2) (.t 41))]) (.rt))))) }
theorem ZtP:Zo UbM Zc4 Zg1=true:=by kernel_rfl
def Zg2:F2 :=
 { nt:=8,res:=[.t 2 [2]],body:=(.sq (rg [om 2 (.k (.slice none 0 0))]) (.sq (.sq (rg [qM 3 0,oo 4 (.nl false (.t 3))]) (.cd (.t 4) (.sq (rg [om 2 (.k (.slice none 0 0))]) (.rt)) (.sk))) (.sq (rg [oo 5 (.bs 1 0 [] []),qM 6 0,oo 7 (.ap 1 0 (.t 5) (.t 6)),qM 2 7]) (.rt)))) }
theorem ZtQ:Zo UbM Zau Zg2=true:=by kernel_rfl
def Zg3:F2 :=
 { nt:=8,res:=[.t 2 [2]],body:=(.sq (rg [om 2 (.k (.slice none 0 0))]) (.sq (.sq (rg [qM 3 0,oo 4 (.nl false (.t 3))]) (.cd (.t 4) (.sq (rg [om 2 (.k (.slice none 0 0))]) (.rt)) (.sk))) (.sq (rg [oo 5 (.bs 1 0 [] []),qM 6 0,oo 7 (.ap 1 0 (.t 5) (.t 6)),qM 2 7]) (.rt)))) }
theorem ZtR:Zo UbM US Zg3=true:=by kernel_rfl
def Zg4:F2 :=
 { nt:=60,res:=[.t 2 [0]],body:=(.sq (rg [oo 1 (.bt (.t 0)),om 2 (.k (.bool false))]) (.sq (.sq (rg [qF 6 5 1,qL 7 6,qN 8 7,oo 9 (.bi .gtr 0 (.t 8) (i6 0)),qM 10 9,og 11 10 false (.fa 0 (.t 1)),og 12 10 false (.ld none (.t 11)),og 13 10 false (.bi .eql 0 (.t 12) (i6 0)),oo 14 (.pk (.t 10) (.k (.bool true)) (.t 13))]) (.cd (.t 14) (.sq (rg [om 2 (.k (.bool false))]) (.rt)) (.sk))) (.sq (.sq (rg [om 3 (i6 0)]) (.bl 0 (.lp [1,3] [] (.sq (.sq (rg [qM 15 3,qF 16 0 1,qL 17 16,qB 18 .lss 15 17]) (.cd (.t 18) (.sk) (.ex 0))) (.sq (.bl 1 (.sq (rg [qS 21 6 1,qM 22 3,oo 23 (.bi .sub 0 (i6 (-1)) (.t 22)),oo 24 (.ca .pure false (.f Zdk) [.t 21,.t 23]),qN 25 24,oo 26 (.bi .eql 0 (.t 25) (i6 0)),qM 27 26,og 28 27 false (.ld (some 6) (.t 1)),og 29 27 false (.mv (.t 3) none),og 30 27 false (.bi .sub 0 (i6 (-1)) (.t 29)),og 31 27 false (.ca .pure false (.f ZaB) [.t 28,.t 30]),og 32 27 false (.ln (.t 31)),og 33 27 false (.bi .gtr 0 (.t 32) (i6 0)),oo 34 (.pk (.t 27) (.k (.bool true)) (.t 33))]) (.cd (.t 34) (.sq (rg [om 2 (.k (.bool false))]) (.rt)) (.sk))))
 (rg [qM 19 3,oo 20 (.bi .add 0 (.t 19) (i6 1)),qM 3 20])))))) (.sq (.sq (rg [om 4 (i6 0)]) (.bl 2 (.lp [1,4] [] (.sq (.sq (rg [qM 35 4,qF 36 1 1,qL 37 36,qN 38 37,qB 39 .lss 35 38]) (.cd (.t 39) (.sk) (.ex 2))) (.sq (.bl 3 (.sq (rg [qS 42 6 1,qM 43 4,oo 44 (.ca .pure false (.f ZaB) [.t 42,.t 43]),qN 45 44,oo 46 (.bi .gtr 0 (.t 45) (i6 1))]) (.cd (.t 46) (.sq (rg [om 2 (.k (.bool false))]) (.rt)) (.sk))))
 (rg [qM 40 4,oo 41 (.bi .add 0 (.t 40) (i6 1)),qM 4 41])))))) (.sq (.sq (rg [om 5 (i6 0)]) (.bl 4 (.lp [1,5] [] (.sq (.sq (rg [qM 47 5,qF 48 3 1,qL 49 48,qF 50 4 1,qL 51 50,qN 52 51,qB 53 .add 49 52,qB 54 .lss 47 53]) (.cd (.t 54) (.sk) (.ex 4))) (.sq (.bl 5 (.sq (rg [qS 57 6 1,qM 58 5,oo 59 (.ca .pure false (.f Zdl) [.t 57,.t 58])]) (.cd (.t 59) (.sq (rg [om 2 (.k (.bool false))]) (.rt)) (.sk))))
 (rg [qM 55 5,oo 56 (.bi .add 0 (.t 55) (i6 1)),qM 5 56])))))) (.sq (rg [om 2 (.k (.bool true))]) (.rt))))))) }
theorem ZtS:Zo UbM Zc7 Zg4=true:=by kernel_rfl
def Zg5:F2 :=
 { nt:=55,res:=[.t 2 [0]],body:=(.sq (rg [om 2 (.k (.bool false))]) (.sq (.sq (rg [om 3 (i6 0)]) (.bl 0 (.lp [0,3] [] (.sq (.sq (rg [qM 5 3,qM 6 0,qN 7 6,qB 8 .lss 5 7]) (.cd (.t 8) (.sk) (.ex 0))) (.sq (.bl 1 (.sq (.sq (rg [qM 11 0,qM 12 3,qI 13 3 11 12,qF 14 0 13,qL 15 14,oo 16 (.ca .pure false (.f ZaC) [.t 15]),oo 17 (.nt (.t 16)),qM 18 17,og 19 18 false (.mv (.t 0) none),og 20 18 false (.mv (.t 3) none),og 21 18 false (.ia 3 (.t 19) (.t 20)),og 22 18 false (.fa 1 (.t 21)),og 23 18 false (.ld none (.t 22)),og 24 18 false (.ca .pure false (.f VC) [.t 23,i6 0,i6 3]),og 25 18 false (.nt (.t 24)),oo 26 (.pk (.t 18) (.k (.bool true)) (.t 25)),qM 27 26,og 28 27 false (.mv (.t 0) none),og 29 27 false (.mv (.t 3) none),og 30 27 false (.ia 3 (.t 28) (.t 29)),og 31 27 false (.fa 2 (.t 30)),og 32 27 false (.ld none (.t 31)),og 33 27 false (.ca .pure false (.f VC) [.t 32,i6 0,i6 2]),og 34 27 false (.nt (.t 33)),oo 35 (.pk (.t 27) (.k (.bool true)) (.t 34))]) (.cd (.t 35) (.sq (rg [om 2 (.k (.bool false))]) (.rt)) (.sk))) (.sq (rg [om 4 (i6 0)]) (.bl 2 (.lp [0,3,4] [] (.sq (.sq (rg [qM 36 4,qM 37 3,qB 38 .lss 36 37]) (.cd (.t 38) (.sk) (.ex 2))) (.sq (.bl 3 (.sq (.rg (some 0) [qM 41 0,qM 42 4,qI 43 3 41 42,qF 44 0 43,qL 45 44,qM 46 0,qM 47 3,qI 48 3 46 47,qF 49 0 48,qL 50 49,qB 51 .eql 45 50]) (.cd (.t 51) (.sq (rg [om 2 (.k (.bool false))]) (.rt)) (.sk))))
 (rg [qM 39 4,oo 40 (.bi .add 0 (.t 39) (i6 1)),qM 4 40]))))))))
 (rg [qM 9 3,oo 10 (.bi .add 0 (.t 9) (i6 1)),qM 3 10])))))) (.sq (rg [qM 52 0,qN 53 52,oo 54 (.ca .pure false (.f VC) [.t 53,i6 1,i6 6]),qM 2 54]) (.rt)))) }
theorem ZtT:Zo UbM Zc8 Zg5=true:=by kernel_rfl
def Zg6:F2 :=
 { nt:=15,res:=[.t 6 [0]],body:=(.sq (rg [om 6 (.k (.bool false))]) (.sq (rg [qM 7 0,qM 8 1,qB 9 .geq 7 8,qM 10 9,og 11 10 true (.mv (.t 0) none),og 12 10 true (.mv (.t 2) none),og 13 10 true (.bi .leq 0 (.t 11) (.t 12)),oo 14 (.pk (.t 10) (.t 13) (.k (.bool false))),qM 6 14]) (.rt))) }
theorem ZtU:Zo UbM VC Zg6=true:=by kernel_rfl
def Zg7:F2 :=
 { nt:=35,res:=[.t 2 [0]],body:=(.sq (rg [om 2 (.k (.bool false))]) (.sq (.sq (rg [om 3 (i6 0)]) (.bl 0 (.lp [0,3] [] (.sq (.sq (rg [qM 4 3,qM 5 0,qN 6 5,qB 7 .lss 4 6]) (.cd (.t 7) (.sk) (.ex 0))) (.sq (.bl 1 (.sq (.rg (some 0) [qM 10 0,qM 11 3,qI 12 1 10 11,qL 13 12,oo 14 (.ca .pure false (.f ZaC) [.t 13]),oo 15 (.nt (.t 14)),qM 16 15,og 17 16 false (.mv (.t 3) none),og 18 16 false (.bi .gtr 0 (.t 17) (i6 0)),og 19 16 false (.mv (.t 18) none),og 20 19 true (.mv (.t 0) none),og 21 19 true (.mv (.t 3) none),og 22 19 true (.bi .sub 0 (.t 21) (i6 1)),og 23 19 true (.ia 1 (.t 20) (.t 22)),og 24 19 true (.ld none (.t 23)),og 25 19 true (.mv (.t 0) none),og 26 19 true (.mv (.t 3) none),og 27 19 true (.ia 1 (.t 25) (.t 26)),og 28 19 true (.ld none (.t 27)),og 29 19 true (.bi .geq 0 (.t 24) (.t 28)),og 30 16 false (.pk (.t 19) (.t 29) (.k (.bool false))),oo 31 (.pk (.t 16) (.k (.bool true)) (.t 30))]) (.cd (.t 31) (.sq (rg [om 2 (.k (.bool false))]) (.rt)) (.sk))))
 (rg [qM 8 3,oo 9 (.bi .add 0 (.t 8) (i6 1)),qM 3 9])))))) (.sq (rg [qM 32 0,qN 33 32,oo 34 (.bi .leq 0 (.t 33) (i6 16)),qM 2 34]) (.rt)))) }
theorem ZtV:Zo UbM Zav Zg7=true:=by kernel_rfl
def Zg8:F2 :=
 { nt:=23,res:=[.t 2 [2]],body:=(.sq (rg [oo 1 (.bt (.t 0)),om 2 (.k (.slice none 0 0))]) (.sq (rg [oo 5 (.bs 1 0 [] []),qM 3 5]) (.sq (.sq (rg [om 4 (i6 0)]) (.bl 0 (.lp [1,3,4] [160,672] (.sq (.sq (rg [qM 6 4,qF 7 5 1,qL 8 7,qN 9 8,qB 10 .lss 6 9]) (.cd (.t 10) (.sk) (.ex 0))) (.sq (.bl 1 (rg [qM 13 3,qF 14 5 1,qL 15 14,qM 16 4,qI 17 2 15 16,qF 18 0 17,qL 19 18,oo 20 (.bs 1 1 [.string ⟨#[]⟩] [(0,.t 19)]),oo 21 (.ap 1 0 (.t 13) (.t 20)),qM 3 21]))
 (rg [qM 11 4,oo 12 (.bi .add 0 (.t 11) (i6 1)),qM 4 12])))))) (.sq (rg [qM 22 3,qM 2 22]) (.rt))))) }
theorem ZtW:Zo UbM Zc9 Zg8=true:=by kernel_rfl
def Zg9:F2 :=
 { nt:=57,res:=[.t 6 [0]],body:=(.sq (rg [oo 4 (.bt (.t 1)),om 6 (.k (.bool false))]) (.sq (rg [qF 9 1 4,qL 10 9,qM 11 2,qI 12 3 10 11,qS 13 3 12,oo 7 (.al [.int .i64 0,.int .i64 0,.slice none 0 0] []),
 ZN (.st 3 (.t 7) (.t 13))]) (.sq (.sq (.rg (some 0) [qF 14 0 7,qL 15 14,qM 16 0,qN 17 16,oo 18 (.bi .sub 0 (.t 17) (i6 1)),oo 19 (.ca .pure false (.f VC) [.t 15,i6 0,.t 18]),oo 20 (.nt (.t 19)),qM 21 20,og 22 21 false (.mv (.t 0) none),og 23 21 false (.ld (some 6) (.t 4)),og 24 21 false (.fa 1 (.t 7)),og 25 21 false (.ld none (.t 24)),og 26 21 false (.mv (.t 2) none),og 27 21 false (.ca .pure false (.f Zaw) [.t 22,.t 23,.t 25,.t 26]),og 28 21 false (.nt (.t 27)),oo 29 (.pk (.t 21) (.k (.bool true)) (.t 28)),qM 30 29,og 31 30 false (.fa 2 (.t 7)),og 32 30 false (.ld none (.t 31)),og 33 30 false (.ln (.t 32)),og 34 30 false (.mv (.t 0) none),og 35 30 false (.fa 0 (.t 7)),og 36 30 false (.ld none (.t 35)),og 37 30 false (.ia 3 (.t 34) (.t 36)),og 38 30 false (.fa 1 (.t 37)),og 39 30 false (.ld none (.t 38)),og 40 30 false (.bi .neq 0 (.t 33) (.t 39)),oo 41 (.pk (.t 30) (.k (.bool true)) (.t 40))]) (.cd (.t 41) (.sq (rg [om 6 (.k (.bool false))]) (.rt)) (.sk))) (.sq (.sq (rg [om 8 (i6 0)]) (.bl 0 (.lp [4,7,8] [224] (.sq (.sq (rg [qM 42 8,qF 43 2 7,qL 44 43,qN 45 44,qB 46 .lss 42 45]) (.cd (.t 46) (.sk) (.ex 0))) (.sq (.bl 1 (.sq (.rg (some 0) [qS 49 6 4,qF 50 2 7,qL 51 50,qM 52 8,qI 53 1 51 52,qL 54 53,oo 55 (.ca .pure false (.f Zax) [.t 49,.t 54]),oo 56 (.nt (.t 55))]) (.cd (.t 56) (.sq (rg [om 6 (.k (.bool false))]) (.rt)) (.sk))))
 (rg [qM 47 8,oo 48 (.bi .add 0 (.t 47) (i6 1)),qM 8 48])))))) (.sq (rg [om 6 (.k (.bool true))]) (.rt)))))) }
theorem ZtX:Zo UbM Zda Zg9=true:=by kernel_rfl
def Zha:F2 :=
 { nt:=33,res:=[.t 8 [0]],body:=(.sq (rg [oo 5 (.bt (.t 1)),om 8 (.k (.bool false))]) (.sq (.sq (rg [qM 9 2,oo 10 (.bi .lss 0 (.t 9) (i6 0))]) (.cd (.t 10) (.sq (rg [qM 11 2,oo 12 (.bi .sub 0 (i6 (-1)) (.t 11)),qF 13 0 5,qL 14 13,oo 15 (.bi .sub 0 (.t 14) (i6 1)),oo 16 (.ca .pure false (.f VC) [.t 12,i6 0,.t 15]),qM 8 16]) (.rt)) (.sk))) (.sq (rg [qM 17 2,qM 18 3,qB 19 .lss 17 18,qM 20 19,og 21 20 true (.mv (.t 0) none),og 22 20 true (.fa 1 (.t 5)),og 23 20 true (.ld none (.t 22)),og 24 20 true (.mv (.t 2) none),og 25 20 true (.ia 3 (.t 23) (.t 24)),og 26 20 true (.fa 0 (.t 25)),og 27 20 true (.ld none (.t 26)),og 28 20 true (.ia 3 (.t 21) (.t 27)),og 29 20 true (.fa 2 (.t 28)),og 30 20 true (.ld none (.t 29)),og 31 20 true (.bi .neq 0 (.t 30) (i6 2)),oo 32 (.pk (.t 20) (.t 31) (.k (.bool false))),qM 8 32]) (.rt)))) }
theorem ZtY:Zo UbM Zaw Zha=true:=by kernel_rfl
def Zhb:F2 :=
 { nt:=14,res:=[.t 4 [0]],body:=(.sq (rg [oo 2 (.bt (.t 0)),om 4 (.k (.bool false))]) (.sq (rg [qM 5 1,qF 6 3 2,qL 7 6,qF 8 4 2,qL 9 8,qN 10 9,qB 11 .add 7 10,oo 12 (.bi .sub 0 (.t 11) (i6 1)),oo 13 (.ca .pure false (.f VC) [.t 5,i6 0,.t 12]),qM 4 13]) (.rt))) }
theorem ZtZ:Zo UbM Zax Zhb=true:=by kernel_rfl
def Zhc:F2 :=
 { nt:=14,res:=[.t 4 [0]],body:=(.sq (rg [oo 2 (.bt (.t 0)),om 4 (i6 0)]) (.sq (.bl 0 (.lp [1,2] [] (.sq (.sq (rg [qM 5 1,oo 6 (.bi .geq 0 (.t 5) (i6 0))]) (.cd (.t 6) (.sk) (.ex 0))) (.bl 1 (rg [qF 7 1 2,qL 8 7,qM 9 1,qI 10 3 8 9,qF 11 1 10,qL 12 11,qM 1 12]))))) (.sq (rg [qM 13 1,qM 4 13]) (.rt)))) }
theorem Zt0:Zo UbM Zdb Zhc=true:=by kernel_rfl
def Zhd:F2 :=
 { nt:=49,res:=[.t 4 [2],.t 5 [2]],body:=(.sq (rg [oo 2 (.bt (.t 0)),om 4 (.k (.slice none 0 0)),om 5 (.k (.slice none 0 0))]) (.sq (rg [oo 12 (.bs 1 0 [] []),oo 13 (.bs 1 0 [] []),qM 6 12,qM 7 13]) (.sq (.sq (rg [qF 14 1 2,qL 15 14,qN 16 15,om 17 (i6 0)]) (.bl 0 (.lp [1,2,6,7,15,16,17] [384,416,928,1440] (.sq (rg [qB 18 .lss 17 16]) (.sq (.cd (.t 18) (.sk) (.ex 0)) (.sq (.bl 1 (.sq (rg [qM 19 17,qI 20 3 15 17,qS 21 3 20,oo 9 (.al [.int .i64 0,.int .i64 0,.slice none 0 0] []),qM 8 19,
 ZN (.st 3 (.t 9) (.t 21))]) (.sq (rg [qF 22 1 9,qL 23 22,qM 24 1,qB 25 .eql 23 24]) (.cd (.t 25) (rg [qM 26 6,qM 27 8,oo 28 (.bs 1 1 [.int .i64 0] [(0,.t 27)]),oo 29 (.ap 1 0 (.t 26) (.t 28)),qM 6 29]) (.sk)))))
 (rg [oo 30 (.bi .add 0 (.t 17) (i6 1)),qM 17 30]))))))) (.sq (.sq (rg [qF 31 2 2,qL 32 31,qN 33 32,om 34 (i6 0)]) (.bl 2 (.lp [1,6,7,32,33,34] [384,416,928,1440] (.sq (rg [qB 35 .lss 34 33]) (.sq (.cd (.t 35) (.sk) (.ex 2)) (.sq (.bl 3 (.sq (rg [qM 36 34,qI 37 1 32 34,qL 38 37,qM 10 36,qM 11 38]) (.sq (rg [qM 39 11,qM 40 1,qB 41 .eql 39 40]) (.cd (.t 41) (rg [qM 42 7,qM 43 10,oo 44 (.bs 1 1 [.int .i64 0] [(0,.t 43)]),oo 45 (.ap 1 0 (.t 42) (.t 44)),qM 7 45]) (.sk)))))
 (rg [oo 46 (.bi .add 0 (.t 34) (i6 1)),qM 34 46]))))))) (.sq (rg [qM 47 6,qM 48 7,qM 4 47,qM 5 48]) (.rt)))))) }
theorem Zt1:Zo UbM Zdc Zhd=true:=by kernel_rfl
def Zhe:F2 :=
 { nt:=19,res:=[.t 4 [0]],body:=(.sq (rg [oo 2 (.bt (.t 0)),om 4 (.k (.bool false))]) (.sq (rg [qS 8 6 2,qM 9 1,oo 10 (.ca .pure false (.f Zdm) [.t 8,.t 9]),qM 7 10,qE 11 0 7,qE 12 1 7,qM 5 11,qM 6 12]) (.sq (rg [qM 13 5,qN 14 13,qM 15 6,qN 16 15,qB 17 .add 14 16,oo 18 (.bi .eql 0 (.t 17) (i6 0)),qM 4 18]) (.rt)))) }
theorem Zt2:Zo UbM Zdd Zhe=true:=by kernel_rfl
def Zhf:F2 :=
 { nt:=40,res:=[.t 2 [0]],body:=(.sq (rg [om 2 (.k (.bool false))]) (.sq (.sq (rg [qM 5 0,qN 6 5,oo 7 (.ca .pure false (.f V1) [.t 6,i6 1,i6 6]),oo 8 (.nt (.t 7))]) (.cd (.t 8) (.sq (rg [om 2 (.k (.bool false))]) (.rt)) (.sk))) (.sq (.sq (rg [qM 9 0,qN 10 9,om 11 (i6 0)]) (.bl 0 (.lp [0,9,10,11] [] (.sq (rg [qB 12 .lss 11 10]) (.sq (.cd (.t 12) (.sk) (.ex 0)) (.sq (.bl 1 (.sq (rg [qM 13 11,qI 14 3 9 11,qS 15 3 14,oo 4 (.al [.string ⟨#[]⟩,.int .i64 0,.int .i64 0] []),qM 3 13,
 ZN (.st 3 (.t 4) (.t 15))]) (.sq (rg [qF 16 0 4,qL 17 16,oo 18 (.ca .pure false (.f ZaD) [.t 17]),oo 19 (.nt (.t 18)),qM 20 19,og 21 20 false (.fa 1 (.t 4)),og 22 20 false (.ld none (.t 21)),og 23 20 false (.ca .pure false (.f V1) [.t 22,i6 0,i6 3]),og 24 20 false (.nt (.t 23)),oo 25 (.pk (.t 20) (.k (.bool true)) (.t 24)),qM 26 25,og 27 26 false (.fa 2 (.t 4)),og 28 26 false (.ld none (.t 27)),og 29 26 false (.ca .pure false (.f V1) [.t 28,i6 0,i6 2]),og 30 26 false (.nt (.t 29)),oo 31 (.pk (.t 26) (.k (.bool true)) (.t 30)),qM 32 31,og 33 32 false (.mv (.t 0) none),og 34 32 false (.mv (.t 3) none),og 35 32 false (.sx 3 (.t 33) none (some (.t 34)) none),og 36 32 false (.mf ZaE [.t 4]),og 37 32 false (.ca .pure false (.f ZgC) [.t 35,.t 36]),oo 38 (.pk (.t 32) (.k (.bool true)) (.t 37))]) (.cd (.t 38) (.sq (rg [om 2 (.k (.bool false))]) (.rt)) (.sk)))))
 (rg [oo 39 (.bi .add 0 (.t 11) (i6 1)),qM 11 39]))))))) (.sq (rg [om 2 (.k (.bool true))]) (.rt))))) }
theorem Zt3:Zo UbM Zde Zhf=true:=by kernel_rfl
def Zhg:F2 :=
 { nt:=32,res:=[.t 2 [0]],body:=(.sq (rg [om 2 (.k (.bool false))]) (.sq (.sq (rg [qM 5 0,qN 6 5,om 7 (i6 0)]) (.bl 0 (.lp [0,5,6,7] [] (.sq (rg [qB 8 .lss 7 6]) (.sq (.cd (.t 8) (.sk) (.ex 0)) (.sq (.bl 1 (.sq (rg [qM 9 7,qI 10 1 5 7,qL 11 10,qM 3 9,qM 4 11]) (.sq (rg [qM 12 4,oo 13 (.ca .pure false (.f ZaD) [.t 12]),oo 14 (.nt (.t 13)),qM 15 14,og 16 15 false (.mv (.t 3) none),og 17 15 false (.bi .gtr 0 (.t 16) (i6 0)),og 18 15 false (.mv (.t 17) none),og 19 18 true (.mv (.t 4) none),og 20 18 true (.mv (.t 0) none),og 21 18 true (.mv (.t 3) none),og 22 18 true (.bi .sub 0 (.t 21) (i6 1)),og 23 18 true (.ia 1 (.t 20) (.t 22)),og 24 18 true (.ld none (.t 23)),og 25 18 true (.bi .leq 0 (.t 19) (.t 24)),og 26 15 false (.pk (.t 18) (.t 25) (.k (.bool false))),oo 27 (.pk (.t 15) (.k (.bool true)) (.t 26))]) (.cd (.t 27) (.sq (rg [om 2 (.k (.bool false))]) (.rt)) (.sk)))))
 (rg [oo 28 (.bi .add 0 (.t 7) (i6 1)),qM 7 28]))))))) (.sq (rg [qM 29 0,qN 30 29,oo 31 (.bi .leq 0 (.t 30) (i6 16)),qM 2 31]) (.rt)))) }
theorem Zt4:Zo UbM Zay Zhg=true:=by kernel_rfl
def Zhh:F2 :=
 { nt:=21,res:=[.t 2 [2]],body:=(.sq (rg [oo 1 (.bt (.t 0)),om 2 (.k (.slice none 0 0))]) (.sq (rg [oo 6 (.bs 1 0 [] []),qM 3 6]) (.sq (.sq (rg [qF 7 5 1,qL 8 7,qN 9 8,om 10 (i6 0)]) (.bl 0 (.lp [3,8,9,10] [192,576] (.sq (rg [qB 11 .lss 10 9]) (.sq (.cd (.t 11) (.sk) (.ex 0)) (.sq (.bl 1 (.sq (rg [qI 12 2 8 10,qS 13 2 12,oo 5 (.al [.string ⟨#[]⟩,.int .i64 0] []),
 ZN (.st 2 (.t 5) (.t 13))])
 (rg [qM 14 3,qF 15 0 5,qL 16 15,oo 17 (.bs 1 1 [.string ⟨#[]⟩] [(0,.t 16)]),oo 18 (.ap 1 0 (.t 14) (.t 17)),qM 3 18])))
 (rg [oo 19 (.bi .add 0 (.t 10) (i6 1)),qM 10 19]))))))) (.sq (rg [qM 20 3,qM 2 20]) (.rt))))) }
theorem Zt5:Zo UbM Zdf Zhh=true:=by kernel_rfl
def Zhi:F2 :=
 { nt:=32,res:=[.t 8 [0]],body:=(.sq (rg [oo 4 (.bt (.t 0)),om 8 (.k (.bool false))]) (.sq (.sq (rg [qM 9 2,oo 10 (.bi .lss 0 (.t 9) (i6 0))]) (.cd (.t 10) (.sq (rg [qM 11 2,qF 12 0 4,qL 13 12,oo 14 (.ng (.t 13)),qB 15 .geq 11 14,qM 8 15]) (.rt)) (.sk))) (.sq (rg [qM 16 2,qM 17 3,qB 18 .lss 16 17,qM 19 18,og 20 19 true (.mv (.t 1) none),og 21 19 true (.fa 1 (.t 4)),og 22 19 true (.ld none (.t 21)),og 23 19 true (.mv (.t 2) none),og 24 19 true (.ia 3 (.t 22) (.t 23)),og 25 19 true (.fa 0 (.t 24)),og 26 19 true (.ld none (.t 25)),og 27 19 true (.ia 3 (.t 20) (.t 26)),og 28 19 true (.fa 2 (.t 27)),og 29 19 true (.ld none (.t 28)),og 30 19 true (.bi .neq 0 (.t 29) (i6 2)),oo 31 (.pk (.t 19) (.t 30) (.k (.bool false))),qM 8 31]) (.rt)))) }
theorem Zt6:Zo UbM Zaz Zhi=true:=by kernel_rfl
def Zhj:F2 :=
 { nt:=8,res:=[.t 3 [0]],body:=(.sq (rg [om 3 (.k (.bool false))]) (.sq (rg [qS 4 6 1,qM 5 0,oo 6 (.ca .pure false (.f ZaA) [.t 4,.t 5]),oo 7 (.nt (.t 6)),qM 3 7]) (.rt))) }
theorem Zt7:Zo UbM Zdg Zhj=true:=by kernel_rfl
def Zhk:F2 :=
 { nt:=14,res:=[.t 4 [0]],body:=(.sq (rg [oo 2 (.bt (.t 0)),om 4 (.k (.bool false))]) (.sq (rg [qM 5 1,qF 6 3 2,qL 7 6,qF 8 4 2,qL 9 8,qN 10 9,qB 11 .add 7 10,oo 12 (.bi .sub 0 (.t 11) (i6 1)),oo 13 (.ca .pure false (.f V1) [.t 5,i6 0,.t 12]),qM 4 13]) (.rt))) }
theorem Zt8:Zo UbM ZaA Zhk=true:=by kernel_rfl
def Zhl:F2 :=
 { nt:=13,res:=[.t 4 [0]],body:=(.sq (rg [om 4 (.k (.bool false))]) (.sq (rg [qS 5 6 1,qL 6 2,qM 7 0,qF 8 1 1,qL 9 8,qN 10 9,oo 11 (.ca .pure false (.f Zaz) [.t 5,.t 6,.t 7,.t 10]),oo 12 (.nt (.t 11)),qM 4 12]) (.rt))) }
theorem Zt9:Zo UbM Zdh Zhl=true:=by kernel_rfl
def Zhm:F2 :=
 { nt:=9,res:=[.t 3 [0]],body:=(.sq (rg [oo 2 (.bt (.t 0)),om 3 (.k (.bool false))]) (.sq (rg [qS 4 6 1,qF 5 1 2,qL 6 5,oo 7 (.ca .pure false (.f ZaA) [.t 4,.t 6]),oo 8 (.nt (.t 7)),qM 3 8]) (.rt))) }
theorem Zua:Zo UbM Zdi Zhm=true:=by kernel_rfl
def Zhn:F2 :=
 { nt:=8,res:=[.t 2 [3]],body:=(.sq (rg [om 2 (.k (.slice none 0 0))]) (.sq (.sq (rg [qM 3 0,oo 4 (.nl false (.t 3))]) (.cd (.t 4) (.sq (rg [om 2 (.k (.slice none 0 0))]) (.rt)) (.sk))) (.sq (rg [oo 5 (.bs 2 0 [] []),qM 6 0,oo 7 (.ap 2 0 (.t 5) (.t 6)),qM 2 7]) (.rt)))) }
theorem Zub:Zo UbM Zdj Zhn=true:=by kernel_rfl
def Zho:F2 :=
 { nt:=28,res:=[.t 4 [2]],body:=(.sq (rg [oo 2 (.bt (.t 0)),om 4 (.k (.slice none 0 0))]) (.sq (rg [oo 7 (.bs 1 0 [] []),qM 5 7]) (.sq (.sq (rg [om 6 (i6 0)]) (.bl 0 (.lp [1,2,5,6] [224,832] (.sq (.sq (rg [qM 8 6,qF 9 1 2,qL 10 9,qN 11 10,qB 12 .lss 8 11]) (.cd (.t 12) (.sk) (.ex 0))) (.sq (.bl 1 (.sq (rg [qF 15 1 2,qL 16 15,qM 17 6,qI 18 3 16 17,qF 19 1 18,qL 20 19,qM 21 1,qB 22 .eql 20 21]) (.cd (.t 22) (rg [qM 23 5,qM 24 6,oo 25 (.bs 1 1 [.int .i64 0] [(0,.t 24)]),oo 26 (.ap 1 0 (.t 23) (.t 25)),qM 5 26]) (.sk))))
 (rg [qM 13 6,oo 14 (.bi .add 0 (.t 13) (i6 1)),qM 6 14])))))) (.sq (rg [qM 27 5,qM 4 27]) (.rt))))) }
theorem Zuc:Zo UbM Zdk Zho=true:=by kernel_rfl
def Zhp:F2 :=
 { nt:=27,res:=[.t 4 [2]],body:=(.sq (rg [oo 2 (.bt (.t 0)),om 4 (.k (.slice none 0 0))]) (.sq (rg [oo 7 (.bs 1 0 [] []),qM 5 7]) (.sq (.sq (rg [om 6 (i6 0)]) (.bl 0 (.lp [1,2,5,6] [224,800] (.sq (.sq (rg [qM 8 6,qF 9 2 2,qL 10 9,qN 11 10,qB 12 .lss 8 11]) (.cd (.t 12) (.sk) (.ex 0))) (.sq (.bl 1 (.sq (rg [qF 15 2 2,qL 16 15,qM 17 6,qI 18 1 16 17,qL 19 18,qM 20 1,qB 21 .eql 19 20]) (.cd (.t 21) (rg [qM 22 5,qM 23 6,oo 24 (.bs 1 1 [.int .i64 0] [(0,.t 23)]),oo 25 (.ap 1 0 (.t 22) (.t 24)),qM 5 25]) (.sk))))
 (rg [qM 13 6,oo 14 (.bi .add 0 (.t 13) (i6 1)),qM 6 14])))))) (.sq (rg [qM 26 5,qM 4 26]) (.rt))))) }
theorem Zud:Zo UbM ZaB Zhp=true:=by kernel_rfl
def Zhq:F2 :=
 { nt:=17,res:=[.t 4 [0]],body:=(.sq (rg [oo 2 (.bt (.t 0)),om 4 (.k (.bool false))]) (.sq (rg [qS 5 6 2,qM 6 1,oo 7 (.ca .pure false (.f Zdn) [.t 5,.t 6]),qN 8 7,oo 9 (.bi .eql 0 (.t 8) (i6 0)),qM 10 9,og 11 10 true (.ld (some 6) (.t 2)),og 12 10 true (.mv (.t 1) none),og 13 10 true (.ca .pure false (.f Zdo) [.t 11,.t 12]),og 14 10 true (.ln (.t 13)),og 15 10 true (.bi .eql 0 (.t 14) (i6 0)),oo 16 (.pk (.t 10) (.t 15) (.k (.bool false))),qM 4 16]) (.rt))) }
theorem Zue:Zo UbM Zdl Zhq=true:=by kernel_rfl
def Zhr:F2 :=
 { nt:=23,res:=[.t 2 [0]],body:=(.sq (rg [om 2 (.k (.bool false))]) (.sq (.sq (rg [om 3 (i6 0)]) (.bl 0 (.lp [0,3] [] (.sq (.sq (rg [qM 4 3,qM 5 0,oo 6 (.lg (.t 5)),qB 7 .lss 4 6]) (.cd (.t 7) (.sk) (.ex 0))) (.sq (.bl 1 (.sq (rg [qM 10 0,qM 11 3,oo 12 (.ix (.t 10) (.t 11)),oo 13 (.bi .lss 0 (.t 12) (.k (.int .u8 97))),qM 14 13,og 15 14 false (.mv (.t 0) none),og 16 14 false (.mv (.t 3) none),og 17 14 false (.ix (.t 15) (.t 16)),og 18 14 false (.bi .gtr 0 (.t 17) (.k (.int .u8 122))),oo 19 (.pk (.t 14) (.k (.bool true)) (.t 18))]) (.cd (.t 19) (.sq (rg [om 2 (.k (.bool false))]) (.rt)) (.sk))))
 (rg [qM 8 3,oo 9 (.bi .add 0 (.t 8) (i6 1)),qM 3 9])))))) (.sq (rg [qM 20 0,oo 21 (.lg (.t 20)),oo 22 (.ca .pure false (.f VC) [.t 21,i6 1,i6 4]),qM 2 22]) (.rt)))) }
theorem Zuf:Zo UbM ZaC Zhr=true:=by kernel_rfl
def Zhs:F2 :=
 { nt:=62,res:=[.t 4 [3],.t 5 [2]],body:=(.sq (rg [oo 2 (.bt (.t 0)),om 4 (.k (.slice none 0 0)),om 5 (.k (.slice none 0 0))]) (.sq (rg [oo 14 (.bs 2 0 [] []),oo 15 (.bs 1 0 [] []),qM 6 14,qM 7 15]) (.sq (.sq (rg [qF 16 1 2,qL 17 16,qN 18 17,om 19 (i6 0)]) (.bl 0 (.lp [1,2,6,7,17,18,19] [448,480,1280,1856] (.sq (rg [qB 20 .lss 19 18]) (.sq (.cd (.t 20) (.sk) (.ex 0)) (.sq (.bl 1 (.sq (rg [qM 21 19,qI 22 3 17 19,qS 23 3 22,oo 9 (.al [.int .i64 0,.int .i64 0,.slice none 0 0] []),qM 8 21,
 ZN (.st 3 (.t 9) (.t 23))]) (.sq (rg [qF 24 2 9,qL 25 24,qN 26 25,om 27 (i6 0)]) (.bl 2 (.lp [1,2,6,7,8,17,18,19,25,26,27] [288,448,480,1280,1856] (.sq (rg [qB 28 .lss 27 26]) (.sq (.cd (.t 28) (.sk) (.ex 2)) (.sq (.bl 3 (.sq (rg [qM 29 27,qI 30 1 25 27,qL 31 30,qM 10 29,qM 11 31]) (.sq (rg [qM 32 11,qM 33 1,qB 34 .eql 32 33]) (.cd (.t 34) (rg [qM 35 6,qM 36 8,qM 37 10,oo 38 (.bd [.int .i64 0,.int .i64 0] [(0,1,.t 36),(1,1,.t 37)] []),oo 39 (.bs 2 1 [.int .i64 0,.int .i64 0] [(0,.t 38)]),oo 40 (.ap 2 0 (.t 35) (.t 39)),qM 6 40]) (.sk)))))
 (rg [oo 41 (.bi .add 0 (.t 27) (i6 1)),qM 27 41])))))))))
 (rg [oo 42 (.bi .add 0 (.t 19) (i6 1)),qM 19 42]))))))) (.sq (.sq (rg [qF 43 5 2,qL 44 43,qN 45 44,om 46 (i6 0)]) (.bl 4 (.lp [1,6,7,44,45,46] [448,480,1280,1856] (.sq (rg [qB 47 .lss 46 45]) (.sq (.cd (.t 47) (.sk) (.ex 4)) (.sq (.bl 5 (.sq (rg [qI 48 2 44 46,qS 49 2 48,oo 13 (.al [.string ⟨#[]⟩,.int .i64 0] []),
 ZN (.st 2 (.t 13) (.t 49))]) (.sq (rg [qF 50 1 13,qL 51 50,qM 52 1,qB 53 .eql 51 52]) (.cd (.t 53) (rg [qM 54 7,qF 55 0 13,qL 56 55,oo 57 (.bs 1 1 [.string ⟨#[]⟩] [(0,.t 56)]),oo 58 (.ap 1 0 (.t 54) (.t 57)),qM 7 58]) (.sk)))))
 (rg [oo 59 (.bi .add 0 (.t 46) (i6 1)),qM 46 59]))))))) (.sq (rg [qM 60 6,qM 61 7,qM 4 60,qM 5 61]) (.rt)))))) }
theorem Zug:Zo UbM Zdm Zhs=true:=by kernel_rfl
def Zht:F2 :=
 { nt:=11,res:=[.t 2 [0]],body:=(.sq (rg [om 2 (.k (.bool false))]) (.sq (rg [qM 3 0,oo 4 (.lg (.t 3)),oo 5 (.ca .pure false (.f V1) [.t 4,i6 1,i6 4]),qM 6 5,og 7 6 true (.mv (.t 0) none),og 8 6 true (.ca .pure false (.f ZgE) [.t 7,.k (.string ⟨#[97,98,99,100,101,102,103,104,105,106,107,108,109,110,111,112,113,114,115,116,117,118,119,120,121,122]⟩)]),og 9 6 true (.bi .eql 0 (.t 8) (.k (.string ⟨#[]⟩))),oo 10 (.pk (.t 6) (.t 9) (.k (.bool false))),qM 2 10]) (.rt))) }
theorem Zuh:Zo UbM ZaD Zht=true:=by kernel_rfl
def Zhu:F2 :=
 { nt:=9,res:=[.t 3 [0]],body:=(.sq (rg [oo 2 (.bt (.t 0)),om 3 (.k (.bool false))]) (.sq (rg [qF 4 0 2,qL 5 4,qF 6 0 1,qL 7 6,qB 8 .eql 5 7,qM 3 8]) (.rt))) }
theorem Zui:Zo UbM ZaE Zhu=true:=by kernel_rfl
def Zhv:F2 :=
 { nt:=45,res:=[.t 4 [3]],body:=(.sq (rg [oo 2 (.bt (.t 0)),om 4 (.k (.slice none 0 0))]) (.sq (rg [oo 8 (.bs 2 0 [] []),qM 5 8]) (.sq (.sq (rg [om 6 (i6 0)]) (.bl 0 (.lp [1,2,5,6] [256,1376] (.sq (.sq (rg [qM 9 6,qF 10 1 2,qL 11 10,qN 12 11,qB 13 .lss 9 12]) (.cd (.t 13) (.sk) (.ex 0))) (.sq (.bl 1 (.sq (rg [om 7 (i6 0)]) (.bl 2 (.lp [1,2,5,6,7] [256,1376] (.sq (.sq (rg [qM 16 7,qF 17 1 2,qL 18 17,qM 19 6,qI 20 3 18 19,qF 21 2 20,qL 22 21,qN 23 22,qB 24 .lss 16 23]) (.cd (.t 24) (.sk) (.ex 2))) (.sq (.bl 3 (.sq (rg [qF 27 1 2,qL 28 27,qM 29 6,qI 30 3 28 29,qF 31 2 30,qL 32 31,qM 33 7,qI 34 1 32 33,qL 35 34,qM 36 1,qB 37 .eql 35 36]) (.cd (.t 37) (rg [qM 38 5,qM 39 6,qM 40 7,oo 41 (.bd [.int .i64 0,.int .i64 0] [(0,1,.t 39),(1,1,.t 40)] []),oo 42 (.bs 2 1 [.int .i64 0,.int .i64 0] [(0,.t 41)]),oo 43 (.ap 2 0 (.t 38) (.t 42)),qM 5 43]) (.sk))))
 (rg [qM 25 7,oo 26 (.bi .add 0 (.t 25) (i6 1)),qM 7 26])))))))
 (rg [qM 14 6,oo 15 (.bi .add 0 (.t 14) (i6 1)),qM 6 15])))))) (.sq (rg [qM 44 5,qM 4 44]) (.rt))))) }
theorem Zuj:Zo UbM Zdn Zhv=true:=by kernel_rfl
def Zhw:F2 :=
 { nt:=33,res:=[.t 4 [2]],body:=(.sq (rg [oo 2 (.bt (.t 0)),om 4 (.k (.slice none 0 0))]) (.sq (rg [oo 7 (.bs 1 0 [] []),qM 5 7]) (.sq (.sq (rg [om 6 (i6 0)]) (.bl 0 (.lp [1,2,5,6] [224,992] (.sq (.sq (rg [qM 8 6,qF 9 5 2,qL 10 9,qN 11 10,qB 12 .lss 8 11]) (.cd (.t 12) (.sk) (.ex 0))) (.sq (.bl 1 (.sq (rg [qF 15 5 2,qL 16 15,qM 17 6,qI 18 2 16 17,qF 19 1 18,qL 20 19,qM 21 1,qB 22 .eql 20 21]) (.cd (.t 22) (rg [qM 23 5,qF 24 5 2,qL 25 24,qM 26 6,qI 27 2 25 26,qF 28 0 27,qL 29 28,oo 30 (.bs 1 1 [.string ⟨#[]⟩] [(0,.t 29)]),oo 31 (.ap 1 0 (.t 23) (.t 30)),qM 5 31]) (.sk))))
 (rg [qM 13 6,oo 14 (.bi .add 0 (.t 13) (i6 1)),qM 6 14])))))) (.sq (rg [qM 32 5,qM 4 32]) (.rt))))) }
theorem Zuk:Zo UbM Zdo Zhw=true:=by kernel_rfl
def QY(k:Nat)(m:Option Nat):F2 :=
 { nt:=19,res:=[.t 4 [0]],body:=(.sq (.rg none [⟨some 4,none,.mv (.k (.int .i64 0)) none⟩]) (.sq (.sq (.rg none [⟨some 6,none,.mv (.t 0) none⟩,
    ⟨some 7,none,.ln (.t 6)⟩,
    ⟨some 8,none,.mv (.k (.int .i64 0)) none⟩]) (.bl 0 (.lp [0,1,7,8] [] (.sq (.rg none [⟨some 9,none,.bi .lss 0 (.t 8) (.t 7)⟩]) (.sq (.cd (.t 9) (.sk) (.ex 0)) (.sq (.bl 1 (.sq (.rg none [⟨some 10,none,.mv (.t 8) none⟩,
      ⟨some 5,none,.mv (.t 10) none⟩]) (.sq (.rg none [⟨some 11,none,.mv (.t 1) none⟩,
      ⟨some 12,none,.mv (.t 0) none⟩,
      ⟨some 13,none,.mv (.t 5) none⟩,
      ⟨some 14,none,.ia k (.t 12) (.t 13)⟩,
      ⟨some 15,none,.ld m (.t 14)⟩,
      ⟨some 16,none,.ca .pure false (.t 11) [.t 15]⟩]) (.cd (.t 16) (.sq (.rg none [⟨some 17,none,.mv (.t 5) none⟩,
      ⟨some 4,none,.mv (.t 17) none⟩]) (.rt)) (.sk))))) (.rg none [⟨some 18,none,.bi .add 0 (.t 8) (.k (.int .i64 1))⟩,
    ⟨some 8,none,.mv (.t 18) none⟩]))))))) (.sq (.rg none [⟨some 4,none,.mv (.k (.int .i64 (-1))) none⟩]) (.rt)))) }
def XY(fi:FuncId):F2 :=
 { nt:=9,res:=[.t 4 [0]],body:=(.sq (.rg none [⟨some 4,none,.mv (.k (.bool false)) none⟩]) (.sq (.rg none [⟨some 5,none,.mv (.t 0) none⟩,
   ⟨some 6,none,.mv (.t 1) none⟩,
   ⟨some 7,none,.ca .pure false (.f fi) [.t 5,.t 6]⟩,
   ⟨some 8,none,.bi .geq 0 (.t 7) (.k (.int .i64 0))⟩,
   ⟨some 4,none,.mv (.t 8) none⟩]) (.rt))) }
def Zds  : F2 :=
 { nt:=26,res:=[.t 4 [0]],body:=(.sq (.rg none [⟨some 4,none,.mv (.k (.bool false)) none⟩]) (.sq (.sq (.rg none [⟨some 6,none,.mv (.t 0) none⟩,
    ⟨some 7,none,.ln (.t 6)⟩,
    ⟨some 8,none,.mv (.t 1) none⟩,
    ⟨some 9,none,.ln (.t 8)⟩,
    ⟨some 10,none,.bi .neq 0 (.t 7) (.t 9)⟩]) (.cd (.t 10) (.sq (.rg none [⟨some 4,none,.mv (.k (.bool false)) none⟩]) (.rt)) (.sk))) (.sq (.sq (.rg none [⟨some 11,none,.mv (.t 0) none⟩,
    ⟨some 12,none,.ln (.t 11)⟩,
    ⟨some 13,none,.mv (.k (.int .i64 0)) none⟩]) (.bl 0 (.lp [0,1,12,13] [] (.sq (.rg none [⟨some 14,none,.bi .lss 0 (.t 13) (.t 12)⟩]) (.sq (.cd (.t 14) (.sk) (.ex 0)) (.sq (.bl 1 (.sq (.rg none [⟨some 15,none,.mv (.t 13) none⟩,
      ⟨some 5,none,.mv (.t 15) none⟩]) (.sq (.rg (some 0) [⟨some 16,none,.mv (.t 0) none⟩,
      ⟨some 17,none,.mv (.t 5) none⟩,
      ⟨some 18,none,.ia 1 (.t 16) (.t 17)⟩,
      ⟨some 19,none,.ld none (.t 18)⟩,
      ⟨some 20,none,.mv (.t 1) none⟩,
      ⟨some 21,none,.mv (.t 5) none⟩,
      ⟨some 22,none,.ia 1 (.t 20) (.t 21)⟩,
      ⟨some 23,none,.ld none (.t 22)⟩,
      ⟨some 24,none,.bi .neq 0 (.t 19) (.t 23)⟩]) (.cd (.t 24) (.sq (.rg none [⟨some 4,none,.mv (.k (.bool false)) none⟩]) (.rt)) (.sk))))) (.rg none [⟨some 25,none,.bi .add 0 (.t 13) (.k (.int .i64 1))⟩,
    ⟨some 13,none,.mv (.t 25) none⟩]))))))) (.sq (.rg none [⟨some 4,none,.mv (.k (.bool true)) none⟩]) (.rt))))) }
end Go.Fd

namespace Go.Fd
set_option maxRecDepth 20000
section rules
variable {L:Zc} {F:List IV->Prop} {lvl:Nat}
theorem UT:∀{l:List (List Tr)} {F:List IV->Prop},ZY L (l.map IV.ta) F=F (l.map IV.ta)
 | [],F=>Zb5
 | x::r,F=>by
  simp only[Ual]
  rw[Zf3,UT]
  rfl
theorem XA{Pd:Zd->Prop}:∀{l:List (List Tr)},Za Pd (l.map IV.ta)=True
 | []=>rfl
 | x::r=>by
  simp only[Ual,Za,men,true_and]
  exact XA
theorem V2{js:List Nat}{l:List (List Tr)}:Vd lvl js (l.map IV.ta)=True:=XA
end rules
section
variable {P:Program} {α:Type}
theorem Jn{α β:Type}{c:α->β}{l:List α}{j:Nat}(h:j<l.length):(l.map c)[j]? = some (c l[j]):=by simp [h]
theorem Zul{α:Type}{c:α->List Tr}{l:List α}{j:Nat}:cut (l.map c) 0 (j-0)=(l.take j).map c:=by
 simp only[cut,UbF,Nat.sub_zero,List.map_take]
theorem Zhx{α:Type}{l:List α}{j:Nat}(h:j<l.length):l.drop j=l[j]::l.drop (j+1):=Ubi h
def VD(f:α->Bool):List α->Int->Int
 | [],_=>-1
 | x::r,j=>if f x=true then j else VD f r (j+1)
theorem Zdt{f:α->Bool}{x:α}{r:List α}{j:Int}:VD f (x::r) j=if f x=true then j else VD f r (j+1):=rfl
theorem Zhy{f:α->Bool}:∀{l:List α} {j:Int},0<=j->(0<=VD f l j↔l.any f=true)
 | [],j,_=>by simp [VD]
 | x::r,j,h=>by
  rw[Zdt,List.any_cons]
  cases hx:f x with
  | true=>simp [h]
  | false =>
   simp only[UaU,if_false,Bool.false_or]
   exact Zhy (by omega)
theorem Zum{fid:FuncId}(hc:Zo P fid (QY 1 none)=true){t:α->Tr}{f:α->Bool}{fe:FuncId}{cs:List (List Tr)}(l:List α)(hl:l.length<=9223372036854775807)
  (hf:∀ x∈l,∀ lvl S,Sem P fe lvl (.tr (t x)::cs.map IV.ta) S (iB (f x)) S) (lvl:Nat) (S:Zc):Sem P fid lvl [.tr (.sl (l.map fun x=>[t x])),.fn fe (cs.map IV.ta)] S (iI (VD f l 0)) S:=by
 refine Zw hc trivial ?_
 simp only[QY,Uaa,V2,Zb,seval,Za,men]
 refine Jf (α:=Unit) l.length (fun j _=>[(8,iI j)]) (fun _ _=>[]) (fun j _=>VD f (l.drop j) j=VD f l 0) () (by simp only[V2,Zb,seval,Za,men]) (by (simp only[Zb,seval,Za,men]) <;> rfl) rfl ?_
 intro j _ hj hA
 simp only[Uaa,V2,Zb,seval,Za,men]
 refine Zx (fun hlt=>?_) (fun hge=>?_)
 ·have hja:j<l.length:=by omega
  have ga:=Jn (c:=fun x=>[t x]) hja
  rw[Zhx hja,Zdt] at hA
  simp only[ga,V2,UT,XA,Zb,seval,Za,men]
  refine Zg (hf _ (Uan hja)) ?_
  simp only[XA,V2,Zb,seval,Za,men]
  refine Zx (fun h=>?_) (fun h=>?_)
  ·rw[if_pos h] at hA
   rw[<-hA]
  ·rw[if_neg h] at hA
   exact⟨by rw[Zn];omega,ZI () hja rfl hA⟩
 ·have:j=l.length:=by omega
  subst this
  rw[UbG] at hA
  rw[<-hA]
  rfl
theorem Zun{k:Nat}{fid:FuncId}(hc:Zo P fid (QY k (some k))=true){c:α->List Tr}(hk:∀ x,(c x).length=k){f:α->Bool}{fe:FuncId}{cs:List (List Tr)}(l:List α)(hl:l.length<=9223372036854775807)
  (hf:∀ x∈l,∀ lvl S,Sem P fe lvl (.ag ((c x).map .tr)::cs.map IV.ta) S (iB (f x)) S) (lvl:Nat) (S:Zc):Sem P fid lvl [.tr (.sl (l.map c)),.fn fe (cs.map IV.ta)] S (iI (VD f l 0)) S:=by
 refine Zw hc trivial ?_
 simp only[QY,Uaa,V2,Zb,seval,Za,men]
 refine Jf (α:=Unit) l.length (fun j _=>[(8,iI j)]) (fun _ _=>[]) (fun j _=>VD f (l.drop j) j=VD f l 0) () (by simp only[V2,Zb,seval,Za,men]) (by (simp only[Zb,seval,Za,men]) <;> rfl) rfl ?_
 intro j _ hj hA
 simp only[Uaa,V2,Zb,seval,Za,men]
 refine Zx (fun hlt=>?_) (fun hge=>?_)
 ·have hja:j<l.length:=by omega
  have ga:=Jn (c:=c) hja
  have hkk:=hk l[j]
  have htk:(c l[j]).take k=c l[j]:=UaP (by omega)
  rw[Zhx hja,Zdt] at hA
  simp only[ga,hkk,htk,V2,UT,Zca,XA,Zac,Zb,seval,Za,men]
  refine Zg (hf _ (Uan hja)) ?_
  simp only[XA,Zac,V2,Zb,seval,Za,men]
  refine Zx (fun h=>?_) (fun h=>?_)
  ·rw[if_pos h] at hA
   rw[<-hA]
  ·rw[if_neg h] at hA
   exact⟨by rw[Zn];omega,ZI () hja rfl hA⟩
 ·have:j=l.length:=by omega
  subst this
  rw[UbG] at hA
  rw[<-hA]
  rfl
theorem Zhz{fid fi:FuncId}(hc:Zo P fid (XY fi)=true){es:Ze}{f:α->Bool}{fe:FuncId}{cs:List (List Tr)}{l:List α}
  (hi:∀ lvl S,Sem P fi lvl [.tr (.sl es),.fn fe (cs.map IV.ta)] S (iI (VD f l 0)) S) (lvl:Nat) (S:Zc):Sem P fid lvl [.tr (.sl es),.fn fe (cs.map IV.ta)] S (iB (l.any f)) S:=by
 refine Zw hc trivial ?_
 simp only[XY,UT,XA,V2,Zb,seval,Za,men]
 refine Zg hi ?_
 simp only[UT,XA,Zb,seval,Za,men]
 have:=Zhy (f:=f) (l:=l) (Ua4 0)
 by_cases h:l.any f=true
 ·simp [h,this.2 h]
 ·simp [h,mt this.1 h]
theorem Zdu{fid fi:FuncId}(hc:Zo P fid (XY fi)=true)(hi:Zo P fi (QY 1 none)=true){t:α->Tr}{f:α->Bool}{fe:FuncId}{cs:List (List Tr)}(l:List α)(hl:l.length<=9223372036854775807)
  (hf:∀ x∈l,∀ lvl S,Sem P fe lvl (.tr (t x)::cs.map IV.ta) S (iB (f x)) S) (lvl:Nat) (S:Zc):Sem P fid lvl [.tr (.sl (l.map fun x=>[t x])),.fn fe (cs.map IV.ta)] S (iB (l.any f)) S :=
 Zhz hc (Zum hi l hl hf) lvl S
theorem ZhA{k:Nat}{fid fi:FuncId}(hc:Zo P fid (XY fi)=true)(hi:Zo P fi (QY k (some k))=true){c:α->List Tr}(hk:∀ x,(c x).length=k){f:α->Bool}{fe:FuncId}{cs:List (List Tr)}(l:List α)(hl:l.length<=9223372036854775807)
  (hf:∀ x∈l,∀ lvl S,Sem P fe lvl (.ag ((c x).map .tr)::cs.map IV.ta) S (iB (f x)) S) (lvl:Nat) (S:Zc):Sem P fid lvl [.tr (.sl (l.map c)),.fn fe (cs.map IV.ta)] S (iB (l.any f)) S :=
 Zhz hc (Zun hi hk l hl hf) lvl S
structure Cmp (t:α->Tr):Prop where
 neq:∀(x y:α) (F:IV->Prop),ZS .neq 0 (.tr (t x)) (.tr (t y)) F=F (iB (!(@decide (x=y) (Classical.propDecidable _))))
 eql:∀(x y:α) (F:IV->Prop),ZS .eql 0 (.tr (t x)) (.tr (t y)) F=F (iB (@decide (x=y) (Classical.propDecidable _)))
theorem Zuo:Cmp ts:=⟨fun x y F=>by rw[ZfL];congr 2;by_cases h:x=y <;> simp [h],fun x y F=>by rw[ZfK];congr 2;by_cases h:x=y <;> simp [h]⟩
theorem Zup{fid:FuncId}(hc:Zo P fid Zds=true)[DecidableEq α]{t:α->Tr}(hT:Cmp t)(a b:List α)(ha:a.length<=9223372036854775807)(lvl:Nat)(S:Zc):Sem P fid lvl [.tr (.sl (a.map fun x=>[t x])),.tr (.sl (b.map fun x=>[t x]))] S (iB (decide (a=b))) S:=by
 refine Zw hc trivial ?_
 simp only[Zds,Uaa,Zb,seval,Za,men]
 refine Zx (fun h=>?_) (fun h=>?_)
 ·have:¬ a=b:=fun e=>h (by rw[e])
  simp [this]
 have hlen:a.length=b.length:=by omega
 refine Jf (α:=Unit) a.length (fun j _=>[(13,iI j)]) (fun _ _=>[]) (fun j _=>a.take j=b.take j) () (by simp only[Zb,seval,Za,men]) (by (simp only[Zb,seval,Za,men]) <;> rfl) rfl ?_
 intro j _ hj hA
 simp only[Uaa,Zb,seval,Za,men]
 refine Zx (fun hlt=>?_) (fun hge=>?_)
 ·have hja:j<a.length:=by omega
  have hjb:j<b.length:=by omega
  have ga:=Jn (c:=fun x=>[t x]) hja
  have gb:=Jn (c:=fun x=>[t x]) hjb
  have hq:=hT.neq a[j] b[j]
  simp only[ga,gb,hq,Zb,seval,Za,men]
  refine Zx (fun hne=>?_) (fun he=>?_)
  ·have:¬ a=b:=Zag hja hjb (by simpa using hne)
   simp [this]
  ·exact⟨by rw[Zn];omega,ZI () hja rfl (Zai hja hjb hA (by simpa using he))⟩
 ·have:j=a.length:=by omega
  subst this
  have:a=b:=Zah hlen hA
  simp [this]
end
end Go.Fd

namespace Go.Fd
open Go.Proofs.Tryz renaming prog->UbM
set_option maxRecDepth 20000
noncomputable def dc(p:Prop):Bool:=@decide p (Classical.propDecidable p)
theorem dc_iff{p:Prop}:dc p=true↔p:=by unfold dc;simp
theorem J3{p:Prop}(h:p):dc p=true:=dc_iff.2 h
theorem ZD{p:Prop}(h:¬ p):dc p=false:=by
 cases hh:dc p with
 | false=>rfl
 | true=>exact absurd (dc_iff.1 hh) h
theorem dc_not{p:Prop}:dc p=false ↔ ¬ p:=⟨fun h hp=>(by rw[J3 hp] at h;cases h),ZD⟩
theorem Ym{p q:Prop}(h:p↔q):dc p=dc q:=by rw[propext h]
theorem Vb{p:Prop}[Decidable p]:dc p=decide p:=by
 by_cases h:p
 ·rw[J3 h];simp [h]
 ·rw[ZD h];simp [h]
abbrev g0(l:List Int)(i:Nat):Int:=l.getD i 0
abbrev A3:=Int×Int×Int
abbrev g3(l:List A3)(i:Nat):A3:=l.getD i (0,0,0)
theorem Vm{l:List Int}{i:Nat}(h:i<l.length):(rI l)[i]? = some [tv (g0 l i)]:=by simp [h]
def J4(n a b:Int):Bool:=decide (a<=n)&&decide (n<=b)
theorem inB_iff{n a b:Int}:J4 n a b=true↔a<=n/\n<=b:=by simp [J4]
theorem inB_not{n a b:Int}:J4 n a b=false ↔ ¬ (a<=n/\n<=b):=by
 rw[<-inB_iff];cases J4 n a b <;> simp
theorem Qp(n a b:Int)(lvl:Nat)(S:Zc):Sem UbM VC lvl [iI n,iI a,iI b] S (iB (J4 n a b)) S:=by
 refine Zw ZtU trivial ?_
 simp only[Zg6,Zb,seval,Za,men]
 refine Zx (fun h=>?_) (fun h=>?_) <;> simp [J4,h]
theorem QZ(n a b:Int)(lvl:Nat)(S:Zc):Sem UbM V1 lvl [iI n,iI a,iI b] S (iB (J4 n a b)) S:=by
 refine Zw ZtM trivial ?_
 simp only[ZgZ,Zb,seval,Za,men]
 refine Zx (fun h=>?_) (fun h=>?_) <;> simp [J4,h]
end Go.Fd

namespace Go.Proofs
open Go.Shelf
def Tryz.lays160_ren:Go.Shelf.Ren:=⟨fun | 160=>107 | 232=>110 | 231=>109 | 227=>111 | 234=>113 | 233=>112 | 236=>115 | 235=>114 | 228=>116 | 271=>119 | 151=>118 | 197=>117 | 120=>122 | 152=>121 | 260=>120 | 137=>123 | 119=>124 | 224=>125 | 225=>126 | 217=>127 | 266=>128 | n=>n,fun | 9=>9 | 4=>4 | 3=>3 | 5=>5 | 117=>131 | 116=>130 | 0=>0 | 124=>134 | 21=>21 | 105=>136 | 46=>141 | 119=>140 | 139=>144 | 138=>143 | n=>n,fun | 3=>0 | 4=>1 | n=>n⟩
theorem Tryz.lays160:Go.Proofs.Lays.n160 Tryz.prog Tryz.lays160_ren:={
  mixed:=by kernel_rfl,
  f119:=Tryz.func124.trans (congrArg some (by kernel_rfl)),
  f120:=Tryz.func122.trans (congrArg some (by kernel_rfl)),
  f137:=Tryz.func123.trans (congrArg some (by kernel_rfl)),
  f151:=Tryz.func118.trans (congrArg some (by kernel_rfl)),
  f152:=Tryz.func121.trans (congrArg some (by kernel_rfl)),
  f160:=Tryz.func107.trans (congrArg some (by kernel_rfl)),
  f197:=Tryz.func117.trans (congrArg some (by kernel_rfl)),
  f217:=Tryz.func127.trans (congrArg some (by kernel_rfl)),
  f224:=Tryz.func125.trans (congrArg some (by kernel_rfl)),
  f225:=Tryz.func126.trans (congrArg some (by kernel_rfl)),
  f227:=Tryz.func111.trans (congrArg some (by kernel_rfl)),
  f228:=Tryz.func116.trans (congrArg some (by kernel_rfl)),
  f231:=Tryz.func109.trans (congrArg some (by kernel_rfl)),
  f232:=Tryz.func110.trans (congrArg some (by kernel_rfl)),
  f233:=Tryz.func112.trans (congrArg some (by kernel_rfl)),
  f234:=Tryz.func113.trans (congrArg some (by kernel_rfl)),
  f235:=Tryz.func114.trans (congrArg some (by kernel_rfl)),
  f236:=Tryz.func115.trans (congrArg some (by kernel_rfl)),
  f260:=Tryz.func120.trans (congrArg some (by kernel_rfl)),
  f266:=Tryz.func128.trans (congrArg some (by kernel_rfl)),
  f271:=Tryz.func119.trans (congrArg some (by kernel_rfl)),
  t0:=Tryz.underlying0,
  a0:=Tryz.isAgg0,
  z0:=Tryz.sizeOf0,
  v0:=Tryz.zeroValue0,
  t3:=Tryz.underlying3,
  a3:=Tryz.isAgg3,
  z3:=Tryz.sizeOf3,
  v3:=Tryz.zeroValue3,
  t4:=Tryz.underlying4,
  a4:=Tryz.isAgg4,
  z4:=Tryz.sizeOf4,
  v4:=Tryz.zeroValue4,
  t5:=Tryz.underlying5,
  a5:=Tryz.isAgg5,
  z5:=Tryz.sizeOf5,
  v5:=Tryz.zeroValue5,
  t9:=Tryz.underlying9,
  a9:=Tryz.isAgg9,
  z9:=Tryz.sizeOf9,
  v9:=Tryz.zeroValue9,
  t21:=Tryz.underlying21,
  a21:=Tryz.isAgg21,
  z21:=Tryz.sizeOf21,
  v21:=Tryz.zeroValue21,
  t46:=Tryz.underlying141,
  a46:=Tryz.isAgg141,
  z46:=Tryz.sizeOf141,
  v46:=Tryz.zeroValue141,
  t105:=Tryz.underlying136,
  a105:=Tryz.isAgg136,
  z105:=Tryz.sizeOf136,
  v105:=Tryz.zeroValue136,
  t116:=Tryz.underlying130,
  a116:=Tryz.isAgg130,
  z116:=Tryz.sizeOf130,
  t117:=Tryz.underlying131,
  a117:=Tryz.isAgg131,
  z117:=Tryz.sizeOf131,
  v117:=Tryz.zeroValue131,
  t119:=Tryz.underlying140,
  a119:=Tryz.isAgg140,
  z119:=Tryz.sizeOf140,
  t124:=Tryz.underlying134,
  a124:=Tryz.isAgg134,
  z124:=Tryz.sizeOf134,
  v124:=Tryz.zeroValue134,
  t138:=Tryz.underlying143,
  a138:=Tryz.isAgg143,
  z138:=Tryz.sizeOf143,
  v138:=Tryz.zeroValue143,
  t139:=Tryz.underlying144,
  a139:=Tryz.isAgg144,
  z139:=Tryz.sizeOf144,
  v139:=Tryz.zeroValue144,
  g3:=by kernel_rfl,
  g4:=by kernel_rfl }
end Go.Proofs

namespace Go.Fd
open Go.Proofs.Tryz renaming prog->UbM
set_option maxRecDepth 20000
def ZhB(P:Program)(f:FuncId):Bool:=match P.funcs[f]? with | some fn=>fn.body.isSome && !(fn.name == "runtime.NumGoroutine") | none=>false
theorem Zuq{P:Program}{f:FuncId}(h:ZhB P f=true):W4 P f:=by
 unfold ZhB at h
 split at h
 ·rename_i fn hf
  simp only[Uad,Uao] at h
  exact⟨fn,hf,h.1,h.2⟩
 ·cases h
abbrev AZ:ByteArray:=⟨#[97,98,99,100,101,102,103,104,105,106,107,108,109,110,111,112,113,114,115,116,117,118,119,120,121,122]⟩
theorem Zur(s:ByteArray)(hs:s.size<=9223372036854775807)(lvl:Nat)(S:Zc):Sem UbM ZgE lvl [iS s,iS AZ] S (iS ⟨(Lib.trimS s.data.toList AZ.data.toList).toArray⟩) S :=
 ZsM (xs:=[.string s,.string AZ]) (Zuq (by kernel_rfl)) rfl (fun w=>Go.Proofs.Any.strings_Trim_laid Proofs.Tryz.lays160 (by kernel_rfl) s AZ w hs (by decide) (Go.Proofs.ascii_of_all (by decide)))
def V3(s:ByteArray):Prop:=(∀ b∈s.data.toList,97<=b.toNat/\b.toNat<=122)/\1<=s.size/\s.size<=4
theorem ZhC(s:ByteArray):s.size=s.data.toList.length:=by rw[Array.length_toList];rfl
theorem ZhD(b:UInt8):b∈AZ.data.toList↔97<=b.toNat/\b.toNat<=122:=by
 have:∀ n:Fin 256,(UInt8.ofNat n.val)∈AZ.data.toList↔97<=n.val/\n.val<=122:=by decide +kernel
 have h:UInt8.ofNat b.toNat∈AZ.data.toList↔97<=b.toNat/\b.toNat<=122:=this ⟨b.toNat,b.toNat_lt⟩
 rw[show UInt8.ofNat b.toNat=b from UInt8.ofNat_toNat] at h
 exact h
theorem Zdv{p:UInt8->Bool}:∀{l:List UInt8},l.dropWhile p=[]↔∀ b∈l,p b=true
 | []=>by simp
 | x::r=>by
  simp only[List.dropWhile_cons,UaW,forall_eq_or_imp]
  cases h:p x with
  | true=>simp [Zdv (l:=r)]
  | false=>simp
theorem ZhE{p:UInt8->Bool}{b:UInt8}:∀{l:List UInt8},b∈l.takeWhile p->p b=true
 | [],h=>by simp at h
 | x::r,h=>by
  rw[List.takeWhile_cons] at h
  split at h
  ·rename_i hx
   rcases UaW.1 h with rfl | h
   ·exact hx
   ·exact ZhE h
  ·cases h
theorem Zus{l cs:List UInt8}(h:∀ b∈l,b∈cs):l.dropWhile (cs.contains ·)=[]:=by
 rw[Zdv]
 intro b hb
 simpa using h b hb
theorem trimS_nil{l cs:List UInt8}:Lib.trimS l cs=[]↔∀ b∈l,b∈cs:=by
 unfold Lib.trimS Lib.trimLeftS Lib.trimRightS
 constructor
 ·intro h b hb
  rw[Zdv] at h
  have hrev:∀ x∈(l.reverse.dropWhile (cs.contains ·)),x∈cs:=fun x hx=>by
   have:=h x (by simpa using hx)
   simpa using this
  have hsplit:l.reverse=l.reverse.takeWhile (cs.contains ·)++l.reverse.dropWhile (cs.contains ·):=(List.takeWhile_append_dropWhile).symm
  have hb2:b∈l.reverse:=by simpa using hb
  rw[hsplit] at hb2
  rcases UaC.1 hb2 with h1 | h1
  ·have:=ZhE h1
   simpa using this
  ·exact hrev b h1
 ·intro h
  rw[Zus (l:=l.reverse) (fun b hb=>h b (by simpa using hb))]
  rfl
theorem ZhF(s:ByteArray)(hs:s.size<=9223372036854775807)(lvl:Nat)(S:Zc):Sem UbM ZaC lvl [iS s] S (iB (dc (V3 s))) S:=by
 refine Zw Zuf trivial ?_
 simp only[Zhr,Zb,seval,Za,men]
 refine Jf (α:=Unit) s.size (fun j _=>[(3,iI j)]) (fun _ _=>[]) (fun j _=>∀ b∈s.data.toList.take j,97<=b.toNat/\b.toNat<=122) () (by simp only[Zb,seval,Za,men]) (by (simp only[Zb,seval,Za,men]) <;> rfl) (fun b hb=>by simp at hb) ?_
 intro j _ hj hA
 simp only[Zb,seval,Za,men]
 refine Zx (fun hlt=>?_) (fun hge=>?_)
 ·have hja:j<s.data.toList.length:=by rw[<-ZhC];omega
  have ga:s.data.toList[j]? = some (s.data.toList[j]):=Uag hja
  have hno:¬ (97<=(s.data.toList[j]).toNat/\(s.data.toList[j]).toNat<=122) -> ¬ V3 s:=fun h hn=>h (hn.1 _ (Uan hja))
  by_cases h1:((s.data.toList[j]).toNat:Int)<97
  ·simp only[ga,h1,Zb,seval,Za,men]
   rw[ZD (hno (by omega))]
  by_cases h2:(122:Int)<(s.data.toList[j]).toNat
  ·simp only[ga,h1,h2,Zb,seval,Za,men]
   rw[ZD (hno (by omega))]
  ·simp only[ga,h1,h2,Zb,seval,Za,men]
   refine⟨by rw[Zn];omega,ZI () (by omega) rfl ?_⟩
   intro b hb
   rw[Uaz hja] at hb
   rcases UaC.1 hb with h | h
   ·exact hA b h
   ·have:b=s.data.toList[j]:=by simpa using h
    subst this
    omega
 ·have:j=s.size:=by omega
  subst this
  rw[ZhC,Ubk] at hA
  refine Zg (Qp s.size 1 4) ?_
  simp only[Zb,seval,Za,men]
  rw[Ym (q:=1<=s.size/\s.size<=4) ⟨fun h=>h.2,fun h=>⟨hA,h⟩⟩]
  by_cases h:1<=s.size/\s.size<=4
  ·rw[J3 h,inB_iff.2 (by omega)]
  ·rw[ZD h,inB_not.2 (by omega)]
theorem ZhG(s:ByteArray)(hs:s.size<=9223372036854775807)(lvl:Nat)(S:Zc):Sem UbM ZaD lvl [iS s] S (iB (dc (V3 s))) S:=by
 refine Zw Zuh trivial ?_
 simp only[Zht,Zb,seval,Za,men]
 refine Zg (QZ s.size 1 4) ?_
 simp only[Zb,seval,Za,men]
 cases hin:J4 (s.size:Int) 1 4 with
 | false =>
  have:¬ V3 s:=fun h=>(inB_not.1 hin) (by have:=h.2;omega)
  rw[ZD this]
  simp only[Zb,seval,Za,men]
 | true =>
  have hin':=inB_iff.1 hin
  simp only[Zb,seval,Za,men]
  refine Zg (Zur s hs) ?_
  simp only[Zb,seval,Za,men]
  by_cases h:V3 s
  ·have:Lib.trimS s.data.toList AZ.data.toList=[]:=trimS_nil.2 (fun b hb=>(ZhD b).2 (h.1 b hb))
   rw[J3 h,this]
   rfl
  ·have:¬ Lib.trimS s.data.toList AZ.data.toList=[]:=fun e=>h ⟨fun b hb=>(ZhD b).1 (trimS_nil.1 e b hb),by omega,by omega⟩
   rw[ZD h]
   have h2:¬ (⟨(Lib.trimS s.data.toList AZ.data.toList).toArray⟩:ByteArray)=⟨#[]⟩:=fun e=>this (by
    have:=congrArg (fun b:ByteArray=>b.data.toList) e
    simpa using this)
   simp [h2]
def Zdw(c:TControl):Prop:=V3 c.name/\(0<=c.ports/\c.ports<=3)/\0<=c.kind_/\c.kind_<=2
def UU(sig:List TControl)(i:Nat):Prop:=∀ h:i<sig.length,Zdw sig[i]/\∀ k (hk:k<i),(sig[k]'(by omega)).name≠sig[i].name
def VE(sig:List TControl):Prop:=(∀ i,UU sig i)/\1<=sig.length/\sig.length<=6
theorem Zut(c d:TControl)(lvl:Nat)(S:Zc):Sem UbM ZaE lvl [.ag ((ZF d).map .tr),.ta (ZF c)] S (iB (decide (d.name=c.name))) S:=by
 refine Zw Zui trivial ?_
 simp only[Zhu,ZF,Zb,seval,Za,men]
theorem Zuu:Zo UbM ZgF (QY 3 (some 3))=true:=by kernel_rfl
theorem Zuv:Zo UbM ZgC (XY ZgF)=true:=by kernel_rfl
theorem Zuw(sig:List TControl)(hl:sig.length<=9223372036854775807)(hb:∀ y∈sig,Jw 9223372036854775807 y)(lvl:Nat)(S:Zc):Sem UbM Zc8 lvl [.tr (.sl (sig.map ZF))] S (iB (dc (VE sig))) S:=by
 refine Zw ZtT trivial ?_
 simp only[Zg5,Uaa,Zb,seval,Za,men]
 refine Jf (α:=Unit) sig.length (fun j _=>[(3,iI j)]) (fun _ _=>[]) (fun j _=>∀ i,i<j->UU sig i) () (by simp only[Zb,seval,Za,men]) (by (simp only[Zb,seval,Za,men]) <;> rfl) (fun i hi=>by omega) ?_
 intro j _ hj hA
 simp only[Uaa,Zb,seval,Za,men]
 refine Zx (fun hlt=>?_) (fun hge=>?_)
 ·have hja:j<sig.length:=by omega
  have ga:=Jn (c:=ZF) hja
  have hbj:sig[j].name.size<=9223372036854775807:=hb _ (Uan hja)
  have hno:¬ Zdw sig[j] -> ¬ VE sig:=fun h hs=>h (hs.1 j hja).1
  simp only[ga,ZF,Zb,seval,Za,men]
  refine Zg (ZhF sig[j].name hbj) ?_
  simp only[ga,ZF,Zb,seval,Za,men]
  cases hn:dc (V3 sig[j].name) with
  | false =>
   simp only[Zb,seval,Za,men]
   rw[ZD (hno fun h=>dc_not.1 hn h.1)]
  | true =>
   have hn':=dc_iff.1 hn
   simp only[ga,ZF,Zb,seval,Za,men]
   refine Zg (Qp sig[j].ports 0 3) ?_
   simp only[ga,ZF,Zb,seval,Za,men]
   cases hp:J4 sig[j].ports 0 3 with
   | false =>
    simp only[Zb,seval,Za,men]
    rw[ZD (hno fun h=>inB_not.1 hp h.2.1)]
   | true =>
    have hp':=inB_iff.1 hp
    simp only[ga,ZF,Zb,seval,Za,men]
    refine Zg (Qp sig[j].kind_ 0 2) ?_
    simp only[ga,ZF,Zb,seval,Za,men]
    cases hk:J4 sig[j].kind_ 0 2 with
    | false =>
     simp only[Zb,seval,Za,men]
     rw[ZD (hno fun h=>inB_not.1 hk h.2.2)]
    | true =>
     have hk':=inB_iff.1 hk
     simp only[Zb,seval,Za,men]
     refine Jf (α:=Unit) j (fun k _=>[(4,iI k)]) (fun _ _=>[]) (fun k _=>∀ i (hi:i<k),k<=j->∀ hi2:i<sig.length,(sig[i]'hi2).name≠sig[j].name) () (by simp only[Zb,seval,Za,men]) (by (simp only[Zb,seval,Za,men]) <;> rfl) (fun i hi=>by omega) ?_
     intro k _ hkj hB
     simp only[Uaa,Zb,seval,Za,men]
     refine Zx (fun hlt2=>?_) (fun hge2=>?_)
     ·have hka:k<sig.length:=by omega
      have gb:=Jn (c:=ZF) hka
      simp only[ga,gb,ZF,Zb,seval,Za,men]
      refine Zx (fun he=>?_) (fun hne=>?_)
      ·rw[ZD (fun hs:VE sig=>(hs.1 j hja).2 k (by omega) he)]
      ·refine⟨by rw[Zn];omega,ZI () (by omega) rfl (fun i hi _ hi2=>?_)⟩
       by_cases e:i=k
       ·subst e;exact hne
       ·exact hB i (by omega) (by omega) hi2
     ·have:k=j:=by omega
      subst this
      refine⟨by rw[Zn];omega,ZI () hja rfl (fun i hi=>?_)⟩
      by_cases e:i=k
      ·subst e
       exact fun h=>⟨⟨hn',hp',hk'⟩,fun q hq=>hB q hq (Uaf _) (by omega)⟩
      ·exact hA i (by omega)
 ·have:j=sig.length:=by omega
  subst this
  refine Zg (Qp sig.length 1 6) ?_
  simp only[Zb,seval,Za,men]
  have hall:∀ i,UU sig i:=fun i h=>hA i h h
  rw[Ym (q:=1<=sig.length/\sig.length<=6) ⟨fun h=>h.2,fun h=>⟨hall,h⟩⟩]
  by_cases h:1<=sig.length/\sig.length<=6
  ·rw[J3 h,inB_iff.2 (by omega)]
  ·rw[ZD h,inB_not.2 (by omega)]
theorem Zux(sig:List TControl)(hl:sig.length<=9223372036854775807)(hb:∀ y∈sig,Jw 9223372036854775807 y)(lvl:Nat)(S:Zc):Sem UbM Zde lvl [.tr (.sl (sig.map ZF))] S (iB (dc (VE sig))) S:=by
 refine Zw Zt3 trivial ?_
 simp only[Zhf,Uaa,Zb,seval,Za,men]
 refine Zg (QZ sig.length 1 6) ?_
 simp only[Uaa,Zb,seval,Za,men]
 refine Zx (fun h=>?_) (fun h=>?_)
 ·rw[ZD (fun hs:VE sig=>(inB_not.1 h) (by have:=hs.2;omega))]
 have hln:=inB_iff.1 (by simpa using h)
 refine Jf (α:=Unit) sig.length (fun j _=>[(11,iI j)]) (fun _ _=>[]) (fun j _=>∀ i,i<j->UU sig i) () (by simp only[Zb,seval,Za,men]) (by (simp only[Zb,seval,Za,men]) <;> rfl) (fun i hi=>by omega) ?_
 intro j _ hj hA
 simp only[Uaa,Zb,seval,Za,men]
 refine Zx (fun hlt=>?_) (fun hge=>?_)
 ·have hja:j<sig.length:=by omega
  have ga:=Jn (c:=ZF) hja
  have hbj:sig[j].name.size<=9223372036854775807:=hb _ (Uan hja)
  have hno:¬ Zdw sig[j] -> ¬ VE sig:=fun h hs=>h (hs.1 j hja).1
  simp only[ga,ZF,Zb,seval,Za,men]
  refine Zg (ZhG sig[j].name hbj) ?_
  simp only[ga,ZF,Zb,seval,Za,men]
  cases hn:dc (V3 sig[j].name) with
  | false =>
   simp only[Zb,seval,Za,men]
   rw[ZD (hno fun h=>dc_not.1 hn h.1)]
  | true =>
   have hn':=dc_iff.1 hn
   simp only[ga,ZF,Zb,seval,Za,men]
   refine Zg (QZ sig[j].ports 0 3) ?_
   simp only[ga,ZF,Zb,seval,Za,men]
   cases hp:J4 sig[j].ports 0 3 with
   | false =>
    simp only[Zb,seval,Za,men]
    rw[ZD (hno fun h=>inB_not.1 hp h.2.1)]
   | true =>
    have hp':=inB_iff.1 hp
    simp only[ga,ZF,Zb,seval,Za,men]
    refine Zg (QZ sig[j].kind_ 0 2) ?_
    simp only[ga,ZF,Zb,seval,Za,men]
    cases hk:J4 sig[j].kind_ 0 2 with
    | false =>
     simp only[Zb,seval,Za,men]
     rw[ZD (hno fun h=>inB_not.1 hk h.2.2)]
    | true =>
     have hk':=inB_iff.1 hk
     have hjl:j<=sig.length:=by omega
     simp only[Uaa,hjl,Zb,seval,Za,men]
     have hc:=ZhA (P:=UbM) Zuv Zuu Zgw (f:=fun d:TControl=>decide (d.name=sig[j].name)) (fe:=ZaE) (cs:=[ZF sig[j]]) (sig.take j) (by rw[Uap];omega) (fun d _ lvl S=>Zut sig[j] d lvl S)
     rw[<-Zul] at hc
     refine⟨fun h=>h.elim,Uba _,Zg hc ?_⟩
     simp only[Zb,seval,Za,men]
     cases ha:(sig.take j).any (fun d:TControl=>decide (d.name=sig[j].name)) with
     | true =>
      simp only[Zb,seval,Za,men]
      obtain⟨d,hd,he⟩:=List.any_eq_true.1 ha
      obtain⟨q,hq,rfl⟩:=Ua1 hd
      rw[Uap] at hq
      rw[ZD (fun hs:VE sig=>(hs.1 j hja).2 q (by omega) (by simpa using he))]
     | false =>
      simp only[Zb,seval,Za,men]
      refine⟨by rw[Zn];omega,ZI () hja rfl (fun i hi=>?_)⟩
      by_cases e:i=j
      ·subst e
       refine fun h=>⟨⟨hn',hp',hk'⟩,fun q hq=>?_⟩
       have:=(List.any_eq_false.1 ha) sig[q] (by
        rw[List.mem_take_iff_getElem]
        exact⟨q,by omega,rfl⟩)
       simpa using this
      ·exact hA i (by omega)
 ·have:j=sig.length:=by omega
  subst this
  have hall:∀ i,UU sig i:=fun i h=>hA i h h
  rw[J3 (p:=VE sig) ⟨hall,by omega,by omega⟩]
theorem UV(a b:List Int):rI (a++b)=rI a++rI b:=UaN
theorem Zdx:Zo UbM ZgA (QY 1 none)=true:=by kernel_rfl
theorem Zdy:Zo UbM Zat (XY ZgA)=true:=by kernel_rfl
def Zm(s:Int->Int)(P:Prop):Prop:=∀ l:Int,0<=l->l<=1048576->s l<=l/\(0<=s l->P)
theorem UW:Zm (fun l=>l) True:=fun _ _ _=>⟨Ua4 _,fun _=>trivial⟩
theorem Qq{s g:Int->Int}{P Q:Prop}(hs:Zm s P)(hg:Zm g Q):Zm (fun l=>Ji (s l) g) (P/\Q):=fun l h0 h1=>by
 have a:=hs l h0 h1
 by_cases h:s l<0
 ·simp only[Ji,if_pos h]
  exact⟨by omega,fun h=>by omega⟩
 ·simp only[Ji,if_neg h]
  have b:=hg (s l) (by omega) (by omega)
  exact⟨by omega,fun h2=>⟨a.2 (by omega),b.2 h2⟩⟩
theorem Zdz(n:Nat):Zm (fun l=>YN n l) (n<=4294967296):=fun l h0 h1=>by
 simp only[YN]
 split
 ·exact⟨by omega,fun h=>by omega⟩
 ·exact⟨by omega,fun h=>by omega⟩
theorem ZdA(n:Nat):Zm (fun l=>l-n) (n<=4294967296):=fun l h0 h1=>⟨by simp only;omega,fun h=>by simp only at h;omega⟩
theorem ZhH{α:Type}{f:α->Int->Int}{P:α->Prop}(hf:∀ x,Zm (f x) (P x)):∀(a:List α),Zm (fun l=>Yl f a l) (∀ y∈a,P y)
 | []=>fun l _ _=>⟨Ua4 l,fun _ y hy=>by cases hy⟩
 | x::r=>fun l h0 h1=>by
  simp only[Yl]
  have a:=hf x l h0 h1
  split
  ·exact⟨by omega,fun h=>by omega⟩
  ·have b:=ZhH hf r (f x l) (by omega) (by omega)
   refine⟨by simp only at b;omega,fun h y hy=>?_⟩
   cases hy with
   | head=>exact a.2 (by omega)
   | tail _ hy=>exact b.2 h y hy
theorem ZaF{α:Type}{f:α->Int->Int}{P:α->Prop}(hf:∀ x,Zm (f x) (P x))(a:List α):Zm (fun l=>JB f a l) (a.length<=4294967296/\∀ y∈a,P y):=fun l h0 h1=>by
 simp only[JB]
 split
 ·exact⟨by omega,fun h=>by omega⟩
 ·have b:=ZhH hf a (l-a.length) (by omega) (by omega)
  simp only at b
  exact⟨by omega,fun h=>⟨by omega,b.2 h⟩⟩
theorem UX{s:Int->Int}{P Q:Prop}(h:Zm s P)(hq:P->Q):Zm s Q:=fun l h0 h1=>⟨(h l h0 h1).1,fun h2=>hq ((h l h0 h1).2 h2)⟩
theorem Zuy(x:TNode):Zm (fun l=>VA x l) (YV 4294967296 x):=by
 unfold VA
 exact UX (Qq (Zdz _) UW) (fun h=>by unfold YV;simp only[and_assoc,and_true,true_and,implies_true,forall_const] at h ⊢;try exact h)
theorem Zuz(x:TWire):Zm (fun l=>VB x l) (YA 4294967296 x):=by
 unfold VB
 exact UX (Qq (ZdA _) UW) (fun h=>by unfold YA;simp only[and_assoc,and_true,true_and,implies_true,forall_const] at h ⊢;try exact h)
theorem ZdB(x:TBigraph):Zm (fun l=>V0 x l) (Jj 4294967296 x):=by
 unfold V0
 exact UX (Qq (ZaF (fun y=>(Zuy _)) _) (Qq (Zdz _) (Qq (ZaF (fun y=>(ZdA _)) _) (Qq (ZaF (fun y=>(Zuz _)) _) UW)))) (fun h=>by unfold Jj;simp only[and_assoc,and_true,true_and,implies_true,forall_const] at h ⊢;try exact h)
theorem ZuA(x:TRule):Zm (fun l=>Qo x l) (YB 4294967296 x):=by
 unfold Qo
 exact UX (Qq (ZdB _) (Qq (ZdB _) (Qq (Zdz _) UW))) (fun h=>by unfold YB;simp only[and_assoc,and_true,true_and,implies_true,forall_const] at h ⊢;try exact h)
theorem ZuB(x:TControl):Zm (fun l=>Yt x l) (Jw 4294967296 x):=by
 unfold Yt
 exact UX (Qq (ZdA _) UW) (fun h=>by unfold Jw;simp only[and_assoc,and_true,true_and,implies_true,forall_const] at h ⊢;try exact h)
theorem XB{a:Nat}(h:a<=4294967296):a<=9223372036854775807:=by omega
theorem ZuC{x:TNode}(h:YV 4294967296 x):YV 9223372036854775807 x:=by
 exact(XB h)
theorem ZuD{x:TWire}(h:YA 4294967296 x):YA 9223372036854775807 x:=by
 exact(XB h)
theorem WK{x:TBigraph}(h:Jj 4294967296 x):Jj 9223372036854775807 x:=by
 obtain⟨b0,b1,b2,b3,b4,b5,b6⟩:=h
 exact⟨(XB b0),(fun y0 hy0=>(ZuC (b1 y0 hy0))),(XB b2),(XB b3),(fun y0 hy0=>(XB (b4 y0 hy0))),(XB b5),(fun y0 hy0=>(ZuD (b6 y0 hy0)))⟩
theorem ZhI{x:TControl}(h:Jw 4294967296 x):Jw 9223372036854775807 x:=by
 exact(XB h)
theorem YC{P:Nat->Prop}{j:Nat}(h:∀ k,k<j->P k)(hj:P j):∀ k,k<j+1->P k:=fun k hk=>by
 by_cases e:k=j
 ·subst e;exact hj
 ·exact h k (by omega)
theorem ZaG{n a b:Int}:J4 n a b=dc (a<=n/\n<=b):=by
 unfold J4
 rw[Vb,Bool.decide_and]
theorem ZhJ:∀(x y:List UInt8),(!Op.bytesLess x y)=(Op.bytesLess y x || decide (x=y))
 | [],[]=>by simp [Op.bytesLess]
 | [],_::_=>by simp [Op.bytesLess]
 | _::_,[]=>by simp [Op.bytesLess]
 | a::x,b::y=>by
  have ih:=ZhJ x y
  simp only[Op.bytesLess]
  by_cases h:a=b
  ·subst h
   have e:¬ a<a:=UInt8.lt_irrefl a
   simp [e,ih]
  ·by_cases h1:a<b
   ·have h2:¬ b<a:=fun h2=>UInt8.lt_irrefl a (UInt8.lt_trans h1 h2)
    have h3:¬ b=a:=fun e=>h e.symm
    simp [h,h1,h2,h3]
   ·have h2:b<a:=by
     rcases UInt8.lt_or_lt_of_ne h with h | h
     ·exact absurd h h1
     ·exact h
    simp [h,h1,h2]
def WL(s t:ByteArray):Prop:=Op.bytesLess s.data.toList t.data.toList=true
theorem ZuE{s t:ByteArray}:(!Op.bytesLess s.data.toList t.data.toList) = !dc (WL s t):=by
 unfold WL
 rw[Vb,Bool.decide_eq_true]
theorem ZuF{s t:ByteArray}:(Op.bytesLess t.data.toList s.data.toList || decide (t=s)) = !dc (WL s t):=by
 rw[<-ZuE,ZhJ]
 congr 1
 have:t=s↔s.data.toList=t.data.toList:=⟨fun h=>by rw[h],fun h=>by
  cases s with | mk s=>cases t with | mk t=>exact congrArg ByteArray.mk (Array.toList_inj.1 h.symm)⟩
 simp only[this]
def UY(l:List ByteArray)(i:Nat):Prop:=∀ h:i<l.length,V3 l[i]/\∀ _:0<i,WL (l[i-1]'(by omega)) l[i]
def Vn(l:List ByteArray):Prop:=(∀ i,UY l i)/\l.length<=16
theorem ZhK(l:List ByteArray)(hl:l.length<=4294967296)(hb:∀ y∈l,y.size<=4294967296)(lvl:Nat)(S:Zc):Sem UbM Zav lvl [.tr (.sl (rS l))] S (iB (dc (Vn l))) S:=by
 refine Zw ZtV trivial ?_
 simp only[Zg7,Uaa,Zb,seval,Za,men]
 refine Jf (α:=Unit) l.length (fun j _=>[(3,iI j)]) (fun j _=>[]) (fun j _=>∀ k,k<j->UY l k) () (by simp only[Zb,seval,Za,men]) (by (simp only[Zb,seval,Za,men]) <;> rfl) (fun k hk=>absurd hk (UaK k)) ?_
 intro j _ hj hA
 simp only[Uaa,Zb,seval,Za,men]
 refine Zx (fun hlt=>?_) (fun hge=>?_)
 ·have hja:j<l.length:=by omega
  have ga:=Jn (c:=fun s=>[ts s]) hja
  have hno:¬ UY l j->dc (Vn l)=false:=fun h=>ZD fun g=>h (g.1 j)
  simp only[ga,Uaa,Zb,seval,Za,men]
  refine Zg (ZhF l[j] (by have:=hb _ (Uan hja);omega)) ?_
  cases h1:dc (V3 l[j])
  ·simp only[Zb,seval,Za,men]
   rw[hno fun h=>dc_not.1 h1 (h hja).1]
  by_cases q:0<j
  ·have e1:((j:Int)-1).toNat=j-1:=by omega
   have e2:(0:Int)<=j-1:=by omega
   have q5:(0:Int)<j:=by omega
   have gb:=Jn (c:=fun s=>[ts s]) (l:=l) (j:=j-1) (by omega)
   simp only[q5,e1,e2,ga,gb,Uaa,Zb,seval,Za,men]
   cases hc:Op.bytesLess (l[j-1]'(by omega)).data.toList l[j].data.toList
   ·simp only[Zb,seval,Za,men]
    exact⟨by rw[Zn];omega,by rw[hno fun h=>by have:=(h hja).2 q;unfold WL at this;rw[this] at hc;cases hc]⟩
   ·simp only[Zb,seval,Za,men]
    exact⟨by rw[Zn];omega,by rw[Zn];omega,ZI () hja rfl (YC hA fun _=>⟨dc_iff.1 h1,fun _=>hc⟩)⟩
  ·have q5:¬ (0:Int)<j:=by omega
   simp only[q5,ga,Uaa,Zb,seval,Za,men]
   exact⟨by rw[Zn];omega,ZI () hja rfl (YC hA fun _=>⟨dc_iff.1 h1,fun h=>absurd h q⟩)⟩
 ·have hj1:j=l.length:=by omega
  subst hj1
  rw[Ym (p:=Vn l) (q:=(l.length:Int)<=16) ⟨fun g=>by have:=g.2;omega,fun g=>⟨fun i h=>hA i h h,by omega⟩⟩,Vb]
theorem ZhL(l:List ByteArray)(hl:l.length<=4294967296)(hb:∀ y∈l,y.size<=4294967296)(lvl:Nat)(S:Zc):Sem UbM Zay lvl [.tr (.sl (rS l))] S (iB (dc (Vn l))) S:=by
 refine Zw Zt4 trivial ?_
 simp only[Zhg,Uaa,Zb,seval,Za,men]
 refine Jf (α:=Unit) l.length (fun j _=>[(7,iI j)]) (fun j _=>[]) (fun j _=>∀ k,k<j->UY l k) () (by simp only[Zb,seval,Za,men]) (by (simp only[Zb,seval,Za,men]) <;> rfl) (fun k hk=>absurd hk (UaK k)) ?_
 intro j _ hj hA
 simp only[Uaa,Zb,seval,Za,men]
 refine Zx (fun hlt=>?_) (fun hge=>?_)
 ·have hja:j<l.length:=by omega
  have ga:=Jn (c:=fun s=>[ts s]) hja
  have hno:¬ UY l j->dc (Vn l)=false:=fun h=>ZD fun g=>h (g.1 j)
  simp only[ga,Uaa,Zb,seval,Za,men]
  refine Zg (ZhG l[j] (by have:=hb _ (Uan hja);omega)) ?_
  cases h1:dc (V3 l[j])
  ·simp only[Zb,seval,Za,men]
   rw[hno fun h=>dc_not.1 h1 (h hja).1]
  by_cases q:0<j
  ·have e1:((j:Int)-1).toNat=j-1:=by omega
   have e2:(0:Int)<=j-1:=by omega
   have q5:(0:Int)<j:=by omega
   have gb:=Jn (c:=fun s=>[ts s]) (l:=l) (j:=j-1) (by omega)
   simp only[q5,e1,e2,ga,gb,Uaa,Zb,seval,Za,men]
   rw[ZuF]
   cases hc:dc (WL (l[j-1]'(by omega)) l[j])
   ·simp only[Zb,seval,Za,men]
    exact⟨by rw[Zn];omega,by rw[hno fun h=>dc_not.1 hc ((h hja).2 q)]⟩
   ·simp only[Zb,seval,Za,men]
    exact⟨by rw[Zn];omega,by rw[Zn];omega,ZI () hja rfl (YC hA fun _=>⟨dc_iff.1 h1,fun _=>dc_iff.1 hc⟩)⟩
  ·have q5:¬ (0:Int)<j:=by omega
   simp only[q5,ga,Uaa,Zb,seval,Za,men]
   exact⟨by rw[Zn];omega,ZI () hja rfl (YC hA fun _=>⟨dc_iff.1 h1,fun h=>absurd h q⟩)⟩
 ·have hj1:j=l.length:=by omega
  subst hj1
  rw[Ym (p:=Vn l) (q:=(l.length:Int)<=16) ⟨fun g=>by have:=g.2;omega,fun g=>⟨fun i h=>hA i h h,by omega⟩⟩,Vb]
def Vo(b:TBigraph)(l:Int):Prop:=0<=l/\l<=b.edges+b.outer.length-1
theorem ZhM(b:TBigraph)(l:Int)(he:0<=b.edges/\b.edges<=8)(ho:b.outer.length<=4294967296)(lvl:Nat)(S:Zc):Sem UbM Zax lvl [.ag ((Zf b).map .tr),iI l] S (iB (dc (Vo b l))) S:=by
 refine Zw ZtZ trivial ?_
 simp only[Zhb,Zf,Uaa,Zb,seval,Za,men]
 refine⟨by rw[Zn];omega,by rw[Zn];omega,?_⟩
 refine Zg (Qp l 0 (b.edges+b.outer.length-1)) ?_
 simp only[Zb,seval,Za,men]
 rw[ZaG]
 rfl
theorem ZhN(b:TBigraph)(l:Int)(he:0<=b.edges/\b.edges<=8)(ho:b.outer.length<=4294967296)(lvl:Nat)(S:Zc):Sem UbM ZaA lvl [.ag ((Zf b).map .tr),iI l] S (iB (dc (Vo b l))) S:=by
 refine Zw Zt8 trivial ?_
 simp only[Zhk,Zf,Uaa,Zb,seval,Za,men]
 refine⟨by rw[Zn];omega,by rw[Zn];omega,?_⟩
 refine Zg (QZ l 0 (b.edges+b.outer.length-1)) ?_
 simp only[Zb,seval,Za,men]
 rw[ZaG]
 rfl
def UZ(sig:List TControl)(c:Int):Int:=((sig[c.toNat]?).map TControl.kind_).getD 0
def XZ(sig:List TControl)(c:Int):Int:=((sig[c.toNat]?).map TControl.ports).getD 0
def Q0(b:TBigraph)(p:Int):Int:=((b.nodes[p.toNat]?).map TNode.control).getD 0
def YO(sig:List TControl)(b:TBigraph)(p Vv:Int):Prop:=(p<0/\-b.roots<=p)\/(0<=p/\p<Vv/\¬ UZ sig (Q0 b p)=2)
def U0(sig:List TControl)(b:TBigraph)(n:Nat):Prop:=∀ i,i<n->∀ h:i<b.nodes.length,0<=b.nodes[i].control/\b.nodes[i].control<=(sig.length:Int)-1
theorem ZhO(sig:List TControl)(b:TBigraph)(p:Int)(k:Nat)(hp:Jg .i64 p)(hr:0<=b.roots/\b.roots<=4)(hk:k<=b.nodes.length)(hc:U0 sig b k)(lvl:Nat)(S:Zc):Sem UbM Zaw lvl [.tr (.sl (sig.map ZF)),.ag ((Zf b).map .tr),iI p,iI k] S (iB (dc (YO sig b p k))) S:=by
 rw[Zn] at hp
 refine Zw ZtY trivial ?_
 simp only[Zha,Zf,Uaa,Zb,seval,Za,men]
 refine Zx (fun hneg=>?_) (fun hpos=>?_)
 ·refine⟨by rw[Zn];omega,by rw[Zn];omega,?_⟩
  refine Zg (Qp (-1-p) 0 (b.roots-1)) ?_
  simp only[Zb,seval,Za,men]
  have hiff:(0 <= -1-p/\-1-p<=b.roots-1)↔YO sig b p k:=⟨fun h=>.inl (by omega),fun h=>by rcases h with h | h <;> omega⟩
  rw[ZaG,Ym hiff]
 ·refine Zx (fun hb=>?_) (fun hb=>?_)
  ·obtain⟨q,rfl⟩:∃ q:Nat,p=q:=⟨p.toNat,by omega⟩
   have hq:q<b.nodes.length:=by omega
   have ga:=Jn (c:=Zr) hq
   obtain⟨m1,m2⟩:=hc q (by omega) hq
   obtain⟨m,hm⟩:∃ m:Nat,b.nodes[q].control=m:=⟨b.nodes[q].control.toNat,by omega⟩
   have hms:m<sig.length:=by omega
   have gs:=Jn (c:=ZF) hms
   simp only[hb,ga,gs,Zr,ZF,hm,Int.toNat_natCast,Uar,Uaa,Zb,seval,Za,men]
   have e:UZ sig (Q0 b q)=sig[m].kind_:=by simp [UZ,Q0,hq,hm,hms]
   have hiff:YO sig b q k ↔ ¬ sig[m].kind_=2:=by
    constructor
    ·intro h
     rcases h with h | h
     ·omega
     ·rw[<-e];exact h.2.2
    ·intro h
     exact .inr ⟨by omega,hb,by rw[e];exact h⟩
   rw[Ym hiff,Vb]
  ·rw[ZD fun h:YO sig b p k=>by rcases h with h | h <;> omega]
theorem ZhP(sig:List TControl)(b:TBigraph)(p:Int)(k:Nat)(hr:0<=b.roots/\b.roots<=4)(hk:k<=b.nodes.length)(hc:U0 sig b k)(lvl:Nat)(S:Zc):Sem UbM Zaz lvl [.ag ((Zf b).map .tr),.tr (.sl (sig.map ZF)),iI p,iI k] S (iB (dc (YO sig b p k))) S:=by
 refine Zw Zt6 trivial ?_
 simp only[Zhi,Zf,Uaa,Zb,seval,Za,men]
 refine Zx (fun hneg=>?_) (fun hpos=>?_)
 ·refine⟨by rw[Zn];omega,?_⟩
  have hiff:YO sig b p k ↔ -b.roots<=p:=⟨fun h=>by rcases h with h | h <;> omega,fun h=>.inl (by omega)⟩
  rw[Ym hiff,Vb]
 ·refine Zx (fun hb=>?_) (fun hb=>?_)
  ·obtain⟨q,rfl⟩:∃ q:Nat,p=q:=⟨p.toNat,by omega⟩
   have hq:q<b.nodes.length:=by omega
   have ga:=Jn (c:=Zr) hq
   obtain⟨m1,m2⟩:=hc q (by omega) hq
   obtain⟨m,hm⟩:∃ m:Nat,b.nodes[q].control=m:=⟨b.nodes[q].control.toNat,by omega⟩
   have hms:m<sig.length:=by omega
   have gs:=Jn (c:=ZF) hms
   simp only[hb,ga,gs,Zr,ZF,hm,Int.toNat_natCast,Uar,Uaa,Zb,seval,Za,men]
   have e:UZ sig (Q0 b q)=sig[m].kind_:=by simp [UZ,Q0,hq,hm,hms]
   have hiff:YO sig b q k ↔ ¬ sig[m].kind_=2:=by
    constructor
    ·intro h
     rcases h with h | h
     ·omega
     ·rw[<-e];exact h.2.2
    ·intro h
     exact .inr ⟨by omega,hb,by rw[e];exact h⟩
   rw[Ym hiff,Vb]
  ·rw[ZD fun h:YO sig b p k=>by rcases h with h | h <;> omega]
structure nodeOK (sig:List TControl) (b:TBigraph) (x:TNode) (i:Nat):Prop where
 ctl:0<=x.control/\x.control<=(sig.length:Int)-1
 par:YO sig b x.parent i
 ports:(x.links.length:Int)=XZ sig x.control
 links:∀ l∈x.links,Vo b l
theorem ZuG(sig:List TControl)(b:TBigraph)(i:Nat)(hi:i<b.nodes.length)(hn:sig.length<=4294967296)(hl:b.nodes[i].links.length<=4294967296)(hp:Jg .i64 b.nodes[i].parent)(hr:0<=b.roots/\b.roots<=4)(he:0<=b.edges/\b.edges<=8)(ho:b.outer.length<=4294967296)(hc:U0 sig b i)(lvl:Nat)(S:Zc):Sem UbM Zda lvl [.tr (.sl (sig.map ZF)),.ag ((Zf b).map .tr),iI i] S (iB (dc (nodeOK sig b b.nodes[i] i))) S:=by
 refine Zw ZtX trivial ?_
 have ga:=Jn (c:=Zr) hi
 simp only[Zg9,Zf,Uaa,ga,Zr,Zb,seval,Za,men]
 refine⟨by rw[Zn];omega,?_⟩
 refine Zg (Qp b.nodes[i].control 0 ((sig.length:Int)-1)) ?_
 cases h1:J4 b.nodes[i].control 0 ((sig.length:Int)-1)
 ·simp only[Zb,seval,Za,men]
  rw[ZD fun h:nodeOK sig b b.nodes[i] i=>inB_not.1 h1 h.ctl]
 have r1:=inB_iff.1 h1
 simp only[Zf,Uaa,Zr,Zb,seval,Za,men]
 refine Zg (ZhO sig b b.nodes[i].parent i hp hr (by omega) hc) ?_
 cases h2:dc (YO sig b b.nodes[i].parent i)
 ·simp only[Zb,seval,Za,men]
  rw[ZD fun h:nodeOK sig b b.nodes[i] i=>dc_not.1 h2 h.par]
 obtain⟨m,hm⟩:∃ m:Nat,b.nodes[i].control=m:=⟨b.nodes[i].control.toNat,by omega⟩
 have hms:m<sig.length:=by omega
 have gs:=Jn (c:=ZF) hms
 have e:XZ sig b.nodes[i].control=sig[m].ports:=by simp [XZ,hm,hms]
 simp only[hm,gs,ZF,Zf,Uaa,Zr,Zb,seval,Za,men]
 refine Zx (fun hne=>?_) (fun heq=>?_)
 ·rw[ZD fun h:nodeOK sig b b.nodes[i] i=>by have:=h.ports;rw[e] at this;exact hne this]
 refine Jf (α:=Unit) b.nodes[i].links.length (fun j _=>[(8,iI j)]) (fun j _=>[]) (fun j _=>∀ k,k<j->Vo b (g0 b.nodes[i].links k)) () (by simp only[Zb,seval,Za,men]) (by (simp only[Zb,seval,Za,men]) <;> rfl) (fun k hk=>absurd hk (UaK k)) ?_
 intro j _ hj hA
 simp only[Uaa,Zb,seval,Za,men]
 refine Zx (fun hlt=>?_) (fun hge=>?_)
 ·have hja:j<b.nodes[i].links.length:=by omega
  have gl:=Vm hja
  simp only[gl,Uaa,Zb,seval,Za,men]
  refine Zg (ZhM b (g0 b.nodes[i].links j) he ho) ?_
  cases hc:dc (Vo b (g0 b.nodes[i].links j))
  ·simp only[Zb,seval,Za,men]
   rw[ZD fun h:nodeOK sig b b.nodes[i] i=>dc_not.1 hc (h.links _ (by simp [hja]))]
  ·simp only[Zb,seval,Za,men]
   exact⟨by rw[Zn];omega,ZI () hja rfl (YC hA (dc_iff.1 hc))⟩
 ·have hj1:j=b.nodes[i].links.length:=by omega
  subst hj1
  have:nodeOK sig b b.nodes[i] i:=⟨r1,dc_iff.1 h2,by rw[e];omega,fun l hl=>by
   obtain⟨k,hk,rfl⟩:=Ua1 hl
   have:=hA k hk
   simpa [hk] using this⟩
  rw[J3 this]
def inn(b:TBigraph):List ByteArray:=b.inner.map TWire.name
theorem ZaH(a b:List ByteArray):rS (a++b)=rS a++rS b:=UaN
theorem ZuH(b:TBigraph)(hn:b.inner.length<=4294967296)(lvl:Nat)(S:Zc):Sem UbM Zc9 lvl [.ag ((Zf b).map .tr)] S (.ow 1 (rS (inn b)) true) S:=by
 refine Zw ZtW trivial ?_
 simp only[Zg8,Uaa,Zf,Zb,seval,Za,men]
 refine Jf (α:=Unit) b.inner.length (fun j _=>[(3,.hd (lvl,160) [] 0 j none j),(4,iI j)]) (fun j _=>[(160,.ar 1 (rS ((inn b).take j)) true j 0)]) (fun _ _=>True) () (by simp only[Zb,seval,Za,men]) (by (simp only[Zb,seval,Za,men]) <;> rfl) trivial ?_
 intro j _ hj _
 have hil:(inn b).length=b.inner.length:=by simp [inn]
 simp only[Uaa,Zb,seval,Za,men]
 refine Zx (fun hlt=>?_) (fun hge=>?_)
 ·have hja:j<b.inner.length:=by omega
  have ga:=Jn (c:=ZH) hja
  have hlN:(rS ((inn b).take j)).length=j:=by rw[Uaa,Uap];omega
  simp only[ga,ZH,hlN,Uaa,Zb,seval,Za,men]
  have hstep:rS ((inn b).take j)++[[ts b.inner[j].name]]=rS ((inn b).take (j+1)):=by
   rw[Uaz (by omega),ZaH]
   simp [inn]
  refine⟨by omega,by rw[Zn];omega,ZI () hja ?_ trivial⟩
  rw[<-hstep]
  rfl
 ·have:j=b.inner.length:=by omega
  subst this
  rw[UaP (by omega)]
  exact⟨hil.symm,rfl⟩
theorem ZuI(b:TBigraph)(hn:b.inner.length<=4294967296)(lvl:Nat)(S:Zc):Sem UbM Zdf lvl [.ag ((Zf b).map .tr)] S (.ow 1 (rS (inn b)) true) S:=by
 refine Zw Zt5 trivial ?_
 simp only[Zhh,Uaa,Zf,Zb,seval,Za,men]
 refine Jf (α:=Unit) b.inner.length (fun j _=>[(3,.hd (lvl,192) [] 0 j none j),(10,iI j)]) (fun j _=>[(192,.ar 1 (rS ((inn b).take j)) true j 0)]) (fun _ _=>True) () (by simp only[Zb,seval,Za,men]) (by (simp only[Zb,seval,Za,men]) <;> rfl) trivial ?_
 intro j _ hj _
 have hil:(inn b).length=b.inner.length:=by simp [inn]
 simp only[Uaa,Zb,seval,Za,men]
 refine Zx (fun hlt=>?_) (fun hge=>?_)
 ·have hja:j<b.inner.length:=by omega
  have ga:=Jn (c:=ZH) hja
  have hlN:(rS ((inn b).take j)).length=j:=by rw[Uaa,Uap];omega
  simp only[ga,ZH,hlN,Uaa,Zb,seval,Za,men]
  have hstep:rS ((inn b).take j)++[[ts b.inner[j].name]]=rS ((inn b).take (j+1)):=by
   rw[Uaz (by omega),ZaH]
   simp [inn]
  refine⟨by omega,by rw[Zn];omega,ZI () hja ?_ trivial⟩
  rw[<-hstep]
  rfl
 ·have:j=b.inner.length:=by omega
  subst this
  rw[UaP (by omega)]
  exact⟨hil.symm,rfl⟩
def ZaI(sig:List TControl)(b:TBigraph)(i:Nat):Prop:=∀ h:i<b.nodes.length,nodeOK sig b b.nodes[i] i
structure bigOK (sig:List TControl) (b:TBigraph):Prop where
 sg:VE sig
 roots:0<=b.roots/\b.roots<=4
 nodesL:b.nodes.length<=8
 sitesL:b.sites.length<=4
 edges:0<=b.edges/\b.edges<=8
 outer:Vn b.outer
 inn:Vn (inn b)
 nodes:∀ i,ZaI sig b i
 sites:∀ p∈b.sites,YO sig b p b.nodes.length
 inner:∀ w∈b.inner,Vo b w.link
theorem ZaJ{sig:List TControl}{b:TBigraph}{j:Nat}(h:∀ k,k<j->ZaI sig b k):U0 sig b j:=fun i hi hl=>(h i hi hl).ctl
theorem ZaK{b:TBigraph}:(inn b).length=b.inner.length:=by simp [inn]
theorem ZhQ{b:TBigraph}{n:Nat}(h:∀ y∈b.inner,YA n y):∀ y∈inn b,y.size<=n:=fun y hy=>by
 obtain⟨w,hw,rfl⟩:=UaM.1 hy
 exact h w hw
theorem U1(sig:List TControl)(b:TBigraph)(hn:sig.length<=4294967296)(hbs:∀ y∈sig,Jw 4294967296 y)(hb:Jj 4294967296 b)(hf:YW b)(lvl:Nat)(S:Zc):Sem UbM WI lvl [.tr (.sl (sig.map ZF)),.ag ((Zf b).map .tr)] S (iB (dc (bigOK sig b))) S:=by
 obtain⟨b1,b2,b3,b4,b5,b6,b7⟩:=hb
 obtain⟨f1,f2,f3,f4,f5⟩:=hf
 refine Zw ZtE trivial ?_
 simp only[ZgR,Uaa,Zf,Zb,seval,Za,men]
 refine Zg (Zuw sig (by omega) (fun y hy=>ZhI (hbs y hy))) ?_
 cases h1:dc (VE sig)
 ·simp only[Zb,seval,Za,men]
  rw[ZD fun h:bigOK sig b=>dc_not.1 h1 h.sg]
 simp only[Uaa,Zf,Zb,seval,Za,men]
 refine Zg (Qp b.roots 0 4) ?_
 cases h2:J4 b.roots 0 4
 ·simp only[Zb,seval,Za,men]
  rw[ZD fun h:bigOK sig b=>inB_not.1 h2 h.roots]
 by_cases h3:(8:Int)<b.nodes.length
 ·simp only[h3,Uaa,Zf,Zb,seval,Za,men]
  rw[ZD fun h:bigOK sig b=>by have:=h.nodesL;omega]
 by_cases h4:(4:Int)<b.sites.length
 ·simp only[h3,h4,Uaa,Zf,Zb,seval,Za,men]
  rw[ZD fun h:bigOK sig b=>by have:=h.sitesL;omega]
 simp only[h3,h4,Uaa,Zf,Zb,seval,Za,men]
 refine Zg (Qp b.edges 0 8) ?_
 cases h5:J4 b.edges 0 8
 ·simp only[Zb,seval,Za,men]
  rw[ZD fun h:bigOK sig b=>inB_not.1 h5 h.edges]
 have r2:=inB_iff.1 h2
 have r5:=inB_iff.1 h5
 simp only[Uaa,Zf,Zb,seval,Za,men]
 refine Zg (ZhK b.outer (by assumption) (by assumption)) ?_
 cases h6:dc (Vn b.outer)
 ·simp only[Zb,seval,Za,men]
  rw[ZD fun h:bigOK sig b=>dc_not.1 h6 h.outer]
 by_cases h7:(16:Int)<b.inner.length
 ·simp only[h7,Uaa,Zf,Zb,seval,Za,men]
  rw[ZD fun h:bigOK sig b=>by have:=h.inn.2;rw[ZaK] at this;omega]
 simp only[h7,Uaa,Zf,Zb,seval,Za,men]
 refine Zg (ZuH b (by omega)) ?_
 simp only[Uaa,Zf,Zb,seval,Za,men]
 refine Zg (ZhK (inn b) (by rw[ZaK];omega) (ZhQ (by assumption))) ?_
 cases h8:dc (Vn (inn b))
 ·simp only[Zb,seval,Za,men]
  rw[ZD fun h:bigOK sig b=>dc_not.1 h8 h.inn]
 simp only[Uaa,Zf,Zb,seval,Za,men]
 have ho:=(dc_iff.1 h6).2
 refine Jf (α:=Unit) b.nodes.length (fun j _=>[(5,iI j)]) (fun j _=>[]) (fun j _=>∀ k,k<j->ZaI sig b k) () (by simp only[Zb,seval,Za,men]) (by (simp only[Zb,seval,Za,men]) <;> rfl) (fun k hk=>absurd hk (UaK k)) ?_
 intro j _ hj hA
 simp only[Uaa,Zf,Zb,seval,Za,men]
 refine Zx (fun hlt=>?_) (fun hge=>?_)
 ·have hja:j<b.nodes.length:=by omega
  have hm:=Uan hja
  refine Zg (ZuG sig b j hja hn (by first | exact(b2 _ hm) | exact(b3 _ hm)) (by first | exact(f1 _ hm).2.1 | exact(f2 _ hm).2.1) r2 r5 (by omega) (ZaJ hA)) ?_
  cases hc:dc (nodeOK sig b b.nodes[j] j)
  ·simp only[Zb,seval,Za,men]
   rw[ZD fun h:bigOK sig b=>dc_not.1 hc (h.nodes j hja)]
  ·simp only[Zb,seval,Za,men]
   exact⟨by rw[Zn];omega,ZI () hja rfl (YC hA fun _=>dc_iff.1 hc)⟩
 have hj1:j=b.nodes.length:=by omega
 subst hj1
 refine Jf (α:=Unit) b.sites.length (fun j _=>[(6,iI j)]) (fun j _=>[]) (fun j _=>∀ k,k<j->YO sig b (g0 b.sites k) b.nodes.length) () (by simp only[Zb,seval,Za,men]) (by (simp only[Zb,seval,Za,men]) <;> rfl) (fun k hk=>absurd hk (UaK k)) ?_
 intro j _ hj hB
 simp only[Uaa,Zf,Zb,seval,Za,men]
 refine Zx (fun hlt=>?_) (fun hge=>?_)
 ·have hja:j<b.sites.length:=by omega
  have ga:=Vm hja
  have hg:g0 b.sites j∈b.sites:=by simp [hja]
  simp only[ga,Uaa,Zf,Zb,seval,Za,men]
  refine Zg (ZhO sig b (g0 b.sites j) b.nodes.length (by first | exact f3 _ hg | exact f2 _ hg | exact f4 _ hg) r2 (Uaf _) (ZaJ hA)) ?_
  cases hc:dc (YO sig b (g0 b.sites j) b.nodes.length)
  ·simp only[Zb,seval,Za,men]
   rw[ZD fun h:bigOK sig b=>dc_not.1 hc (h.sites _ hg)]
  ·simp only[Zb,seval,Za,men]
   exact⟨by rw[Zn];omega,ZI () hja rfl (YC hB (dc_iff.1 hc))⟩
 have hj1:j=b.sites.length:=by omega
 subst hj1
 refine Jf (α:=Unit) b.inner.length (fun j _=>[(7,iI j)]) (fun j _=>[]) (fun j _=>∀ k,k<j->∀ h:k<b.inner.length,Vo b b.inner[k].link) () (by simp only[Zb,seval,Za,men]) (by (simp only[Zb,seval,Za,men]) <;> rfl) (fun k hk=>absurd hk (UaK k)) ?_
 intro j _ hj hC
 simp only[Uaa,Zf,Zb,seval,Za,men]
 refine Zx (fun hlt=>?_) (fun hge=>?_)
 ·have hja:j<b.inner.length:=by omega
  have ga:=Jn (c:=ZH) hja
  simp only[ga,ZH,Uaa,Zf,Zb,seval,Za,men]
  refine Zg (ZhM b b.inner[j].link r5 (by omega)) ?_
  cases hc:dc (Vo b b.inner[j].link)
  ·simp only[Zb,seval,Za,men]
   rw[ZD fun h:bigOK sig b=>dc_not.1 hc (h.inner _ (Uan hja))]
  ·simp only[Zb,seval,Za,men]
   exact⟨by rw[Zn];omega,ZI () hja rfl (YC hC fun _=>dc_iff.1 hc)⟩
 have hj1:j=b.inner.length:=by omega
 subst hj1
 have:bigOK sig b:=⟨dc_iff.1 h1,r2,by omega,by omega,r5,dc_iff.1 h6,dc_iff.1 h8,fun i h=>hA i h h,fun p hp=>by
  obtain⟨k,hk,rfl⟩:=Ua1 hp
  have:=hB k hk
  simpa [hk] using this,fun w hw=>by
  obtain⟨k,hk,rfl⟩:=Ua1 hw
  exact hC k hk hk⟩
 rw[J3 this]
theorem ZuJ(l:Int)(b:TBigraph)(he:0<=b.edges/\b.edges<=8)(ho:b.outer.length<=4294967296)(lvl:Nat)(S:Zc):Sem UbM Zdg lvl [iI l,.ta (Zf b)] S (iB (!dc (Vo b l))) S:=by
 refine Zw Zt7 trivial ?_
 simp only[Zhj,Zf,Zb,seval,Za,men]
 refine Zg (ZhN b l he ho) ?_
 simp only[Zb,seval,Za,men]
theorem ZuK(p:Int)(sig:List TControl)(b:TBigraph)(hr:0<=b.roots/\b.roots<=4)(hc:U0 sig b b.nodes.length)(lvl:Nat)(S:Zc):Sem UbM Zdh lvl [iI p,.ta (Zf b),.ta [Tr.sl (sig.map ZF)]] S (iB (!dc (YO sig b p b.nodes.length))) S:=by
 refine Zw Zt9 trivial ?_
 simp only[Zhl,Zf,Uaa,Zb,seval,Za,men]
 refine Zg (ZhP sig b p b.nodes.length hr (Uaf _) hc) ?_
 simp only[Zb,seval,Za,men]
theorem ZuL(w:TWire)(b:TBigraph)(he:0<=b.edges/\b.edges<=8)(ho:b.outer.length<=4294967296)(lvl:Nat)(S:Zc):Sem UbM Zdi lvl [.ag ((ZH w).map .tr),.ta (Zf b)] S (iB (!dc (Vo b w.link))) S:=by
 refine Zw Zua trivial ?_
 simp only[Zhm,Zf,ZH,Zb,seval,Za,men]
 refine Zg (ZhN b w.link he ho) ?_
 simp only[Zb,seval,Za,men]
theorem ZuM:Zo UbM ZgD (QY 2 (some 2))=true:=by kernel_rfl
theorem ZuN:Zo UbM ZgB (XY ZgD)=true:=by kernel_rfl
theorem any_no{α:Type}{l:List α}{p:α->Prop}:(l.any fun n=>!dc (p n))=false↔∀ n∈l,p n:=by
 simp only[List.any_eq_false,Uao,Bool.not_eq_false,dc_iff]
theorem ZaL(sig:List TControl)(b:TBigraph)(hn:sig.length<=4294967296)(hbs:∀ y∈sig,Jw 4294967296 y)(hb:Jj 4294967296 b)(lvl:Nat)(S:Zc):Sem UbM WJ lvl [.tr (.sl (sig.map ZF)),.ag ((Zf b).map .tr)] S (iB (dc (bigOK sig b))) S:=by
 obtain⟨b1,b2,b3,b4,b5,b6,b7⟩:=hb
 refine Zw ZtN trivial ?_
 simp only[Zg0,Uaa,Zf,Zb,seval,Za,men]
 refine Zg (Zux sig (by omega) (fun y hy=>ZhI (hbs y hy))) ?_
 cases h1:dc (VE sig)
 ·simp only[Zb,seval,Za,men]
  rw[ZD fun h:bigOK sig b=>dc_not.1 h1 h.sg]
 simp only[Uaa,Zf,Zb,seval,Za,men]
 refine Zg (QZ b.roots 0 4) ?_
 cases h2:J4 b.roots 0 4
 ·simp only[Zb,seval,Za,men]
  rw[ZD fun h:bigOK sig b=>inB_not.1 h2 h.roots]
 by_cases h3:(8:Int)<b.nodes.length
 ·simp only[h3,Uaa,Zf,Zb,seval,Za,men]
  rw[ZD fun h:bigOK sig b=>by have:=h.nodesL;omega]
 by_cases h4:(4:Int)<b.sites.length
 ·simp only[h3,h4,Uaa,Zf,Zb,seval,Za,men]
  rw[ZD fun h:bigOK sig b=>by have:=h.sitesL;omega]
 simp only[h3,h4,Uaa,Zf,Zb,seval,Za,men]
 refine Zg (QZ b.edges 0 8) ?_
 cases h5:J4 b.edges 0 8
 ·simp only[Zb,seval,Za,men]
  rw[ZD fun h:bigOK sig b=>inB_not.1 h5 h.edges]
 have r2:=inB_iff.1 h2
 have r5:=inB_iff.1 h5
 simp only[Uaa,Zf,Zb,seval,Za,men]
 refine Zg (ZhL b.outer (by assumption) (by assumption)) ?_
 cases h6:dc (Vn b.outer)
 ·simp only[Zb,seval,Za,men]
  rw[ZD fun h:bigOK sig b=>dc_not.1 h6 h.outer]
 simp only[Uaa,Zf,Zb,seval,Za,men]
 refine Zg (ZuI b (by omega)) ?_
 simp only[Uaa,Zf,Zb,seval,Za,men]
 refine Zg (ZhL (inn b) (by rw[ZaK];omega) (ZhQ (by assumption))) ?_
 cases h8:dc (Vn (inn b))
 ·simp only[Zb,seval,Za,men]
  rw[ZD fun h:bigOK sig b=>dc_not.1 h8 h.inn]
 simp only[Uaa,Zf,Zb,seval,Za,men]
 have ho:=(dc_iff.1 h6).2
 refine Jf (α:=Unit) b.nodes.length (fun j _=>[(49,iI j)]) (fun j _=>[]) (fun j _=>∀ k,k<j->ZaI sig b k) () (by simp only[Zb,seval,Za,men]) (by (simp only[Zb,seval,Za,men]) <;> rfl) (fun k hk=>absurd hk (UaK k)) ?_
 intro j _ hj hA
 simp only[Uaa,Zf,Zb,seval,Za,men]
 refine Zx (fun hlt=>?_) (fun hge=>?_)
 ·have hja:j<b.nodes.length:=by omega
  have hm:=Uan hja
  have ga:=Jn (c:=Zr) hja
  have hll:b.nodes[j].links.length<=4294967296:=by first | exact(b2 _ hm) | exact(b3 _ hm)
  have hno:¬ nodeOK sig b b.nodes[j] j->dc (bigOK sig b)=false:=fun h=>ZD fun g=>h (g.nodes j hja)
  simp only[ga,Zr,Uaa,Zf,Zb,seval,Za,men]
  refine⟨by rw[Zn];omega,?_⟩
  refine Zg (QZ b.nodes[j].control 0 ((sig.length:Int)-1)) ?_
  cases p1:J4 b.nodes[j].control 0 ((sig.length:Int)-1)
  ·simp only[Zb,seval,Za,men]
   rw[hno fun h=>inB_not.1 p1 h.ctl]
  have q1:=inB_iff.1 p1
  simp only[Zr,Uaa,Zf,Zb,seval,Za,men]
  refine Zg (ZhP sig b b.nodes[j].parent j r2 (by omega) (ZaJ hA)) ?_
  cases p2:dc (YO sig b b.nodes[j].parent j)
  ·simp only[Zb,seval,Za,men]
   rw[hno fun h=>dc_not.1 p2 h.par]
  obtain⟨m,hmm⟩:∃ m:Nat,b.nodes[j].control=m:=⟨b.nodes[j].control.toNat,by omega⟩
  have hms:m<sig.length:=by omega
  have gs:=Jn (c:=ZF) hms
  have e:XZ sig b.nodes[j].control=sig[m].ports:=by simp [XZ,hmm,hms]
  by_cases p3:(b.nodes[j].links.length:Int)=sig[m].ports
  case neg =>
   simp only[p3,hmm,gs,Int.toNat_natCast,Uar,ZF,Zr,Uaa,Zf,Zb,seval,Za,men]
   rw[hno fun h=>p3 (by rw[<-e];exact h.ports)]
  simp only[p3,hmm,gs,Int.toNat_natCast,Uar,ZF,Zr,Uaa,Zf,Zb,seval,Za,men]
  refine Zg (Zdu (t:=tv) (cs:=[Zf b]) Zdy Zdx b.nodes[j].links (by omega) (fun x _ lvl S=>ZuJ x b r5 (by omega) lvl S)) ?_
  cases p4:b.nodes[j].links.any fun l=>!dc (Vo b l)
  ·simp only[Zb,seval,Za,men]
   exact⟨by rw[Zn];omega,ZI () hja rfl (YC hA fun _=>⟨q1,dc_iff.1 p2,by rw[e];exact p3,any_no.1 p4⟩)⟩
  ·simp only[Zb,seval,Za,men]
   rw[hno fun h=>by rw[any_no.2 h.links] at p4;cases p4]
 have hj1:j=b.nodes.length:=by omega
 subst hj1
 refine Zg (Zdu (t:=tv) (cs:=[Zf b,[Tr.sl (sig.map ZF)]]) Zdy Zdx b.sites (by omega) (fun x _ lvl S=>ZuK x sig b r2 (ZaJ hA) lvl S)) ?_
 cases h9:b.sites.any fun p=>!dc (YO sig b p b.nodes.length)
 case true =>
  simp only[Zb,seval,Za,men]
  rw[ZD fun h:bigOK sig b=>by rw[any_no.2 h.sites] at h9;cases h9]
 simp only[Uaa,Zf,Zb,seval,Za,men]
 refine Zg (ZhA (cs:=[Zf b]) ZuN ZuM (fun x=>rfl) b.inner (by omega) (fun x _ lvl S=>ZuL x b r5 (by omega) lvl S)) ?_
 cases h10:b.inner.any fun w=>!dc (Vo b w.link)
 case true =>
  simp only[Zb,seval,Za,men]
  rw[ZD fun h:bigOK sig b=>by rw[(any_no (p:=fun w:TWire=>Vo b w.link)).2 h.inner] at h10;cases h10]
 simp only[Zb,seval,Za,men]
 have:bigOK sig b:=⟨dc_iff.1 h1,r2,by omega,by omega,r5,dc_iff.1 h6,dc_iff.1 h8,fun i h=>hA i h h,any_no.1 h9,any_no.1 h10⟩
 rw[J3 this]
def JR(f:Nat->Prop)[DecidablePred f]:Nat->List Int
 | 0=>[]
 | j+1=>if f j then JR f j++[(j:Int)] else JR f j
theorem WM{f:Nat->Prop}[DecidablePred f]:∀{j:Nat},(JR f j).length<=j
 | 0=>Uaf 0
 | j+1=>by
  unfold JR
  have:=WM (f:=f) (j:=j)
  split
  ·rw[Uaj,List.length_singleton];omega
  ·omega
theorem XC{f:Nat->Prop}[DecidablePred f]{j:Nat}(h:f j):JR f (j+1)=JR f j++[(j:Int)]:=by rw[JR,if_pos h]
theorem X0{f:Nat->Prop}[DecidablePred f]{j:Nat}(h:¬ f j):JR f (j+1)=JR f j:=by rw[JR,if_neg h]
def JW(b:TBigraph)(j:Nat):Int:=((b.nodes[j]?).map TNode.parent).getD 0
theorem Q1{b:TBigraph}{j:Nat}(h:j<b.nodes.length):JW b j=b.nodes[j].parent:=by simp [JW,h]
abbrev YX(b:TBigraph)(p:Int):Nat->List Int:=JR fun j=>JW b j=p
abbrev YY(b:TBigraph)(p:Int):Nat->List Int:=JR fun j=>g0 b.sites j=p
def VF(b:TBigraph)(p:Int):List Int:=YX b p b.nodes.length
def Vc(b:TBigraph)(p:Int):List Int:=YY b p b.sites.length
theorem ZuO(b:TBigraph)(p:Int)(hl:b.nodes.length<=4294967296)(lvl:Nat)(S:Zc):Sem UbM Zdk lvl [.ag ((Zf b).map .tr),iI p] S (.ow 1 (rI (VF b p)) true) S:=by
 refine Zw Zuc trivial ?_
 simp only[Zho,Zf,Uaa,Zb,seval,Za,men]
 refine Jf (α:=Unit) b.nodes.length (fun j _=>[(5,.hd (lvl,224) [] 0 (YX b p j).length none (YX b p j).length),(6,iI j)]) (fun j _=>[(224,.ar 1 (rI (YX b p j)) true (YX b p j).length 0)]) (fun _ _=>True) () (by simp only[Zb,seval,Za,men]) (by (simp only[Zb,seval,Za,men]) <;> rfl) trivial ?_
 intro j _ hj _
 simp only[Uaa,Zb,seval,Za,men]
 refine Zx (fun hlt=>?_) (fun hge=>?_)
 ·have hja:j<b.nodes.length:=by omega
  have ga:=Jn (c:=Zr) hja
  have hle:(YX b p j).length<=j:=WM
  simp only[ga,Zr,Uaa,Zb,seval,Za,men]
  refine Zx (fun he=>?_) (fun hne=>?_)
  ·refine⟨by omega,by rw[Zn];omega,ZI () hja ?_ trivial⟩
   rw[YX,XC (by rw[Q1 hja];exact he),Uaj,UV]
   rfl
  ·refine⟨by rw[Zn];omega,ZI () hja ?_ trivial⟩
   rw[YX,X0 (by rw[Q1 hja];exact hne)]
   rfl
 ·have:j=b.nodes.length:=by omega
  subst this
  rfl
theorem ZhR(b:TBigraph)(p:Int)(hl:b.sites.length<=4294967296)(lvl:Nat)(S:Zc):Sem UbM ZaB lvl [.ag ((Zf b).map .tr),iI p] S (.ow 1 (rI (Vc b p)) true) S:=by
 refine Zw Zud trivial ?_
 simp only[Zhp,Zf,Uaa,Zb,seval,Za,men]
 refine Jf (α:=Unit) b.sites.length (fun j _=>[(5,.hd (lvl,224) [] 0 (YY b p j).length none (YY b p j).length),(6,iI j)]) (fun j _=>[(224,.ar 1 (rI (YY b p j)) true (YY b p j).length 0)]) (fun _ _=>True) () (by simp only[Zb,seval,Za,men]) (by (simp only[Zb,seval,Za,men]) <;> rfl) trivial ?_
 intro j _ hj _
 simp only[Uaa,Zb,seval,Za,men]
 refine Zx (fun hlt=>?_) (fun hge=>?_)
 ·have hja:j<b.sites.length:=by omega
  have ga:=Vm hja
  have hle:(YY b p j).length<=j:=WM
  simp only[ga,Uaa,Zb,seval,Za,men]
  refine Zx (fun he=>?_) (fun hne=>?_)
  ·refine⟨by omega,by rw[Zn];omega,ZI () hja ?_ trivial⟩
   rw[YY,XC (f:=fun j=>g0 b.sites j=p) he,Uaj,UV]
   rfl
  ·refine⟨by rw[Zn];omega,ZI () hja ?_ trivial⟩
   rw[YY,X0 (f:=fun j=>g0 b.sites j=p) hne]
   rfl
 ·have:j=b.sites.length:=by omega
  subst this
  rfl
theorem ZuP(b:TBigraph)(p:Int)(hn:b.nodes.length<=4294967296)(hl:b.sites.length<=4294967296)(lvl:Nat)(S:Zc):Sem UbM Zdc lvl [.ag ((Zf b).map .tr),iI p] S (.tu [.ow 1 (rI (VF b p)) true,.ow 1 (rI (Vc b p)) true]) S:=by
 refine Zw Zt1 ⟨trivial,trivial,trivial⟩ ?_
 simp only[Zhd,Zf,Uaa,Zb,seval,Za,men]
 refine Jf (α:=Unit) b.nodes.length (fun j _=>[(6,.hd (lvl,384) [] 0 (YX b p j).length none (YX b p j).length),(17,iI j)]) (fun j _=>[(384,.ar 1 (rI (YX b p j)) true (YX b p j).length 0)]) (fun _ _=>True) () (by simp only[Zb,seval,Za,men]) (by (simp only[Zb,seval,Za,men]) <;> rfl) trivial ?_
 intro j _ hj _
 simp only[Uaa,Zb,seval,Za,men]
 refine Zx (fun hlt=>?_) (fun hge=>?_)
 ·have hja:j<b.nodes.length:=by omega
  have ga:=Jn (c:=Zr) hja
  have hle:(YX b p j).length<=j:=WM
  simp only[ga,Zr,Uaa,Zb,seval,Za,men]
  refine Zx (fun he=>?_) (fun hne=>?_)
  ·refine⟨by omega,by rw[Zn];omega,ZI () hja ?_ trivial⟩
   rw[YX,XC (by rw[Q1 hja];exact he),Uaj,UV]
   rfl
  ·refine⟨by rw[Zn];omega,ZI () hja ?_ trivial⟩
   rw[YX,X0 (by rw[Q1 hja];exact hne)]
   rfl
 have:j=b.nodes.length:=by omega
 subst this
 refine Jf (α:=Unit) b.sites.length (fun j _=>[(7,.hd (lvl,416) [] 0 (YY b p j).length none (YY b p j).length),(34,iI j)]) (fun j _=>[(416,.ar 1 (rI (YY b p j)) true (YY b p j).length 0)]) (fun _ _=>True) () (by simp only[Zb,seval,Za,men]) (by (simp only[Zb,seval,Za,men]) <;> rfl) trivial ?_
 intro j _ hj _
 simp only[Uaa,Zb,seval,Za,men]
 refine Zx (fun hlt=>?_) (fun hge=>?_)
 ·have hja:j<b.sites.length:=by omega
  have ga:=Vm hja
  have hle:(YY b p j).length<=j:=WM
  simp only[ga,Uaa,Zb,seval,Za,men]
  refine Zx (fun he=>?_) (fun hne=>?_)
  ·refine⟨by omega,by rw[Zn];omega,ZI () hja ?_ trivial⟩
   rw[YY,XC (f:=fun j=>g0 b.sites j=p) he,Uaj,UV]
   rfl
  ·refine⟨by rw[Zn];omega,ZI () hja ?_ trivial⟩
   rw[YY,X0 (f:=fun j=>g0 b.sites j=p) hne]
   rfl
 ·have:j=b.sites.length:=by omega
  subst this
  rfl
def Q3(x:Int×Int):List Tr:=[tv x.1,tv x.2]
def J8(l:Int)(i:Nat)(ls:List Int):Nat->List (Int×Int)
 | 0=>[]
 | k+1=>if g0 ls k=l then J8 l i ls k++[((i:Int),(k:Int))] else J8 l i ls k
theorem ZaM{l:Int}{i:Nat}{ls:List Int}:∀{k:Nat},(J8 l i ls k).length<=k
 | 0=>Uaf 0
 | k+1=>by
  unfold J8
  have:=ZaM (l:=l) (i:=i) (ls:=ls) (k:=k)
  split
  ·rw[Uaj,List.length_singleton];omega
  ·omega
theorem ZhS{l:Int}{i:Nat}{ls:List Int}{k:Nat}(h:g0 ls k=l):J8 l i ls (k+1)=J8 l i ls k++[((i:Int),(k:Int))]:=by rw[J8,if_pos h]
theorem ZhT{l:Int}{i:Nat}{ls:List Int}{k:Nat}(h:¬ g0 ls k=l):J8 l i ls (k+1)=J8 l i ls k:=by rw[J8,if_neg h]
def VG(b:TBigraph)(j:Nat):List Int:=((b.nodes[j]?).map TNode.links).getD []
theorem ZdC{b:TBigraph}{j:Nat}(h:j<b.nodes.length):VG b j=b.nodes[j].links:=by simp [VG,h]
def JX(b:TBigraph)(l:Int):Nat->List (Int×Int)
 | 0=>[]
 | i+1=>JX b l i++J8 l i (VG b i) (VG b i).length
def ports(b:TBigraph)(l:Int):List (Int×Int):=JX b l b.nodes.length
theorem ZaN{b:TBigraph}{l:Int}(h:∀ x∈b.nodes,x.links.length<=1000):∀{j:Nat},j<=b.nodes.length->(JX b l j).length<=j*1000
 | 0,_=>Uba _
 | j+1,hj=>by
  have ih:=ZaN h (l:=l) (j:=j) (by omega)
  have h1:=ZaM (l:=l) (i:=j) (ls:=VG b j) (k:=(VG b j).length)
  have h2:=h _ (Uan (show j<b.nodes.length by omega))
  rw[JX,Uaj]
  rw[ZdC (by omega)] at h1 ⊢
  omega
def U2(b:TBigraph)(j:Nat):Int:=((b.inner[j]?).map TWire.link).getD 0
def ZaO(b:TBigraph)(j:Nat):ByteArray:=((b.inner[j]?).map TWire.name).getD ⟨#[]⟩
theorem ZaP{b:TBigraph}{j:Nat}(h:j<b.inner.length):U2 b j=b.inner[j].link:=by simp [U2,h]
theorem ZhU{b:TBigraph}{j:Nat}(h:j<b.inner.length):ZaO b j=b.inner[j].name:=by simp [ZaO,h]
def Yn(b:TBigraph)(l:Int):Nat->List ByteArray
 | 0=>[]
 | j+1=>if U2 b j=l then Yn b l j++[ZaO b j] else Yn b l j
theorem ZaQ{b:TBigraph}{l:Int}:∀{j:Nat},(Yn b l j).length<=j
 | 0=>Uaf 0
 | j+1=>by
  unfold Yn
  have:=ZaQ (b:=b) (l:=l) (j:=j)
  split
  ·rw[Uaj,List.length_singleton];omega
  ·omega
theorem ZhV{b:TBigraph}{l:Int}{j:Nat}(h:U2 b j=l):Yn b l (j+1)=Yn b l j++[ZaO b j]:=by rw[Yn,if_pos h]
theorem ZhW{b:TBigraph}{l:Int}{j:Nat}(h:¬ U2 b j=l):Yn b l (j+1)=Yn b l j:=by rw[Yn,if_neg h]
def WN(b:TBigraph)(l:Int):List ByteArray:=Yn b l b.inner.length
theorem ZhX(a b:List (Int×Int)):(a++b).map Q3=a.map Q3++b.map Q3:=UaN
theorem ZuQ(b:TBigraph)(l:Int)(hn:b.nodes.length<=1000)(hk:∀ x∈b.nodes,x.links.length<=1000)(lvl:Nat)(S:Zc):Sem UbM Zdn lvl [.ag ((Zf b).map .tr),iI l] S (.ow 2 ((ports b l).map Q3) true) S:=by
 refine Zw Zuj trivial ?_
 simp only[Zhv,Zf,Uaa,Zb,seval,Za,men]
 refine Jf (α:=Unit) b.nodes.length (fun j _=>[(5,.hd (lvl,256) [] 0 (JX b l j).length none (JX b l j).length),(6,iI j)]) (fun j _=>[(256,.ar 2 ((JX b l j).map Q3) true (JX b l j).length 0)]) (fun _ _=>True) () (by simp only[Zb,seval,Za,men]) (by (simp only[Zb,seval,Za,men]) <;> rfl) trivial ?_
 intro j _ hj _
 simp only[Uaa,Zb,seval,Za,men]
 refine Zx (fun hlt=>?_) (fun hge=>?_)
 ·have hja:j<b.nodes.length:=by omega
  have ga:=Jn (c:=Zr) hja
  have hle:=ZaN hk (l:=l) hj
  have hlk:=hk _ (Uan hja)
  refine Jf (α:=Unit) b.nodes[j].links.length (fun k _=>[(5,.hd (lvl,256) [] 0 (JX b l j++J8 l j b.nodes[j].links k).length none (JX b l j++J8 l j b.nodes[j].links k).length),(7,iI k)]) (fun k _=>[(256,.ar 2 ((JX b l j++J8 l j b.nodes[j].links k).map Q3) true (JX b l j++J8 l j b.nodes[j].links k).length 0)]) (fun _ _=>True) () (by simp only[Zb,seval,Za,men]) (by (simp only[J8,Ubd,Zb,seval,Za,men]) <;> rfl) trivial ?_
  intro k _ hkk _
  simp only[ga,Zr,Uaa,Zb,seval,Za,men]
  refine Zx (fun hlt2=>?_) (fun hge2=>?_)
  ·have hka:k<b.nodes[j].links.length:=by omega
   have gl:=Vm hka
   have hr:=ZaM (l:=l) (i:=j) (ls:=b.nodes[j].links) (k:=k)
   simp only[ga,gl,Zr,Uaa,Zb,seval,Za,men]
   refine Zx (fun he=>?_) (fun hne=>?_)
   ·refine⟨by rw[Uaj];omega,by rw[Zn];omega,ZI () hka ?_ trivial⟩
    rw[ZhS he,<-UaR,Uaj (bs:=[_]),ZhX (JX b l j++_)]
    rfl
   ·refine⟨by rw[Zn];omega,ZI () hka ?_ trivial⟩
    rw[ZhT hne]
    rfl
  ·have:k=b.nodes[j].links.length:=by omega
   subst this
   refine⟨by rw[Zn];omega,ZI () hja ?_ trivial⟩
   rw[JX,ZdC hja]
   rfl
 ·have:j=b.nodes.length:=by omega
  subst this
  rfl
theorem ZuR(b:TBigraph)(l:Int)(hn:b.inner.length<=4294967296)(lvl:Nat)(S:Zc):Sem UbM Zdo lvl [.ag ((Zf b).map .tr),iI l] S (.ow 1 (rS (WN b l)) true) S:=by
 refine Zw Zuk trivial ?_
 simp only[Zhw,Zf,Uaa,Zb,seval,Za,men]
 refine Jf (α:=Unit) b.inner.length (fun j _=>[(5,.hd (lvl,224) [] 0 (Yn b l j).length none (Yn b l j).length),(6,iI j)]) (fun j _=>[(224,.ar 1 (rS (Yn b l j)) true (Yn b l j).length 0)]) (fun _ _=>True) () (by simp only[Zb,seval,Za,men]) (by (simp only[Zb,seval,Za,men]) <;> rfl) trivial ?_
 intro j _ hj _
 simp only[Uaa,Zb,seval,Za,men]
 refine Zx (fun hlt=>?_) (fun hge=>?_)
 ·have hja:j<b.inner.length:=by omega
  have ga:=Jn (c:=ZH) hja
  have hle:=ZaQ (b:=b) (l:=l) (j:=j)
  simp only[ga,ZH,Uaa,Zb,seval,Za,men]
  refine Zx (fun he=>?_) (fun hne=>?_)
  ·refine⟨by omega,by rw[Zn];omega,ZI () hja ?_ trivial⟩
   rw[ZhV (by rw[ZaP hja];exact he),Uaj,ZaH,ZhU hja]
   rfl
  ·refine⟨by rw[Zn];omega,ZI () hja ?_ trivial⟩
   rw[ZhW (by rw[ZaP hja];exact hne)]
   rfl
 ·have:j=b.inner.length:=by omega
  subst this
  rfl
theorem ZuS(b:TBigraph)(l:Int)(hn:b.nodes.length<=1000)(hk:∀ x∈b.nodes,x.links.length<=1000)(hi:b.inner.length<=4294967296)(lvl:Nat)(S:Zc):Sem UbM Zdm lvl [.ag ((Zf b).map .tr),iI l] S (.tu [.ow 2 ((ports b l).map Q3) true,.ow 1 (rS (WN b l)) true]) S:=by
 refine Zw Zug ⟨trivial,trivial,trivial⟩ ?_
 simp only[Zhs,Zf,Uaa,Zb,seval,Za,men]
 refine Jf (α:=Unit) b.nodes.length (fun j _=>[(6,.hd (lvl,448) [] 0 (JX b l j).length none (JX b l j).length),(19,iI j)]) (fun j _=>[(448,.ar 2 ((JX b l j).map Q3) true (JX b l j).length 0)]) (fun _ _=>True) () (by simp only[Zb,seval,Za,men]) (by (simp only[Zb,seval,Za,men]) <;> rfl) trivial ?_
 intro j _ hj _
 simp only[Uaa,Zb,seval,Za,men]
 refine Zx (fun hlt=>?_) (fun hge=>?_)
 ·have hja:j<b.nodes.length:=by omega
  have ga:=Jn (c:=Zr) hja
  have hle:=ZaN hk (l:=l) hj
  have hlk:=hk _ (Uan hja)
  simp only[ga,Zr,Uaa,Zb,seval,Za,men]
  refine Jf (α:=Unit) b.nodes[j].links.length (fun k _=>[(6,.hd (lvl,448) [] 0 (JX b l j++J8 l j b.nodes[j].links k).length none (JX b l j++J8 l j b.nodes[j].links k).length),(27,iI k)]) (fun k _=>[(448,.ar 2 ((JX b l j++J8 l j b.nodes[j].links k).map Q3) true (JX b l j++J8 l j b.nodes[j].links k).length 0)]) (fun _ _=>True) () (by simp only[Zb,seval,Za,men]) (by (simp only[J8,Ubd,Zb,seval,Za,men]) <;> rfl) trivial ?_
  intro k _ hkk _
  simp only[ga,Zr,Uaa,Zb,seval,Za,men]
  refine Zx (fun hlt2=>?_) (fun hge2=>?_)
  ·have hka:k<b.nodes[j].links.length:=by omega
   have gl:=Vm hka
   have hr:=ZaM (l:=l) (i:=j) (ls:=b.nodes[j].links) (k:=k)
   simp only[ga,gl,Zr,Uaa,Zb,seval,Za,men]
   refine Zx (fun he=>?_) (fun hne=>?_)
   ·refine⟨by rw[Uaj];omega,by rw[Zn];omega,ZI () hka ?_ trivial⟩
    rw[ZhS he,<-UaR,Uaj (bs:=[_]),ZhX (JX b l j++_)]
    rfl
   ·refine⟨by rw[Zn];omega,ZI () hka ?_ trivial⟩
    rw[ZhT hne]
    rfl
  ·have:k=b.nodes[j].links.length:=by omega
   subst this
   refine⟨by rw[Zn];omega,ZI () hja ?_ trivial⟩
   rw[JX,ZdC hja]
   rfl
 have:j=b.nodes.length:=by omega
 subst this
 refine Jf (α:=Unit) b.inner.length (fun j _=>[(7,.hd (lvl,480) [] 0 (Yn b l j).length none (Yn b l j).length),(46,iI j)]) (fun j _=>[(480,.ar 1 (rS (Yn b l j)) true (Yn b l j).length 0)]) (fun _ _=>True) () (by simp only[Zb,seval,Za,men]) (by (simp only[Zb,seval,Za,men]) <;> rfl) trivial ?_
 intro j _ hj _
 simp only[Uaa,Zb,seval,Za,men]
 refine Zx (fun hlt=>?_) (fun hge=>?_)
 ·have hja:j<b.inner.length:=by omega
  have ga:=Jn (c:=ZH) hja
  have hle:=ZaQ (b:=b) (l:=l) (j:=j)
  simp only[ga,ZH,Uaa,Zb,seval,Za,men]
  refine Zx (fun he=>?_) (fun hne=>?_)
  ·refine⟨by omega,by rw[Zn];omega,ZI () hja ?_ trivial⟩
   rw[ZhV (by rw[ZaP hja];exact he),Uaj,ZaH,ZhU hja]
   rfl
  ·refine⟨by rw[Zn];omega,ZI () hja ?_ trivial⟩
   rw[ZhW (by rw[ZaP hja];exact hne)]
   rfl
 ·have:j=b.inner.length:=by omega
  subst this
  rfl
def idle(b:TBigraph)(l:Int):Prop:=(ports b l).length=0/\(WN b l).length=0
structure small (b:TBigraph):Prop where
 nodes:b.nodes.length<=8
 links:∀ x∈b.nodes,x.links.length<=1000
 sites:b.sites.length<=4
 outer:b.outer.length<=16
 inner:b.inner.length<=16
 roots:0<=b.roots/\b.roots<=4
 edges:0<=b.edges/\b.edges<=8
theorem ZuT{sig:List TControl}(h:VE sig)(c:Int):XZ sig c<=3:=by
 unfold XZ
 cases e:sig[c.toNat]? with
 | none=>decide
 | some x =>
  obtain⟨hl,rfl⟩:=Uac.1 e
  exact((h.1 _ hl).1).2.1.2
theorem bigOK.small{sig:List TControl}{b:TBigraph}(h:bigOK sig b):small b :=
 ⟨h.nodesL,fun x hx=>by
  obtain⟨k,hk,rfl⟩:=Ua1 hx
  have h1:=(h.nodes k hk).ports
  have h2:=ZuT h.sg b.nodes[k].control
  omega,h.sitesL,h.outer.2,by have:=h.inn.2;rw[ZaK] at this;exact this,h.roots,h.edges⟩
theorem ZuU(b:TBigraph)(l:Int)(hs:small b)(lvl:Nat)(S:Zc):Sem UbM Zdl lvl [.ag ((Zf b).map .tr),iI l] S (iB (dc (idle b l))) S:=by
 have s1:=hs.nodes
 have s2:=hs.inner
 refine Zw Zue trivial ?_
 simp only[Zhq,Zf,Uaa,Zb,seval,Za,men]
 refine Zg (ZuQ b l (by omega) hs.links) ?_
 by_cases h1:(ports b l).length=0
 ·have h1':((ports b l).length:Int)=0:=by omega
  simp only[h1,h1',Zf,Uaa,Zb,seval,Za,men]
  refine Zg (ZuR b l (by omega)) ?_
  simp only[Uaa,Zb,seval,Za,men]
  have hiff:idle b l↔((WN b l).length:Int)=0:=⟨fun h=>by have:=h.2;omega,fun h=>⟨h1,by omega⟩⟩
  rw[Ym hiff,Vb]
 ·have h1':¬ ((ports b l).length:Int)=0:=by omega
  simp only[h1',Zf,Uaa,Zb,seval,Za,men]
  rw[ZD fun h:idle b l=>h1 h.1]
theorem ZuV(b:TBigraph)(l:Int)(hs:small b)(lvl:Nat)(S:Zc):Sem UbM Zdd lvl [.ag ((Zf b).map .tr),iI l] S (iB (dc (idle b l))) S:=by
 have s1:=hs.nodes
 have s2:=hs.inner
 have e1:(ports b l).length<=b.nodes.length*1000:=ZaN hs.links (Uaf _)
 have e2:(WN b l).length<=b.inner.length:=ZaQ
 refine Zw Zt2 trivial ?_
 simp only[Zhe,Zf,Uaa,Zb,seval,Za,men]
 refine Zg (ZuS b l (by omega) hs.links (by omega)) ?_
 simp only[Uaa,Zb,seval,Za,men]
 refine⟨by rw[Zn];omega,?_⟩
 have hiff:idle b l↔((ports b l).length:Int)+(WN b l).length=0:=⟨fun h=>by have:=h.1;have:=h.2;omega,fun h=>⟨by omega,by omega⟩⟩
 rw[Ym hiff,Vb]
structure solid (b:TBigraph):Prop where
 inner:b.inner.length=0
 roots:¬ b.roots=0
 root:∀ r:Nat,(r:Int)<b.roots -> ¬ (VF b (-1-r)).length=0/\(Vc b (-1-r)).length=0
 node:∀ i:Nat,i<b.nodes.length->(Vc b i).length<=1
 link:∀ l:Nat,(l:Int)<b.edges+b.outer.length -> ¬ idle b l
theorem ZuW(b:TBigraph)(hs:small b)(lvl:Nat)(S:Zc):Sem UbM Zc7 lvl [.ag ((Zf b).map .tr)] S (iB (dc (solid b))) S:=by
 have s1:=hs.nodes
 have s2:=hs.inner
 have s3:=hs.sites
 have s4:=hs.outer
 obtain⟨r1,r2⟩:=hs.roots
 obtain⟨e1,e2⟩:=hs.edges
 refine Zw ZtS trivial ?_
 simp only[Zg4,Zf,Uaa,Zb,seval,Za,men]
 by_cases h1:(0:Int)<b.inner.length
 ·simp only[h1,Uaa,Zb,seval,Za,men]
  rw[ZD fun h:solid b=>by have:=h.inner;omega]
 by_cases h2:b.roots=0
 ·simp only[h1,h2,Uaa,Zb,seval,Za,men]
  rw[ZD fun h:solid b=>h.roots h2]
 simp only[h1,h2,Uaa,Zb,seval,Za,men]
 refine Jf (α:=Unit) b.roots.toNat (fun j _=>[(3,iI j)]) (fun j _=>[]) (fun j _=>∀ r,r<j -> ¬ (VF b (-1-(r:Nat))).length=0/\(Vc b (-1-(r:Nat))).length=0) () (by simp only[Zb,seval,Za,men]) (by (simp only[Zb,seval,Za,men]) <;> rfl) (fun k hk=>absurd hk (UaK k)) ?_
 intro j _ hj hA
 simp only[Uaa,Zb,seval,Za,men]
 refine Zx (fun hlt=>?_) (fun hge=>?_)
 ·have hja:j<b.roots.toNat:=by omega
  refine⟨by rw[Zn];omega,?_⟩
  refine Zg (ZuO b (-1-(j:Nat)) (by omega)) ?_
  by_cases p1:(VF b (-1-(j:Nat))).length=0
  ·have p1':((VF b (-1-(j:Nat))).length:Int)=0:=by omega
   simp only[p1,p1',Uaa,Zb,seval,Za,men]
   rw[ZD fun h:solid b=>(h.root j (by omega)).1 p1]
  have p1':¬ ((VF b (-1-(j:Nat))).length:Int)=0:=by omega
  simp only[p1',Uaa,Zb,seval,Za,men]
  refine⟨by rw[Zn];omega,?_⟩
  refine Zg (ZhR b (-1-(j:Nat)) (by omega)) ?_
  simp only[Uaa,Zb,seval,Za,men]
  refine Zx (fun p2=>?_) (fun p2=>?_)
  ·rw[ZD fun h:solid b=>by have:=(h.root j (by omega)).2;omega]
  ·exact⟨by rw[Zn];omega,ZI () hja rfl (YC hA ⟨p1,by omega⟩)⟩
 have hj1:j=b.roots.toNat:=by omega
 subst hj1
 refine Jf (α:=Unit) b.nodes.length (fun j _=>[(4,iI j)]) (fun j _=>[]) (fun j _=>∀ i,i<j->(Vc b (i:Nat)).length<=1) () (by simp only[Zb,seval,Za,men]) (by (simp only[Zb,seval,Za,men]) <;> rfl) (fun k hk=>absurd hk (UaK k)) ?_
 intro j _ hj hB
 simp only[Uaa,Zb,seval,Za,men]
 refine Zx (fun hlt=>?_) (fun hge=>?_)
 ·have hja:j<b.nodes.length:=by omega
  refine Zg (ZhR b (j:Nat) (by omega)) ?_
  simp only[Uaa,Zb,seval,Za,men]
  refine Zx (fun p2=>?_) (fun p2=>?_)
  ·rw[ZD fun h:solid b=>by have:=h.node j hja;omega]
  ·exact⟨by rw[Zn];omega,ZI () hja rfl (YC hB (by omega))⟩
 have hj1:j=b.nodes.length:=by omega
 subst hj1
 refine Jf (α:=Unit) (b.edges+b.outer.length).toNat (fun j _=>[(5,iI j)]) (fun j _=>[]) (fun j _=>∀ i,i<j -> ¬ idle b (i:Nat)) () (by simp only[Zb,seval,Za,men]) (by (simp only[Zb,seval,Za,men]) <;> rfl) (fun k hk=>absurd hk (UaK k)) ?_
 intro j _ hj hC
 simp only[Uaa,Zb,seval,Za,men]
 refine⟨by rw[Zn];omega,?_⟩
 refine Zx (fun hlt=>?_) (fun hge=>?_)
 ·have hja:j<(b.edges+b.outer.length).toNat:=by omega
  refine Zg (ZuU b (j:Nat) hs) ?_
  cases hc:dc (idle b (j:Nat))
  ·simp only[Zb,seval,Za,men]
   exact⟨by rw[Zn];omega,ZI () hja rfl (YC hC (dc_not.1 hc))⟩
  ·simp only[Zb,seval,Za,men]
   rw[ZD fun h:solid b=>h.link j (by omega) (dc_iff.1 hc)]
 have hj1:j=(b.edges+b.outer.length).toNat:=by omega
 subst hj1
 have:solid b:=⟨by omega,h2,fun r hr=>hA r (by omega),hB,fun l hl=>hC l (by omega)⟩
 rw[J3 this]
theorem ZuX(b:TBigraph)(hs:small b)(lvl:Nat)(S:Zc):Sem UbM Zc1 lvl [.ag ((Zf b).map .tr)] S (iB (dc (solid b))) S:=by
 have s1:=hs.nodes
 have s2:=hs.inner
 have s3:=hs.sites
 have s4:=hs.outer
 obtain⟨r1,r2⟩:=hs.roots
 obtain⟨e1,e2⟩:=hs.edges
 refine Zw ZtK trivial ?_
 simp only[ZgX,Zf,Uaa,Zb,seval,Za,men]
 by_cases h1:(0:Int)<b.inner.length
 ·simp only[h1,Uaa,Zb,seval,Za,men]
  rw[ZD fun h:solid b=>by have:=h.inner;omega]
 by_cases h2:b.roots=0
 ·simp only[h1,h2,Uaa,Zb,seval,Za,men]
  rw[ZD fun h:solid b=>h.roots h2]
 simp only[h1,h2,Uaa,Zb,seval,Za,men]
 refine⟨by rw[Zn];omega,?_⟩
 refine Jf (α:=Unit) (b.roots+b.nodes.length).toNat (fun j _=>[(3,iI (-b.roots+j))]) (fun j _=>[]) (fun j _=>∀ r,r<j->((-b.roots+(r:Nat)<0 -> ¬ (VF b (-b.roots+(r:Nat))).length=0/\(Vc b (-b.roots+(r:Nat))).length=0)/\(Vc b (-b.roots+(r:Nat))).length<=1)) () (by simp only[Zb,seval,Za,men]) (by (simp only[Int.natCast_zero,Int.cast_ofNat_Int,Int.add_zero,Zb,seval,Za,men]) <;> rfl) (fun k hk=>absurd hk (UaK k)) ?_
 intro j _ hj hA
 simp only[Uaa,Zb,seval,Za,men]
 refine Zx (fun hlt=>?_) (fun hge=>?_)
 ·have hja:j<(b.roots+b.nodes.length).toNat:=by omega
  refine Zg (ZuP b (-b.roots+(j:Nat)) (by omega) (by omega)) ?_
  have hno:(solid b->False)->dc (solid b)=false:=fun h=>ZD h
  have hroot:solid b -> -b.roots+(j:Int)<0 -> ¬ (VF b (-b.roots+(j:Nat))).length=0/\(Vc b (-b.roots+(j:Nat))).length=0:=fun h hn=>by
   have:=h.root (b.roots-1-j).toNat (by omega)
   have e:(-1-((b.roots-1-j).toNat:Int)) = -b.roots+j:=by omega
   rw[e] at this
   exact this
  have hnode:solid b -> ¬ -b.roots+(j:Int)<0->(Vc b (-b.roots+(j:Nat))).length<=1:=fun h hn=>by
   have:=h.node (-b.roots+j).toNat (by omega)
   have e:(((-b.roots+j).toNat:Nat):Int) = -b.roots+j:=by omega
   rw[e] at this
   exact this
  have hnext:(-b.roots+(j:Int))+1 = -b.roots+((j+1:Nat):Int):=by omega
  by_cases q:-b.roots+(j:Int)<0
  ·by_cases k0:(VF b (-b.roots+(j:Nat))).length=0
   ·have k0':((VF b (-b.roots+(j:Nat))).length:Int)=0:=by omega
    simp only[q,k0,k0',Uaa,Zb,seval,Za,men]
    rw[hno fun h=>(hroot h q).1 k0]
   have k0':¬ ((VF b (-b.roots+(j:Nat))).length:Int)=0:=by omega
   by_cases k1:(Vc b (-b.roots+(j:Nat))).length=0
   ·have k1a:¬ (0:Int)<((Vc b (-b.roots+(j:Nat))).length:Int):=by omega
    have k1b:¬ (1:Int)<((Vc b (-b.roots+(j:Nat))).length:Int):=by omega
    simp only[q,k0',k1a,k1b,Uaa,Zb,seval,Za,men]
    refine⟨by rw[Zn];omega,?_⟩
    rw[hnext]
    exact ZI () hja rfl (YC hA ⟨fun _=>⟨k0,k1⟩,by omega⟩)
   ·have k1a:(0:Int)<((Vc b (-b.roots+(j:Nat))).length:Int):=by omega
    simp only[q,k0',k1a,Uaa,Zb,seval,Za,men]
    rw[hno fun h=>k1 (hroot h q).2]
  ·simp only[q,Uaa,Zb,seval,Za,men]
   refine Zx (fun k2=>?_) (fun k2=>?_)
   ·rw[hno fun h=>by have:=hnode h q;omega]
   ·refine⟨by rw[Zn];omega,?_⟩
    rw[hnext]
    exact ZI () hja rfl (YC hA ⟨fun h=>absurd h q,by omega⟩)
 have hj1:j=(b.roots+b.nodes.length).toNat:=by omega
 subst hj1
 refine⟨by rw[Zn];omega,?_⟩
 refine Jf (α:=Unit) (b.edges+b.outer.length).toNat (fun j _=>[(55,iI j)]) (fun j _=>[]) (fun j _=>∀ i,i<j -> ¬ idle b (i:Nat)) () (by simp only[Zb,seval,Za,men]) (by (simp only[Zb,seval,Za,men]) <;> rfl) (fun k hk=>absurd hk (UaK k)) ?_
 intro j _ hj hC
 simp only[Uaa,Zb,seval,Za,men]
 refine Zx (fun hlt=>?_) (fun hge=>?_)
 ·have hja:j<(b.edges+b.outer.length).toNat:=by omega
  refine Zg (ZuV b (j:Nat) hs) ?_
  cases hc:dc (idle b (j:Nat))
  ·simp only[Zb,seval,Za,men]
   exact⟨by rw[Zn];omega,ZI () hja rfl (YC hC (dc_not.1 hc))⟩
  ·simp only[Zb,seval,Za,men]
   rw[ZD fun h:solid b=>h.link j (by omega) (dc_iff.1 hc)]
 have hj1:j=(b.edges+b.outer.length).toNat:=by omega
 subst hj1
 have:solid b:=⟨by omega,h2,fun r hr=>by
  have:=(hA (b.roots-1-r).toNat (by omega)).1
  have e:-b.roots+((b.roots-1-r).toNat:Int) = -1-r:=by omega
  rw[e] at this
  exact this (by omega),fun i hi=>by
  have:=(hA (b.roots+i).toNat (by omega)).2
  have e:-b.roots+((b.roots+i).toNat:Int)=i:=by omega
  rw[e] at this
  exact this,fun l hl=>hC l (by omega)⟩
 rw[J3 this]
theorem ZuY(sig:List TControl)(b:TBigraph)(hn:sig.length<=4294967296)(hbs:∀ y∈sig,Jw 4294967296 y)(hb:Jj 4294967296 b)(hf:YW b)(lvl:Nat)(S:Zc):Sem UbM ZcT lvl [.tr (.sl (sig.map ZF)),.ag ((Zf b).map .tr)] S (iB (dc (bigOK sig b/\solid b))) S:=by
 refine Zw ZtD trivial ?_
 simp only[ZgQ,Uaa,Zf,Zb,seval,Za,men]
 refine Zg (U1 sig b hn hbs hb hf) ?_
 cases h1:dc (bigOK sig b)
 ·simp only[Zb,seval,Za,men]
  rw[ZD fun g:bigOK sig b/\solid b=>dc_not.1 h1 g.1]
 simp only[Uaa,Zf,Zb,seval,Za,men]
 have g1:=dc_iff.1 h1
 refine Zg (ZuW b g1.small) ?_
 simp only[Zb,seval,Za,men]
 rw[Ym (p:=bigOK sig b/\solid b) ⟨fun g=>g.2,fun g=>⟨g1,g⟩⟩]
theorem ZuZ(a b:List ByteArray)(ha:a.length<=4294967296)(hb:b.length<=4294967296)(lvl:Nat)(S:Zc):Sem UbM ZcU lvl [.tr (.sl (rS a)),.tr (.sl (rS b))] S (iB (dc (a=b))) S:=by
 refine Zw ZtF trivial ?_
 simp only[ZgS,Uaa,Zb,seval,Za,men]
 refine Jf (α:=Unit) (min a.length b.length) (fun j _=>[(5,iI j)]) (fun j _=>[]) (fun j _=>∀ k,k<j->∀(h1:k<a.length) (h2:k<b.length),a[k]=b[k]) () (by simp only[Zb,seval,Za,men]) (by (simp only[Zb,seval,Za,men]) <;> rfl) (fun k hk=>absurd hk (UaK k)) ?_
 intro j _ hj hA
 simp only[Uaa,Zb,seval,Za,men]
 by_cases hlt:j<min a.length b.length
 ·have hja:j<a.length:=by omega
  have hjb:j<b.length:=by omega
  have q1:(j:Int)<a.length:=by omega
  have q2:(j:Int)<b.length:=by omega
  have ga:=Jn (c:=fun s=>[ts s]) hja
  have gb:=Jn (c:=fun s=>[ts s]) hjb
  simp only[q1,q2,ga,gb,Uaa,Zb,seval,Za,men]
  by_cases hc:a[j]=b[j]
  ·simp only[hc,Zb,seval,Za,men]
   exact⟨by rw[Zn];omega,ZI () hlt rfl (YC hA fun _ _=>hc)⟩
  ·simp only[hc,Zb,seval,Za,men]
   have:¬ a=b:=fun h=>hc (by subst h;rfl)
   rw[ZD this]
 ·have Z8:((a.length:Int)=b.length)↔a=b:=⟨fun h=>List.ext_getElem (by omega) fun k h1 h2=>hA k (by omega) h1 h2,fun h=>by rw[h]⟩
  by_cases q1:(j:Int)<a.length
  ·have q2:¬ (j:Int)<b.length:=by omega
   simp only[q1,q2,Uaa,Zb,seval,Za,men]
   rw[<-Vb,Ym Z8]
  ·simp only[q1,Uaa,Zb,seval,Za,men]
   rw[<-Vb,Ym Z8]
def X1(r:TRule)(k:Int):Prop:=0<=k/\k<=(r.redex.sites.length:Int)-1
structure ruleOK (sig:List TControl) (r:TRule):Prop where
 red:bigOK sig r.redex
 sol:solid r.redex
 rea:bigOK sig r.reactum
 inn:r.reactum.inner.length=0
 roots:r.redex.roots=r.reactum.roots
 outer:r.redex.outer=r.reactum.outer
 copies:∀ k∈r.copies,X1 r k
 len:r.copies.length=r.reactum.sites.length
def ZaR(r:TRule):Prop:=(∀ k∈r.copies,X1 r k)/\r.copies.length=r.reactum.sites.length
theorem Zu0(r:TRule)(hb:YB 4294967296 r)(lvl:Nat)(S:Zc):Sem UbM ZcV lvl [.ag ((Zs r).map .tr)] S (iB (dc (ZaR r))) S:=by
 obtain⟨⟨a1,a2,a3,a4,a5,a6,a7⟩,⟨b1,b2,b3,b4,b5,b6,b7⟩,b8⟩:=hb
 refine Zw ZtG trivial ?_
 simp only[ZgT,Zs,Uaa,Zb,seval,Za,men]
 refine Jf (α:=Unit) r.copies.length (fun j _=>[(3,iI j)]) (fun j _=>[]) (fun j _=>∀ k,k<j->X1 r (g0 r.copies k)) () (by simp only[Zb,seval,Za,men]) (by (simp only[Zb,seval,Za,men]) <;> rfl) (fun k hk=>absurd hk (UaK k)) ?_
 intro j _ hj hA
 simp only[Uaa,Zb,seval,Za,men]
 refine Zx (fun hlt=>?_) (fun hge=>?_)
 ·have hja:j<r.copies.length:=by omega
  have ga:=Vm hja
  simp only[ga,Uaa,Zb,seval,Za,men]
  refine⟨by rw[Zn];omega,?_⟩
  refine Zg (Qp (g0 r.copies j) 0 ((r.redex.sites.length:Int)-1)) ?_
  cases hc:J4 (g0 r.copies j) 0 ((r.redex.sites.length:Int)-1)
  ·simp only[Zb,seval,Za,men]
   rw[ZD fun h:ZaR r=>inB_not.1 hc (h.1 _ (by simp [hja]))]
  ·simp only[Zb,seval,Za,men]
   exact⟨by rw[Zn];omega,ZI () hja rfl (YC hA (inB_iff.1 hc))⟩
 ·have hj1:j=r.copies.length:=by omega
  subst hj1
  have hiff:ZaR r↔(r.copies.length:Int)=r.reactum.sites.length:=⟨fun h=>by have:=h.2;omega,fun h=>⟨fun n hn=>by
   obtain⟨k,hk,rfl⟩:=Ua1 hn
   have:=hA k hk
   simpa [hk] using this,by omega⟩⟩
  rw[Ym hiff,Vb]
theorem Zu1(sig:List TControl)(r:TRule)(hn:sig.length<=4294967296)(hbs:∀ y∈sig,Jw 4294967296 y)(hb:YB 4294967296 r)(hf:Xw r)(lvl:Nat)(S:Zc):Sem UbM Zcw lvl [.tr (.sl (sig.map ZF)),.ag ((Zs r).map .tr)] S (iB (dc (ruleOK sig r))) S:=by
 have hb0:=hb
 obtain⟨d1,d2,d3⟩:=hb
 obtain⟨f1,f2,f3⟩:=hf
 refine Zw Ztw trivial ?_
 simp only[ZgI,Zs,Uaa,Zb,seval,Za,men]
 refine Zg (ZuY sig r.redex hn hbs d1 f1) ?_
 cases h1:dc (bigOK sig r.redex/\solid r.redex)
 ·simp only[Zb,seval,Za,men]
  rw[ZD fun h:ruleOK sig r=>dc_not.1 h1 ⟨h.red,h.sol⟩]
 simp only[Zs,Uaa,Zb,seval,Za,men]
 refine Zg (U1 sig r.reactum hn hbs d2 f2) ?_
 cases h2:dc (bigOK sig r.reactum)
 ·simp only[Zb,seval,Za,men]
  rw[ZD fun h:ruleOK sig r=>dc_not.1 h2 h.rea]
 have g1:=dc_iff.1 h1
 have g2:=dc_iff.1 h2
 by_cases h3:(r.reactum.inner.length:Int)=0
 case neg =>
  simp only[h3,Zs,Uaa,Zb,seval,Za,men]
  rw[ZD fun h:ruleOK sig r=>by have:=h.inn;omega]
 by_cases h4:r.redex.roots=r.reactum.roots
 case neg =>
  simp only[h3,h4,Zs,Uaa,Zb,seval,Za,men]
  rw[ZD fun h:ruleOK sig r=>h4 h.roots]
 have h4':(r.redex.roots=r.reactum.roots)=True:=eq_true h4
 simp only[h3,h4',Zs,Uaa,Zb,seval,Za,men]
 have o1:=g1.1.outer.2
 have o2:=g2.outer.2
 refine Zg (ZuZ r.redex.outer r.reactum.outer (by omega) (by omega)) ?_
 cases h5:dc (r.redex.outer=r.reactum.outer)
 ·simp only[Zb,seval,Za,men]
  rw[ZD fun h:ruleOK sig r=>dc_not.1 h5 h.outer]
 simp only[Zs,Uaa,Zb,seval,Za,men]
 refine Zg (Zu0 r hb0) ?_
 simp only[Zb,seval,Za,men]
 rw[Ym (p:=ruleOK sig r) (q:=ZaR r) ⟨fun h=>⟨h.copies,h.len⟩,fun h=>⟨g1.1,g1.2,g2,by omega,h4,dc_iff.1 h5,h.1,h.2⟩⟩]
theorem Zu2(sig:List TControl)(a b:TBigraph)(hn:sig.length<=4294967296)(hbs:∀ y∈sig,Jw 4294967296 y)(ha:Jj 4294967296 a)(hb:Jj 4294967296 b)(lvl:Nat)(S:Zc):Sem UbM Zc0 lvl [.tr (.sl (sig.map ZF)),.ag ((Zf a).map .tr),.ag ((Zf b).map .tr)] S (iB (dc (bigOK sig a/\bigOK sig b))) S:=by
 refine Zw ZtJ trivial ?_
 simp only[ZgW,Zf,Uaa,Zb,seval,Za,men]
 refine Zg (ZaL sig a hn hbs ha) ?_
 cases h1:dc (bigOK sig a)
 ·simp only[Zb,seval,Za,men]
  rw[ZD fun h:bigOK sig a/\bigOK sig b=>dc_not.1 h1 h.1]
 simp only[Zf,Uaa,Zb,seval,Za,men]
 refine Zg (ZaL sig b hn hbs hb) ?_
 simp only[Zb,seval,Za,men]
 rw[Ym (p:=bigOK sig a/\bigOK sig b) (q:=bigOK sig b) ⟨fun h=>h.2,fun h=>⟨dc_iff.1 h1,h⟩⟩]
theorem Zu3(k:Int)(r:TRule)(hb:r.redex.sites.length<=4294967296)(lvl:Nat)(S:Zc):Sem UbM Zc2 lvl [iI k,.ta (Zs r)] S (iB (!dc (X1 r k))) S:=by
 refine Zw ZtL trivial ?_
 simp only[ZgY,Zs,Uaa,Zb,seval,Za,men]
 refine⟨by rw[Zn];omega,?_⟩
 refine Zg (QZ k 0 ((r.redex.sites.length:Int)-1)) ?_
 simp only[Zb,seval,Za,men]
 rw[ZaG]
 rfl
theorem Zu4:Zo UbM Zgz Zds=true:=by kernel_rfl
theorem Zu5(sig:List TControl)(r:TRule)(hn:sig.length<=4294967296)(hbs:∀ y∈sig,Jw 4294967296 y)(hb:YB 4294967296 r)(_hf:Xw r)(lvl:Nat)(S:Zc):Sem UbM ZcD lvl [.tr (.sl (sig.map ZF)),.ag ((Zs r).map .tr)] S (iB (dc (ruleOK sig r))) S:=by
 obtain⟨d1,d2,d3⟩:=hb
 refine Zw Ztz trivial ?_
 simp only[ZgM,Zs,Uaa,Zb,seval,Za,men]
 refine Zg (Zu2 sig r.redex r.reactum hn hbs d1 d2) ?_
 cases h1:dc (bigOK sig r.redex/\bigOK sig r.reactum)
 ·simp only[Zb,seval,Za,men]
  rw[ZD fun h:ruleOK sig r=>dc_not.1 h1 ⟨h.red,h.rea⟩]
 have g1:=dc_iff.1 h1
 simp only[Zs,Uaa,Zb,seval,Za,men]
 refine Zg (ZuX r.redex g1.1.small) ?_
 cases h2:dc (solid r.redex)
 ·simp only[Zb,seval,Za,men]
  rw[ZD fun h:ruleOK sig r=>dc_not.1 h2 h.sol]
 by_cases h3:(0:Int)<r.reactum.inner.length
 ·simp only[h3,Zs,Uaa,Zb,seval,Za,men]
  rw[ZD fun h:ruleOK sig r=>by have:=h.inn;omega]
 by_cases h4:r.redex.roots=r.reactum.roots
 case neg =>
  simp only[h3,h4,Zs,Uaa,Zb,seval,Za,men]
  rw[ZD fun h:ruleOK sig r=>h4 h.roots]
 have h4':(r.redex.roots=r.reactum.roots)=True:=eq_true h4
 simp only[h3,h4',Zs,Uaa,Zb,seval,Za,men]
 have o1:=g1.1.outer.2
 have o2:=g1.2.outer.2
 refine Zg (Zup Zu4 Zuo r.redex.outer r.reactum.outer (by omega)) ?_
 by_cases h5:r.redex.outer=r.reactum.outer
 case neg =>
  simp only[h5,Zs,Uaa,Zb,seval,Za,men]
  rw[ZD fun h:ruleOK sig r=>h5 h.outer]
 have h5':(r.redex.outer=r.reactum.outer)=True:=eq_true h5
 by_cases h6:r.copies.length=r.reactum.sites.length
 case neg =>
  have h6':¬ (r.copies.length:Int)=r.reactum.sites.length:=by omega
  simp only[h5',h6',Zs,Uaa,Zb,seval,Za,men]
  rw[ZD fun h:ruleOK sig r=>h6 h.len]
 have h6':((r.copies.length:Int)=r.reactum.sites.length)=True:=eq_true (by omega)
 simp only[h5',h6',Zs,Uaa,Zb,seval,Za,men]
 refine Zg (Zdu (t:=tv) (cs:=[Zs r]) Zdy Zdx r.copies (by omega) (fun x _ lvl S=>Zu3 x r d1.2.2.1 lvl S)) ?_
 cases h7:r.copies.any fun k=>!dc (X1 r k)
 ·simp only[Zb,seval,Za,men]
  have:ruleOK sig r:=⟨g1.1,dc_iff.1 h2,g1.2,by omega,h4,h5,any_no.1 h7,h6⟩
  rw[J3 this]
 ·simp only[Zb,seval,Za,men]
  rw[ZD fun h:ruleOK sig r=>by rw[any_no.2 h.copies] at h7;cases h7]
theorem ZhY{l:List ByteArray}:ScR (rS l)=True:=eq_true fun e he t ht=>by
 obtain⟨n,_,rfl⟩:=UaM.1 he
 simp only[UaW,UbH,or_false] at ht
 subst ht
 rfl
theorem ZhZ{l:List ByteArray}:ZA 1 (rS l)=True:=eq_true (Zcd (fun n:ByteArray=>[ts n]) (fun _=>rfl) l)
theorem Zh0{l:List Int}:ScR (rI l)=True:=eq_true fun e he t ht=>by
 obtain⟨n,_,rfl⟩:=UaM.1 he
 simp only[UaW,UbH,or_false] at ht
 subst ht
 rfl
theorem Zh1{l:List Int}:ZA 1 (rI l)=True:=eq_true (Zcd (fun n:Int=>[tv n]) (fun _=>rfl) l)
theorem Zu6{l:List TWire}:ScR (l.map ZH)=True:=eq_true fun e he t ht=>by
 obtain⟨n,_,rfl⟩:=UaM.1 he
 simp only[ZH,UaW,UbH,or_false] at ht
 rcases ht with rfl | rfl <;> rfl
theorem Zu7{l:List TWire}:ZA 2 (l.map ZH)=True:=eq_true (Zcd ZH (fun _=>rfl) l)
theorem ZdD(l:List Int)(hl:l.length<=4294967296)(lvl:Nat)(S:Zc):Sem UbM US lvl [tI l] S (.ow 1 (rI l) true) S:=by
 refine Zw ZtR trivial ?_
 simp only[Zg3,Uaa,Zh0,Zh1,Zb,seval,Za,men]
 exact⟨hl,fun h=>by rw[h]⟩
theorem Zh2(l:List ByteArray)(hl:l.length<=4294967296)(lvl:Nat)(S:Zc):Sem UbM Zau lvl [.tr (.sl (rS l))] S (.ow 1 (rS l) true) S:=by
 refine Zw ZtQ trivial ?_
 simp only[Zg2,Uaa,ZhY,ZhZ,Zb,seval,Za,men]
 exact⟨hl,fun h=>by rw[h]⟩
theorem Zu8(l:List TWire)(hl:l.length<=4294967296)(lvl:Nat)(S:Zc):Sem UbM Zdj lvl [.tr (.sl (l.map ZH))] S (.ow 2 (l.map ZH) true) S:=by
 refine Zw Zub trivial ?_
 simp only[Zhn,Uaa,Zu6,Zu7,Zb,seval,Za,men]
 exact⟨hl,fun h=>by rw[h]⟩
theorem Zu9(b:TBigraph)(hb:Jj 4294967290 b)(lvl:Nat)(S:Zc):Sem UbM Zc4 lvl [.ag ((Zf b).map .tr)] S (Zz b) S:=by
 obtain⟨b1,b2,b3,b4,b5,b6,b7⟩:=hb
 refine Zw ZtP (by simp [Zz,low,men,Za]) ?_
 simp only[Zg1,Zf,Zb,seval,Za,men]
 refine Zg (ZdD b.sites (by omega)) ?_
 simp only[Uaa,Zb,seval,Za,men]
 refine Zg (Zh2 b.outer (by omega)) ?_
 simp only[Uaa,Zb,seval,Za,men]
 refine Zg (Zu8 b.inner (by omega)) ?_
 simp only[Uaa,Zb,seval,Za,men]
 refine Jf (α:=Unit) b.nodes.length (fun j _=>[(23,iI j)]) (fun j _=>[(96,.bx [iI b.roots,.hd (lvl,608) [] 0 j none j,.hd (lvl,320) [] 0 b.sites.length none b.sites.length,iI b.edges,.hd (lvl,480) [] 0 b.outer.length none b.outer.length,.hd (lvl,576) [] 0 b.inner.length none b.inner.length]),(608,.ar 3 ((b.nodes.take j).map Zr) true j 0)]) (fun _ _=>True) () (by simp only[Zb,seval,Za,men]) (by (simp only[Zb,seval,Za,men]) <;> rfl) trivial ?_
 intro j _ hj _
 simp only[Uaa,Zb,seval,Za,men]
 refine Zx (fun hlt=>?_) (fun hge=>?_)
 ·have hja:j<b.nodes.length:=by omega
  have ga:=Jn (c:=Zr) hja
  have k2:b.nodes[j].links.length<=4294967290:=b2 _ (Uan hja)
  have hl1:((b.nodes.take j).map Zr).length=j:=by rw[Uaa,Uap];omega
  have st1:(b.nodes.take j).map Zr++[[Tr.v (Value.int .i64 b.nodes[j].control),Tr.v (Value.int .i64 b.nodes[j].parent),Tr.sl (rI b.nodes[j].links)]]=(b.nodes.take (j+1)).map Zr:=by
   rw[Uaz hja,UaN]
   rfl
  simp only[ga,hja,Zr,Zb,seval,Za,men]
  refine Zg (ZdD b.nodes[j].links (by omega)) ?_
  have hl2:(List.map (fun x=>[Tr.v (Value.int .i64 x.control),Tr.v (Value.int .i64 x.parent),Tr.sl (rI x.links)]) (b.nodes.take j)).length=j:=by rw[Uaa,Uap];omega
  simp only[hl1,st1,Zr,Zb,seval,Za,men]
  exact⟨by omega,by rw[Zn];omega,ZI () hja rfl trivial⟩
 ·have:j=b.nodes.length:=by omega
  subst this
  rw[Ubk]
  exact⟨rfl,rfl⟩
theorem Zh3{l:List ByteArray}(h:Vn l){s:ByteArray}(hs:s∈l):s.size<=4:=by
 obtain⟨i,hi,rfl⟩:=Ua1 hs
 exact(h.1 i hi).1.2.2
theorem U3{a c:Nat}{b:TBigraph}(h:a<=c)(hb:Jj a b):Jj c b:=by
 obtain⟨b1,b2,b3,b4,b5,b6,b7⟩:=hb
 exact⟨by omega,fun y hy=>UaE (b2 y hy) h,by omega,by omega,fun y hy=>UaE (b5 y hy) h,by omega,fun y hy=>UaE (b7 y hy) h⟩
theorem ZdE{sig:List TControl}{b:TBigraph}(h:bigOK sig b):Jj 1000 b:=by
 have hs:=h.small
 have s1:=hs.nodes;have s2:=hs.sites;have s3:=hs.inner;have s4:=hs.outer
 refine⟨by omega,fun y hy=>hs.links y hy,by omega,by omega,fun y hy=>?_,by omega,fun w hw=>?_⟩
 ·have:=Zh3 h.outer hy;omega
 ·have hn:w.name∈inn b:=UaM.2 ⟨w,hw,rfl⟩
  have:=Zh3 h.inn hn
  simp only[YA]
  omega
def JJ:TBigraph:=⟨0,[],[],0,[],[]⟩
theorem Zva(sig:List TControl)(b:TBigraph)(hn:sig.length<=4294967296)(hbs:∀ y∈sig,Jw 4294967296 y)(hb:Jj 4294967296 b)(hf:YW b)(hG:bigOK sig b)(lvl:Nat)(S:Zc):Sem UbM Zar lvl [.tr (.sl (sig.map ZF)),.ag ((Zf b).map .tr)] S (.tu [.ag ((Zf b).map .tr),iB true]) S:=by
 refine Zw ZgK (by simp [Zf,low,men,Za]) ?_
 simp only[Zdq,Zf,Zb,seval,Za,men]
 refine Zg (U1 sig b hn hbs hb hf) ?_
 rw[J3 hG]
 simp only[Zf,Zb,seval,Za,men]
theorem Zvb(sig:List TControl)(b:TBigraph)(hn:sig.length<=4294967296)(hbs:∀ y∈sig,Jw 4294967296 y)(hb:Jj 4294967296 b)(hf:YW b)(hG:¬ bigOK sig b)(lvl:Nat)(S:Zc):Sem UbM Zar lvl [.tr (.sl (sig.map ZF)),.ag ((Zf b).map .tr)] S (.tu [Zz JJ,iB false]) S:=by
 refine Zw ZgK (by simp [Zz,low,men,Za]) ?_
 simp only[Zdq,Zf,Zb,seval,Za,men]
 refine Zg (U1 sig b hn hbs hb hf) ?_
 rw[ZD hG]
 simp only[Zf,Zb,seval,Za,men]
 rfl
theorem Zvc(sig:List TControl)(b:TBigraph)(hn:sig.length<=4294967296)(hbs:∀ y∈sig,Jw 4294967296 y)(hb2:Jj 4294967296 b)(lvl:Nat)(S:Zc):Sem UbM ZcF lvl [.tr (.sl (sig.map ZF)),.ag ((Zf b).map .tr)] S (.tu [Zz (@ite TBigraph (bigOK sig b) (Classical.propDecidable _) b JJ),iB (dc (bigOK sig b))]) S:=by
 refine Zw ZtB (by simp [Zz,low,men,Za]) ?_
 simp only[ZgO,Zf,Zb,seval,Za,men]
 refine Zg (ZaL sig b hn hbs hb2) ?_
 cases h:dc (bigOK sig b)
 ·rw[if_neg (dc_not.1 h)]
  simp only[Zb,seval,Za,men]
  try rfl
 ·rw[if_pos (dc_iff.1 h)]
  simp only[Zf,Zb,seval,Za,men]
  refine Zg (Zu9 b (U3 (by omega) (ZdE (dc_iff.1 h)))) ?_
  simp only[Zz,Zf,Uaa,Zb,seval,Za,men]
  try rfl
def VH(b:TBigraph):Nat->List Int
 | 0=>[]
 | j+1=>VH b j++[if JW b j<0 then JW b j else g0 (VH b j) (JW b j).toNat]
theorem ZaS{b:TBigraph}:∀{j:Nat},(VH b j).length=j
 | 0=>rfl
 | j+1=>by rw[VH,Uaj,ZaS];rfl
theorem ZaT{b:TBigraph}{k:Nat}:∀{j:Nat},k<j->g0 (VH b j) k=if JW b k<0 then JW b k else g0 (VH b k) (JW b k).toNat
 | 0,h=>by omega
 | j+1,h=>by
  by_cases e:k=j
  ·subst e
   show (VH b (k+1)).getD k 0=_
   rw[VH,Ua6,Uak (by rw[ZaS];omega),ZaS,Ube]
   rfl
  ·rw[<-ZaT (j:=j) (by omega)]
   show (VH b (j+1)).getD k 0=(VH b j).getD k 0
   rw[VH,Ua6,Ua6,Uam (by rw[ZaS];omega)]
def Jq(b:TBigraph)(x:Int):Int:=if x<0 then x else g0 (VH b b.nodes.length) x.toNat
def U4(b:TBigraph):Prop:=∀ k:Nat,k<b.nodes.length->JW b k<k
theorem ZdF{sig:List TControl}{b:TBigraph}(h:bigOK sig b):U4 b:=fun k hk=>by
 have:=(h.nodes k hk).par
 rw[Q1 hk]
 rcases this with h | h <;> omega
theorem ZaU{b:TBigraph}(hp:U4 b){k:Nat}(hk:k<b.nodes.length):Jq b (k:Int)=Jq b (JW b k):=by
 have h1:=hp k hk
 unfold Jq
 rw[if_neg (by omega),Int.toNat_natCast,ZaT hk]
 split
 ·rfl
 ·rw[ZaT (j:=k) (by omega),ZaT (j:=b.nodes.length) (by omega)]
theorem Zvd(b:TBigraph)(x:Int)(hp:U4 b)(hx:x<b.nodes.length)(lvl:Nat)(S:Zc):Sem UbM Zdb lvl [.ag ((Zf b).map .tr),iI x] S (iI (Jq b x)) S:=by
 refine Zw Zt0 trivial ?_
 simp only[Zhc,Zf,Uaa,Zb,seval,Za,men]
 refine ZsS (α:=Int) (fun y=>(y+1).toNat) (fun y=>[(1,iI y)]) (fun _=>[]) (fun y=>y<b.nodes.length/\Jq b y=Jq b x) x (by simp only[Zb,seval,Za,men]) (by (simp only[Zb,seval,Za,men]) <;> rfl) ⟨hx,rfl⟩ ?_
 intro y ⟨h1,h2⟩
 simp only[Uaa,Zb,seval,Za,men]
 refine Zx (fun hlt=>?_) (fun hge=>?_)
 ·obtain⟨k,hk⟩:∃ k:Nat,y=k:=⟨y.toNat,by omega⟩
  subst hk
  have hka:k<b.nodes.length:=by omega
  have ga:=Jn (c:=Zr) hka
  have hpk:=hp k hka
  have hpe:=Q1 hka
  simp only[ga,Zr,hka,Int.toNat_natCast,Uaa,Zb,seval,Za,men]
  refine⟨b.nodes[k].parent,by rw[hpe] at hpk;omega,rfl,by rw[hpe] at hpk;omega,?_⟩
  rw[<-h2,ZaU hp hka,hpe]
 ·have:Jq b x=y:=by rw[<-h2];unfold Jq;rw[if_pos (by omega)]
  rw[this]
def JS(b:TBigraph)(r:Int):Nat->List Int:=JR fun j=>Jq b (j:Int)=r
theorem Zh4{b:TBigraph}{r:Int}{j:Nat}(h:Jq b (j:Int)=r):JS b r (j+1)=JS b r j++[(j:Int)]:=XC h
theorem Zh5{b:TBigraph}{r:Int}{j:Nat}(h:¬ Jq b (j:Int)=r):JS b r (j+1)=JS b r j:=X0 h
theorem U5{b:TBigraph}{r:Int}{j:Nat}:(JS b r j).length<=j:=WM
theorem ZdG{f:Nat->Prop}[DecidablePred f]:∀{n m:Nat},m<(JR f n).length->∃ k,k<n/\f k/\(JR f n)[m]? = some (k:Int)/\(JR f k).length=m
 | 0,m,h=>by simp [JR] at h
 | n+1,m,h=>by
  by_cases hf:f n
  ·rw[XC hf] at h ⊢
   by_cases hm:m<(JR f n).length
   ·obtain⟨k,h1,h2,h3,h4⟩:=ZdG hm
    exact⟨k,by omega,h2,by rw[Uam hm];exact h3,h4⟩
   ·rw[Uaj,List.length_singleton] at h
    have:m=(JR f n).length:=by omega
    subst this
    exact⟨n,by omega,hf,by rw[Uak (Uaf _),Ube];rfl,rfl⟩
  ·rw[X0 hf] at h ⊢
   obtain⟨k,h1,h2,h3,h4⟩:=ZdG h
   exact⟨k,by omega,h2,h3,h4⟩
theorem ZdH{f:Nat->Prop}[DecidablePred f]{k:Nat}(hk:f k):∀{n:Nat},k<n->(JR f n)[(JR f k).length]? = some (k:Int)
 | 0,h=>by omega
 | n+1,h=>by
  by_cases e:k=n
  ·subst e
   rw[XC hk,Uak (Uaf _),Ube]
   rfl
  ·have ih:=ZdH hk (n:=n) (by omega)
   by_cases hf:f n
   ·rw[XC hf,Uam (Uac.1 ih).1]
    exact ih
   ·rw[X0 hf];exact ih
theorem Zve{f:Nat->Prop}[DecidablePred f]{k n:Nat}(hk:f k)(h:k<n):(JR f k).length<(JR f n).length:=(Uac.1 (ZdH hk h)).1
theorem Zvf(b:TBigraph)(r:Int)(hp:U4 b)(hl:b.nodes.length<=4294967296)(lvl:Nat)(S:Zc):Sem UbM ZcW lvl [.ag ((Zf b).map .tr),iI r] S (.ow 1 (rI (JS b r b.nodes.length)) true) S:=by
 refine Zw ZtH trivial ?_
 simp only[ZgU,Zf,Uaa,Zb,seval,Za,men]
 refine Jf (α:=Unit) b.nodes.length (fun j _=>[(5,.hd (lvl,224) [] 0 (JS b r j).length none (JS b r j).length),(6,iI j)]) (fun j _=>[(224,.ar 1 (rI (JS b r j)) true (JS b r j).length 0)]) (fun _ _=>True) () (by simp only[Zb,seval,Za,men]) (by (simp only[Zb,seval,Za,men]) <;> rfl) trivial ?_
 intro j _ hj _
 simp only[Uaa,Zb,seval,Za,men]
 refine Zx (fun hlt=>?_) (fun hge=>?_)
 ·have hja:j<b.nodes.length:=by omega
  have ga:=Jn (c:=Zr) hja
  have hle:=U5 (b:=b) (r:=r) (j:=j)
  have hpk:=hp j hja
  have hpe:=Q1 hja
  have q1:=Zvd b b.nodes[j].parent hp (by omega)
  simp only[Zf,Ual,Uaq] at q1
  have ht:Jq b b.nodes[j].parent=Jq b (j:Int):=by rw[ZaU hp hja,hpe]
  simp only[ga,Zr,Zf,hja,Uaa,Zb,seval,Za,men]
  refine Zg q1 ?_
  rw[ht]
  simp only[Uaa,Zb,seval,Za,men]
  refine Zx (fun he=>?_) (fun hne=>?_)
  ·refine⟨by omega,by rw[Zn];omega,ZI () hja ?_ trivial⟩
   rw[Zh4 he,Uaj,UV]
   rfl
  ·refine⟨by rw[Zn];omega,ZI () hja ?_ trivial⟩
   rw[Zh5 hne]
   rfl
 ·have:j=b.nodes.length:=by omega
  subst this
  rfl
def YP(b:TBigraph)(r t base:Int)(k:Int):TNode:=⟨Q0 b k,if JW b k.toNat<0 then t else base+((JS b r (JW b k.toNat).toNat).length:Int),VG b k.toNat⟩
def JY(b:TBigraph)(r t:Int)(A:List TNode)(j:Nat):List TNode:=A++(JS b r j).map (YP b r t A.length)
theorem Zvg{b:TBigraph}{r t:Int}{A:List TNode}:JY b r t A 0=A:=by simp [JY,JS,JR]
theorem Zh6{b:TBigraph}{r t:Int}{A:List TNode}{j:Nat}(h:Jq b (j:Int)=r):JY b r t A (j+1)=JY b r t A j++[YP b r t A.length j]:=by simp [JY,Zh4 h]
theorem Zvh{b:TBigraph}{r t:Int}{A:List TNode}{j:Nat}(h:¬ Jq b (j:Int)=r):JY b r t A (j+1)=JY b r t A j:=by simp [JY,Zh5 h]
theorem ZdI{b:TBigraph}{r t:Int}{A:List TNode}{j:Nat}:(JY b r t A j).length=A.length+(JS b r j).length:=by simp [JY]
def Js(p:TBigraph)(c:List Int):Nat->List TNode
 | 0=>[]
 | i+1=>JY p (-1-g0 c i) (-1-(i:Int)) (Js p c i) p.nodes.length
theorem U6{p:TBigraph}{c:List Int}:∀{i:Nat},(Js p c i).length<=i*p.nodes.length
 | 0=>by simp [Js]
 | i+1=>by
  rw[Js,ZdI,UaB,UbL]
  have:=U6 (p:=p) (c:=c) (i:=i)
  have:=U5 (b:=p) (r:=-1-g0 c i) (j:=p.nodes.length)
  omega
def Yc(r:TRule)(p:TBigraph):TBigraph:=⟨r.copies.length,Js p r.copies r.copies.length,[],0,p.outer,[]⟩
structure agentOK (sig:List TControl) (b:TBigraph):Prop where
 ok:bigOK sig b
 sites:b.sites.length=0
 inner:b.inner.length=0
structure instOK (sig:List TControl) (r:TRule) (p:TBigraph):Prop where
 rule:ruleOK sig r
 par:agentOK sig p
 edges:¬ 0<p.edges
 roots:p.roots=r.redex.sites.length
 out:bigOK sig (Yc r p)
open Classical in
noncomputable def Jy(sig:List TControl)(r:TRule)(p:TBigraph):TBigraph:=if instOK sig r p then Yc r p else JJ
noncomputable def WO(sig:List TControl)(r:TRule)(p:TBigraph):Bool:=dc (instOK sig r p)
def V4(b:TBigraph)(r t base:Int)(j:Nat)(x:Int):Option Int:=if x=r then some t else if 0<=x/\x<j/\Jq b x=r then some (base+((JS b r x.toNat).length:Int)) else none
theorem Zh7{a b:Int}(x:Int):∀(l:List (Int×Int)),J5 x (YF a b l)=if x=a then some b else J5 x l
 | []=>by simp [YF,J5]
 | (y,z)::l=>by
  simp only[YF]
  by_cases h:a=y
  ·subst h
   rw[if_pos rfl]
   simp only[J5]
   by_cases hx:x=a
   ·rw[if_pos hx,if_pos hx]
   ·rw[if_neg hx,if_neg hx,if_neg hx]
  ·rw[if_neg h]
   simp only[J5]
   rw[Zh7 x l]
   by_cases hx:x=y
   ·rw[if_pos hx,if_pos hx,if_neg (by rw[hx];exact fun e=>h e.symm)]
   ·rw[if_neg hx,if_neg hx]
theorem Zvi{b:TBigraph}{r t base x:Int}:J5 x [(r,t)]=V4 b r t base 0 x:=by
 simp only[J5,V4]
 by_cases h:x=r
 ·rw[if_pos h,if_pos h]
 ·rw[if_neg h,if_neg h,if_neg (by omega)]
theorem Zvj{b:TBigraph}{r t base x:Int}{j:Nat}(h:¬ Jq b (j:Int)=r):V4 b r t base (j+1) x=V4 b r t base j x:=by
 unfold V4
 by_cases h1:x=r
 ·rw[if_pos h1,if_pos h1]
 ·rw[if_neg h1,if_neg h1]
  have:(0<=x/\x<((j+1:Nat):Int)/\Jq b x=r)↔(0<=x/\x<(j:Int)/\Jq b x=r):=by
   constructor
   ·rintro⟨g1,g2,g3⟩
    refine⟨g1,?_,g3⟩
    by_cases e:x=j
    ·subst e;exact absurd g3 h
    ·omega
   ·rintro⟨g1,g2,g3⟩
    exact⟨g1,by omega,g3⟩
  simp only[this]
theorem Zvk{b:TBigraph}{r t base x:Int}{j:Nat}(hr:r<0)(h:Jq b (j:Int)=r):(if x=(j:Int) then some (base+((JS b r j).length:Int)) else V4 b r t base j x)=V4 b r t base (j+1) x:=by
 unfold V4
 by_cases e:x=j
 ·subst e
  rw[if_pos rfl,if_neg (by omega),if_pos ⟨by omega,by omega,h⟩,Int.toNat_natCast]
 ·rw[if_neg e]
  by_cases h1:x=r
  ·rw[if_pos h1,if_pos h1]
  ·rw[if_neg h1,if_neg h1]
   have:(0<=x/\x<((j+1:Nat):Int)/\Jq b x=r)↔(0<=x/\x<(j:Int)/\Jq b x=r):=by
    constructor
    ·rintro⟨g1,g2,g3⟩;exact⟨g1,by omega,g3⟩
    ·rintro⟨g1,g2,g3⟩;exact⟨g1,by omega,g3⟩
   simp only[this]
theorem Zvl{b:TBigraph}{r t base:Int}{j:Nat}(hp:U4 b)(hr:r<0)(hj:j<b.nodes.length):V4 b r t base j (JW b j)=if Jq b (j:Int)=r then some (YP b r t base j).parent else none:=by
 have h1:=hp j hj
 have h2:=ZaU hp hj
 unfold V4 YP
 simp only[Int.toNat_natCast]
 by_cases hn:JW b j<0
 ·have h3:Jq b (JW b j)=JW b j:=by unfold Jq;rw[if_pos hn]
  rw[h2,h3,if_pos hn]
  by_cases h4:JW b j=r
  ·rw[if_pos h4,if_pos h4]
  ·rw[if_neg h4,if_neg h4,if_neg (by omega)]
 ·rw[if_neg (by omega),if_neg hn,h2]
  by_cases h4:Jq b (JW b j)=r
  ·rw[if_pos h4,if_pos ⟨by omega,h1,h4⟩]
  ·rw[if_neg h4,if_neg (fun g=>h4 g.2.2)]
theorem Zh8{b:TBigraph}{r t base:Int}{j:Nat}(h:j<b.nodes.length):YP b r t base j=⟨b.nodes[j].control,(YP b r t base j).parent,b.nodes[j].links⟩:=by
 simp [YP,Q0,VG,h]
set_option maxHeartbeats 1000000 in
theorem Zvm(b:TBigraph)(lvl:Nat)(S:Zc):Sem UbM Zc3 lvl [.ag ((Zf b).map .tr)] S (iB (dc (b.sites.length=0/\b.inner.length=0))) S:=by
 refine Zw ZtO trivial ?_
 have hiff:(b.sites.length=0/\b.inner.length=0)↔((b.sites.length:Int)=0/\(b.inner.length:Int)=0):=⟨fun g=>⟨by omega,by omega⟩,fun g=>⟨by omega,by omega⟩⟩
 rw[Ym hiff,Vb,Bool.decide_and]
 by_cases h1:(b.sites.length:Int)=0
 ·simp only[Zdr,h1,Zf,Uaa,Zb,seval,Za,men]
  try simp [h1]
 ·simp only[Zdr,h1,Zf,Uaa,Zb,seval,Za,men]
  try simp [h1]
theorem Zvn(sig:List TControl)(b:TBigraph)(hn:sig.length<=4294967296)(hbs:∀ y∈sig,Jw 4294967296 y)(hb:Jj 4294967296 b)(lvl:Nat)(S:Zc):Sem UbM ZcE lvl [.tr (.sl (sig.map ZF)),.ag ((Zf b).map .tr)] S (iB (dc (agentOK sig b))) S:=by
 refine Zw ZtA trivial ?_
 simp only[ZgN,Zf,Zb,seval,Za,men]
 refine Zg (ZaL sig b hn hbs hb) ?_
 cases h:dc (bigOK sig b)
 ·simp only[Zb,seval,Za,men]
  rw[ZD fun g:agentOK sig b=>dc_not.1 h g.ok]
 ·have q1:=Zvm b
  simp only[Zf,Ual,Uaq] at q1
  simp only[Zf,Zb,seval,Za,men]
  refine Zg q1 ?_
  simp only[Zb,seval,Za,men]
  have hiff:agentOK sig b↔(b.sites.length=0/\b.inner.length=0):=⟨fun g=>⟨g.sites,g.inner⟩,fun g=>⟨dc_iff.1 h,g.1,g.2⟩⟩
  rw[Ym hiff]
theorem Zvo(sig:List TControl)(r:TRule)(p:TBigraph)(hr:ruleOK sig r)(hg:bigOK sig p)(lvl:Nat)(S:Zc):Sem UbM ZcG lvl [.ag ((Zs r).map .tr),.ag ((Zf p).map .tr)] S (Zz (Yc r p)) S:=by
 have hs:=hg.small
 have s1:=hs.nodes;have s2:=hs.outer
 have hp:=ZdF hg
 have hcl:=hr.len
 have hrl:=hr.rea.sitesL
 have hrs:=hr.red.sitesL
 refine Zw ZtC (by simp [Zz,low,men,Za]) ?_
 simp only[ZgP,Zs,Zf,Ual,Uaq,Uaa,Zb,seval,Za,men]
 refine Zg (Zh2 p.outer (by omega)) ?_
 simp only[zfill,zobs,YL,YM,List.set_cons_zero,List.set_cons_succ,Ual,Uaq,Uaa,Zb,seval,Za,men]
 refine Jf (α:=Unit) r.copies.length (fun i _=>[(23,iI i)]) (fun i _=>[(160,.bx [iI r.copies.length,.hd (lvl,608) [] 0 (Js p r.copies i).length none (Js p r.copies i).length,.cs [],iI 0,.hd (lvl,576) [] 0 p.outer.length none p.outer.length,.cs []]),(608,.ar 3 ((Js p r.copies i).map Zr) true (Js p r.copies i).length 0)]) (fun _ _=>True) () (by simp only[Zb,seval,Za,men]) (by (simp only[Zb,seval,Za,men]) <;> rfl) trivial ?_
 intro i _ hi _
 simp only[Uaa,Zb,seval,Za,men]
 refine Zx (fun hlt=>?_) (fun hge=>?_)
 ·have hia:i<r.copies.length:=by omega
  have ga:=Vm hia
  have hm:=hr.copies _ (show g0 r.copies i∈r.copies by simp [hia])
  unfold X1 at hm
  have hAl:=U6 (p:=p) (c:=r.copies) (i:=i)
  have hA32:(Js p r.copies i).length<=32:=UaE hAl (UaE (Nat.mul_le_mul (show i<=4 by omega) s1) (by omega))
  have hsucc:Js p r.copies (i+1)=JY p (-1-g0 r.copies i) (-1-(i:Int)) (Js p r.copies i) p.nodes.length:=rfl
  obtain⟨A,hA⟩:∃ A,A=Js p r.copies i:=⟨_,rfl⟩
  rw[<-hA] at hA32 hsucc ⊢
  obtain⟨q,hq⟩:∃ q,q = -1-g0 r.copies i:=⟨_,rfl⟩
  obtain⟨t,ht⟩:∃ t,t = -1-(i:Int):=⟨_,rfl⟩
  have hq0:q<0:=by omega
  rw[<-hq,<-ht] at hsucc
  simp only[ga,hia,<-hq,<-ht,YF,Uaa,Zb,seval,Za,men]
  refine⟨by rw[Zn];omega,by rw[Zn];omega,?_⟩
  have hz:=Zvg (b:=p) (r:=q) (t:=t) (A:=A)
  refine Jf (α:=List (Int×Int)) p.nodes.length (fun j _=>[(37,iI j)]) (fun j L=>[(160,.bx [iI r.copies.length,.hd (lvl,608) [] 0 (JY p q t A j).length none (JY p q t A j).length,.cs [],iI 0,.hd (lvl,576) [] 0 p.outer.length none p.outer.length,.cs []]),(608,.ar 3 ((JY p q t A j).map Zr) true (JY p q t A j).length 0),(896,.mp L)]) (fun j L=>∀ x,J5 x L=V4 p q t A.length j x) [(q,t)] (by simp only[Zb,seval,Za,men]) (by (simp only[hz,Zb,seval,Za,men]) <;> rfl) (fun x=>Zvi) ?_
  intro j L hj hL
  simp only[Uaa,Zb,seval,Za,men]
  refine Zx (fun hlt2=>?_) (fun hge2=>?_)
  ·have hja:j<p.nodes.length:=by omega
   have gb:=Jn (c:=Zr) hja
   have hpe:=Q1 hja
   have hu:=U5 (b:=p) (r:=q) (j:=j)
   have hil:=ZdI (b:=p) (r:=q) (t:=t) (A:=A) (j:=j)
   have hpar:=Zvl (t:=t) (base:=A.length) hp hq0 hja
   have hbl:p.nodes[j].links.length<=1000:=hs.links _ (Uan hja)
   rw[hpe] at hpar
   by_cases hu1:Jq p (j:Int)=q
   ·rw[if_pos hu1] at hpar
    have hget:=(hL p.nodes[j].parent).trans hpar
    have hsn:(JY p q t A j).map Zr++[[Tr.v (Value.int .i64 p.nodes[j].control),Tr.v (Value.int .i64 (YP p q t A.length j).parent),Tr.sl (rI p.nodes[j].links)]]=(JY p q t A (j+1)).map Zr:=by
     rw[Zh6 hu1,UaN,Zh8 hja]
     rfl
    have hil1:(JY p q t A (j+1)).length=(JY p q t A j).length+1:=by rw[Zh6 hu1,Uaj];rfl
    simp only[gb,hja,Zr,hget,Option.getD_some,Option.isSome_some,Uaa,Zb,seval,Za,men]
    refine Zg (ZdD p.nodes[j].links (by omega)) ?_
    simp only[hsn,Uaa,Zb,seval,Za,men]
    refine⟨by omega,by rw[Zn];omega,ZI (YF (j:Int) ((JY p q t A j).length:Int) L) hja ?_ ?_⟩
    ·rw[hil1];rfl
    ·intro x
     rw[Zh7,hL x,hil,<-Zvk hq0 hu1]
     simp
   ·rw[if_neg hu1] at hpar
    have hget:=(hL p.nodes[j].parent).trans hpar
    simp only[gb,hja,Zr,hget,Option.getD_none,Option.isSome_none,Uaa,Zb,seval,Za,men]
    refine⟨by rw[Zn];omega,ZI L hja ?_ ?_⟩
    ·rw[Zvh hu1];try rfl
    ·intro x
     rw[hL x,Zvj hu1]
  ·have hj1:j=p.nodes.length:=by omega
   subst hj1
   exact⟨by rw[Zn];omega,ZI () hia (by rw[hsucc];rfl) trivial⟩
 ·have hi1:i=r.copies.length:=by omega
  subst hi1
  simp only[Zz,Yc,Uaa,Zb,seval,Za,men]
  try rfl
theorem Zvp(sig:List TControl)(b:TBigraph)(hn:sig.length<=4294967296)(hbs:∀ y∈sig,Jw 4294967296 y)(hb:Jj 4294967296 b)(hf:YW b)(lvl:Nat)(S:Zc):Sem UbM Zcx lvl [.tr (.sl (sig.map ZF)),.ag ((Zf b).map .tr)] S (iB (dc (agentOK sig b))) S:=by
 refine Zw Ztx trivial ?_
 simp only[ZgJ,Zf,Zb,seval,Za,men]
 refine Zg (U1 sig b hn hbs hb hf) ?_
 cases h:dc (bigOK sig b)
 ·simp only[Zb,seval,Za,men]
  rw[ZD fun g:agentOK sig b=>dc_not.1 h g.ok]
 ·have hiff:agentOK sig b↔((b.sites.length:Int)=0/\(b.inner.length:Int)=0):=⟨fun g=>⟨by have:=g.sites;omega,by have:=g.inner;omega⟩,fun g=>⟨dc_iff.1 h,by omega,by omega⟩⟩
  by_cases h1:(b.sites.length:Int)=0
  ·simp only[h1,Zf,Uaa,Zb,seval,Za,men]
   rw[Ym hiff,Vb]
   simp [h1]
  ·simp only[h1,Zf,Uaa,Zb,seval,Za,men]
   rw[ZD fun g:agentOK sig b=>h1 (hiff.1 g).1]
theorem Zvq{y:List Int}{j:Nat}{v:Int}(h:j<y.length):ZO (rI y) [] j 0 (.v (.int .i64 v))=rI (y.set j v):=by
 simp only[ZO]
 rw[Vm h]
 exact(List.map_set (f:=fun n:Int=>[tv n]) (l:=y) (i:=j) (a:=v)).symm
theorem Zvr{y:List Int}{a b:Nat}{v:Int}(h:a<y.length):g0 (y.set a v) b=if a=b then v else g0 y b:=by
 show (y.set a v).getD b 0=if a=b then v else y.getD b 0
 rw[Ua6,Ua2,Ua6]
 by_cases e:a=b
 ·rw[if_pos e,if_pos e,if_pos (by omega)];rfl
 ·rw[if_neg e,if_neg e]
theorem Zh9(l:List Int)(hl:l.length<=4294967296)(lvl:Nat)(S:Zc):Sem UbM ZcX lvl [tI l] S (.ow 1 (rI l) true) S:=by
 refine Zw ZtI trivial ?_
 simp only[ZgV,Uaa,Zh0,Zh1,Zb,seval,Za,men]
 exact hl
set_option maxHeartbeats 1000000 in
theorem Zia(sig:List TControl)(r:TRule)(p:TBigraph)(hr:ruleOK sig r)(hg:bigOK sig p)(lvl:Nat)(S:Zc):Sem UbM Zcy lvl [.ag ((Zs r).map .tr),.ag ((Zf p).map .tr)] S (Zz (Yc r p)) S:=by
 have hs:=hg.small
 have s1:=hs.nodes;have s2:=hs.outer
 have hp:=ZdF hg
 have hcl:=hr.len
 have hrl:=hr.rea.sitesL
 have hrs:=hr.red.sitesL
 refine Zw Zty (by simp [Zz,low,men,Za]) ?_
 simp only[ZgL,Zs,Zf,zfill,zobs,YL,YM,List.set_cons_zero,List.set_cons_succ,ZhY,ZhZ,Nat.zero_max,Ual,Uaq,Uaa,Zb,seval,Za,men]
 refine⟨by omega,?_⟩
 refine Jf (α:=Unit) r.copies.length (fun i _=>[(6,iI i)]) (fun i _=>[(160,.bx [iI r.copies.length,.hd (lvl,480) [] 0 (Js p r.copies i).length none (Js p r.copies i).length,.cs [],iI 0,.hd (lvl,512) [] 0 p.outer.length none p.outer.length,.cs []]),(480,.ar 3 ((Js p r.copies i).map Zr) true (Js p r.copies i).length 0)]) (fun _ _=>True) () (by simp only[Zb,seval,Za,men]) (by (simp only[Zb,seval,Za,men]) <;> rfl) trivial ?_
 intro i _ hi _
 simp only[Uaa,Zb,seval,Za,men]
 refine Zx (fun hlt=>?_) (fun hge=>?_)
 ·have hia:i<r.copies.length:=by omega
  have ga:=Vm hia
  have hm:=hr.copies _ (show g0 r.copies i∈r.copies by simp [hia])
  unfold X1 at hm
  have hAl:=U6 (p:=p) (c:=r.copies) (i:=i)
  have hA32:(Js p r.copies i).length<=32:=UaE hAl (UaE (Nat.mul_le_mul (show i<=4 by omega) s1) (by omega))
  have hsucc:Js p r.copies (i+1)=JY p (-1-g0 r.copies i) (-1-(i:Int)) (Js p r.copies i) p.nodes.length:=rfl
  obtain⟨A,hA⟩:∃ A,A=Js p r.copies i:=⟨_,rfl⟩
  rw[<-hA] at hA32 hsucc ⊢
  obtain⟨q,hq⟩:∃ q,q = -1-g0 r.copies i:=⟨_,rfl⟩
  obtain⟨t,ht⟩:∃ t,t = -1-(i:Int):=⟨_,rfl⟩
  have hq0:q<0:=by omega
  rw[<-hq,<-ht] at hsucc
  have qU:=Zvf p q hp (by omega)
  simp only[Zf,Ual,Uaq] at qU
  simp only[ga,hia,<-hq,Zf,Uaa,Zb,seval,Za,men]
  refine⟨by rw[Zn];omega,?_⟩
  refine Zg qU ?_
  have hz0:List.replicate p.nodes.length [tv 0]=rI (List.replicate p.nodes.length 0):=by simp
  simp only[hz0,Int.toNat_natCast,Uaa,Zb,seval,Za,men]
  refine⟨by omega,?_⟩
  obtain⟨U,hU⟩:∃ U,U=JS p q p.nodes.length:=⟨_,rfl⟩
  rw[<-hU]
  have hUl:U.length<=p.nodes.length:=by rw[hU];exact U5
  have hz:(A++(U.take 0).map (YP p q t A.length))=A:=by simp
  refine Jf (α:=List Int) U.length (fun m _=>[(9,iI m)]) (fun m T=>[(160,.bx [iI r.copies.length,.hd (lvl,480) [] 0 (A.length+m) none (A.length+m),.cs [],iI 0,.hd (lvl,512) [] 0 p.outer.length none p.outer.length,.cs []]),(480,.ar 3 ((A++(U.take m).map (YP p q t A.length)).map Zr) true (A.length+m) 0),(1248,.ar 1 (rI T) true p.nodes.length 0)]) (fun m T=>T.length=p.nodes.length/\∀ k:Nat,k<p.nodes.length->Jq p (k:Int)=q->(JS p q k).length<m->g0 T k=A.length+(JS p q k).length) (List.replicate p.nodes.length 0) (by simp only[Zb,seval,Za,men]) (by (simp only[Ubd,Zb,seval,Za,men]) <;> rfl) ⟨Ubs,fun k _ _ h=>absurd h (UaK _)⟩ ?_
  intro m T hm2 ⟨hT,hTk⟩
  simp only[Uaa,Zb,seval,Za,men]
  refine Zx (fun hlt2=>?_) (fun hge2=>?_)
  ·have hma:m<U.length:=by omega
   obtain⟨k,hk1,hk2,hk3,hk4⟩:=ZdG (f:=fun j=>Jq p (j:Int)=q) (n:=p.nodes.length) (m:=m) (by rw[hU] at hma;exact hma)
   have hUm:g0 U m=k:=by
    have:U[m]? = some (k:Int):=by rw[hU];exact hk3
    simp [this]
   have gU:=Vm hma
   rw[hUm] at gU
   have gb:=Jn (c:=Zr) hk1
   have hpe:=Q1 hk1
   have hpk:=hp k hk1
   have hkT:k<T.length:=by omega
   have gT:=Vm hkT
   have hbl:p.nodes[k].links.length<=1000:=hs.links _ (Uan hk1)
   have hst:ZO (rI T) [] k 0 (.v (.int .i64 ((A.length+m:Nat):Int)))=rI (T.set k ((A.length+m:Nat):Int)):=Zvq hkT
   have htake:U.take (m+1)=U.take m++[(k:Int)]:=by
    rw[Uaz hma]
    have:U[m]=k:=by have h2:=hUm;simp [hma] at h2;exact h2
    rw[this]
   have hnew:(A++(U.take m).map (YP p q t A.length)).map Zr++[[Tr.v (Value.int .i64 p.nodes[k].control),Tr.v (Value.int .i64 (YP p q t A.length k).parent),Tr.sl (rI p.nodes[k].links)]]=(A++(U.take (m+1)).map (YP p q t A.length)).map Zr:=by
    rw[htake,UaN,UaN,UaN,UaN,Ual,Uaq,Zh8 hk1,UaR]
    rfl
   have inv:(T.set k ((A.length+m:Nat):Int)).length=p.nodes.length/\∀ k2:Nat,k2<p.nodes.length->Jq p (k2:Int)=q->(JS p q k2).length<m+1->g0 (T.set k ((A.length+m:Nat):Int)) k2=A.length+(JS p q k2).length:=by
    refine⟨by rw[UaV];exact hT,fun k2 h1 h2 h3=>?_⟩
    rw[Zvr hkT]
    by_cases e:k2=k
    ·subst e
     rw[if_pos rfl,show (JS p q k2).length=m from hk4]
     omega
    ·rw[if_neg (fun g=>e g.symm)]
     refine hTk k2 h1 h2 ?_
     by_cases e2:(JS p q k2).length=m
     ·exfalso
      have i1:=ZdH (f:=fun j=>Jq p (j:Int)=q) h2 h1
      rw[show (JR (fun j:Nat=>Jq p (j:Int)=q) k2).length=m from e2,hk3] at i1
      have:=Ua3 i1
      omega
     ·omega
   have hpar:(YP p q t A.length k).parent=if 0<=p.nodes[k].parent then g0 (T.set k ((A.length+m:Nat):Int)) p.nodes[k].parent.toNat else t:=by
    unfold YP
    simp only[Int.toNat_natCast,hpe]
    by_cases hneg:p.nodes[k].parent<0
    ·rw[if_pos hneg,if_neg (by omega)]
    ·rw[if_neg hneg,if_pos (by omega)]
     rw[hpe] at hpk
     have htp:Jq p (p.nodes[k].parent.toNat:Int)=q:=by
      have:=ZaU hp hk1
      rw[hpe,hk2] at this
      rw[show ((p.nodes[k].parent.toNat:Nat):Int)=p.nodes[k].parent by omega]
      exact this.symm
     have hlt3:(JS p q p.nodes[k].parent.toNat).length<m:=by
      have:=Zve (f:=fun j=>Jq p (j:Int)=q) htp (show p.nodes[k].parent.toNat<k by omega)
      rw[hk4] at this
      exact this
     rw[inv.2 p.nodes[k].parent.toNat (by omega) htp (by omega)]
   rw[hpar] at hnew
   have hTl2:(T.set k ((A.length+m:Nat):Int)).length=p.nodes.length:=inv.1
   by_cases hneg:0<=p.nodes[k].parent
   ·have hkp:p.nodes[k].parent.toNat<(T.set k ((A.length+m:Nat):Int)).length:=by rw[hpe] at hpk;omega
    have gP:=Vm hkp
    have hkp2:p.nodes[k].parent.toNat<p.nodes.length:=by omega
    rw[if_pos hneg] at hnew
    simp only[gU,hma,gb,gT,hk1,hst,gP,hkp2,hneg,Zr,<-ht,Int.toNat_natCast,Uat,isSc,Uaa,Zb,seval,Za,men]
    refine⟨by rw[Zn];omega,?_⟩
    refine Zg (Zh9 p.nodes[k].links (by omega)) ?_
    simp only[hnew,Uaa,Zb,seval,Za,men]
    exact⟨by rw[Uaj,Uaa,Uap];omega,by omega,by rw[Zn];omega,ZI _ hma rfl inv⟩
   ·rw[if_neg hneg] at hnew
    simp only[gU,hma,gb,gT,hk1,hst,hneg,Zr,<-ht,Int.toNat_natCast,Uat,isSc,Uaa,Zb,seval,Za,men]
    refine⟨by rw[Zn];omega,?_⟩
    refine Zg (Zh9 p.nodes[k].links (by omega)) ?_
    simp only[hnew,Uaa,Zb,seval,Za,men]
    exact⟨by rw[Uaj,Uaa,Uap];omega,by omega,by rw[Zn];omega,ZI _ hma rfl inv⟩
  ·have hm1:m=U.length:=by omega
   subst hm1
   have hfin:A++(U.take U.length).map (YP p q t A.length)=Js p r.copies (i+1):=by rw[Ubk,hsucc,hU];rfl
   have hfl:A.length+U.length=(Js p r.copies (i+1)).length:=by rw[hsucc,ZdI,hU]
   refine⟨by rw[Zn];omega,ZI () hia ?_ trivial⟩
   rw[hfin,hfl];rfl
 ·have hi1:i=r.copies.length:=by omega
  subst hi1
  simp only[Zz,Yc,Uaa,Zb,seval,Za,men]
  try rfl
theorem ZdJ{sig:List TControl}{r:TRule}{p:TBigraph}(hr:ruleOK sig r)(hg:bigOK sig p):Jj 1000 (Yc r p):=by
 have hs:=hg.small
 have s1:=hs.nodes;have s2:=hs.outer
 have hcl:=hr.len
 have hrl:=hr.rea.sitesL
 have hle:=U6 (p:=p) (c:=r.copies) (i:=r.copies.length)
 have h32:(Js p r.copies r.copies.length).length<=32:=UaE hle (UaE (Nat.mul_le_mul (show r.copies.length<=4 by omega) s1) (by omega))
 have hb:=ZdE hg
 refine⟨by show (Js p r.copies r.copies.length).length<=_;omega,fun y hy=>?_,by simp [Yc],hb.2.2.2.1,hb.2.2.2.2.1,by simp [Yc],by simp [Yc]⟩
 have key:∀ i,∀ y∈Js p r.copies i,y.links.length<=1000:=by
  intro i
  induction i with
  | zero=>intro y hy;simp [Js] at hy
  | succ i ih =>
   intro y hy
   rw[Js,JY,UaC] at hy
   rcases hy with hy | hy
   ·exact ih y hy
   ·obtain⟨k,_,rfl⟩:=UaM.1 hy
    show (VG p k.toNat).length<=1000
    unfold VG
    cases e:p.nodes[k.toNat]? with
    | none=>simp
    | some x=>exact hs.links x (Uae e)
 exact key _ y hy
theorem Zib{sig:List TControl}{r:TRule}{p:TBigraph}(hr:ruleOK sig r)(hg:bigOK sig p)(hf:YW p):YW (Yc r p):=by
 have hs:=hg.small
 have s1:=hs.nodes
 have hcl:=hr.len
 have hrl:=hr.rea.sitesL
 refine⟨by rw[Zn];show _<=(r.copies.length:Int)/\(r.copies.length:Int)<=_;omega,fun y hy=>?_,by simp [Yc],by rw[Zn];show _<=(0:Int)/\(0:Int)<=_;omega,by simp [Yc]⟩
 have z0:Jg .i64 0:=by rw[Zn];omega
 have key:∀ i,i<=r.copies.length->∀ y∈Js p r.copies i,Zal y:=by
  intro i
  induction i with
  | zero=>intro _ y hy;simp [Js] at hy
  | succ i ih =>
   intro hi y hy
   rw[Js,JY,UaC] at hy
   rcases hy with hy | hy
   ·exact ih (by omega) y hy
   ·obtain⟨k,_,rfl⟩:=UaM.1 hy
    have hA:=U6 (p:=p) (c:=r.copies) (i:=i)
    have hA32:(Js p r.copies i).length<=32:=UaE hA (UaE (Nat.mul_le_mul (show i<=4 by omega) s1) (by omega))
    obtain⟨q,hq⟩:∃ q,q = -1-g0 r.copies i:=⟨_,rfl⟩
    rw[<-hq]
    refine⟨?_,?_,?_⟩
    ·show Jg .i64 (Q0 p k)
     unfold Q0
     cases e:p.nodes[k.toNat]? with
     | none=>exact z0
     | some x=>exact(hf.2.1 x (Uae e)).1
    ·show Jg .i64 (if JW p k.toNat<0 then -1-(i:Int) else ((Js p r.copies i).length:Int)+((JS p q (JW p k.toNat).toNat).length:Int))
     have hu:JW p k.toNat<=p.nodes.length:=by
      by_cases hk:k.toNat<p.nodes.length
      ·have:=ZdF hg _ hk;omega
      ·unfold JW
       rw[UaT (by omega)]
       show (0:Int)<=_
       omega
     have hl:=U5 (b:=p) (r:=q) (j:=(JW p k.toNat).toNat)
     rw[Zn]
     split <;> omega
    ·show ∀ l∈VG p k.toNat,Jg .i64 l
     unfold VG
     cases e:p.nodes[k.toNat]? with
     | none=>intro l hl;simp at hl
     | some x=>exact(hf.2.1 x (Uae e)).2.2
 exact key _ (Uaf _) y hy
theorem ZaV(sig:List TControl)(r:TRule)(p:TBigraph)(hn:sig.length<=4294967296)(hbs:∀ y∈sig,Jw 4294967296 y)(hb:YB 4294967296 r)(hb2:Jj 4294967296 p)(hf:Xw r)(_hf2:YW p)(lvl:Nat)(S:Zc):Sem UbM Zao lvl [.tr (.sl (sig.map ZF)),.ag ((Zs r).map .tr),.ag ((Zf p).map .tr)] S (.tu [Zz (Jy sig r p),iB (WO sig r p)]) S:=by
 refine Zw Ztv (by simp [Zz,low,men,Za]) ?_
 have q1:=Zu5 sig r hn hbs hb hf
 have q2:=Zvn sig p hn hbs hb2
 simp only[Zs,Zf,Ual,Uaq] at q1 q2
 unfold Jy WO
 simp only[ZgH,Zs,Zf,Ual,Uaq,Zb,seval,Za,men]
 refine Zg q1 ?_
 have no:¬ instOK sig r p->(dc (instOK sig r p)=false/\(@ite TBigraph (instOK sig r p) (Classical.propDecidable _) (Yc r p) JJ)=JJ):=fun h=>⟨ZD h,if_neg h⟩
 by_cases h1:ruleOK sig r
 rotate_left
 ·rw[(no fun g=>h1 g.rule).1,(no fun g=>h1 g.rule).2,ZD h1]
  simp only[Zz,JJ,Zb,seval,Za,men]
  try rfl
 rw[J3 h1]
 simp only[Zf,Zb,seval,Za,men]
 refine Zg q2 ?_
 by_cases h2:agentOK sig p
 rotate_left
 ·rw[(no fun g=>h2 g.par).1,(no fun g=>h2 g.par).2,ZD h2]
  simp only[Zz,JJ,Zb,seval,Za,men]
  try rfl
 rw[J3 h2]
 by_cases h3:0<p.edges
 ·rw[(no fun g=>g.edges h3).1,(no fun g=>g.edges h3).2]
  simp only[h3,Zz,JJ,Zf,Zb,seval,Za,men]
  try rfl
 by_cases h4:p.roots=r.redex.sites.length
 rotate_left
 ·rw[(no fun g=>h4 g.roots).1,(no fun g=>h4 g.roots).2]
  simp only[h3,h4,Zz,JJ,Zs,Zf,Uaa,Zb,seval,Za,men]
  try rfl
 have h4':(p.roots=(r.redex.sites.length:Int))=True:=eq_true h4
 have q3:=Zvo sig r p h1 h2.ok
 simp only[Zs,Zf,Ual,Uaq] at q3
 simp only[h3,h4',Zs,Zf,Uaa,Zb,seval,Za,men]
 refine Zg q3 ?_
 have q4:=Zvc sig (Yc r p) hn hbs (U3 (by omega) (ZdJ h1 h2.ok))
 simp only[Zf,Ual,Uaq] at q4
 simp only[Zz,Zf,Uaa,Zb,seval,Za,men]
 refine Zg q4 ?_
 by_cases h5:bigOK sig (Yc r p)
 ·have hy:instOK sig r p:=⟨h1,h2,h3,h4,h5⟩
  rw[if_pos h5,J3 h5,if_pos hy,J3 hy]
  simp only[Zz,Zf,Uaa,Zb,seval,Za,men]
  try rfl
 ·have hn0:¬ instOK sig r p:=fun g=>h5 g.out
  rw[if_neg h5,ZD h5,if_neg hn0,ZD hn0]
  simp only[Zz,JJ,Zf,Uaa,Zb,seval,Za,men]
  try rfl
theorem Zic(sig:List TControl)(r:TRule)(p:TBigraph)(hn:sig.length<=4294967296)(hbs:∀ y∈sig,Jw 4294967296 y)(hb:YB 4294967296 r)(hb2:Jj 4294967296 p)(hf:Xw r)(hf2:YW p)(lvl:Nat)(S:Zc) :
  (instOK sig r p->Sem UbM WF lvl [.tr (.sl (sig.map ZF)),.ag ((Zs r).map .tr),.ag ((Zf p).map .tr)] S (.tu [.ag ((Zf (Yc r p)).map .tr),iB true]) S) /\
  (¬ instOK sig r p->Sem UbM WF lvl [.tr (.sl (sig.map ZF)),.ag ((Zs r).map .tr),.ag ((Zf p).map .tr)] S (.tu [Zz JJ,iB false]) S):=by
 have q1:=Zu1 sig r hn hbs hb hf
 have q2:=Zvp sig p hn hbs hb2 hf2
 simp only[Zs,Zf,Ual,Uaq] at q1 q2
 constructor
 ·intro hy
  have h3:=hy.edges
  have h4:=hy.roots
  refine Zw ZgG (by simp [Zf,low,men,Za]) ?_
  simp only[Zdp,Zs,Zf,Ual,Uaq,Zb,seval,Za,men]
  refine Zg q1 ?_
  rw[J3 hy.rule]
  simp only[Zf,Zb,seval,Za,men]
  refine Zg q2 ?_
  rw[J3 hy.par]
  have h4':(p.roots=(r.redex.sites.length:Int))=True:=eq_true h4
  have q3:=Zia sig r p hy.rule hy.par.ok
  simp only[Zs,Zf,Ual,Uaq] at q3
  simp only[h3,h4',Zs,Zf,Uaa,Zb,seval,Za,men]
  refine Zg q3 ?_
  have q4:=Zva sig (Yc r p) hn hbs (U3 (by omega) (ZdJ hy.rule hy.par.ok)) (Zib hy.rule hy.par.ok hf2) hy.out
  simp only[Zf,Ual,Uaq] at q4
  simp only[Zz,Zf,Uaa,Zb,seval,Za,men]
  refine Zg q4 ?_
  simp only[Zz,Zf,Uaa,Zb,seval,Za,men]
  try rfl
 ·intro hno
  refine Zw ZgG (by simp [Zz,low,men,Za]) ?_
  simp only[Zdp,Zs,Zf,Ual,Uaq,Zb,seval,Za,men]
  refine Zg q1 ?_
  by_cases h1:ruleOK sig r
  rotate_left
  ·rw[ZD h1]
   simp only[Zz,JJ,Zb,seval,Za,men]
   try rfl
  rw[J3 h1]
  simp only[Zf,Zb,seval,Za,men]
  refine Zg q2 ?_
  by_cases h2:agentOK sig p
  rotate_left
  ·rw[ZD h2]
   simp only[Zz,JJ,Zb,seval,Za,men]
   try rfl
  rw[J3 h2]
  by_cases h3:0<p.edges
  ·simp only[h3,Zz,JJ,Zf,Zb,seval,Za,men]
   try rfl
  by_cases h4:p.roots=r.redex.sites.length
  rotate_left
  ·simp only[h3,h4,Zz,JJ,Zs,Zf,Uaa,Zb,seval,Za,men]
   try rfl
  have h5:¬ bigOK sig (Yc r p):=fun h5=>hno ⟨h1,h2,h3,h4,h5⟩
  have h4':(p.roots=(r.redex.sites.length:Int))=True:=eq_true h4
  have q3:=Zia sig r p h1 h2.ok
  simp only[Zs,Zf,Ual,Uaq] at q3
  simp only[h3,h4',Zs,Zf,Uaa,Zb,seval,Za,men]
  refine Zg q3 ?_
  have q4:=Zvb sig (Yc r p) hn hbs (U3 (by omega) (ZdJ h1 h2.ok)) (Zib h1 h2.ok hf2) h5
  simp only[Zf,Ual,Uaq] at q4
  simp only[Zz,Zf,Uaa,Zb,seval,Za,men]
  refine Zg q4 ?_
  simp only[Zz,JJ,Zf,Uaa,Zb,seval,Za,men]
  try rfl
theorem Zvs(sig:List TControl)(r:TRule)(p:TBigraph)(hn:sig.length<=4294967296)(hbs:∀ y∈sig,Jw 4294967296 y)(hb:YB 4294967296 r)(hb2:Jj 4294967296 p)(hf:Xw r)(hf2:YW p)(hB:instOK sig r p)(lvl:Nat)(S:Zc):Sem UbM WF lvl [.tr (.sl (sig.map ZF)),.ag ((Zs r).map .tr),.ag ((Zf p).map .tr)] S (.tu [.ag ((Zf (Jy sig r p)).map .tr),iB (WO sig r p)]) S:=by
 unfold Jy WO
 rw[if_pos hB,J3 hB]
 exact(Zic sig r p hn hbs hb hb2 hf hf2 lvl S).1 hB
theorem Zvt(sig:List TControl)(r:TRule)(p:TBigraph)(hn:sig.length<=4294967296)(hbs:∀ y∈sig,Jw 4294967296 y)(hb:YB 4294967296 r)(hb2:Jj 4294967296 p)(hf:Xw r)(hf2:YW p)(hB:¬ instOK sig r p)(lvl:Nat)(S:Zc):Sem UbM WF lvl [.tr (.sl (sig.map ZF)),.ag ((Zs r).map .tr),.ag ((Zf p).map .tr)] S (.tu [Zz (Jy sig r p),iB (WO sig r p)]) S:=by
 unfold Jy WO
 rw[if_neg hB,ZD hB]
 exact(Zic sig r p hn hbs hb hb2 hf hf2 lvl S).2 hB
end Go.Fd
