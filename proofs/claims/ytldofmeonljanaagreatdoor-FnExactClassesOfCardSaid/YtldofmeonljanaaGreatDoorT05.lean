/-
  The annotated codes of the functions, printed by a program of mine (gen.py), and the check that they belong to the program.
-/
import Derived.Test.YtldofmeonljanaaGreatDoorT04
import Derived.KernelRfl
import Derived.Shelf.Strings.SlTrimAscii
import Derived.Test.YtldofmeonljanaaGreatDoorProg
import Derived.Shelf.Strconv.Itoa3
import Derived.Lib.AppendIntMem
import Derived.Lib.SplitLaws
import Derived.Lib.IndexLaws
import Derived.Lib.CutLaws
import Derived.Lib.AtoiAll
set_option linter.all false
namespace Go.Fd
open Go.Proofs.Tryz renaming prog->UbX
def Zhb:F2 :=
 { nt:=13,res:=[.t 4 [2],.t 5 [0]],body:=(.sq (rg [oo 3 (.bt (.t 1)),om 4 (.k (.slice none 0 0)),om 5 (.k (.bool false))]) (.sq (.sq (rg [qM 6 0,qS 7 6 3,oo 8 (.ca .pure false (.f Zc9) [.t 6,.t 7]),oo 9 (.nt (.t 8))]) (.cd (.t 9) (.sq (rg [oo 10 (.bs 1 0 [] []),qM 4 10,om 5 (.k (.bool false))]) (.rt)) (.sk))) (.sq (rg [qS 11 6 3,oo 12 (.ca .pure true (.f Zda) [.t 11]),qM 4 12,om 5 (.k (.bool true))]) (.rt)))) }
theorem Zt7:Zo UbX Zc1 Zhb=true:=by kernel_rfl
def Zhc:F2 :=
 { nt:=56,res:=[.t 4 [2],.t 5 [0]],body:=(.sq (rg [oo 3 (.bt (.t 1)),om 4 (.k (.slice none 0 0)),om 5 (.k (.bool false))]) (.sq (.sq (rg [qM 12 0,qS 13 6 3,oo 14 (.ca .pure false (.f Zdf) [.t 12,.t 13]),oo 15 (.nt (.t 14))]) (.cd (.t 15) (.sq (rg [om 4 (.k (.slice none 0 0)),om 5 (.k (.bool false))]) (.rt)) (.sk))) (.sq (rg [oo 16 (.bs 1 0 [] []),qM 6 16]) (.sq (.sq (rg [qF 17 1 3,qL 18 17,qN 19 18,om 20 (i6 0)]) (.bl 0 (.lp [3,6,18,19,20] [192,512,928,1440] (.sq (rg [qB 21 .lss 20 19]) (.sq (.cd (.t 21) (.sk) (.ex 0)) (.sq (.bl 1 (.sq (rg [qI 22 3 18 20,qS 23 3 22,oo 8 (.al [.int .i64 0,.int .i64 0,.slice none 0 0] []),
 ZT (.st 3 (.t 8) (.t 23))])
 (rg [qM 24 6,qF 25 0 8,qL 26 25,oo 27 (.ca .pure false (.f ZaU) [.t 26]),oo 28 (.bs 1 1 [.string ⟨#[]⟩] [(0,.t 27)]),oo 29 (.ap 1 0 (.t 24) (.t 28)),qM 6 29])))
 (rg [oo 30 (.bi .add 0 (.t 20) (i6 1)),qM 20 30]))))))) (.sq (rg [qM 31 6,oo 32 (.ca .pure true (.f ZaV) [.t 31]),oo 9 (.rk (.t 32))]) (.bl 2 (.lp [3,9] [288] (.bl 3 (.sq (rg [oo 6 (.mv (.k (.slice none 0 0)) (some 1))]) (.sq (.sq (rg [qF 33 1 3,qL 34 33,qN 35 34,om 36 (i6 0)]) (.bl 4 (.lp [3,6,9,35,36] [192,288,512,928,1440] (.sq (rg [qB 37 .lss 36 35]) (.sq (.cd (.t 37) (.sk) (.ex 4)) (.sq (.bl 5 (.sq (rg [qM 38 36,qM 10 38])
 (rg [qM 39 6,qS 40 6 3,qM 41 9,qM 42 10,oo 43 (.ca .pure false (.f Zdg) [.t 40,.t 41,.t 42]),oo 44 (.bs 1 1 [.string ⟨#[]⟩] [(0,.t 43)]),oo 45 (.ap 1 0 (.t 39) (.t 44)),qM 6 45])))
 (rg [oo 46 (.bi .add 0 (.t 36) (i6 1)),qM 36 46]))))))) (.sq (rg [qM 47 6,oo 48 (.ca .pure true (.f ZaV) [.t 47]),qM 11 48]) (.sq (.sq (rg [qM 49 11,oo 50 (.ca .pure false (.f ZaW) [.t 49]),qM 51 9,oo 52 (.ca .pure false (.f ZaW) [.t 51]),qB 53 .eql 50 52]) (.cd (.t 53) (.sq (rg [qM 54 9,qM 4 54,om 5 (.k (.bool true))]) (.rt)) (.sk)))
 (rg [qM 55 11,oo 9 (.rk (.t 55))]))))))))))))) }
theorem Zt8:Zo UbX ZaP Zhc=true:=by kernel_rfl
def Zhd:F2 :=
 { nt:=98,res:=[.t 4 [0]],body:=(.sq (rg [oo 3 (.bt (.t 1)),om 4 (.k (.bool false))]) (.sq (.sq (rg [qM 8 0,oo 9 (.ca .pure false (.f Zdq) [.t 8]),oo 10 (.nt (.t 9)),qM 11 10,og 12 11 false (.fa 0 (.t 3)),og 13 11 false (.ld none (.t 12)),og 14 11 false (.ca .pure false (.f V9) [.t 13,i6 0,i6 4]),og 15 11 false (.nt (.t 14)),oo 16 (.pk (.t 11) (.k (.bool true)) (.t 15)),qM 17 16,og 18 17 false (.fa 1 (.t 3)),og 19 17 false (.ld none (.t 18)),og 20 17 false (.ln (.t 19)),og 21 17 false (.bi .gtr 0 (.t 20) (i6 8)),oo 22 (.pk (.t 17) (.k (.bool true)) (.t 21)),qM 23 22,og 24 23 false (.fa 2 (.t 3)),og 25 23 false (.ld none (.t 24)),og 26 23 false (.ln (.t 25)),og 27 23 false (.bi .gtr 0 (.t 26) (i6 4)),oo 28 (.pk (.t 23) (.k (.bool true)) (.t 27)),qM 29 28,og 30 29 false (.fa 3 (.t 3)),og 31 29 false (.ld none (.t 30)),og 32 29 false (.ca .pure false (.f V9) [.t 31,i6 0,i6 8]),og 33 29 false (.nt (.t 32)),oo 34 (.pk (.t 29) (.k (.bool true)) (.t 33))]) (.cd (.t 34) (.sq (rg [om 4 (.k (.bool false))]) (.rt)) (.sk))) (.sq (.sq (rg [qF 35 4 3,qL 36 35,oo 37 (.ca .pure false (.f ZaX) [.t 36]),oo 38 (.nt (.t 37)),qM 39 38,og 40 39 false (.fa 5 (.t 3)),og 41 39 false (.ld none (.t 40)),og 42 39 false (.ln (.t 41)),og 43 39 false (.bi .gtr 0 (.t 42) (i6 16)),oo 44 (.pk (.t 39) (.k (.bool true)) (.t 43)),qM 45 44,og 46 45 false (.ld (some 6) (.t 3)),og 47 45 false (.ca .pure false (.f Zdr) [.t 46]),og 48 45 false (.ca .pure false (.f ZaX) [.t 47]),og 49 45 false (.nt (.t 48)),oo 50 (.pk (.t 45) (.k (.bool true)) (.t 49))]) (.cd (.t 50) (.sq (rg [om 4 (.k (.bool false))]) (.rt)) (.sk))) (.sq (.sq (rg [om 5 (i6 0)]) (.bl 0 (.lp [0,3,5] [] (.sq (.sq (rg [qM 51 5,qF 52 1 3,qL 53 52,qN 54 53,qB 55 .lss 51 54]) (.cd (.t 55) (.sk) (.ex 0))) (.sq (.bl 1 (.sq (rg [qM 58 0,qS 59 6 3,qM 60 5,oo 61 (.ca .pure false (.f Zds) [.t 58,.t 59,.t 60]),oo 62 (.nt (.t 61))]) (.cd (.t 62) (.sq (rg [om 4 (.k (.bool false))]) (.rt)) (.sk))))
 (rg [qM 56 5,oo 57 (.bi .add 0 (.t 56) (i6 1)),qM 5 57])))))) (.sq (.sq (rg [om 6 (i6 0)]) (.bl 2 (.lp [0,3,6] [] (.sq (.sq (rg [qM 63 6,qF 64 2 3,qL 65 64,qN 66 65,qB 67 .lss 63 66]) (.cd (.t 67) (.sk) (.ex 2))) (.sq (.bl 3 (.sq (.rg (some 0) [qM 70 0,qS 71 6 3,qF 72 2 3,qL 73 72,qM 74 6,qI 75 1 73 74,qL 76 75,qF 77 1 3,qL 78 77,qN 79 78,oo 80 (.ca .pure false (.f ZaY) [.t 70,.t 71,.t 76,.t 79]),oo 81 (.nt (.t 80))]) (.cd (.t 81) (.sq (rg [om 4 (.k (.bool false))]) (.rt)) (.sk))))
 (rg [qM 68 6,oo 69 (.bi .add 0 (.t 68) (i6 1)),qM 6 69])))))) (.sq (.sq (rg [om 7 (i6 0)]) (.bl 4 (.lp [3,7] [] (.sq (.sq (rg [qM 82 7,qF 83 5 3,qL 84 83,qN 85 84,qB 86 .lss 82 85]) (.cd (.t 86) (.sk) (.ex 4))) (.sq (.bl 5 (.sq (.rg (some 0) [qS 89 6 3,qF 90 5 3,qL 91 90,qM 92 7,qI 93 2 91 92,qF 94 1 93,qL 95 94,oo 96 (.ca .pure false (.f ZaZ) [.t 89,.t 95]),oo 97 (.nt (.t 96))]) (.cd (.t 97) (.sq (rg [om 4 (.k (.bool false))]) (.rt)) (.sk))))
 (rg [qM 87 7,oo 88 (.bi .add 0 (.t 87) (i6 1)),qM 7 88])))))) (.sq (rg [om 4 (.k (.bool true))]) (.rt)))))))) }
theorem Zt9:Zo UbX Zc9 Zhd=true:=by kernel_rfl
def Zhe:F2 :=
 { nt:=42,res:=[.t 2 [2]],body:=(.sq (rg [oo 1 (.bt (.t 0)),om 2 (.k (.slice none 0 0))]) (.sq (rg [oo 7 (.bs 1 0 [] []),oo 3 (.rk (.t 7))]) (.sq (.sq (rg [om 4 (i6 0)]) (.bl 0 (.lp [1,3,4] [96,1056] (.sq (.sq (rg [qM 8 4,qF 9 1 1,qL 10 9,qN 11 10,qB 12 .lss 8 11]) (.cd (.t 12) (.sk) (.ex 0))) (.sq (.bl 1 (.sq (rg [om 5 (i6 0)]) (.sq (.bl 2 (.lp [1,3,4,5] [96,1056] (.sq (.sq (.rg (some 0) [qF 15 1 1,qL 16 15,qM 17 5,qI 18 3 16 17,qF 19 0 18,qL 20 19,qF 21 1 1,qL 22 21,qM 23 4,qI 24 3 22 23,qF 25 0 24,qL 26 25,qB 27 .neq 20 26]) (.cd (.t 27) (.sk) (.ex 2))) (.bl 3 (rg [qM 28 5,oo 29 (.bi .add 0 (.t 28) (i6 1)),qM 5 29])))))
 (rg [qM 30 3,qM 31 5,oo 32 (.bs 1 1 [.int .i64 0] [(0,.t 31)]),oo 33 (.ap 1 0 (.t 30) (.t 32)),qM 3 33]))))
 (rg [qM 13 4,oo 14 (.bi .add 0 (.t 13) (i6 1)),qM 4 14])))))) (.bl 4 (.lp [1,3] [96,1056] (.bl 5 (.sq (rg [qS 34 6 1,qM 35 3,oo 36 (.ca .pure true (.f Zdt) [.t 34,.t 35]),qM 6 36]) (.sq (.sq (rg [qM 37 6,qM 38 3,oo 39 (.ca .pure false (.f Za0) [.t 37,.t 38])]) (.cd (.t 39) (.sq (rg [qM 40 3,qM 2 40]) (.rt)) (.sk)))
 (rg [qM 41 6,oo 3 (.rk (.t 41))]))))))))) }
theorem Zua:Zo UbX Zda Zhe=true:=by kernel_rfl
def Zhf:F2 :=
 { nt:=101,res:=[.t 4 [0]],body:=(.sq (rg [oo 2 (.bt (.t 0)),oo 3 (.bt (.t 1)),om 4 (.k (.bool false))]) (.sq (.sq (rg [qL 7 2,oo 8 (.ca .pure false (.f Zdw) [.t 7]),oo 9 (.nt (.t 8)),qM 10 9,og 11 10 false (.fa 0 (.t 3)),og 12 10 false (.ld none (.t 11)),og 13 10 false (.ca .pure false (.f Qv) [.t 12,i6 0,i6 4]),og 14 10 false (.nt (.t 13)),oo 15 (.pk (.t 10) (.k (.bool true)) (.t 14)),qM 16 15,og 17 16 false (.fa 1 (.t 3)),og 18 16 false (.ld none (.t 17)),og 19 16 false (.ln (.t 18)),og 20 16 false (.bi .gtr 0 (.t 19) (i6 8)),oo 21 (.pk (.t 16) (.k (.bool true)) (.t 20)),qM 22 21,og 23 22 false (.fa 2 (.t 3)),og 24 22 false (.ld none (.t 23)),og 25 22 false (.ln (.t 24)),og 26 22 false (.bi .gtr 0 (.t 25) (i6 4)),oo 27 (.pk (.t 22) (.k (.bool true)) (.t 26)),qM 28 27,og 29 28 false (.fa 3 (.t 3)),og 30 28 false (.ld none (.t 29)),og 31 28 false (.ca .pure false (.f Qv) [.t 30,i6 0,i6 8]),og 32 28 false (.nt (.t 31)),oo 33 (.pk (.t 28) (.k (.bool true)) (.t 32)),qM 34 33,og 35 34 false (.fa 4 (.t 3)),og 36 34 false (.ld none (.t 35)),og 37 34 false (.ca .pure false (.f Za1) [.t 36]),og 38 34 false (.nt (.t 37)),oo 39 (.pk (.t 34) (.k (.bool true)) (.t 38)),qM 40 39,og 41 40 false (.ld (some 6) (.t 3)),og 42 40 false (.ca .pure false (.f Zdx) [.t 41]),og 43 40 false (.ca .pure false (.f Za1) [.t 42]),og 44 40 false (.nt (.t 43)),oo 45 (.pk (.t 40) (.k (.bool true)) (.t 44))]) (.cd (.t 45) (.sq (rg [om 4 (.k (.bool false))]) (.rt)) (.sk))) (.sq (.sq (rg [qF 46 1 3,qL 47 46,qN 48 47,om 49 (i6 0)]) (.bl 0 (.lp [2,3,47,48,49] [] (.sq (rg [qB 50 .lss 49 48]) (.sq (.cd (.t 50) (.sk) (.ex 0)) (.sq (.bl 1 (.sq (rg [qM 51 49,qI 52 3 47 49,qS 53 3 52,oo 6 (.al [.int .i64 0,.int .i64 0,.slice none 0 0] []),qM 5 51,
 ZT (.st 3 (.t 6) (.t 53))]) (.sq (.rg (some 0) [qF 54 0 6,qL 55 54,qL 56 2,qN 57 56,oo 58 (.bi .sub 0 (.t 57) (i6 1)),oo 59 (.ca .pure false (.f Qv) [.t 55,i6 0,.t 58]),oo 60 (.nt (.t 59)),qM 61 60,og 62 61 false (.ld (some 6) (.t 3)),og 63 61 false (.ld none (.t 2)),og 64 61 false (.fa 1 (.t 6)),og 65 61 false (.ld none (.t 64)),og 66 61 false (.mv (.t 5) none),og 67 61 false (.ca .pure false (.f Za2) [.t 62,.t 63,.t 65,.t 66]),og 68 61 false (.nt (.t 67)),oo 69 (.pk (.t 61) (.k (.bool true)) (.t 68)),qM 70 69,og 71 70 false (.fa 2 (.t 6)),og 72 70 false (.ld none (.t 71)),og 73 70 false (.ln (.t 72)),og 74 70 false (.ld none (.t 2)),og 75 70 false (.fa 0 (.t 6)),og 76 70 false (.ld none (.t 75)),og 77 70 false (.ia 3 (.t 74) (.t 76)),og 78 70 false (.fa 1 (.t 77)),og 79 70 false (.ld none (.t 78)),og 80 70 false (.bi .neq 0 (.t 73) (.t 79)),oo 81 (.pk (.t 70) (.k (.bool true)) (.t 80)),qM 82 81,og 83 82 false (.fa 2 (.t 6)),og 84 82 false (.ld none (.t 83)),og 85 82 false (.mf Zdz [.t 3]),og 86 82 false (.ca .pure false (.f Zdy) [.t 84,.t 85]),oo 87 (.pk (.t 82) (.k (.bool true)) (.t 86))]) (.cd (.t 87) (.sq (rg [om 4 (.k (.bool false))]) (.rt)) (.sk)))))
 (rg [oo 88 (.bi .add 0 (.t 49) (i6 1)),qM 49 88]))))))) (.sq (rg [qF 89 2 3,qL 90 89,oo 91 (.mf ZdA [.t 3,.t 2]),oo 92 (.ca .pure false (.f Zdy) [.t 90,.t 91]),oo 93 (.nt (.t 92)),qM 94 93,og 95 94 true (.fa 5 (.t 3)),og 96 94 true (.ld none (.t 95)),og 97 94 true (.mf ZdB [.t 3]),og 98 94 true (.ca .pure false (.f Zg4) [.t 96,.t 97]),og 99 94 true (.nt (.t 98)),oo 100 (.pk (.t 94) (.t 99) (.k (.bool false))),qM 4 100]) (.rt))))) }
theorem Zub:Zo UbX Zdf Zhf=true:=by kernel_rfl
def Zhg:F2 :=
 { nt:=5,res:=[.t 2 [0]],body:=(.sq (rg [om 2 (.k (.string ⟨#[]⟩))]) (.sq (rg [qM 3 0,oo 4 (.ca .pure false (.f Zg5) [.t 3]),qM 2 4]) (.rt))) }
theorem Zuc:Zo UbX ZaU Zhg=true:=by kernel_rfl
def Zhh:F2 :=
 { nt:=21,res:=[.t 2 [2]],body:=(.sq (rg [om 2 (.k (.slice none 0 0))]) (.sq (rg [oo 6 (.bs 1 0 [] []),qM 3 6]) (.sq (.sq (rg [qM 7 0,qN 8 7,om 9 (i6 0)]) (.bl 0 (.lp [0,3,7,8,9] [192,576] (.sq (rg [qB 10 .lss 9 8]) (.sq (.cd (.t 10) (.sk) (.ex 0)) (.sq (.bl 1 (.sq (rg [qI 11 1 7 9,qL 12 11,qM 5 12])
 (rg [qM 13 3,qM 14 0,qM 15 5,oo 16 (.ca .pure false (.f ZdC) [.t 14,.t 15]),oo 17 (.bs 1 1 [.int .i64 0] [(0,.t 16)]),oo 18 (.ap 1 0 (.t 13) (.t 17)),qM 3 18])))
 (rg [oo 19 (.bi .add 0 (.t 9) (i6 1)),qM 9 19]))))))) (.sq (rg [qM 20 3,qM 2 20]) (.rt))))) }
theorem Zud:Zo UbX ZaV Zhh=true:=by kernel_rfl
def Zhi:F2 :=
 { nt:=151,res:=[.t 6 [0]],body:=(.sq (rg [oo 3 (.bt (.t 0)),om 6 (.k (.string ⟨#[]⟩))]) (.sq (rg [qF 23 1 3,qL 24 23,qM 25 2,qI 26 3 24 25,qS 27 3 26,oo 7 (.al [.int .i64 0,.int .i64 0,.slice none 0 0] []),
 ZT (.st 3 (.t 7) (.t 27))]) (.sq (rg [qM 28 1,qM 29 2,qI 30 1 28 29,qL 31 30,oo 32 (.bs 1 1 [.int .i64 0] [(0,.t 31)]),oo 33 (.ca .pure false (.f XF) [.k (.string ⟨#[111,119,110]⟩),.t 32]),qM 8 33]) (.sq (.sq (rg [qF 34 1 7,qL 35 34,oo 36 (.bi .geq 0 (.t 35) (i6 0))]) (.cd (.t 36) (rg [qM 37 8,qM 38 1,qF 39 1 7,qL 40 39,qI 41 1 38 40,qL 42 41,oo 43 (.bs 1 1 [.int .i64 0] [(0,.t 42)]),oo 44 (.ca .pure false (.f XF) [.k (.string ⟨#[32,105,110]⟩),.t 43]),qB 45 .add 37 44,qM 8 45])
 (rg [qM 46 8,qF 47 1 7,qL 48 47,oo 49 (.bs 1 1 [.int .i64 0] [(0,.t 48)]),oo 50 (.ca .pure false (.f XF) [.k (.string ⟨#[32,105,110]⟩),.t 49]),qB 51 .add 46 50,qM 8 51]))) (.sq (rg [qS 53 6 3,qM 54 2,oo 55 (.ca .pure false (.f ZdD) [.t 53,.t 54]),qM 52 55,qE 56 0 52,qE 57 1 52,qM 9 56,qM 10 57]) (.sq (rg [oo 58 (.bs 1 0 [] []),qM 11 58]) (.sq (.sq (rg [qM 59 9,qN 60 59,om 61 (i6 0)]) (.bl 0 (.lp [1,3,7,8,10,11,59,60,61] [224,1856,2272] (.sq (rg [qB 62 .lss 61 60]) (.sq (.cd (.t 62) (.sk) (.ex 0)) (.sq (.bl 1 (.sq (rg [qI 63 1 59 61,qL 64 63,qM 13 64])
 (rg [qM 65 11,qM 66 1,qM 67 13,qI 68 1 66 67,qL 69 68,oo 70 (.bs 1 1 [.int .i64 0] [(0,.t 69)]),oo 71 (.ap 1 0 (.t 65) (.t 70)),qM 11 71])))
 (rg [oo 72 (.bi .add 0 (.t 61) (i6 1)),qM 61 72]))))))) (.sq (rg [qM 73 11,oo 74 (.ca .any false (.f Wf) [.t 73])]) (.sq (rg [qM 75 8,qM 76 11,oo 77 (.ca .pure false (.f XF) [.k (.string ⟨#[32,107,105,100,115]⟩),.t 76]),qM 78 10,qN 79 78,oo 80 (.bs 1 1 [.int .i64 0] [(0,.t 79)]),oo 81 (.ca .pure false (.f XF) [.k (.string ⟨#[32,115,105,116,101,115]⟩),.t 80]),qB 82 .add 77 81,qB 83 .add 75 82,qM 8 83]) (.sq (.sq (rg [qF 84 2 7,qL 85 84,qN 86 85,om 87 (i6 0)]) (.bl 2 (.lp [1,3,8,85,86,87] [224] (.sq (rg [qB 88 .lss 87 86]) (.sq (.cd (.t 88) (.sk) (.ex 2)) (.sq (.bl 3 (.sq (rg [qI 89 1 85 87,qL 90 89,qM 15 90]) (.sq (.sq (rg [qM 91 15,qF 92 3 3,qL 93 92,qB 94 .geq 91 93]) (.cd (.t 94) (.sq (rg [qM 95 8,qF 96 4 3,qL 97 96,qM 98 15,qF 99 3 3,qL 100 99,qB 101 .sub 98 100,qI 102 1 97 101,qL 103 102,oo 104 (.bi .add 0 (.k (.string ⟨#[32,111,117,116,101,114,32]⟩)) (.t 103)),qB 105 .add 95 104,qM 8 105]) (.ex 3)) (.sk))) (.sq (rg [qS 107 6 3,qM 108 15,oo 109 (.ca .pure false (.f ZdE) [.t 107,.t 108]),qM 106 109,qE 110 0 106,qE 111 1 106,qM 16 110,qM 17 111]) (.sq (rg [oo 112 (.bs 1 0 [] []),qM 18 112]) (.sq (.sq (rg [qM 113 16,qN 114 113,om 115 (i6 0)]) (.bl 4 (.lp [1,3,8,17,18,85,86,87,113,114,115] [224,3584,4160] (.sq (rg [qB 116 .lss 115 114]) (.sq (.cd (.t 116) (.sk) (.ex 4)) (.sq (.bl 5 (.sq (rg [qI 117 2 113 115,qS 118 2 117,oo 20 (.al [.int .i64 0,.int .i64 0] []),
 ZT (.st 2 (.t 20) (.t 118))]) (.rg (some 0) [qM 119 18,qM 120 1,oo 121 (.ja 1 2 (.t 20) (i6 0)),qL 122 121,qI 123 1 120 122,qL 124 123,oo 125 (.bi .mul 0 (.t 124) (i6 3)),oo 126 (.ja 1 2 (.t 20) (i6 1)),qL 127 126,qB 128 .add 125 127,oo 129 (.bs 1 1 [.int .i64 0] [(0,.t 128)]),oo 130 (.ap 1 0 (.t 119) (.t 129)),qM 18 130])))
 (rg [oo 131 (.bi .add 0 (.t 115) (i6 1)),qM 115 131]))))))) (.sq (rg [qM 132 18,oo 133 (.ca .any false (.f Wf) [.t 132])]) (.sq (rg [qM 134 8,qM 135 18,oo 136 (.ca .pure false (.f XF) [.k (.string ⟨#[32,101,100,103,101]⟩),.t 135]),qB 137 .add 134 136,qM 8 137]) (.sq (rg [qM 138 17,qN 139 138,om 140 (i6 0)]) (.bl 6 (.lp [1,3,8,85,86,87,138,139,140] [224] (.sq (rg [qB 141 .lss 140 139]) (.sq (.cd (.t 141) (.sk) (.ex 6)) (.sq (.bl 7 (.sq (rg [qI 142 1 138 140,qL 143 142,qM 22 143])
 (rg [qM 144 8,qM 145 22,oo 146 (.bi .add 0 (.k (.string ⟨#[32]⟩)) (.t 145)),qB 147 .add 144 146,qM 8 147])))
 (rg [oo 148 (.bi .add 0 (.t 140) (i6 1)),qM 140 148])))))))))))))))
 (rg [oo 149 (.bi .add 0 (.t 87) (i6 1)),qM 87 149]))))))) (.sq (rg [qM 150 8,qM 6 150]) (.rt)))))))))))) }
theorem Zue:Zo UbX Zdg Zhi=true:=by kernel_rfl
def Zhj:F2 :=
 { nt:=11,res:=[.t 2 [0]],body:=(.sq (rg [om 2 (i6 0)]) (.sq (rg [qM 4 0,oo 5 (.ca .pure true (.f ZdF) [.t 4]),qM 3 5]) (.sq (rg [qM 6 3,oo 7 (.ca .any false (.f Wf) [.t 6])]) (.sq (rg [qM 8 3,oo 9 (.ca .any false (.f ZdG) [.t 8]),qN 10 9,qM 2 10]) (.rt))))) }
theorem Zuf:Zo UbX ZaW Zhj=true:=by kernel_rfl
def Zhk:F2 :=
 { nt:=55,res:=[.t 2 [0]],body:=(.sq (rg [om 2 (.k (.bool false))]) (.sq (.sq (rg [om 3 (i6 0)]) (.bl 0 (.lp [0,3] [] (.sq (.sq (rg [qM 5 3,qM 6 0,qN 7 6,qB 8 .lss 5 7]) (.cd (.t 8) (.sk) (.ex 0))) (.sq (.bl 1 (.sq (.sq (rg [qM 11 0,qM 12 3,qI 13 3 11 12,qF 14 0 13,qL 15 14,oo 16 (.ca .pure false (.f Za4) [.t 15]),oo 17 (.nt (.t 16)),qM 18 17,og 19 18 false (.mv (.t 0) none),og 20 18 false (.mv (.t 3) none),og 21 18 false (.ia 3 (.t 19) (.t 20)),og 22 18 false (.fa 1 (.t 21)),og 23 18 false (.ld none (.t 22)),og 24 18 false (.ca .pure false (.f V9) [.t 23,i6 0,i6 3]),og 25 18 false (.nt (.t 24)),oo 26 (.pk (.t 18) (.k (.bool true)) (.t 25)),qM 27 26,og 28 27 false (.mv (.t 0) none),og 29 27 false (.mv (.t 3) none),og 30 27 false (.ia 3 (.t 28) (.t 29)),og 31 27 false (.fa 2 (.t 30)),og 32 27 false (.ld none (.t 31)),og 33 27 false (.ca .pure false (.f V9) [.t 32,i6 0,i6 2]),og 34 27 false (.nt (.t 33)),oo 35 (.pk (.t 27) (.k (.bool true)) (.t 34))]) (.cd (.t 35) (.sq (rg [om 2 (.k (.bool false))]) (.rt)) (.sk))) (.sq (rg [om 4 (i6 0)]) (.bl 2 (.lp [0,3,4] [] (.sq (.sq (rg [qM 36 4,qM 37 3,qB 38 .lss 36 37]) (.cd (.t 38) (.sk) (.ex 2))) (.sq (.bl 3 (.sq (.rg (some 0) [qM 41 0,qM 42 4,qI 43 3 41 42,qF 44 0 43,qL 45 44,qM 46 0,qM 47 3,qI 48 3 46 47,qF 49 0 48,qL 50 49,qB 51 .eql 45 50]) (.cd (.t 51) (.sq (rg [om 2 (.k (.bool false))]) (.rt)) (.sk))))
 (rg [qM 39 4,oo 40 (.bi .add 0 (.t 39) (i6 1)),qM 4 40]))))))))
 (rg [qM 9 3,oo 10 (.bi .add 0 (.t 9) (i6 1)),qM 3 10])))))) (.sq (rg [qM 52 0,qN 53 52,oo 54 (.ca .pure false (.f V9) [.t 53,i6 1,i6 6]),qM 2 54]) (.rt)))) }
theorem Zug:Zo UbX Zdq Zhk=true:=by kernel_rfl
def Zhl:F2 :=
 { nt:=15,res:=[.t 6 [0]],body:=(.sq (rg [om 6 (.k (.bool false))]) (.sq (rg [qM 7 0,qM 8 1,qB 9 .geq 7 8,qM 10 9,og 11 10 true (.mv (.t 0) none),og 12 10 true (.mv (.t 2) none),og 13 10 true (.bi .leq 0 (.t 11) (.t 12)),oo 14 (.pk (.t 10) (.t 13) (.k (.bool false))),qM 6 14]) (.rt))) }
theorem Zuh:Zo UbX V9 Zhl=true:=by kernel_rfl
def Zhm:F2 :=
 { nt:=35,res:=[.t 2 [0]],body:=(.sq (rg [om 2 (.k (.bool false))]) (.sq (.sq (rg [om 3 (i6 0)]) (.bl 0 (.lp [0,3] [] (.sq (.sq (rg [qM 4 3,qM 5 0,qN 6 5,qB 7 .lss 4 6]) (.cd (.t 7) (.sk) (.ex 0))) (.sq (.bl 1 (.sq (.rg (some 0) [qM 10 0,qM 11 3,qI 12 1 10 11,qL 13 12,oo 14 (.ca .pure false (.f Za4) [.t 13]),oo 15 (.nt (.t 14)),qM 16 15,og 17 16 false (.mv (.t 3) none),og 18 16 false (.bi .gtr 0 (.t 17) (i6 0)),og 19 16 false (.mv (.t 18) none),og 20 19 true (.mv (.t 0) none),og 21 19 true (.mv (.t 3) none),og 22 19 true (.bi .sub 0 (.t 21) (i6 1)),og 23 19 true (.ia 1 (.t 20) (.t 22)),og 24 19 true (.ld none (.t 23)),og 25 19 true (.mv (.t 0) none),og 26 19 true (.mv (.t 3) none),og 27 19 true (.ia 1 (.t 25) (.t 26)),og 28 19 true (.ld none (.t 27)),og 29 19 true (.bi .geq 0 (.t 24) (.t 28)),og 30 16 false (.pk (.t 19) (.t 29) (.k (.bool false))),oo 31 (.pk (.t 16) (.k (.bool true)) (.t 30))]) (.cd (.t 31) (.sq (rg [om 2 (.k (.bool false))]) (.rt)) (.sk))))
 (rg [qM 8 3,oo 9 (.bi .add 0 (.t 8) (i6 1)),qM 3 9])))))) (.sq (rg [qM 32 0,qN 33 32,oo 34 (.bi .leq 0 (.t 33) (i6 16)),qM 2 34]) (.rt)))) }
theorem Zui:Zo UbX ZaX Zhm=true:=by kernel_rfl
def Zhn:F2 :=
 { nt:=23,res:=[.t 2 [2]],body:=(.sq (rg [oo 1 (.bt (.t 0)),om 2 (.k (.slice none 0 0))]) (.sq (rg [oo 5 (.bs 1 0 [] []),qM 3 5]) (.sq (.sq (rg [om 4 (i6 0)]) (.bl 0 (.lp [1,3,4] [160,672] (.sq (.sq (rg [qM 6 4,qF 7 5 1,qL 8 7,qN 9 8,qB 10 .lss 6 9]) (.cd (.t 10) (.sk) (.ex 0))) (.sq (.bl 1 (rg [qM 13 3,qF 14 5 1,qL 15 14,qM 16 4,qI 17 2 15 16,qF 18 0 17,qL 19 18,oo 20 (.bs 1 1 [.string ⟨#[]⟩] [(0,.t 19)]),oo 21 (.ap 1 0 (.t 13) (.t 20)),qM 3 21]))
 (rg [qM 11 4,oo 12 (.bi .add 0 (.t 11) (i6 1)),qM 4 12])))))) (.sq (rg [qM 22 3,qM 2 22]) (.rt))))) }
theorem Zuj:Zo UbX Zdr Zhn=true:=by kernel_rfl
def Zho:F2 :=
 { nt:=57,res:=[.t 6 [0]],body:=(.sq (rg [oo 4 (.bt (.t 1)),om 6 (.k (.bool false))]) (.sq (rg [qF 9 1 4,qL 10 9,qM 11 2,qI 12 3 10 11,qS 13 3 12,oo 7 (.al [.int .i64 0,.int .i64 0,.slice none 0 0] []),
 ZT (.st 3 (.t 7) (.t 13))]) (.sq (.sq (.rg (some 0) [qF 14 0 7,qL 15 14,qM 16 0,qN 17 16,oo 18 (.bi .sub 0 (.t 17) (i6 1)),oo 19 (.ca .pure false (.f V9) [.t 15,i6 0,.t 18]),oo 20 (.nt (.t 19)),qM 21 20,og 22 21 false (.mv (.t 0) none),og 23 21 false (.ld (some 6) (.t 4)),og 24 21 false (.fa 1 (.t 7)),og 25 21 false (.ld none (.t 24)),og 26 21 false (.mv (.t 2) none),og 27 21 false (.ca .pure false (.f ZaY) [.t 22,.t 23,.t 25,.t 26]),og 28 21 false (.nt (.t 27)),oo 29 (.pk (.t 21) (.k (.bool true)) (.t 28)),qM 30 29,og 31 30 false (.fa 2 (.t 7)),og 32 30 false (.ld none (.t 31)),og 33 30 false (.ln (.t 32)),og 34 30 false (.mv (.t 0) none),og 35 30 false (.fa 0 (.t 7)),og 36 30 false (.ld none (.t 35)),og 37 30 false (.ia 3 (.t 34) (.t 36)),og 38 30 false (.fa 1 (.t 37)),og 39 30 false (.ld none (.t 38)),og 40 30 false (.bi .neq 0 (.t 33) (.t 39)),oo 41 (.pk (.t 30) (.k (.bool true)) (.t 40))]) (.cd (.t 41) (.sq (rg [om 6 (.k (.bool false))]) (.rt)) (.sk))) (.sq (.sq (rg [om 8 (i6 0)]) (.bl 0 (.lp [4,7,8] [224] (.sq (.sq (rg [qM 42 8,qF 43 2 7,qL 44 43,qN 45 44,qB 46 .lss 42 45]) (.cd (.t 46) (.sk) (.ex 0))) (.sq (.bl 1 (.sq (.rg (some 0) [qS 49 6 4,qF 50 2 7,qL 51 50,qM 52 8,qI 53 1 51 52,qL 54 53,oo 55 (.ca .pure false (.f ZaZ) [.t 49,.t 54]),oo 56 (.nt (.t 55))]) (.cd (.t 56) (.sq (rg [om 6 (.k (.bool false))]) (.rt)) (.sk))))
 (rg [qM 47 8,oo 48 (.bi .add 0 (.t 47) (i6 1)),qM 8 48])))))) (.sq (rg [om 6 (.k (.bool true))]) (.rt)))))) }
theorem Zuk:Zo UbX Zds Zho=true:=by kernel_rfl
def Zhp:F2 :=
 { nt:=33,res:=[.t 8 [0]],body:=(.sq (rg [oo 5 (.bt (.t 1)),om 8 (.k (.bool false))]) (.sq (.sq (rg [qM 9 2,oo 10 (.bi .lss 0 (.t 9) (i6 0))]) (.cd (.t 10) (.sq (rg [qM 11 2,oo 12 (.bi .sub 0 (i6 (-1)) (.t 11)),qF 13 0 5,qL 14 13,oo 15 (.bi .sub 0 (.t 14) (i6 1)),oo 16 (.ca .pure false (.f V9) [.t 12,i6 0,.t 15]),qM 8 16]) (.rt)) (.sk))) (.sq (rg [qM 17 2,qM 18 3,qB 19 .lss 17 18,qM 20 19,og 21 20 true (.mv (.t 0) none),og 22 20 true (.fa 1 (.t 5)),og 23 20 true (.ld none (.t 22)),og 24 20 true (.mv (.t 2) none),og 25 20 true (.ia 3 (.t 23) (.t 24)),og 26 20 true (.fa 0 (.t 25)),og 27 20 true (.ld none (.t 26)),og 28 20 true (.ia 3 (.t 21) (.t 27)),og 29 20 true (.fa 2 (.t 28)),og 30 20 true (.ld none (.t 29)),og 31 20 true (.bi .neq 0 (.t 30) (i6 2)),oo 32 (.pk (.t 20) (.t 31) (.k (.bool false))),qM 8 32]) (.rt)))) }
theorem Zul:Zo UbX ZaY Zhp=true:=by kernel_rfl
def Zhq:F2 :=
 { nt:=14,res:=[.t 4 [0]],body:=(.sq (rg [oo 2 (.bt (.t 0)),om 4 (.k (.bool false))]) (.sq (rg [qM 5 1,qF 6 3 2,qL 7 6,qF 8 4 2,qL 9 8,qN 10 9,qB 11 .add 7 10,oo 12 (.bi .sub 0 (.t 11) (i6 1)),oo 13 (.ca .pure false (.f V9) [.t 5,i6 0,.t 12]),qM 4 13]) (.rt))) }
theorem Zum:Zo UbX ZaZ Zhq=true:=by kernel_rfl
def Zhr:F2 :=
 { nt:=38,res:=[.t 4 [2]],body:=(.sq (rg [oo 2 (.bt (.t 0)),om 4 (.k (.slice none 0 0))]) (.sq (rg [oo 8 (.bs 1 0 [] []),qM 5 8]) (.sq (.sq (rg [om 6 (i6 0)]) (.bl 0 (.lp [1,2,5,6] [256,1152] (.sq (.sq (rg [qM 9 6,qF 10 1 2,qL 11 10,qN 12 11,qB 13 .lss 9 12]) (.cd (.t 13) (.sk) (.ex 0))) (.sq (.bl 1 (.sq (rg [om 7 (i6 0)]) (.sq (.bl 2 (.lp [1,2,5,6,7] [256,1152] (.sq (.sq (.rg (some 0) [qM 16 7,qM 17 6,qB 18 .lss 16 17,qM 19 18,og 20 19 true (.ld (some 6) (.t 2)),og 21 19 true (.mv (.t 1) none),og 22 19 true (.mv (.t 7) none),og 23 19 true (.ca .pure false (.f Za5) [.t 20,.t 21,.t 22]),og 24 19 true (.ld (some 6) (.t 2)),og 25 19 true (.mv (.t 1) none),og 26 19 true (.mv (.t 6) none),og 27 19 true (.ca .pure false (.f Za5) [.t 24,.t 25,.t 26]),og 28 19 true (.ca .pure false (.f Za0) [.t 23,.t 27]),og 29 19 true (.nt (.t 28)),oo 30 (.pk (.t 19) (.t 29) (.k (.bool false)))]) (.cd (.t 30) (.sk) (.ex 2))) (.bl 3 (rg [qM 31 7,oo 32 (.bi .add 0 (.t 31) (i6 1)),qM 7 32])))))
 (rg [qM 33 5,qM 34 7,oo 35 (.bs 1 1 [.int .i64 0] [(0,.t 34)]),oo 36 (.ap 1 0 (.t 33) (.t 35)),qM 5 36]))))
 (rg [qM 14 6,oo 15 (.bi .add 0 (.t 14) (i6 1)),qM 6 15])))))) (.sq (rg [qM 37 5,qM 4 37]) (.rt))))) }
theorem Zun:Zo UbX Zdt Zhr=true:=by kernel_rfl
def Zhs:F2 :=
 { nt:=26,res:=[.t 4 [0]],body:=(.sq (rg [om 4 (.k (.bool false))]) (.sq (.sq (rg [qM 6 0,qN 7 6,qM 8 1,qN 9 8,qB 10 .neq 7 9]) (.cd (.t 10) (.sq (rg [om 4 (.k (.bool false))]) (.rt)) (.sk))) (.sq (.sq (rg [om 5 (i6 0)]) (.bl 0 (.lp [0,1,5] [] (.sq (.sq (rg [qM 11 5,qM 12 0,qN 13 12,qB 14 .lss 11 13]) (.cd (.t 14) (.sk) (.ex 0))) (.sq (.bl 1 (.sq (.rg (some 0) [qM 17 0,qM 18 5,qI 19 1 17 18,qL 20 19,qM 21 1,qM 22 5,qI 23 1 21 22,qL 24 23,qB 25 .neq 20 24]) (.cd (.t 25) (.sq (rg [om 4 (.k (.bool false))]) (.rt)) (.sk))))
 (rg [qM 15 5,oo 16 (.bi .add 0 (.t 15) (i6 1)),qM 5 16])))))) (.sq (rg [om 4 (.k (.bool true))]) (.rt))))) }
theorem Zuo:Zo UbX Za0 Zhs=true:=by kernel_rfl
def Zht:F2 :=
 { nt:=40,res:=[.t 2 [0]],body:=(.sq (rg [om 2 (.k (.bool false))]) (.sq (.sq (rg [qM 5 0,qN 6 5,oo 7 (.ca .pure false (.f Qv) [.t 6,i6 1,i6 6]),oo 8 (.nt (.t 7))]) (.cd (.t 8) (.sq (rg [om 2 (.k (.bool false))]) (.rt)) (.sk))) (.sq (.sq (rg [qM 9 0,qN 10 9,om 11 (i6 0)]) (.bl 0 (.lp [0,9,10,11] [] (.sq (rg [qB 12 .lss 11 10]) (.sq (.cd (.t 12) (.sk) (.ex 0)) (.sq (.bl 1 (.sq (rg [qM 13 11,qI 14 3 9 11,qS 15 3 14,oo 4 (.al [.string ⟨#[]⟩,.int .i64 0,.int .i64 0] []),qM 3 13,
 ZT (.st 3 (.t 4) (.t 15))]) (.sq (rg [qF 16 0 4,qL 17 16,oo 18 (.ca .pure false (.f Za6) [.t 17]),oo 19 (.nt (.t 18)),qM 20 19,og 21 20 false (.fa 1 (.t 4)),og 22 20 false (.ld none (.t 21)),og 23 20 false (.ca .pure false (.f Qv) [.t 22,i6 0,i6 3]),og 24 20 false (.nt (.t 23)),oo 25 (.pk (.t 20) (.k (.bool true)) (.t 24)),qM 26 25,og 27 26 false (.fa 2 (.t 4)),og 28 26 false (.ld none (.t 27)),og 29 26 false (.ca .pure false (.f Qv) [.t 28,i6 0,i6 2]),og 30 26 false (.nt (.t 29)),oo 31 (.pk (.t 26) (.k (.bool true)) (.t 30)),qM 32 31,og 33 32 false (.mv (.t 0) none),og 34 32 false (.mv (.t 3) none),og 35 32 false (.sx 3 (.t 33) none (some (.t 34)) none),og 36 32 false (.mf Za7 [.t 4]),og 37 32 false (.ca .pure false (.f Zg6) [.t 35,.t 36]),oo 38 (.pk (.t 32) (.k (.bool true)) (.t 37))]) (.cd (.t 38) (.sq (rg [om 2 (.k (.bool false))]) (.rt)) (.sk)))))
 (rg [oo 39 (.bi .add 0 (.t 11) (i6 1)),qM 11 39]))))))) (.sq (rg [om 2 (.k (.bool true))]) (.rt))))) }
theorem Zup:Zo UbX Zdw Zht=true:=by kernel_rfl
def Zhu:F2 :=
 { nt:=15,res:=[.t 6 [0]],body:=(.sq (rg [om 6 (.k (.bool false))]) (.sq (rg [qM 7 0,qM 8 1,qB 9 .geq 7 8,qM 10 9,og 11 10 true (.mv (.t 0) none),og 12 10 true (.mv (.t 2) none),og 13 10 true (.bi .leq 0 (.t 11) (.t 12)),oo 14 (.pk (.t 10) (.t 13) (.k (.bool false))),qM 6 14]) (.rt))) }
theorem Zuq:Zo UbX Qv Zhu=true:=by kernel_rfl
def Zhv:F2 :=
 { nt:=32,res:=[.t 2 [0]],body:=(.sq (rg [om 2 (.k (.bool false))]) (.sq (.sq (rg [qM 5 0,qN 6 5,om 7 (i6 0)]) (.bl 0 (.lp [0,5,6,7] [] (.sq (rg [qB 8 .lss 7 6]) (.sq (.cd (.t 8) (.sk) (.ex 0)) (.sq (.bl 1 (.sq (rg [qM 9 7,qI 10 1 5 7,qL 11 10,qM 3 9,qM 4 11]) (.sq (rg [qM 12 4,oo 13 (.ca .pure false (.f Za6) [.t 12]),oo 14 (.nt (.t 13)),qM 15 14,og 16 15 false (.mv (.t 3) none),og 17 15 false (.bi .gtr 0 (.t 16) (i6 0)),og 18 15 false (.mv (.t 17) none),og 19 18 true (.mv (.t 4) none),og 20 18 true (.mv (.t 0) none),og 21 18 true (.mv (.t 3) none),og 22 18 true (.bi .sub 0 (.t 21) (i6 1)),og 23 18 true (.ia 1 (.t 20) (.t 22)),og 24 18 true (.ld none (.t 23)),og 25 18 true (.bi .leq 0 (.t 19) (.t 24)),og 26 15 false (.pk (.t 18) (.t 25) (.k (.bool false))),oo 27 (.pk (.t 15) (.k (.bool true)) (.t 26))]) (.cd (.t 27) (.sq (rg [om 2 (.k (.bool false))]) (.rt)) (.sk)))))
 (rg [oo 28 (.bi .add 0 (.t 7) (i6 1)),qM 7 28]))))))) (.sq (rg [qM 29 0,qN 30 29,oo 31 (.bi .leq 0 (.t 30) (i6 16)),qM 2 31]) (.rt)))) }
theorem Zur:Zo UbX Za1 Zhv=true:=by kernel_rfl
def Zhw:F2 :=
 { nt:=21,res:=[.t 2 [2]],body:=(.sq (rg [oo 1 (.bt (.t 0)),om 2 (.k (.slice none 0 0))]) (.sq (rg [oo 6 (.bs 1 0 [] []),qM 3 6]) (.sq (.sq (rg [qF 7 5 1,qL 8 7,qN 9 8,om 10 (i6 0)]) (.bl 0 (.lp [3,8,9,10] [192,576] (.sq (rg [qB 11 .lss 10 9]) (.sq (.cd (.t 11) (.sk) (.ex 0)) (.sq (.bl 1 (.sq (rg [qI 12 2 8 10,qS 13 2 12,oo 5 (.al [.string ⟨#[]⟩,.int .i64 0] []),
 ZT (.st 2 (.t 5) (.t 13))])
 (rg [qM 14 3,qF 15 0 5,qL 16 15,oo 17 (.bs 1 1 [.string ⟨#[]⟩] [(0,.t 16)]),oo 18 (.ap 1 0 (.t 14) (.t 17)),qM 3 18])))
 (rg [oo 19 (.bi .add 0 (.t 10) (i6 1)),qM 10 19]))))))) (.sq (rg [qM 20 3,qM 2 20]) (.rt))))) }
theorem Zus:Zo UbX Zdx Zhw=true:=by kernel_rfl
def Zhx:F2 :=
 { nt:=32,res:=[.t 8 [0]],body:=(.sq (rg [oo 4 (.bt (.t 0)),om 8 (.k (.bool false))]) (.sq (.sq (rg [qM 9 2,oo 10 (.bi .lss 0 (.t 9) (i6 0))]) (.cd (.t 10) (.sq (rg [qM 11 2,qF 12 0 4,qL 13 12,oo 14 (.ng (.t 13)),qB 15 .geq 11 14,qM 8 15]) (.rt)) (.sk))) (.sq (rg [qM 16 2,qM 17 3,qB 18 .lss 16 17,qM 19 18,og 20 19 true (.mv (.t 1) none),og 21 19 true (.fa 1 (.t 4)),og 22 19 true (.ld none (.t 21)),og 23 19 true (.mv (.t 2) none),og 24 19 true (.ia 3 (.t 22) (.t 23)),og 25 19 true (.fa 0 (.t 24)),og 26 19 true (.ld none (.t 25)),og 27 19 true (.ia 3 (.t 20) (.t 26)),og 28 19 true (.fa 2 (.t 27)),og 29 19 true (.ld none (.t 28)),og 30 19 true (.bi .neq 0 (.t 29) (i6 2)),oo 31 (.pk (.t 19) (.t 30) (.k (.bool false))),qM 8 31]) (.rt)))) }
theorem Zut:Zo UbX Za2 Zhx=true:=by kernel_rfl
def Zhy:F2 :=
 { nt:=8,res:=[.t 3 [0]],body:=(.sq (rg [om 3 (.k (.bool false))]) (.sq (rg [qS 4 6 1,qM 5 0,oo 6 (.ca .pure false (.f Za3) [.t 4,.t 5]),oo 7 (.nt (.t 6)),qM 3 7]) (.rt))) }
theorem Zuu:Zo UbX Zdz Zhy=true:=by kernel_rfl
def Zhz:F2 :=
 { nt:=14,res:=[.t 4 [0]],body:=(.sq (rg [oo 2 (.bt (.t 0)),om 4 (.k (.bool false))]) (.sq (rg [qM 5 1,qF 6 3 2,qL 7 6,qF 8 4 2,qL 9 8,qN 10 9,qB 11 .add 7 10,oo 12 (.bi .sub 0 (.t 11) (i6 1)),oo 13 (.ca .pure false (.f Qv) [.t 5,i6 0,.t 12]),qM 4 13]) (.rt))) }
theorem Zuv:Zo UbX Za3 Zhz=true:=by kernel_rfl
def ZhA:F2 :=
 { nt:=13,res:=[.t 4 [0]],body:=(.sq (rg [om 4 (.k (.bool false))]) (.sq (rg [qS 5 6 1,qL 6 2,qM 7 0,qF 8 1 1,qL 9 8,qN 10 9,oo 11 (.ca .pure false (.f Za2) [.t 5,.t 6,.t 7,.t 10]),oo 12 (.nt (.t 11)),qM 4 12]) (.rt))) }
theorem Zuw:Zo UbX ZdA ZhA=true:=by kernel_rfl
def ZhB:F2 :=
 { nt:=9,res:=[.t 3 [0]],body:=(.sq (rg [oo 2 (.bt (.t 0)),om 3 (.k (.bool false))]) (.sq (rg [qS 4 6 1,qF 5 1 2,qL 6 5,oo 7 (.ca .pure false (.f Za3) [.t 4,.t 6]),oo 8 (.nt (.t 7)),qM 3 8]) (.rt))) }
theorem Zux:Zo UbX ZdB ZhB=true:=by kernel_rfl
def ZhC:F2 :=
 { nt:=20,res:=[.t 4 [0]],body:=(.sq (rg [om 4 (.k (.string ⟨#[]⟩))]) (.sq (.sq (rg [qM 7 1,qN 8 7,om 9 (i6 0)]) (.bl 0 (.lp [0,7,8,9] [] (.sq (rg [qB 10 .lss 9 8]) (.sq (.cd (.t 10) (.sk) (.ex 0)) (.sq (.bl 1 (.sq (rg [qI 11 1 7 9,qL 12 11,qM 6 12])
 (rg [qM 13 0,qM 14 6,oo 15 (.ca .pure false (.f ZaU) [.t 14]),oo 16 (.bi .add 0 (.k (.string ⟨#[32]⟩)) (.t 15)),qB 17 .add 13 16,qM 0 17])))
 (rg [oo 18 (.bi .add 0 (.t 9) (i6 1)),qM 9 18]))))))) (.sq (rg [qM 19 0,qM 4 19]) (.rt)))) }
theorem Zuy:Zo UbX XF ZhC=true:=by kernel_rfl
def ZhD:F2 :=
 { nt:=49,res:=[.t 4 [2],.t 5 [2]],body:=(.sq (rg [oo 2 (.bt (.t 0)),om 4 (.k (.slice none 0 0)),om 5 (.k (.slice none 0 0))]) (.sq (rg [oo 12 (.bs 1 0 [] []),oo 13 (.bs 1 0 [] []),qM 6 12,qM 7 13]) (.sq (.sq (rg [qF 14 1 2,qL 15 14,qN 16 15,om 17 (i6 0)]) (.bl 0 (.lp [1,2,6,7,15,16,17] [384,416,928,1440] (.sq (rg [qB 18 .lss 17 16]) (.sq (.cd (.t 18) (.sk) (.ex 0)) (.sq (.bl 1 (.sq (rg [qM 19 17,qI 20 3 15 17,qS 21 3 20,oo 9 (.al [.int .i64 0,.int .i64 0,.slice none 0 0] []),qM 8 19,
 ZT (.st 3 (.t 9) (.t 21))]) (.sq (rg [qF 22 1 9,qL 23 22,qM 24 1,qB 25 .eql 23 24]) (.cd (.t 25) (rg [qM 26 6,qM 27 8,oo 28 (.bs 1 1 [.int .i64 0] [(0,.t 27)]),oo 29 (.ap 1 0 (.t 26) (.t 28)),qM 6 29]) (.sk)))))
 (rg [oo 30 (.bi .add 0 (.t 17) (i6 1)),qM 17 30]))))))) (.sq (.sq (rg [qF 31 2 2,qL 32 31,qN 33 32,om 34 (i6 0)]) (.bl 2 (.lp [1,6,7,32,33,34] [384,416,928,1440] (.sq (rg [qB 35 .lss 34 33]) (.sq (.cd (.t 35) (.sk) (.ex 2)) (.sq (.bl 3 (.sq (rg [qM 36 34,qI 37 1 32 34,qL 38 37,qM 10 36,qM 11 38]) (.sq (rg [qM 39 11,qM 40 1,qB 41 .eql 39 40]) (.cd (.t 41) (rg [qM 42 7,qM 43 10,oo 44 (.bs 1 1 [.int .i64 0] [(0,.t 43)]),oo 45 (.ap 1 0 (.t 42) (.t 44)),qM 7 45]) (.sk)))))
 (rg [oo 46 (.bi .add 0 (.t 34) (i6 1)),qM 34 46]))))))) (.sq (rg [qM 47 6,qM 48 7,qM 4 47,qM 5 48]) (.rt)))))) }
theorem Zuz:Zo UbX ZdD ZhD=true:=by kernel_rfl
def ZhE:F2 :=
 { nt:=11,res:=[],body:=(.sq (rg [qM 3 0,qN 4 3,qM 2 4])
 (rg [qM 5 0,qM 6 2,qM 7 2,oo 8 (.cv (.int .u64) (.t 7)),oo 9 (.ca .pure false (.f ZdJ) [.t 8]),oo 10 (.ca .any false (.f Dg) [.t 5,i6 0,.t 6,.t 9])])) }
theorem ZuA:Zo UbX Wf ZhE=true:=by kernel_rfl
def ZhF:F2 :=
 { nt:=62,res:=[.t 4 [3],.t 5 [2]],body:=(.sq (rg [oo 2 (.bt (.t 0)),om 4 (.k (.slice none 0 0)),om 5 (.k (.slice none 0 0))]) (.sq (rg [oo 14 (.bs 2 0 [] []),oo 15 (.bs 1 0 [] []),qM 6 14,qM 7 15]) (.sq (.sq (rg [qF 16 1 2,qL 17 16,qN 18 17,om 19 (i6 0)]) (.bl 0 (.lp [1,2,6,7,17,18,19] [448,480,1280,1856] (.sq (rg [qB 20 .lss 19 18]) (.sq (.cd (.t 20) (.sk) (.ex 0)) (.sq (.bl 1 (.sq (rg [qM 21 19,qI 22 3 17 19,qS 23 3 22,oo 9 (.al [.int .i64 0,.int .i64 0,.slice none 0 0] []),qM 8 21,
 ZT (.st 3 (.t 9) (.t 23))]) (.sq (rg [qF 24 2 9,qL 25 24,qN 26 25,om 27 (i6 0)]) (.bl 2 (.lp [1,2,6,7,8,17,18,19,25,26,27] [288,448,480,1280,1856] (.sq (rg [qB 28 .lss 27 26]) (.sq (.cd (.t 28) (.sk) (.ex 2)) (.sq (.bl 3 (.sq (rg [qM 29 27,qI 30 1 25 27,qL 31 30,qM 10 29,qM 11 31]) (.sq (rg [qM 32 11,qM 33 1,qB 34 .eql 32 33]) (.cd (.t 34) (rg [qM 35 6,qM 36 8,qM 37 10,oo 38 (.bd [.int .i64 0,.int .i64 0] [(0,1,.t 36),(1,1,.t 37)] []),oo 39 (.bs 2 1 [.int .i64 0,.int .i64 0] [(0,.t 38)]),oo 40 (.ap 2 0 (.t 35) (.t 39)),qM 6 40]) (.sk)))))
 (rg [oo 41 (.bi .add 0 (.t 27) (i6 1)),qM 27 41])))))))))
 (rg [oo 42 (.bi .add 0 (.t 19) (i6 1)),qM 19 42]))))))) (.sq (.sq (rg [qF 43 5 2,qL 44 43,qN 45 44,om 46 (i6 0)]) (.bl 4 (.lp [1,6,7,44,45,46] [448,480,1280,1856] (.sq (rg [qB 47 .lss 46 45]) (.sq (.cd (.t 47) (.sk) (.ex 4)) (.sq (.bl 5 (.sq (rg [qI 48 2 44 46,qS 49 2 48,oo 13 (.al [.string ⟨#[]⟩,.int .i64 0] []),
 ZT (.st 2 (.t 13) (.t 49))]) (.sq (rg [qF 50 1 13,qL 51 50,qM 52 1,qB 53 .eql 51 52]) (.cd (.t 53) (rg [qM 54 7,qF 55 0 13,qL 56 55,oo 57 (.bs 1 1 [.string ⟨#[]⟩] [(0,.t 56)]),oo 58 (.ap 1 0 (.t 54) (.t 57)),qM 7 58]) (.sk)))))
 (rg [oo 59 (.bi .add 0 (.t 46) (i6 1)),qM 46 59]))))))) (.sq (rg [qM 60 6,qM 61 7,qM 4 60,qM 5 61]) (.rt)))))) }
theorem ZuB:Zo UbX ZdE ZhF=true:=by kernel_rfl
def ZhG:F2 :=
 { nt:=8,res:=[.t 2 [2]],body:=(.sq (rg [om 2 (.k (.slice none 0 0))]) (.sq (.sq (rg [qM 3 0,oo 4 (.nl false (.t 3))]) (.cd (.t 4) (.sq (rg [om 2 (.k (.slice none 0 0))]) (.rt)) (.sk))) (.sq (rg [oo 5 (.bs 1 0 [] []),qM 6 0,oo 7 (.ap 1 0 (.t 5) (.t 6)),qM 2 7]) (.rt)))) }
theorem ZuC:Zo UbX ZdF ZhG=true:=by kernel_rfl
def ZdS:F2 :=
 { nt:=61,res:=[.t 2 [2]],body:=(.sq (rg [om 2 (.k (.slice none 0 0))]) (.sq (.sq (rg [qM 6 0,qN 7 6,oo 8 (.bi .lss 0 (.t 7) (i6 2))]) (.cd (.t 8) (.sq (rg [qM 9 0,qM 2 9]) (.rt)) (.sk))) (.sq (.sq (rg [om 3 (i6 1)]) (.bl 0 (.lp [0,3] [] (.sq (.sq (rg [qM 10 3,qM 11 0,qN 12 11,qB 13 .lss 10 12]) (.cd (.t 13) (.sk) (.ex 0))) (.sq (.bl 1 (.sq (.rg (some 0) [qM 16 0,qM 17 3,qI 18 1 16 17,qL 19 18,qM 20 0,qM 21 3,oo 22 (.bi .sub 0 (.t 21) (i6 1)),qI 23 1 20 22,qL 24 23,qB 25 .eql 19 24]) (.cd (.t 25) (.sq (rg [qM 26 0,qM 27 3,oo 28 (.sx 1 (.t 26) (some (.t 27)) none none),qM 4 28]) (.sq (.sq (rg [om 5 (i6 1)]) (.bl 2 (.lp [0,3,4,5] [] (.sq (.sq (rg [qM 29 5,qM 30 4,qN 31 30,qB 32 .lss 29 31]) (.cd (.t 32) (.sk) (.ex 2))) (.sq (.bl 3 (.sq (.rg (some 0) [qM 35 4,qM 36 5,qI 37 1 35 36,qL 38 37,qM 39 4,qM 40 5,oo 41 (.bi .sub 0 (.t 40) (i6 1)),qI 42 1 39 41,qL 43 42,qB 44 .neq 38 43]) (.cd (.t 44) (.sq (rg [qM 45 0,qM 46 3,qM 47 4,qM 48 5,qI 49 1 47 48,qL 50 49,qI 51 1 45 46,
 ZT (.st 1 (.t 51) (.t 50))])
 (rg [qM 52 3,oo 53 (.bi .add 0 (.t 52) (i6 1)),qM 3 53])) (.sk))))
 (rg [qM 33 5,oo 34 (.bi .add 0 (.t 33) (i6 1)),qM 5 34])))))) (.sq (rg [qM 54 0,qM 55 3,oo 56 (.sx 1 (.t 54) (some (.t 55)) none none),
 ZT (.cl 1 [.int .i64 0] (.t 56))]) (.sq (rg [qM 57 0,qM 58 3,oo 59 (.sx 1 (.t 57) none (some (.t 58)) none),qM 2 59]) (.rt))))) (.sk))))
 (rg [qM 14 3,oo 15 (.bi .add 0 (.t 14) (i6 1)),qM 3 15])))))) (.sq (rg [qM 60 0,qM 2 60]) (.rt))))) }
theorem ZhH:Zo UbX ZdG ZdS=true:=by kernel_rfl
def ZhI:F2 :=
 { nt:=23,res:=[.t 2 [0]],body:=(.sq (rg [om 2 (.k (.bool false))]) (.sq (.sq (rg [om 3 (i6 0)]) (.bl 0 (.lp [0,3] [] (.sq (.sq (rg [qM 4 3,qM 5 0,oo 6 (.lg (.t 5)),qB 7 .lss 4 6]) (.cd (.t 7) (.sk) (.ex 0))) (.sq (.bl 1 (.sq (rg [qM 10 0,qM 11 3,oo 12 (.ix (.t 10) (.t 11)),oo 13 (.bi .lss 0 (.t 12) (.k (.int .u8 97))),qM 14 13,og 15 14 false (.mv (.t 0) none),og 16 14 false (.mv (.t 3) none),og 17 14 false (.ix (.t 15) (.t 16)),og 18 14 false (.bi .gtr 0 (.t 17) (.k (.int .u8 122))),oo 19 (.pk (.t 14) (.k (.bool true)) (.t 18))]) (.cd (.t 19) (.sq (rg [om 2 (.k (.bool false))]) (.rt)) (.sk))))
 (rg [qM 8 3,oo 9 (.bi .add 0 (.t 8) (i6 1)),qM 3 9])))))) (.sq (rg [qM 20 0,oo 21 (.lg (.t 20)),oo 22 (.ca .pure false (.f V9) [.t 21,i6 1,i6 4]),qM 2 22]) (.rt)))) }
theorem ZuD:Zo UbX Za4 ZhI=true:=by kernel_rfl
def ZhJ:F2 :=
 { nt:=54,res:=[.t 6 [2]],body:=(.sq (rg [oo 3 (.bt (.t 0)),om 6 (.k (.slice none 0 0))]) (.sq (.rg (some 0) [qM 9 1,qF 10 1 3,qL 11 10,qM 12 2,qI 13 3 11 12,qF 14 1 13,qL 15 14,oo 16 (.ca .pure true (.f ZdK) [.t 9,.t 15]),qS 17 6 3,qM 18 1,qM 19 2,oo 20 (.ca .pure false (.f ZdL) [.t 17,.t 18,.t 19]),oo 21 (.ap 1 0 (.t 16) (.t 20)),qM 7 21]) (.sq (.sq (rg [om 8 (i6 0)]) (.bl 0 (.lp [1,2,3,7,8] [512,672,1472] (.sq (.sq (rg [qM 22 8,qF 23 1 3,qL 24 23,qM 25 2,qI 26 3 24 25,qF 27 2 26,qL 28 27,qN 29 28,qB 30 .lss 22 29]) (.cd (.t 30) (.sk) (.ex 0))) (.sq (.bl 1 (.rg (some 0) [qM 33 7,qS 34 6 3,qM 35 1,qF 36 1 3,qL 37 36,qM 38 2,qI 39 3 37 38,qF 40 2 39,qL 41 40,qM 42 8,qI 43 1 41 42,qL 44 43,oo 45 (.ca .pure false (.f ZdM) [.t 34,.t 35,.t 44]),oo 46 (.ap 1 0 (.t 33) (.t 45)),qM 7 46]))
 (rg [qM 31 8,oo 32 (.bi .add 0 (.t 31) (i6 1)),qM 8 32])))))) (.sq (rg [qM 47 7,qM 48 1,qM 49 2,qI 50 1 48 49,qL 51 50,oo 52 (.bs 1 1 [.int .i64 0] [(0,.t 51)]),oo 53 (.ap 1 0 (.t 47) (.t 52)),qM 6 53]) (.rt))))) }
theorem ZuE:Zo UbX Za5 ZhJ=true:=by kernel_rfl
def ZhK:F2 :=
 { nt:=11,res:=[.t 2 [0]],body:=(.sq (rg [om 2 (.k (.bool false))]) (.sq (rg [qM 3 0,oo 4 (.lg (.t 3)),oo 5 (.ca .pure false (.f Qv) [.t 4,i6 1,i6 4]),qM 6 5,og 7 6 true (.mv (.t 0) none),og 8 6 true (.ca .pure false (.f Zg9) [.t 7,.k (.string ⟨#[97,98,99,100,101,102,103,104,105,106,107,108,109,110,111,112,113,114,115,116,117,118,119,120,121,122]⟩)]),og 9 6 true (.bi .eql 0 (.t 8) (.k (.string ⟨#[]⟩))),oo 10 (.pk (.t 6) (.t 9) (.k (.bool false))),qM 2 10]) (.rt))) }
theorem ZuF:Zo UbX Za6 ZhK=true:=by kernel_rfl
def ZhL:F2 :=
 { nt:=9,res:=[.t 3 [0]],body:=(.sq (rg [oo 2 (.bt (.t 0)),om 3 (.k (.bool false))]) (.sq (rg [qF 4 0 2,qL 5 4,qF 6 0 1,qL 7 6,qB 8 .eql 5 7,qM 3 8]) (.rt))) }
theorem ZuG:Zo UbX Za7 ZhL=true:=by kernel_rfl
def ZhM:F2 :=
 { nt:=134,res:=[],body:=(.sq (rg [om 8 (.k (.bool true))]) (.sq (rg [om 9 (.k (.bool true))]) (.bl 0 (.lp [0,1,2,3,8,9] [] (.bl 1 (.sq (rg [qM 19 2,qM 20 1,qB 21 .sub 19 20,qM 10 21]) (.sq (.sq (rg [qM 22 10,oo 23 (.bi .leq 0 (.t 22) (i6 12))]) (.cd (.t 23) (.sq (rg [qM 24 0,qM 25 1,qM 26 2,oo 27 (.ca .any false (.f ZdN) [.t 24,.t 25,.t 26])]) (.rt)) (.sk))) (.sq (.sq (rg [qM 28 3,oo 29 (.bi .eql 0 (.t 28) (i6 0))]) (.cd (.t 29) (.sq (rg [qM 30 0,qM 31 1,qM 32 2,oo 33 (.ca .pure false (.f ZtZ) [.t 30,.t 31,.t 32])]) (.rt)) (.sk))) (.sq (.sq (rg [qM 34 8,oo 35 (.nt (.t 34))]) (.cd (.t 35) (.sq (rg [qM 36 0,qM 37 1,qM 38 2,oo 39 (.ca .pure false (.f Zt0) [.t 36,.t 37,.t 38])])
 (rg [qM 40 3,oo 41 (.bi .sub 0 (.t 40) (i6 1)),qM 3 41])) (.sk))) (.sq (rg [qM 43 0,qM 44 1,qM 45 2,oo 46 (.ca .pure false (.f Zt1) [.t 43,.t 44,.t 45]),qM 42 46,qE 47 0 42,qE 48 1 42,qM 11 47,qM 12 48]) (.sq (.sq (rg [qM 49 12,oo 50 (.bi .eql 0 (.t 49) (i6 2))]) (.cd (.t 50) (.sq (rg [qM 51 0,qM 52 1,qM 53 2,oo 54 (.ca .pure false (.f Zt2) [.t 51,.t 52,.t 53])]) (.sq (rg [qM 55 2,oo 56 (.bi .sub 0 (.t 55) (i6 1)),qM 57 11,qM 58 1,qB 59 .sub 57 58,qB 60 .sub 56 59,qM 11 60])
 (rg [om 12 (i6 1)]))) (.sk))) (.sq (.sq (rg [qM 61 8,qM 62 61,og 63 62 true (.mv (.t 9) none),oo 64 (.pk (.t 62) (.t 63) (.k (.bool false))),qM 65 64,og 66 65 true (.mv (.t 12) none),og 67 65 true (.bi .eql 0 (.t 66) (i6 1)),oo 68 (.pk (.t 65) (.t 67) (.k (.bool false)))]) (.cd (.t 68) (.sq (rg [qM 69 0,qM 70 1,qM 71 2,oo 72 (.ca .pure false (.f Zt3) [.t 69,.t 70,.t 71])]) (.cd (.t 72) (.rt) (.sk))) (.sk))) (.sq (.sq (.rg (some 0) [qM 73 1,oo 74 (.bi .gtr 0 (.t 73) (i6 0)),qM 75 74,og 76 75 true (.mv (.t 0) none),og 77 75 true (.mv (.t 1) none),og 78 75 true (.bi .sub 0 (.t 77) (i6 1)),og 79 75 true (.ia 1 (.t 76) (.t 78)),og 80 75 true (.ld none (.t 79)),og 81 75 true (.mv (.t 0) none),og 82 75 true (.mv (.t 11) none),og 83 75 true (.ia 1 (.t 81) (.t 82)),og 84 75 true (.ld none (.t 83)),og 85 75 true (.ca .pure false (.f Za8) [.t 80,.t 84]),og 86 75 true (.nt (.t 85)),oo 87 (.pk (.t 75) (.t 86) (.k (.bool false)))]) (.cd (.t 87) (.sq (rg [qM 88 0,qM 89 1,qM 90 2,qM 91 11,oo 92 (.ca .pure false (.f Zt4) [.t 88,.t 89,.t 90,.t 91]),qM 13 92]) (.sq (rg [qM 93 13,qM 1 93]) (.ex 1))) (.sk))) (.sq (rg [qM 95 0,qM 96 1,qM 97 2,qM 98 11,oo 99 (.ca .pure false (.f Zt5) [.t 95,.t 96,.t 97,.t 98]),qM 94 99,qE 100 0 94,qE 101 1 94,qM 14 100,qM 15 101]) (.sq (rg [qM 102 15,qM 9 102]) (.sq (rg [qM 103 14,qM 104 1,qB 105 .sub 103 104,qM 106 2,qM 107 14,qB 108 .sub 106 107,qM 16 105,qM 17 108]) (.sq (rg [qM 109 10,oo 110 (.bi .quo 0 (.t 109) (i6 8)),qM 18 110]) (.sq (rg [qM 111 16,qM 112 17,qB 113 .lss 111 112]) (.cd (.t 113) (.sq (rg [qM 114 16,qM 115 18,qB 116 .geq 114 115,qM 8 116]) (.sq (rg [qM 117 0,qM 118 1,qM 119 14,qM 120 3,oo 121 (.ca .any false (.f Dg) [.t 117,.t 118,.t 119,.t 120])])
 (rg [qM 122 14,oo 123 (.bi .add 0 (.t 122) (i6 1)),qM 1 123]))) (.sq (rg [qM 124 17,qM 125 18,qB 126 .geq 124 125,qM 8 126]) (.sq (rg [qM 127 0,qM 128 14,oo 129 (.bi .add 0 (.t 128) (i6 1)),qM 130 2,qM 131 3,oo 132 (.ca .any false (.f Dg) [.t 127,.t 129,.t 130,.t 131])])
 (rg [qM 133 14,qM 2 133])))))))))))))))))))))) }
theorem ZuH:Zo UbX Dg ZhM=true:=by kernel_rfl
def ZhN:F2 :=
 { nt:=8,res:=[.t 2 [0]],body:=(.sq (rg [om 2 (i6 0)]) (.sq (.cd (.k (.bool false)) (.sq (rg [qM 3 0,oo 4 (.cv (.int .u32) (.t 3)),oo 5 (.ca .pure false (.f Zt6) [.t 4]),qM 2 5]) (.rt)) (.sk)) (.sq (rg [qM 6 0,oo 7 (.ca .pure false (.f ZdO) [.t 6]),qM 2 7]) (.rt)))) }
theorem ZuI:Zo UbX ZdJ ZhN=true:=by kernel_rfl
def ZdT:F2 :=
 { nt:=15,res:=[.t 4 [2]],body:=(.sq (rg [om 4 (.k (.slice none 0 0))]) (.sq (.sq (rg [qM 5 1,oo 6 (.bi .lss 0 (.t 5) (i6 0))]) (.cd (.t 6) (.sq (rg [qM 7 1,oo 8 (.bi .sub 0 (i6 (-1)) (.t 7)),oo 9 (.bs 1 2 [.int .i64 0] [(0,i6 0),(1,.t 8)]),qM 4 9]) (.rt)) (.sk))) (.sq (rg [qM 10 0,qM 11 1,qI 12 1 10 11,qL 13 12,oo 14 (.bs 1 2 [.int .i64 0] [(0,i6 1),(1,.t 13)]),qM 4 14]) (.rt)))) }
theorem ZuJ:Zo UbX ZdK ZdT=true:=by kernel_rfl
def ZhO:F2 :=
 { nt:=54,res:=[.t 6 [2]],body:=(.sq (rg [oo 3 (.bt (.t 0)),om 6 (.k (.slice none 0 0))]) (.sq (rg [qF 10 1 3,qL 11 10,qN 12 11,oo 13 (.bi .add 0 (.t 12) (i6 1)),oo 14 (.ms 1 [.int .i64 0] (.t 13)),qM 7 14]) (.sq (rg [qS 15 6 3,qM 16 2,oo 17 (.ca .pure false (.f ZdP) [.t 15,.t 16]),qM 8 17]) (.sq (.sq (rg [om 9 (i6 0)]) (.bl 0 (.lp [1,2,3,7,8,9] [448] (.sq (.sq (rg [qM 18 9,qM 19 8,qN 20 19,qB 21 .lss 18 20]) (.cd (.t 21) (.sk) (.ex 0))) (.sq (.bl 1 (.rg (some 0) [qM 24 7,qM 25 1,qM 26 8,qM 27 9,qI 28 1 26 27,qL 29 28,qI 30 1 25 29,qL 31 30,qM 32 7,qM 33 1,qM 34 8,qM 35 9,qI 36 1 34 35,qL 37 36,qI 38 1 33 37,qL 39 38,qI 40 1 32 39,qL 41 40,oo 42 (.bi .add 0 (.t 41) (i6 1)),qI 43 1 24 31,
 ZT (.st 1 (.t 43) (.t 42))]))
 (rg [qM 22 9,oo 23 (.bi .add 0 (.t 22) (i6 1)),qM 9 23])))))) (.sq (.rg (some 0) [qM 44 7,qF 45 1 3,qL 46 45,qN 47 46,qS 48 6 3,qM 49 2,oo 50 (.ca .pure false (.f ZdQ) [.t 48,.t 49]),qN 51 50,qI 52 1 44 47,
 ZT (.st 1 (.t 52) (.t 51))]) (.sq (rg [qM 53 7,qM 6 53]) (.rt))))))) }
theorem ZuK:Zo UbX ZdL ZhO=true:=by kernel_rfl
def ZdU:F2 :=
 { nt:=89,res:=[.t 6 [2]],body:=(.sq (rg [oo 3 (.bt (.t 0)),om 6 (.k (.slice none 0 0))]) (.sq (.sq (rg [qM 12 2,qF 13 3 3,qL 14 13,qB 15 .geq 12 14]) (.cd (.t 15) (.sq (rg [qM 16 2,qF 17 3 3,qL 18 17,qB 19 .sub 16 18,oo 20 (.bs 1 1 [.int .i64 0] [(0,.t 19)]),qM 6 20]) (.rt)) (.sk))) (.sq (rg [qF 21 1 3,qL 22 21,qN 23 22,oo 24 (.bi .mul 0 (.t 23) (i6 3)),oo 25 (.bi .add 0 (i6 1) (.t 24)),qF 26 5 3,qL 27 26,qN 28 27,qB 29 .add 25 28,oo 30 (.ms 1 [.int .i64 0] (.t 29)),qM 7 30]) (.sq (rg [qM 31 7,oo 32 (.ia 1 (.t 31) (i6 0)),
 ZT (.st 1 (.t 32) (i6 (-1)))]) (.sq (rg [qS 33 6 3,qM 34 2,oo 35 (.ca .pure false (.f ZdR) [.t 33,.t 34]),qM 8 35]) (.sq (.sq (rg [om 9 (i6 0)]) (.bl 0 (.lp [1,2,3,7,8,9] [960] (.sq (.sq (rg [qM 36 9,qM 37 8,qN 38 37,qB 39 .lss 36 38]) (.cd (.t 39) (.sk) (.ex 0))) (.sq (.bl 1 (.sq (.rg (some 0) [qM 42 1,qM 43 8,qM 44 9,qI 45 2 43 44,oo 46 (.ja 1 2 (.t 45) (i6 0)),qL 47 46,qI 48 1 42 47,qL 49 48,oo 50 (.bi .mul 0 (.t 49) (i6 3)),oo 51 (.bi .add 0 (i6 1) (.t 50)),qM 52 8,qM 53 9,qI 54 2 52 53,oo 55 (.ja 1 2 (.t 54) (i6 1)),qL 56 55,qB 57 .add 51 56,qM 10 57])
 (rg [qM 58 7,qM 59 10,qM 60 7,qM 61 10,qI 62 1 60 61,qL 63 62,oo 64 (.bi .add 0 (.t 63) (i6 1)),qI 65 1 58 59,
 ZT (.st 1 (.t 65) (.t 64))])))
 (rg [qM 40 9,oo 41 (.bi .add 0 (.t 40) (i6 1)),qM 9 41])))))) (.sq (.sq (rg [om 11 (i6 0)]) (.bl 2 (.lp [2,3,7,11] [960] (.sq (.sq (rg [qM 66 11,qF 67 5 3,qL 68 67,qN 69 68,qB 70 .lss 66 69]) (.cd (.t 70) (.sk) (.ex 2))) (.sq (.bl 3 (.sq (rg [qF 73 5 3,qL 74 73,qM 75 11,qI 76 2 74 75,qF 77 1 76,qL 78 77,qM 79 2,qB 80 .eql 78 79]) (.cd (.t 80) (rg [qM 81 7,qM 82 7,qN 83 82,oo 84 (.bi .sub 0 (.t 83) (i6 1)),qM 85 11,qB 86 .sub 84 85,qI 87 1 81 86,
 ZT (.st 1 (.t 87) (i6 1))]) (.sk))))
 (rg [qM 71 11,oo 72 (.bi .add 0 (.t 71) (i6 1)),qM 11 72])))))) (.sq (rg [qM 88 7,qM 6 88]) (.rt))))))))) }
theorem ZuL:Zo UbX ZdM ZdU=true:=by kernel_rfl
def ZhP:F2 :=
 { nt:=49,res:=[],body:=(.sq (rg [qM 8 1,oo 9 (.bi .add 0 (.t 8) (i6 1)),qM 6 9]) (.bl 0 (.lp [0,1,2,6] [] (.sq (.sq (rg [qM 10 6,qM 11 2,qB 12 .lss 10 11]) (.cd (.t 12) (.sk) (.ex 0))) (.sq (.bl 1 (.sq (rg [qM 15 6,qM 7 15]) (.bl 2 (.lp [0,1,2,6,7] [] (.sq (.sq (.rg (some 0) [qM 16 7,qM 17 1,qB 18 .gtr 16 17,qM 19 18,og 20 19 true (.mv (.t 0) none),og 21 19 true (.mv (.t 7) none),og 22 19 true (.ia 1 (.t 20) (.t 21)),og 23 19 true (.ld none (.t 22)),og 24 19 true (.mv (.t 0) none),og 25 19 true (.mv (.t 7) none),og 26 19 true (.bi .sub 0 (.t 25) (i6 1)),og 27 19 true (.ia 1 (.t 24) (.t 26)),og 28 19 true (.ld none (.t 27)),og 29 19 true (.ca .pure false (.f Za8) [.t 23,.t 28]),oo 30 (.pk (.t 19) (.t 29) (.k (.bool false)))]) (.cd (.t 30) (.sk) (.ex 2))) (.sq (.bl 3 (.rg (some 0) [qM 33 0,qM 34 7,qM 35 0,qM 36 7,oo 37 (.bi .sub 0 (.t 36) (i6 1)),qM 38 0,qM 39 7,oo 40 (.bi .sub 0 (.t 39) (i6 1)),qI 41 1 38 40,qL 42 41,qM 43 0,qM 44 7,qI 45 1 43 44,qL 46 45,qI 47 1 33 34,
 ZT (.s0 1 (.t 47) (.t 42)),qI 48 1 35 37,
 ZT (.st 1 (.t 48) (.t 46))]))
 (rg [qM 31 7,oo 32 (.bi .sub 0 (.t 31) (i6 1)),qM 7 32])))))))
 (rg [qM 13 6,oo 14 (.bi .add 0 (.t 13) (i6 1)),qM 6 14])))))) }
theorem ZuM:Zo UbX ZdN ZhP=true:=by kernel_rfl
def ZhQ:F2 :=
 { nt:=17,res:=[.t 4 [0]],body:=(.sq (rg [om 4 (.k (.bool false))]) (.sq (rg [qM 5 0,oo 6 (.ca .pure false (.f Za9) [.t 5]),qM 7 6,og 8 7 true (.mv (.t 1) none),og 9 7 true (.ca .pure false (.f Za9) [.t 8]),og 10 7 true (.nt (.t 9)),oo 11 (.pk (.t 7) (.t 10) (.k (.bool false))),qM 12 11,og 13 12 false (.mv (.t 0) none),og 14 12 false (.mv (.t 1) none),og 15 12 false (.bi .lss 0 (.t 13) (.t 14)),oo 16 (.pk (.t 12) (.k (.bool true)) (.t 15)),qM 4 16]) (.rt))) }
theorem ZuN:Zo UbX Za8 ZhQ=true:=by kernel_rfl
def Vg:F2 :=
 { nt:=25,res:=[.t 2 [0]],body:=(.sq (rg [om 2 (i6 0)]) (.sq (.sq (rg [qM 3 0,oo 4 (.bi .geq 0 (.t 3) (.k (.int .u64 4294967296)))]) (.cd (.t 4) (.sq (rg [qM 5 0,oo 6 (.bi .shr 0 (.t 5) (.k (.int .u64 32))),qM 0 6])
 (rg [om 2 (i6 32)])) (.sk))) (.sq (.sq (rg [qM 7 0,oo 8 (.bi .geq 0 (.t 7) (.k (.int .u64 65536)))]) (.cd (.t 8) (.sq (rg [qM 9 0,oo 10 (.bi .shr 0 (.t 9) (.k (.int .u64 16))),qM 0 10])
 (rg [qM 11 2,oo 12 (.bi .add 0 (.t 11) (i6 16)),qM 2 12])) (.sk))) (.sq (.sq (rg [qM 13 0,oo 14 (.bi .geq 0 (.t 13) (.k (.int .u64 256)))]) (.cd (.t 14) (.sq (rg [qM 15 0,oo 16 (.bi .shr 0 (.t 15) (.k (.int .u64 8))),qM 0 16])
 (rg [qM 17 2,oo 18 (.bi .add 0 (.t 17) (i6 8)),qM 2 18])) (.sk))) (.sq (rg [qM 19 2,qM 20 0,oo 21 (.cv (.int .u8) (.t 20)),oo 22 (.ix (.k (.string ⟨#[0,1,2,2,3,3,3,3,4,4,4,4,4,4,4,4,5,5,5,5,5,5,5,5,5,5,5,5,5,5,5,5,6,6,6,6,6,6,6,6,6,6,6,6,6,6,6,6,6,6,6,6,6,6,6,6,6,6,6,6,6,6,6,6,7,7,7,7,7,7,7,7,7,7,7,7,7,7,7,7,7,7,7,7,7,7,7,7,7,7,7,7,7,7,7,7,7,7,7,7,7,7,7,7,7,7,7,7,7,7,7,7,7,7,7,7,7,7,7,7,7,7,7,7,7,7,7,7,8,8,8,8,8,8,8,8,8,8,8,8,8,8,8,8,8,8,8,8,8,8,8,8,8,8,8,8,8,8,8,8,8,8,8,8,8,8,8,8,8,8,8,8,8,8,8,8,8,8,8,8,8,8,8,8,8,8,8,8,8,8,8,8,8,8,8,8,8,8,8,8,8,8,8,8,8,8,8,8,8,8,8,8,8,8,8,8,8,8,8,8,8,8,8,8,8,8,8,8,8,8,8,8,8,8,8,8,8,8,8,8,8,8,8,8,8,8,8,8,8,8,8,8,8,8,8,8]⟩)) (.t 21)),oo 23 (.cv (.int .i64) (.t 22)),qB 24 .add 19 23,qM 2 24]) (.rt)))))) }
theorem Vu:Zo UbX ZdO Vg=true:=by kernel_rfl
def ZhR:F2 :=
 { nt:=28,res:=[.t 4 [2]],body:=(.sq (rg [oo 2 (.bt (.t 0)),om 4 (.k (.slice none 0 0))]) (.sq (rg [oo 7 (.bs 1 0 [] []),qM 5 7]) (.sq (.sq (rg [om 6 (i6 0)]) (.bl 0 (.lp [1,2,5,6] [224,832] (.sq (.sq (rg [qM 8 6,qF 9 1 2,qL 10 9,qN 11 10,qB 12 .lss 8 11]) (.cd (.t 12) (.sk) (.ex 0))) (.sq (.bl 1 (.sq (rg [qF 15 1 2,qL 16 15,qM 17 6,qI 18 3 16 17,qF 19 1 18,qL 20 19,qM 21 1,qB 22 .eql 20 21]) (.cd (.t 22) (rg [qM 23 5,qM 24 6,oo 25 (.bs 1 1 [.int .i64 0] [(0,.t 24)]),oo 26 (.ap 1 0 (.t 23) (.t 25)),qM 5 26]) (.sk))))
 (rg [qM 13 6,oo 14 (.bi .add 0 (.t 13) (i6 1)),qM 6 14])))))) (.sq (rg [qM 27 5,qM 4 27]) (.rt))))) }
theorem ZuO:Zo UbX ZdP ZhR=true:=by kernel_rfl
def ZhS:F2 :=
 { nt:=27,res:=[.t 4 [2]],body:=(.sq (rg [oo 2 (.bt (.t 0)),om 4 (.k (.slice none 0 0))]) (.sq (rg [oo 7 (.bs 1 0 [] []),qM 5 7]) (.sq (.sq (rg [om 6 (i6 0)]) (.bl 0 (.lp [1,2,5,6] [224,800] (.sq (.sq (rg [qM 8 6,qF 9 2 2,qL 10 9,qN 11 10,qB 12 .lss 8 11]) (.cd (.t 12) (.sk) (.ex 0))) (.sq (.bl 1 (.sq (rg [qF 15 2 2,qL 16 15,qM 17 6,qI 18 1 16 17,qL 19 18,qM 20 1,qB 21 .eql 19 20]) (.cd (.t 21) (rg [qM 22 5,qM 23 6,oo 24 (.bs 1 1 [.int .i64 0] [(0,.t 23)]),oo 25 (.ap 1 0 (.t 22) (.t 24)),qM 5 25]) (.sk))))
 (rg [qM 13 6,oo 14 (.bi .add 0 (.t 13) (i6 1)),qM 6 14])))))) (.sq (rg [qM 26 5,qM 4 26]) (.rt))))) }
theorem ZuP:Zo UbX ZdQ ZhS=true:=by kernel_rfl
def ZhT:F2 :=
 { nt:=45,res:=[.t 4 [3]],body:=(.sq (rg [oo 2 (.bt (.t 0)),om 4 (.k (.slice none 0 0))]) (.sq (rg [oo 8 (.bs 2 0 [] []),qM 5 8]) (.sq (.sq (rg [om 6 (i6 0)]) (.bl 0 (.lp [1,2,5,6] [256,1376] (.sq (.sq (rg [qM 9 6,qF 10 1 2,qL 11 10,qN 12 11,qB 13 .lss 9 12]) (.cd (.t 13) (.sk) (.ex 0))) (.sq (.bl 1 (.sq (rg [om 7 (i6 0)]) (.bl 2 (.lp [1,2,5,6,7] [256,1376] (.sq (.sq (rg [qM 16 7,qF 17 1 2,qL 18 17,qM 19 6,qI 20 3 18 19,qF 21 2 20,qL 22 21,qN 23 22,qB 24 .lss 16 23]) (.cd (.t 24) (.sk) (.ex 2))) (.sq (.bl 3 (.sq (rg [qF 27 1 2,qL 28 27,qM 29 6,qI 30 3 28 29,qF 31 2 30,qL 32 31,qM 33 7,qI 34 1 32 33,qL 35 34,qM 36 1,qB 37 .eql 35 36]) (.cd (.t 37) (rg [qM 38 5,qM 39 6,qM 40 7,oo 41 (.bd [.int .i64 0,.int .i64 0] [(0,1,.t 39),(1,1,.t 40)] []),oo 42 (.bs 2 1 [.int .i64 0,.int .i64 0] [(0,.t 41)]),oo 43 (.ap 2 0 (.t 38) (.t 42)),qM 5 43]) (.sk))))
 (rg [qM 25 7,oo 26 (.bi .add 0 (.t 25) (i6 1)),qM 7 26])))))))
 (rg [qM 14 6,oo 15 (.bi .add 0 (.t 14) (i6 1)),qM 6 15])))))) (.sq (rg [qM 44 5,qM 4 44]) (.rt))))) }
theorem ZuQ:Zo UbX ZdR ZhT=true:=by kernel_rfl
def ZhU:F2 :=
 { nt:=6,res:=[.t 2 [0]],body:=(.sq (rg [om 2 (.k (.bool false))]) (.sq (rg [qM 3 0,qM 4 0,qB 5 .neq 3 4,qM 2 5]) (.rt))) }
theorem ZuR:Zo UbX Za9 ZhU=true:=by kernel_rfl
def Q6(k:Nat)(m:Option Nat):F2 :=
 { nt:=19,res:=[.t 4 [0]],body:=(.sq (.rg none [⟨some 4,none,.mv (.k (.int .i64 0)) none⟩]) (.sq (.sq (.rg none [⟨some 6,none,.mv (.t 0) none⟩,
    ⟨some 7,none,.ln (.t 6)⟩,
    ⟨some 8,none,.mv (.k (.int .i64 0)) none⟩]) (.bl 0 (.lp [0,1,7,8] [] (.sq (.rg none [⟨some 9,none,.bi .lss 0 (.t 8) (.t 7)⟩]) (.sq (.cd (.t 9) (.sk) (.ex 0)) (.sq (.bl 1 (.sq (.rg none [⟨some 10,none,.mv (.t 8) none⟩,
      ⟨some 5,none,.mv (.t 10) none⟩]) (.sq (.rg none [⟨some 11,none,.mv (.t 1) none⟩,
      ⟨some 12,none,.mv (.t 0) none⟩,
      ⟨some 13,none,.mv (.t 5) none⟩,
      ⟨some 14,none,.ia k (.t 12) (.t 13)⟩,
      ⟨some 15,none,.ld m (.t 14)⟩,
      ⟨some 16,none,.ca .pure false (.t 11) [.t 15]⟩]) (.cd (.t 16) (.sq (.rg none [⟨some 17,none,.mv (.t 5) none⟩,
      ⟨some 4,none,.mv (.t 17) none⟩]) (.rt)) (.sk))))) (.rg none [⟨some 18,none,.bi .add 0 (.t 8) (.k (.int .i64 1))⟩,
    ⟨some 8,none,.mv (.t 18) none⟩]))))))) (.sq (.rg none [⟨some 4,none,.mv (.k (.int .i64 (-1))) none⟩]) (.rt)))) }
def Wg(fi:FuncId):F2 :=
 { nt:=9,res:=[.t 4 [0]],body:=(.sq (.rg none [⟨some 4,none,.mv (.k (.bool false)) none⟩]) (.sq (.rg none [⟨some 5,none,.mv (.t 0) none⟩,
   ⟨some 6,none,.mv (.t 1) none⟩,
   ⟨some 7,none,.ca .pure false (.f fi) [.t 5,.t 6]⟩,
   ⟨some 8,none,.bi .geq 0 (.t 7) (.k (.int .i64 0))⟩,
   ⟨some 4,none,.mv (.t 8) none⟩]) (.rt))) }
def ZdV  : F2 :=
 { nt:=19,res:=[.t 4 [0]],body:=(.sq (.rg none [⟨some 4,none,.mv (.k (.int .i64 0)) none⟩]) (.sq (.sq (.rg none [⟨some 6,none,.mv (.t 0) none⟩,
    ⟨some 7,none,.ln (.t 6)⟩,
    ⟨some 8,none,.mv (.k (.int .i64 0)) none⟩]) (.bl 0 (.lp [0,1,7,8] [] (.sq (.rg none [⟨some 9,none,.bi .lss 0 (.t 8) (.t 7)⟩]) (.sq (.cd (.t 9) (.sk) (.ex 0)) (.sq (.bl 1 (.sq (.rg none [⟨some 10,none,.mv (.t 8) none⟩,
      ⟨some 5,none,.mv (.t 10) none⟩]) (.sq (.rg none [⟨some 11,none,.mv (.t 1) none⟩,
      ⟨some 12,none,.mv (.t 0) none⟩,
      ⟨some 13,none,.mv (.t 5) none⟩,
      ⟨some 14,none,.ia 1 (.t 12) (.t 13)⟩,
      ⟨some 15,none,.ld none (.t 14)⟩,
      ⟨some 16,none,.bi .eql 0 (.t 11) (.t 15)⟩]) (.cd (.t 16) (.sq (.rg none [⟨some 17,none,.mv (.t 5) none⟩,
      ⟨some 4,none,.mv (.t 17) none⟩]) (.rt)) (.sk))))) (.rg none [⟨some 18,none,.bi .add 0 (.t 8) (.k (.int .i64 1))⟩,
    ⟨some 8,none,.mv (.t 18) none⟩]))))))) (.sq (.rg none [⟨some 4,none,.mv (.k (.int .i64 (-1))) none⟩]) (.rt)))) }
end Go.Fd

namespace Go.Fd
set_option maxRecDepth 20000
section rules
variable {L:Zc} {F:List IV->Prop} {lvl:Nat}
theorem Dh:∀{l:List (List Tr)} {F:List IV->Prop},ZM L (l.map IV.ta) F=F (l.map IV.ta)
 | [],F=>ZcE
 | x::r,F=>by
  simp only[Uay]
  rw[ZgB,Dh]
  rfl
theorem XG{Pd:Zd->Prop}:∀{l:List (List Tr)},Za Pd (l.map IV.ta)=True
 | []=>rfl
 | x::r=>by
  simp only[Uay,Za,men,true_and]
  exact XG
theorem Qa{js:List Nat}{l:List (List Tr)}:Vm lvl js (l.map IV.ta)=True:=XG
end rules
section
variable {P:Program} {α:Type}
theorem Jd{α β:Type}{c:α->β}{l:List α}{j:Nat}(h:j<l.length):(l.map c)[j]? = some (c l[j]):=by simp [h]
theorem ZuS{α:Type}{c:α->List Tr}{l:List α}{j:Nat}:cut (l.map c) 0 (j-0)=(l.take j).map c:=by
 simp only[cut,Ubz,Nat.sub_zero,List.map_take]
theorem ZdW{α:Type}{l:List α}{j:Nat}(h:j<l.length):l.drop j=l[j]::l.drop (j+1):=Ubm h
def Yt(f:α->Bool):List α->Int->Int
 | [],_=>-1
 | x::r,j=>if f x=true then j else Yt f r (j+1)
theorem Di{f:α->Bool}{x:α}{r:List α}{j:Int}:Yt f (x::r) j=if f x=true then j else Yt f r (j+1):=rfl
theorem ZhV{f:α->Bool}:∀{l:List α} {j:Int},0<=j->(0<=Yt f l j↔l.any f=true)
 | [],j,_=>by simp [Yt]
 | x::r,j,h=>by
  rw[Di,List.any_cons]
  cases hx:f x with
  | true=>simp [h]
  | false =>
   simp only[UaU,if_false,Bool.false_or]
   exact ZhV (by omega)
theorem ZuT{fid:FuncId}(hc:Zo P fid (Q6 1 none)=true){t:α->Tr}{f:α->Bool}{fe:FuncId}{cs:List (List Tr)}(l:List α)(hl:l.length<=9223372036854775807)
  (hf:∀ x∈l,∀ lvl S,Sem P fe lvl (.tr (t x)::cs.map IV.ta) S (iB (f x)) S) (lvl:Nat) (S:Zc):Sem P fid lvl [.tr (.sl (l.map fun x=>[t x])),.fn fe (cs.map IV.ta)] S (iI (Yt f l 0)) S:=by
 refine Zr hc trivial ?_
 simp only[Q6,Uab,Qa,Zb,seval,Za,men]
 refine ZZ (α:=Unit) l.length (fun j _=>[(8,iI j)]) (fun _ _=>[]) (fun j _=>Yt f (l.drop j) j=Yt f l 0) () (by simp only[Qa,Zb,seval,Za,men]) (by (simp only[Zb,seval,Za,men]) <;> rfl) rfl ?_
 intro j _ hj hA
 simp only[Uab,Qa,Zb,seval,Za,men]
 refine Zs (fun hlt=>?_) (fun hge=>?_)
 ·have hja:j<l.length:=by omega
  have ga:=Jd (c:=fun x=>[t x]) hja
  rw[ZdW hja,Di] at hA
  simp only[ga,Qa,Dh,XG,Zb,seval,Za,men]
  refine Zk (hf _ (Uan hja)) ?_
  simp only[XG,Qa,Zb,seval,Za,men]
  refine Zs (fun h=>?_) (fun h=>?_)
  ·rw[if_pos h] at hA
   rw[<-hA]
  ·rw[if_neg h] at hA
   exact⟨by rw[Zh];omega,Zy () hja rfl hA⟩
 ·have:j=l.length:=by omega
  subst this
  rw[UbG] at hA
  rw[<-hA]
  rfl
theorem ZuU{k:Nat}{fid:FuncId}(hc:Zo P fid (Q6 k (some k))=true){c:α->List Tr}(hk:∀ x,(c x).length=k){f:α->Bool}{fe:FuncId}{cs:List (List Tr)}(l:List α)(hl:l.length<=9223372036854775807)
  (hf:∀ x∈l,∀ lvl S,Sem P fe lvl (.ag ((c x).map .tr)::cs.map IV.ta) S (iB (f x)) S) (lvl:Nat) (S:Zc):Sem P fid lvl [.tr (.sl (l.map c)),.fn fe (cs.map IV.ta)] S (iI (Yt f l 0)) S:=by
 refine Zr hc trivial ?_
 simp only[Q6,Uab,Qa,Zb,seval,Za,men]
 refine ZZ (α:=Unit) l.length (fun j _=>[(8,iI j)]) (fun _ _=>[]) (fun j _=>Yt f (l.drop j) j=Yt f l 0) () (by simp only[Qa,Zb,seval,Za,men]) (by (simp only[Zb,seval,Za,men]) <;> rfl) rfl ?_
 intro j _ hj hA
 simp only[Uab,Qa,Zb,seval,Za,men]
 refine Zs (fun hlt=>?_) (fun hge=>?_)
 ·have hja:j<l.length:=by omega
  have ga:=Jd (c:=c) hja
  have hkk:=hk l[j]
  have htk:(c l[j]).take k=c l[j]:=Uar (by omega)
  rw[ZdW hja,Di] at hA
  simp only[ga,hkk,htk,Qa,Dh,ZcK,XG,ZaB,Zb,seval,Za,men]
  refine Zk (hf _ (Uan hja)) ?_
  simp only[XG,ZaB,Qa,Zb,seval,Za,men]
  refine Zs (fun h=>?_) (fun h=>?_)
  ·rw[if_pos h] at hA
   rw[<-hA]
  ·rw[if_neg h] at hA
   exact⟨by rw[Zh];omega,Zy () hja rfl hA⟩
 ·have:j=l.length:=by omega
  subst this
  rw[UbG] at hA
  rw[<-hA]
  rfl
theorem ZhW{fid fi:FuncId}(hc:Zo P fid (Wg fi)=true){es:Row}{f:α->Bool}{fe:FuncId}{cs:List (List Tr)}{l:List α}
  (hi:∀ lvl S,Sem P fi lvl [.tr (.sl es),.fn fe (cs.map IV.ta)] S (iI (Yt f l 0)) S) (lvl:Nat) (S:Zc):Sem P fid lvl [.tr (.sl es),.fn fe (cs.map IV.ta)] S (iB (l.any f)) S:=by
 refine Zr hc trivial ?_
 simp only[Wg,Dh,XG,Qa,Zb,seval,Za,men]
 refine Zk hi ?_
 simp only[Dh,XG,Zb,seval,Za,men]
 have:=ZhV (f:=f) (l:=l) (Ubc 0)
 by_cases h:l.any f=true
 ·simp [h,this.2 h]
 ·simp [h,mt this.1 h]
theorem ZhX{fid fi:FuncId}(hc:Zo P fid (Wg fi)=true)(hi:Zo P fi (Q6 1 none)=true){t:α->Tr}{f:α->Bool}{fe:FuncId}{cs:List (List Tr)}(l:List α)(hl:l.length<=9223372036854775807)
  (hf:∀ x∈l,∀ lvl S,Sem P fe lvl (.tr (t x)::cs.map IV.ta) S (iB (f x)) S) (lvl:Nat) (S:Zc):Sem P fid lvl [.tr (.sl (l.map fun x=>[t x])),.fn fe (cs.map IV.ta)] S (iB (l.any f)) S :=
 ZhW hc (ZuT hi l hl hf) lvl S
theorem ZhY{k:Nat}{fid fi:FuncId}(hc:Zo P fid (Wg fi)=true)(hi:Zo P fi (Q6 k (some k))=true){c:α->List Tr}(hk:∀ x,(c x).length=k){f:α->Bool}{fe:FuncId}{cs:List (List Tr)}(l:List α)(hl:l.length<=9223372036854775807)
  (hf:∀ x∈l,∀ lvl S,Sem P fe lvl (.ag ((c x).map .tr)::cs.map IV.ta) S (iB (f x)) S) (lvl:Nat) (S:Zc):Sem P fid lvl [.tr (.sl (l.map c)),.fn fe (cs.map IV.ta)] S (iB (l.any f)) S :=
 ZhW hc (ZuU hi hk l hl hf) lvl S
structure Cmp (t:α->Tr):Prop where
 neq:∀(x y:α) (F:IV->Prop),ZK .neq 0 (.tr (t x)) (.tr (t y)) F=F (iB (!(@decide (x=y) (Classical.propDecidable _))))
 eql:∀(x y:α) (F:IV->Prop),ZK .eql 0 (.tr (t x)) (.tr (t y)) F=F (iB (@decide (x=y) (Classical.propDecidable _)))
theorem ZuV:Cmp ts:=⟨fun x y F=>by rw[Zgj];congr 2;by_cases h:x=y <;> simp [h],fun x y F=>by rw[Zgi];congr 2;by_cases h:x=y <;> simp [h]⟩
theorem ZuW{fid:FuncId}(hc:Zo P fid ZdV=true)[DecidableEq α]{t:α->Tr}(hT:Cmp t)(l:List α)(v:α)(hl:l.length<=9223372036854775807)(lvl:Nat)(S:Zc):Sem P fid lvl [.tr (.sl (l.map fun x=>[t x])),.tr (t v)] S (iI (Yt (fun x=>decide (v=x)) l 0)) S:=by
 refine Zr hc trivial ?_
 simp only[ZdV,Uab,Zb,seval,Za,men]
 refine ZZ (α:=Unit) l.length (fun j _=>[(8,iI j)]) (fun _ _=>[]) (fun j _=>Yt (fun x=>decide (v=x)) (l.drop j) j=Yt (fun x=>decide (v=x)) l 0) () (by simp only[Zb,seval,Za,men]) (by (simp only[Zb,seval,Za,men]) <;> rfl) rfl ?_
 intro j _ hj hA
 simp only[Uab,Zb,seval,Za,men]
 refine Zs (fun hlt=>?_) (fun hge=>?_)
 ·have hja:j<l.length:=by omega
  have ga:=Jd (c:=fun x=>[t x]) hja
  have hq:=hT.eql v l[j]
  rw[ZdW hja,Di] at hA
  simp only[ga,hq,Zb,seval,Za,men]
  refine Zs (fun h=>?_) (fun h=>?_)
  ·rw[if_pos (by simpa using h)] at hA
   rw[<-hA]
  ·rw[if_neg (by simpa using h)] at hA
   exact⟨by rw[Zh];omega,Zy () hja rfl hA⟩
 ·have:j=l.length:=by omega
  subst this
  rw[UbG] at hA
  rw[<-hA]
  rfl
end
end Go.Fd

namespace Go.Fd
open Go.Proofs.Tryz renaming prog->UbX
set_option maxRecDepth 20000
noncomputable def dc(p:Prop):Bool:=@decide p (Classical.propDecidable p)
theorem dc_iff{p:Prop}:dc p=true↔p:=by unfold dc;simp
theorem Vh{p:Prop}(h:p):dc p=true:=dc_iff.2 h
theorem ZP{p:Prop}(h:¬ p):dc p=false:=by
 cases hh:dc p with
 | false=>rfl
 | true=>exact absurd (dc_iff.1 hh) h
theorem dc_not{p:Prop}:dc p=false ↔ ¬ p:=⟨fun h hp=>(by rw[Vh hp] at h;cases h),ZP⟩
theorem XH{p q:Prop}(h:p↔q):dc p=dc q:=by rw[propext h]
theorem Wh{p:Prop}[Decidable p]:dc p=decide p:=by
 by_cases h:p
 ·rw[Vh h];simp [h]
 ·rw[ZP h];simp [h]
abbrev g0(l:List Int)(i:Nat):Int:=l.getD i 0
abbrev A3:=Int×Int×Int
abbrev g3(l:List A3)(i:Nat):A3:=l.getD i (0,0,0)
theorem Z5{l:List Int}{i:Nat}(h:i<l.length):(rI l)[i]? = some [tv (g0 l i)]:=by simp [h]
def J3(n a b:Int):Bool:=decide (a<=n)&&decide (n<=b)
theorem inB_iff{n a b:Int}:J3 n a b=true↔a<=n/\n<=b:=by simp [J3]
theorem inB_not{n a b:Int}:J3 n a b=false ↔ ¬ (a<=n/\n<=b):=by
 rw[<-inB_iff];cases J3 n a b <;> simp
theorem Q7(n a b:Int)(lvl:Nat)(S:Zc):Sem UbX V9 lvl [iI n,iI a,iI b] S (iB (J3 n a b)) S:=by
 refine Zr Zuh trivial ?_
 simp only[Zhl,Zb,seval,Za,men]
 refine Zs (fun h=>?_) (fun h=>?_) <;> simp [J3,h]
theorem XI(n a b:Int)(lvl:Nat)(S:Zc):Sem UbX Qv lvl [iI n,iI a,iI b] S (iB (J3 n a b)) S:=by
 refine Zr Zuq trivial ?_
 simp only[Zhu,Zb,seval,Za,men]
 refine Zs (fun h=>?_) (fun h=>?_) <;> simp [J3,h]
theorem ZuX(x:Int)(lvl:Nat)(S:Zc):Sem UbX Za9 lvl [iI x] S (iB false) S:=by
 refine Zr ZuR trivial ?_
 simp only[ZhU,Zb,seval,Za,men]
end Go.Fd

namespace Go.Proofs
open Go.Shelf
def Tryz.lays160_ren:Go.Shelf.Ren:=⟨fun | 160=>89 | 232=>107 | 231=>106 | 227=>108 | 234=>110 | 233=>109 | 236=>112 | 235=>111 | 228=>123 | 271=>126 | 151=>125 | 197=>124 | 120=>134 | 152=>133 | 260=>132 | 137=>137 | 119=>138 | 224=>139 | 225=>140 | 217=>141 | 266=>142 | n=>n,fun | 9=>9 | 4=>4 | 3=>3 | 5=>5 | 117=>138 | 116=>137 | 0=>0 | 124=>141 | 21=>21 | 105=>153 | 46=>115 | 119=>164 | 139=>167 | 138=>166 | n=>n,fun | 3=>1 | 4=>2 | n=>n⟩
theorem Tryz.lays160:Go.Proofs.Lays.n160 Tryz.prog Tryz.lays160_ren:={
  mixed:=by kernel_rfl,
  f119:=Tryz.func138.trans (congrArg some (by kernel_rfl)),
  f120:=Tryz.func134.trans (congrArg some (by kernel_rfl)),
  f137:=Tryz.func137.trans (congrArg some (by kernel_rfl)),
  f151:=Tryz.func125.trans (congrArg some (by kernel_rfl)),
  f152:=Tryz.func133.trans (congrArg some (by kernel_rfl)),
  f160:=Tryz.func89.trans (congrArg some (by kernel_rfl)),
  f197:=Tryz.func124.trans (congrArg some (by kernel_rfl)),
  f217:=Tryz.func141.trans (congrArg some (by kernel_rfl)),
  f224:=Tryz.func139.trans (congrArg some (by kernel_rfl)),
  f225:=Tryz.func140.trans (congrArg some (by kernel_rfl)),
  f227:=Tryz.func108.trans (congrArg some (by kernel_rfl)),
  f228:=Tryz.func123.trans (congrArg some (by kernel_rfl)),
  f231:=Tryz.func106.trans (congrArg some (by kernel_rfl)),
  f232:=Tryz.func107.trans (congrArg some (by kernel_rfl)),
  f233:=Tryz.func109.trans (congrArg some (by kernel_rfl)),
  f234:=Tryz.func110.trans (congrArg some (by kernel_rfl)),
  f235:=Tryz.func111.trans (congrArg some (by kernel_rfl)),
  f236:=Tryz.func112.trans (congrArg some (by kernel_rfl)),
  f260:=Tryz.func132.trans (congrArg some (by kernel_rfl)),
  f266:=Tryz.func142.trans (congrArg some (by kernel_rfl)),
  f271:=Tryz.func126.trans (congrArg some (by kernel_rfl)),
  t0:=Tryz.underlying0,
  a0:=Tryz.isAgg0,
  z0:=Tryz.sizeOf0,
  v0:=Tryz.zeroValue0,
  t3:=Tryz.underlying3,
  a3:=Tryz.isAgg3,
  z3:=Tryz.sizeOf3,
  v3:=Tryz.zeroValue3,
  t4:=Tryz.underlying4,
  a4:=Tryz.isAgg4,
  z4:=Tryz.sizeOf4,
  v4:=Tryz.zeroValue4,
  t5:=Tryz.underlying5,
  a5:=Tryz.isAgg5,
  z5:=Tryz.sizeOf5,
  v5:=Tryz.zeroValue5,
  t9:=Tryz.underlying9,
  a9:=Tryz.isAgg9,
  z9:=Tryz.sizeOf9,
  v9:=Tryz.zeroValue9,
  t21:=Tryz.underlying21,
  a21:=Tryz.isAgg21,
  z21:=Tryz.sizeOf21,
  v21:=Tryz.zeroValue21,
  t46:=Tryz.underlying115,
  a46:=Tryz.isAgg115,
  z46:=Tryz.sizeOf115,
  v46:=Tryz.zeroValue115,
  t105:=Tryz.underlying153,
  a105:=Tryz.isAgg153,
  z105:=Tryz.sizeOf153,
  v105:=Tryz.zeroValue153,
  t116:=Tryz.underlying137,
  a116:=Tryz.isAgg137,
  z116:=Tryz.sizeOf137,
  t117:=Tryz.underlying138,
  a117:=Tryz.isAgg138,
  z117:=Tryz.sizeOf138,
  v117:=Tryz.zeroValue138,
  t119:=Tryz.underlying164,
  a119:=Tryz.isAgg164,
  z119:=Tryz.sizeOf164,
  t124:=Tryz.underlying141,
  a124:=Tryz.isAgg141,
  z124:=Tryz.sizeOf141,
  v124:=Tryz.zeroValue141,
  t138:=Tryz.underlying166,
  a138:=Tryz.isAgg166,
  z138:=Tryz.sizeOf166,
  v138:=Tryz.zeroValue166,
  t139:=Tryz.underlying167,
  a139:=Tryz.isAgg167,
  z139:=Tryz.sizeOf167,
  v139:=Tryz.zeroValue167,
  g3:=by kernel_rfl,
  g4:=by kernel_rfl }
end Go.Proofs

namespace Go.Fd
open Go.Proofs.Tryz renaming prog->UbX
set_option maxRecDepth 20000
def ZhZ(P:Program)(f:FuncId):Bool:=match P.funcs[f]? with | some fn=>fn.body.isSome && !(fn.name == "runtime.NumGoroutine") | none=>false
theorem ZdX{P:Program}{f:FuncId}(h:ZhZ P f=true):WH P f:=by
 unfold ZhZ at h
 split at h
 ·rename_i fn hf
  simp only[Uad,Uau] at h
  exact⟨fn,hf,h.1,h.2⟩
 ·cases h
abbrev AZ:ByteArray:=⟨#[97,98,99,100,101,102,103,104,105,106,107,108,109,110,111,112,113,114,115,116,117,118,119,120,121,122]⟩
theorem ZuY(s:ByteArray)(hs:s.size<=9223372036854775807)(lvl:Nat)(S:Zc):Sem UbX Zg9 lvl [iS s,iS AZ] S (iS ⟨(Lib.trimS s.data.toList AZ.data.toList).toArray⟩) S :=
 Zth (xs:=[.string s,.string AZ]) (ZdX (by kernel_rfl)) rfl (fun w=>Go.Proofs.Any.strings_Trim_laid Proofs.Tryz.lays160 (by kernel_rfl) s AZ w hs (by decide) (Go.Proofs.ascii_of_all (by decide)))
def J6(s:ByteArray):Prop:=(∀ b∈s.data.toList,97<=b.toNat/\b.toNat<=122)/\1<=s.size/\s.size<=4
theorem ZdY(s:ByteArray):s.size=s.data.toList.length:=by rw[Array.length_toList];rfl
theorem Zh0(b:UInt8):b∈AZ.data.toList↔97<=b.toNat/\b.toNat<=122:=by
 have:∀ n:Fin 256,(UInt8.ofNat n.val)∈AZ.data.toList↔97<=n.val/\n.val<=122:=by decide +kernel
 have h:UInt8.ofNat b.toNat∈AZ.data.toList↔97<=b.toNat/\b.toNat<=122:=this ⟨b.toNat,b.toNat_lt⟩
 rw[show UInt8.ofNat b.toNat=b from UInt8.ofNat_toNat] at h
 exact h
theorem ZdZ{p:UInt8->Bool}:∀{l:List UInt8},l.dropWhile p=[]↔∀ b∈l,p b=true
 | []=>by simp
 | x::r=>by
  simp only[List.dropWhile_cons,UaP,forall_eq_or_imp]
  cases h:p x with
  | true=>simp [ZdZ (l:=r)]
  | false=>simp
theorem Zh1{p:UInt8->Bool}{b:UInt8}:∀{l:List UInt8},b∈l.takeWhile p->p b=true
 | [],h=>by simp at h
 | x::r,h=>by
  rw[List.takeWhile_cons] at h
  split at h
  ·rename_i hx
   rcases UaP.1 h with rfl | h
   ·exact hx
   ·exact Zh1 h
  ·cases h
theorem ZuZ{l cs:List UInt8}(h:∀ b∈l,b∈cs):l.dropWhile (cs.contains ·)=[]:=by
 rw[ZdZ]
 intro b hb
 simpa using h b hb
theorem trimS_nil{l cs:List UInt8}:Lib.trimS l cs=[]↔∀ b∈l,b∈cs:=by
 unfold Lib.trimS Lib.trimLeftS Lib.trimRightS
 constructor
 ·intro h b hb
  rw[ZdZ] at h
  have hrev:∀ x∈(l.reverse.dropWhile (cs.contains ·)),x∈cs:=fun x hx=>by
   have:=h x (by simpa using hx)
   simpa using this
  have hsplit:l.reverse=l.reverse.takeWhile (cs.contains ·)++l.reverse.dropWhile (cs.contains ·):=(List.takeWhile_append_dropWhile).symm
  have hb2:b∈l.reverse:=by simpa using hb
  rw[hsplit] at hb2
  rcases Uas.1 hb2 with h1 | h1
  ·have:=Zh1 h1
   simpa using this
  ·exact hrev b h1
 ·intro h
  rw[ZuZ (l:=l.reverse) (fun b hb=>h b (by simpa using hb))]
  rfl
theorem Zh2(s:ByteArray)(hs:s.size<=9223372036854775807)(lvl:Nat)(S:Zc):Sem UbX Za4 lvl [iS s] S (iB (dc (J6 s))) S:=by
 refine Zr ZuD trivial ?_
 simp only[ZhI,Zb,seval,Za,men]
 refine ZZ (α:=Unit) s.size (fun j _=>[(3,iI j)]) (fun _ _=>[]) (fun j _=>∀ b∈s.data.toList.take j,97<=b.toNat/\b.toNat<=122) () (by simp only[Zb,seval,Za,men]) (by (simp only[Zb,seval,Za,men]) <;> rfl) (fun b hb=>by simp at hb) ?_
 intro j _ hj hA
 simp only[Zb,seval,Za,men]
 refine Zs (fun hlt=>?_) (fun hge=>?_)
 ·have hja:j<s.data.toList.length:=by rw[<-ZdY];omega
  have ga:s.data.toList[j]? = some (s.data.toList[j]):=Uag hja
  have hno:¬ (97<=(s.data.toList[j]).toNat/\(s.data.toList[j]).toNat<=122) -> ¬ J6 s:=fun h hn=>h (hn.1 _ (Uan hja))
  by_cases h1:((s.data.toList[j]).toNat:Int)<97
  ·simp only[ga,h1,Zb,seval,Za,men]
   rw[ZP (hno (by omega))]
  by_cases h2:(122:Int)<(s.data.toList[j]).toNat
  ·simp only[ga,h1,h2,Zb,seval,Za,men]
   rw[ZP (hno (by omega))]
  ·simp only[ga,h1,h2,Zb,seval,Za,men]
   refine⟨by rw[Zh];omega,Zy () (by omega) rfl ?_⟩
   intro b hb
   rw[Uah hja] at hb
   rcases Uas.1 hb with h | h
   ·exact hA b h
   ·have:b=s.data.toList[j]:=by simpa using h
    subst this
    omega
 ·have:j=s.size:=by omega
  subst this
  rw[ZdY,UaT] at hA
  refine Zk (Q7 s.size 1 4) ?_
  simp only[Zb,seval,Za,men]
  rw[XH (q:=1<=s.size/\s.size<=4) ⟨fun h=>h.2,fun h=>⟨hA,h⟩⟩]
  by_cases h:1<=s.size/\s.size<=4
  ·rw[Vh h,inB_iff.2 (by omega)]
  ·rw[ZP h,inB_not.2 (by omega)]
theorem Zh3(s:ByteArray)(hs:s.size<=9223372036854775807)(lvl:Nat)(S:Zc):Sem UbX Za6 lvl [iS s] S (iB (dc (J6 s))) S:=by
 refine Zr ZuF trivial ?_
 simp only[ZhK,Zb,seval,Za,men]
 refine Zk (XI s.size 1 4) ?_
 simp only[Zb,seval,Za,men]
 cases hin:J3 (s.size:Int) 1 4 with
 | false =>
  have:¬ J6 s:=fun h=>(inB_not.1 hin) (by have:=h.2;omega)
  rw[ZP this]
  simp only[Zb,seval,Za,men]
 | true =>
  have hin':=inB_iff.1 hin
  simp only[Zb,seval,Za,men]
  refine Zk (ZuY s hs) ?_
  simp only[Zb,seval,Za,men]
  by_cases h:J6 s
  ·have:Lib.trimS s.data.toList AZ.data.toList=[]:=trimS_nil.2 (fun b hb=>(Zh0 b).2 (h.1 b hb))
   rw[Vh h,this]
   rfl
  ·have:¬ Lib.trimS s.data.toList AZ.data.toList=[]:=fun e=>h ⟨fun b hb=>(Zh0 b).1 (trimS_nil.1 e b hb),by omega,by omega⟩
   rw[ZP h]
   have h2:¬ (⟨(Lib.trimS s.data.toList AZ.data.toList).toArray⟩:ByteArray)=⟨#[]⟩:=fun e=>this (by
    have:=congrArg (fun b:ByteArray=>b.data.toList) e
    simpa using this)
   simp [h2]
def Zd0(c:TControl):Prop:=J6 c.name/\(0<=c.ports/\c.ports<=3)/\0<=c.kind_/\c.kind_<=2
def Dj(sig:List TControl)(i:Nat):Prop:=∀ h:i<sig.length,Zd0 sig[i]/\∀ k (hk:k<i),(sig[k]'(by omega)).name≠sig[i].name
def VQ(sig:List TControl):Prop:=(∀ i,Dj sig i)/\1<=sig.length/\sig.length<=6
theorem Zu0(c d:TControl)(lvl:Nat)(S:Zc):Sem UbX Za7 lvl [.ag ((ZE d).map .tr),.ta (ZE c)] S (iB (decide (d.name=c.name))) S:=by
 refine Zr ZuG trivial ?_
 simp only[ZhL,ZE,Zb,seval,Za,men]
theorem Zu1:Zo UbX Zha (Q6 3 (some 3))=true:=by kernel_rfl
theorem Zu2:Zo UbX Zg6 (Wg Zha)=true:=by kernel_rfl
theorem Zu3(sig:List TControl)(hl:sig.length<=9223372036854775807)(hb:∀ y∈sig,J2 9223372036854775807 y)(lvl:Nat)(S:Zc):Sem UbX Zdq lvl [.tr (.sl (sig.map ZE))] S (iB (dc (VQ sig))) S:=by
 refine Zr Zug trivial ?_
 simp only[Zhk,Uab,Zb,seval,Za,men]
 refine ZZ (α:=Unit) sig.length (fun j _=>[(3,iI j)]) (fun _ _=>[]) (fun j _=>∀ i,i<j->Dj sig i) () (by simp only[Zb,seval,Za,men]) (by (simp only[Zb,seval,Za,men]) <;> rfl) (fun i hi=>by omega) ?_
 intro j _ hj hA
 simp only[Uab,Zb,seval,Za,men]
 refine Zs (fun hlt=>?_) (fun hge=>?_)
 ·have hja:j<sig.length:=by omega
  have ga:=Jd (c:=ZE) hja
  have hbj:sig[j].name.size<=9223372036854775807:=hb _ (Uan hja)
  have hno:¬ Zd0 sig[j] -> ¬ VQ sig:=fun h hs=>h (hs.1 j hja).1
  simp only[ga,ZE,Zb,seval,Za,men]
  refine Zk (Zh2 sig[j].name hbj) ?_
  simp only[ga,ZE,Zb,seval,Za,men]
  cases hn:dc (J6 sig[j].name) with
  | false =>
   simp only[Zb,seval,Za,men]
   rw[ZP (hno fun h=>dc_not.1 hn h.1)]
  | true =>
   have hn':=dc_iff.1 hn
   simp only[ga,ZE,Zb,seval,Za,men]
   refine Zk (Q7 sig[j].ports 0 3) ?_
   simp only[ga,ZE,Zb,seval,Za,men]
   cases hp:J3 sig[j].ports 0 3 with
   | false =>
    simp only[Zb,seval,Za,men]
    rw[ZP (hno fun h=>inB_not.1 hp h.2.1)]
   | true =>
    have hp':=inB_iff.1 hp
    simp only[ga,ZE,Zb,seval,Za,men]
    refine Zk (Q7 sig[j].kind_ 0 2) ?_
    simp only[ga,ZE,Zb,seval,Za,men]
    cases hk:J3 sig[j].kind_ 0 2 with
    | false =>
     simp only[Zb,seval,Za,men]
     rw[ZP (hno fun h=>inB_not.1 hk h.2.2)]
    | true =>
     have hk':=inB_iff.1 hk
     simp only[Zb,seval,Za,men]
     refine ZZ (α:=Unit) j (fun k _=>[(4,iI k)]) (fun _ _=>[]) (fun k _=>∀ i (hi:i<k),k<=j->∀ hi2:i<sig.length,(sig[i]'hi2).name≠sig[j].name) () (by simp only[Zb,seval,Za,men]) (by (simp only[Zb,seval,Za,men]) <;> rfl) (fun i hi=>by omega) ?_
     intro k _ hkj hB
     simp only[Uab,Zb,seval,Za,men]
     refine Zs (fun hlt2=>?_) (fun hge2=>?_)
     ·have hka:k<sig.length:=by omega
      have gb:=Jd (c:=ZE) hka
      simp only[ga,gb,ZE,Zb,seval,Za,men]
      refine Zs (fun he=>?_) (fun hne=>?_)
      ·rw[ZP (fun hs:VQ sig=>(hs.1 j hja).2 k (by omega) he)]
      ·refine⟨by rw[Zh];omega,Zy () (by omega) rfl (fun i hi _ hi2=>?_)⟩
       by_cases e:i=k
       ·subst e;exact hne
       ·exact hB i (by omega) (by omega) hi2
     ·have:k=j:=by omega
      subst this
      refine⟨by rw[Zh];omega,Zy () hja rfl (fun i hi=>?_)⟩
      by_cases e:i=k
      ·subst e
       exact fun h=>⟨⟨hn',hp',hk'⟩,fun q hq=>hB q hq (Uaf _) (by omega)⟩
      ·exact hA i (by omega)
 ·have:j=sig.length:=by omega
  subst this
  refine Zk (Q7 sig.length 1 6) ?_
  simp only[Zb,seval,Za,men]
  have hall:∀ i,Dj sig i:=fun i h=>hA i h h
  rw[XH (q:=1<=sig.length/\sig.length<=6) ⟨fun h=>h.2,fun h=>⟨hall,h⟩⟩]
  by_cases h:1<=sig.length/\sig.length<=6
  ·rw[Vh h,inB_iff.2 (by omega)]
  ·rw[ZP h,inB_not.2 (by omega)]
theorem Zu4(sig:List TControl)(hl:sig.length<=9223372036854775807)(hb:∀ y∈sig,J2 9223372036854775807 y)(lvl:Nat)(S:Zc):Sem UbX Zdw lvl [.tr (.sl (sig.map ZE))] S (iB (dc (VQ sig))) S:=by
 refine Zr Zup trivial ?_
 simp only[Zht,Uab,Zb,seval,Za,men]
 refine Zk (XI sig.length 1 6) ?_
 simp only[Uab,Zb,seval,Za,men]
 refine Zs (fun h=>?_) (fun h=>?_)
 ·rw[ZP (fun hs:VQ sig=>(inB_not.1 h) (by have:=hs.2;omega))]
 have hln:=inB_iff.1 (by simpa using h)
 refine ZZ (α:=Unit) sig.length (fun j _=>[(11,iI j)]) (fun _ _=>[]) (fun j _=>∀ i,i<j->Dj sig i) () (by simp only[Zb,seval,Za,men]) (by (simp only[Zb,seval,Za,men]) <;> rfl) (fun i hi=>by omega) ?_
 intro j _ hj hA
 simp only[Uab,Zb,seval,Za,men]
 refine Zs (fun hlt=>?_) (fun hge=>?_)
 ·have hja:j<sig.length:=by omega
  have ga:=Jd (c:=ZE) hja
  have hbj:sig[j].name.size<=9223372036854775807:=hb _ (Uan hja)
  have hno:¬ Zd0 sig[j] -> ¬ VQ sig:=fun h hs=>h (hs.1 j hja).1
  simp only[ga,ZE,Zb,seval,Za,men]
  refine Zk (Zh3 sig[j].name hbj) ?_
  simp only[ga,ZE,Zb,seval,Za,men]
  cases hn:dc (J6 sig[j].name) with
  | false =>
   simp only[Zb,seval,Za,men]
   rw[ZP (hno fun h=>dc_not.1 hn h.1)]
  | true =>
   have hn':=dc_iff.1 hn
   simp only[ga,ZE,Zb,seval,Za,men]
   refine Zk (XI sig[j].ports 0 3) ?_
   simp only[ga,ZE,Zb,seval,Za,men]
   cases hp:J3 sig[j].ports 0 3 with
   | false =>
    simp only[Zb,seval,Za,men]
    rw[ZP (hno fun h=>inB_not.1 hp h.2.1)]
   | true =>
    have hp':=inB_iff.1 hp
    simp only[ga,ZE,Zb,seval,Za,men]
    refine Zk (XI sig[j].kind_ 0 2) ?_
    simp only[ga,ZE,Zb,seval,Za,men]
    cases hk:J3 sig[j].kind_ 0 2 with
    | false =>
     simp only[Zb,seval,Za,men]
     rw[ZP (hno fun h=>inB_not.1 hk h.2.2)]
    | true =>
     have hk':=inB_iff.1 hk
     have hjl:j<=sig.length:=by omega
     simp only[Uab,hjl,Zb,seval,Za,men]
     have hc:=ZhY (P:=UbX) Zu2 Zu1 Zg1 (f:=fun d:TControl=>decide (d.name=sig[j].name)) (fe:=Za7) (cs:=[ZE sig[j]]) (sig.take j) (by rw[Uao];omega) (fun d _ lvl S=>Zu0 sig[j] d lvl S)
     rw[<-ZuS] at hc
     refine⟨fun h=>h.elim,Ua9 _,Zk hc ?_⟩
     simp only[Zb,seval,Za,men]
     cases ha:(sig.take j).any (fun d:TControl=>decide (d.name=sig[j].name)) with
     | true =>
      simp only[Zb,seval,Za,men]
      obtain⟨d,hd,he⟩:=List.any_eq_true.1 ha
      obtain⟨q,hq,rfl⟩:=UaX hd
      rw[Uao] at hq
      rw[ZP (fun hs:VQ sig=>(hs.1 j hja).2 q (by omega) (by simpa using he))]
     | false =>
      simp only[Zb,seval,Za,men]
      refine⟨by rw[Zh];omega,Zy () hja rfl (fun i hi=>?_)⟩
      by_cases e:i=j
      ·subst e
       refine fun h=>⟨⟨hn',hp',hk'⟩,fun q hq=>?_⟩
       have:=(List.any_eq_false.1 ha) sig[q] (by
        rw[List.mem_take_iff_getElem]
        exact⟨q,by omega,rfl⟩)
       simpa using this
      ·exact hA i (by omega)
 ·have:j=sig.length:=by omega
  subst this
  have hall:∀ i,Dj sig i:=fun i h=>hA i h h
  rw[Vh (p:=VQ sig) ⟨hall,by omega,by omega⟩]
theorem Vv(a b:List Int):rI (a++b)=rI a++rI b:=Ua8
theorem Zh4:Zo UbX Zg7 (Q6 1 none)=true:=by kernel_rfl
theorem Zh5:Zo UbX Zdy (Wg Zg7)=true:=by kernel_rfl
def Zm(s:Int->Int)(P:Prop):Prop:=∀ l:Int,0<=l->l<=1048576->s l<=l/\(0<=s l->P)
theorem Zba:Zm (fun l=>l) True:=fun _ _ _=>⟨Ubc _,fun _=>trivial⟩
theorem Wi{s g:Int->Int}{P Q:Prop}(hs:Zm s P)(hg:Zm g Q):Zm (fun l=>Jx (s l) g) (P/\Q):=fun l h0 h1=>by
 have a:=hs l h0 h1
 by_cases h:s l<0
 ·simp only[Jx,if_pos h]
  exact⟨by omega,fun h=>by omega⟩
 ·simp only[Jx,if_neg h]
  have b:=hg (s l) (by omega) (by omega)
  exact⟨by omega,fun h2=>⟨a.2 (by omega),b.2 h2⟩⟩
theorem Zh6(n:Nat):Zm (fun l=>Ve n l) (n<=4294967296):=fun l h0 h1=>by
 simp only[Ve]
 split
 ·exact⟨by omega,fun h=>by omega⟩
 ·exact⟨by omega,fun h=>by omega⟩
theorem Zd1(n:Nat):Zm (fun l=>l-n) (n<=4294967296):=fun l h0 h1=>⟨by simp only;omega,fun h=>by simp only at h;omega⟩
theorem Zh7{α:Type}{f:α->Int->Int}{P:α->Prop}(hf:∀ x,Zm (f x) (P x)):∀(a:List α),Zm (fun l=>Yj f a l) (∀ y∈a,P y)
 | []=>fun l _ _=>⟨Ubc l,fun _ y hy=>by cases hy⟩
 | x::r=>fun l h0 h1=>by
  simp only[Yj]
  have a:=hf x l h0 h1
  split
  ·exact⟨by omega,fun h=>by omega⟩
  ·have b:=Zh7 hf r (f x l) (by omega) (by omega)
   refine⟨by simp only at b;omega,fun h y hy=>?_⟩
   cases hy with
   | head=>exact a.2 (by omega)
   | tail _ hy=>exact b.2 h y hy
theorem Zbb{α:Type}{f:α->Int->Int}{P:α->Prop}(hf:∀ x,Zm (f x) (P x))(a:List α):Zm (fun l=>JD f a l) (a.length<=4294967296/\∀ y∈a,P y):=fun l h0 h1=>by
 simp only[JD]
 split
 ·exact⟨by omega,fun h=>by omega⟩
 ·have b:=Zh7 hf a (l-a.length) (by omega) (by omega)
  simp only at b
  exact⟨by omega,fun h=>⟨by omega,b.2 h⟩⟩
theorem Zbc{s:Int->Int}{P Q:Prop}(h:Zm s P)(hq:P->Q):Zm s Q:=fun l h0 h1=>⟨(h l h0 h1).1,fun h2=>hq ((h l h0 h1).2 h2)⟩
theorem Zu5(x:TNode):Zm (fun l=>VO x l) (VN 4294967296 x):=by
 unfold VO
 exact Zbc (Wi (Zh6 _) Zba) (fun h=>by unfold VN;simp only[and_assoc,and_true,true_and,implies_true,forall_const] at h ⊢;try exact h)
theorem Zu6(x:TWire):Zm (fun l=>VP x l) (Vt 4294967296 x):=by
 unfold VP
 exact Zbc (Wi (Zd1 _) Zba) (fun h=>by unfold Vt;simp only[and_assoc,and_true,true_and,implies_true,forall_const] at h ⊢;try exact h)
theorem Zu7(x:TBigraph):Zm (fun l=>Wd x l) (Vf 4294967296 x):=by
 unfold Wd
 exact Zbc (Wi (Zbb (fun y=>(Zu5 _)) _) (Wi (Zh6 _) (Wi (Zbb (fun y=>(Zd1 _)) _) (Wi (Zbb (fun y=>(Zu6 _)) _) Zba)))) (fun h=>by unfold Vf;simp only[and_assoc,and_true,true_and,implies_true,forall_const] at h ⊢;try exact h)
theorem Zu8(x:TControl):Zm (fun l=>YU x l) (J2 4294967296 x):=by
 unfold YU
 exact Zbc (Wi (Zd1 _) Zba) (fun h=>by unfold J2;simp only[and_assoc,and_true,true_and,implies_true,forall_const] at h ⊢;try exact h)
theorem Zu9{a:Nat}(h:a<=4294967296):a<=9223372036854775807:=by omega
theorem Zh8{x:TControl}(h:J2 4294967296 x):J2 9223372036854775807 x:=by
 exact(Zu9 h)
theorem Zva{P:Nat->Prop}{j:Nat}(h:∀ k,k<j->P k)(hj:P j):∀ k,k<j+1->P k:=fun k hk=>by
 by_cases e:k=j
 ·subst e;exact hj
 ·exact h k (by omega)
theorem Qw{es:Row}{n:Nat}(h:es.length=n):cut es 0 n=es:=by
 simp only[cut,Ubz]
 exact Uar (by omega)
theorem Zvb(n:Nat):List.replicate n [Tr.v (Value.int .i64 0)]=rI (List.replicate n 0):=by simp [rI]
def bl(s:ByteArray):List UInt8:=s.data.toList
theorem Vw(a b:ByteArray):bl (a++b)=bl a++bl b:=by simp [bl,ByteArray.data_append]
theorem Zd2{a b:ByteArray}(h:bl a=bl b):a=b:=by
 cases a with | mk a=>cases b with | mk b=>exact congrArg ByteArray.mk (Array.toList_inj.1 h)
theorem Wj(l:List UInt8):bl ⟨l.toArray⟩=l:=by simp [bl]
theorem Zh9(a:ByteArray):(bl a).length=a.size:=(ZdY a).symm
abbrev SP:ByteArray:=⟨#[32]⟩
def Qx(n:Int):ByteArray:=⟨(Lib.decDigits n.toNat).toArray⟩
theorem dd1{u:Nat}(h:u<10):Lib.decDigits u=[UInt8.ofNat (48+u)]:=by rw[Lib.decDigits,dif_pos h]
theorem dd2{u:Nat}(h0:10<=u)(h:u<100):Lib.decDigits u=[UInt8.ofNat (48+u / 10),UInt8.ofNat (48+u % 10)]:=by
 rw[Lib.decDigits,dif_neg (by omega),dd1 (by omega)]
 rfl
theorem Zia{n:Int}(h0:0<=n)(h1:n<100):(Qx n).size<=2:=by
 rw[<-Zh9,Qx,Wj]
 by_cases h:n.toNat<10
 ·rw[dd1 h];simp
 ·rw[dd2 (by omega) (by omega)];simp
def Jy(f:Int->ByteArray)(w:ByteArray)(l:List Int):ByteArray:=l.foldl (fun w k=>w++f k) w
theorem Zvc{f:Int->ByteArray}{w:ByteArray}{l:List Int}{j:Nat}(h:j<l.length):Jy f w (l.take (j+1))=Jy f w (l.take j)++f (g0 l j):=by
 have e:g0 l j=l[j]:=by simp [h]
 unfold Jy
 rw[Uah h,Ubx,e]
 rfl
theorem Zib(f:Int->ByteArray):∀(l:List Int) (w:ByteArray),bl (Jy f w l)=bl w++l.flatMap fun k=>bl (f k)
 | [],w=>by simp [Jy]
 | k::r,w=>by
  have:=Zib f r (w++f k)
  unfold Jy at this ⊢
  rw[List.foldl_cons,this,Vw,UaL,Uav]
theorem Qy{f:Int->ByteArray}{B:Nat}:∀(l:List Int) (w:ByteArray),(∀ k∈l,(f k).size<=B)->(Jy f w l).size<=w.size+l.length*B
 | [],w,_=>by simp [Jy]
 | k::r,w,h=>by
  have ih:=Qy (f:=f) (B:=B) r (w++f k) fun q hq=>h q (by simp [hq])
  have h1:=h k (by simp)
  unfold Jy at ih ⊢
  rw[List.foldl_cons]
  rw[Ual] at ih
  rw[List.length_cons,Nat.succ_mul]
  omega
end Go.Fd

namespace Go.Proofs
open Go.Shelf
def Tryz.laysM171_ren:Go.Shelf.Ren:=⟨fun | 171=>66 | 243=>83 | 246=>91 | 283=>113 | 284=>114 | 285=>115 | 286=>116 | 129=>102 | 317=>127 | 318=>128 | 319=>129 | 320=>130 | 337=>135 | 338=>136 | n=>n,fun | 3=>3 | 9=>9 | 2=>2 | 4=>4 | 171=>142 | 0=>0 | 53=>132 | 37=>106 | 5=>5 | 173=>144 | 212=>158 | 51=>130 | 20=>20 | 213=>159 | 46=>115 | 232=>171 | 233=>172 | n=>n,fun | 17=>0 | 18=>3 | 19=>4 | n=>n⟩
theorem Tryz.laysM171:Go.Proofs.LaysM.n171 Tryz.prog Tryz.laysM171_ren:={
  mixed:=by kernel_rfl,
  f129:=Tryz.func102.trans (congrArg some (by kernel_rfl)),
  f171:=Tryz.func66.trans (congrArg some (by kernel_rfl)),
  f243:=Tryz.func83.trans (congrArg some (by kernel_rfl)),
  f246:=Tryz.func91.trans (congrArg some (by kernel_rfl)),
  f283:=Tryz.func113.trans (congrArg some (by kernel_rfl)),
  f284:=Tryz.func114.trans (congrArg some (by kernel_rfl)),
  f285:=Tryz.func115.trans (congrArg some (by kernel_rfl)),
  f286:=Tryz.func116.trans (congrArg some (by kernel_rfl)),
  f317:=Tryz.func127.trans (congrArg some (by kernel_rfl)),
  f318:=Tryz.func128.trans (congrArg some (by kernel_rfl)),
  f319:=Tryz.func129.trans (congrArg some (by kernel_rfl)),
  f320:=Tryz.func130.trans (congrArg some (by kernel_rfl)),
  f337:=Tryz.func135.trans (congrArg some (by kernel_rfl)),
  f338:=Tryz.func136.trans (congrArg some (by kernel_rfl)),
  t0:=Tryz.underlying0,
  a0:=Tryz.isAgg0,
  z0:=Tryz.sizeOf0,
  v0:=Tryz.zeroValue0,
  t2:=Tryz.underlying2,
  a2:=Tryz.isAgg2,
  z2:=Tryz.sizeOf2,
  v2:=Tryz.zeroValue2,
  t3:=Tryz.underlying3,
  a3:=Tryz.isAgg3,
  z3:=Tryz.sizeOf3,
  v3:=Tryz.zeroValue3,
  t4:=Tryz.underlying4,
  a4:=Tryz.isAgg4,
  z4:=Tryz.sizeOf4,
  v4:=Tryz.zeroValue4,
  t5:=Tryz.underlying5,
  a5:=Tryz.isAgg5,
  z5:=Tryz.sizeOf5,
  v5:=Tryz.zeroValue5,
  t9:=Tryz.underlying9,
  a9:=Tryz.isAgg9,
  z9:=Tryz.sizeOf9,
  v9:=Tryz.zeroValue9,
  t20:=Tryz.underlying20,
  a20:=Tryz.isAgg20,
  z20:=Tryz.sizeOf20,
  v20:=Tryz.zeroValue20,
  t37:=Tryz.underlying106,
  a37:=Tryz.isAgg106,
  z37:=Tryz.sizeOf106,
  v37:=Tryz.zeroValue106,
  t46:=Tryz.underlying115,
  a46:=Tryz.isAgg115,
  z46:=Tryz.sizeOf115,
  v46:=Tryz.zeroValue115,
  t51:=Tryz.underlying130,
  a51:=Tryz.isAgg130,
  z51:=Tryz.sizeOf130,
  v51:=Tryz.zeroValue130,
  t53:=Tryz.underlying132,
  a53:=Tryz.isAgg132,
  z53:=Tryz.sizeOf132,
  v53:=Tryz.zeroValue132,
  t171:=Tryz.underlying142,
  a171:=Tryz.isAgg142,
  z171:=Tryz.sizeOf142,
  v171:=Tryz.zeroValue142,
  t173:=Tryz.underlying144,
  a173:=Tryz.isAgg144,
  z173:=Tryz.sizeOf144,
  v173:=Tryz.zeroValue144,
  t212:=Tryz.underlying158,
  a212:=Tryz.isAgg158,
  z212:=Tryz.sizeOf158,
  v212:=Tryz.zeroValue158,
  t213:=Tryz.underlying159,
  a213:=Tryz.isAgg159,
  z213:=Tryz.sizeOf159,
  t232:=Tryz.underlying171,
  a232:=Tryz.isAgg171,
  z232:=Tryz.sizeOf171,
  v232:=Tryz.zeroValue171,
  t233:=Tryz.underlying172,
  a233:=Tryz.isAgg172,
  z233:=Tryz.sizeOf172,
  v233:=Tryz.zeroValue172,
  g17:=by kernel_rfl,
  g18:=by kernel_rfl,
  g19:=by kernel_rfl,
  i0:=by kernel_rfl,
  i2:=by kernel_rfl,
  i3:=by kernel_rfl,
  i4:=by kernel_rfl,
  i5:=by kernel_rfl,
  i9:=by kernel_rfl,
  i20:=by kernel_rfl,
  i37:=by kernel_rfl,
  i46:=by kernel_rfl,
  i51:=by kernel_rfl,
  i53:=by kernel_rfl,
  i171:=by kernel_rfl,
  i173:=by kernel_rfl,
  i212:=by kernel_rfl,
  i232:=by kernel_rfl,
  i233:=by kernel_rfl,
  m17:=by kernel_rfl,
  m18:=by kernel_rfl,
  m19:=by kernel_rfl }
end Go.Proofs

namespace Go.Fd
open Go.Proofs.Tryz renaming prog->UbX
set_option maxRecDepth 20000
def Je(n:Int):ByteArray:=⟨(Lib.itoa n).toArray⟩
theorem Zd3{n:Int}(h:0<=n):Je n=Qx n:=by unfold Je Qx Lib.itoa;rw[if_neg (by omega)]
theorem Zd4{n:Int}(h:n<0):Je n=⟨#[45]⟩++Qx (-n):=Zd2 (by
 rw[Vw]
 unfold Je Qx Lib.itoa
 rw[if_pos h,Wj,Wj,show (-n).toNat=n.natAbs by omega]
 rfl)
def YN(n:Int):Prop:=-100<n/\n<100
theorem Zic{n:Int}(h:YN n):(Je n).size<=3:=by
 obtain⟨h1,h2⟩:=h
 by_cases h0:0<=n
 ·rw[Zd3 h0]
  have:=Zia h0 h2
  omega
 ·rw[Zd4 (by omega),Ual]
  have:=Zia (n:=-n) (by omega) (by omega)
  have e:(⟨#[45]⟩:ByteArray).size=1:=rfl
  omega
theorem Zvd{G:Gh}{S:Zc}{w:World}(h:Fix G S w):Lib.TabIs UbX w "internal/strconv.uint64pow10" .u64 Lib.pow10Tab:=by
 obtain⟨w0,hg,hs,hb⟩:=h
 have hg':Lib.TabIs UbX w0 "internal/strconv.uint64pow10" .u64 Lib.pow10Tab:=hg
 unfold Lib.TabIs World.var? at hg' ⊢
 generalize UbX.globalNamed "internal/strconv.uint64pow10" = o at hg' ⊢
 cases o with
 | none=>exact hg'
 | some g =>
  simp only[Option.bind_some] at hg' ⊢
  rcases Nat.lt_or_ge g w0.heap.size with hl | hl
  ·rw[(hb g hl).2];exact hg'
  ·rw[UbS hl] at hg';cases hg'
theorem Zve(n:Int)(hn:YN n)(lvl:Nat)(S:Zc):Sem UbX Zg5 lvl [iI n] S (iS (Je n)) S:=by
 obtain⟨h0,h1⟩:=hn
 refine ZgN (ZdX (by kernel_rfl)) rfl trivial fun _ G w vs _ hv hf=>?_
 rw[ZcM (xs:=[.int .i64 n]) hv]
 exact(Go.Proofs.Any.strconv_Itoa Proofs.Tryz.laysM171 n (by omega) (by omega) w (Zvd hf)).mono fun e w' ⟨h,k,os,h'⟩=>⟨_,h,.v _ rfl,h' ▸ Go.Lib.below_grow _ w (Uaf _) k os⟩
theorem Zid(n:Int)(hn:YN n)(lvl:Nat)(S:Zc):Sem UbX ZaU lvl [iI n] S (iS (Je n)) S:=by
 refine Zr Zuc trivial ?_
 simp only[Zhg,Zb,seval,Za,men]
 refine Zk (Zve n hn) ?_
 simp only[Zb,seval,Za,men]
theorem Ub:(⟨#[32]⟩:ByteArray).size=1:=rfl
abbrev Jp(k:Int):ByteArray:=⟨#[32]⟩++Je k
theorem Q8{k:Int}(h:YN k):(Jp k).size<=4:=by
 have:=Zic h
 rw[Ual,Ub]
 omega
def smL(l:List Int):Prop:=∀ k∈l,YN k
theorem Q9(word:ByteArray)(l:List Int)(hl:smL l)(hw:word.size<=100000000)(hL:l.length<=1000)(lvl:Nat)(S:Zc):Sem UbX XF lvl [iS word,tI l] S (iS (Jy Jp word l)) S:=by
 refine Zr Zuy trivial ?_
 simp only[ZhC,Uab,Zb,seval,Za,men]
 refine ZZ (α:=Unit) l.length (fun j _=>[(0,iS (Jy Jp word (l.take j))),(9,iI j)]) (fun j _=>[]) (fun _ _=>True) () (by simp only[Zb,seval,Za,men]) (by (simp only[Zb,seval,Za,men]) <;> rfl) trivial ?_
 intro j _ hj _
 simp only[Uab,Zb,seval,Za,men]
 refine Zs (fun hlt=>?_) (fun hge=>?_)
 ·have hja:j<l.length:=by omega
  have ga:=Z5 hja
  have e:g0 l j=l[j]:=by simp [hja]
  have hk:=hl l[j] (Uan hja)
  rw[<-e] at hk
  have z1:=Qy (f:=Jp) (B:=4) (l.take j) word fun k hk=>Q8 (hl k (UaS hk))
  have z2:(l.take j).length=j:=by rw[Uao];omega
  have z3:=Zic hk
  rw[z2] at z1
  simp only[ga,Uab,Zb,seval,Za,men]
  refine Zk (Zid _ hk) ?_
  simp only[Ual,Ub,Zb,seval,Za,men]
  exact⟨by omega,by omega,by rw[Zh];omega,Zy () hja (by rw[Zvc hja];rfl) trivial⟩
 ·have:j=l.length:=by omega
  subst this
  rw[UaT]
theorem Zie{b:UInt8}:∀{x x' t t':List UInt8},b ∉ x->b ∉ x'->(t=[]\/∃ u,t=b::u)->(t'=[]\/∃ u,t'=b::u)->x++t=x'++t'->x=x'/\t=t'
 | [],[],t,t',_,_,_,_,h=>⟨rfl,h⟩
 | [],c::x',t,t',_,h2,h3,_,h=>by
  rcases h3 with rfl | ⟨u,rfl⟩
  ·cases h
  ·rw[List.nil_append,List.cons_append] at h
   injection h with e _
   exact absurd (by simp [e]) h2
 | c::x,[],t,t',h1,_,_,h4,h=>by
  rcases h4 with rfl | ⟨u,rfl⟩
  ·cases h
  ·rw[List.nil_append,List.cons_append] at h
   injection h with e _
   exact absurd (by simp [e]) h1
 | c::x,d::x',t,t',h1,h2,h3,h4,h=>by
  rw[List.cons_append,List.cons_append] at h
  injection h with e h
  obtain⟨g1,g2⟩:=Zie (x:=x) (x':=x') (fun q=>h1 (by simp [q])) (fun q=>h2 (by simp [q])) h3 h4 h
  exact⟨by rw[e,g1],g2⟩
theorem Zif{b:UInt8}{r:List ByteArray}:(r.flatMap fun p=>b::bl p)=[]\/∃ u,(r.flatMap fun p=>b::bl p)=b::u:=by
 cases r with
 | nil=>exact .inl rfl
 | cons x r=>exact .inr ⟨_,by rw[UaL,List.cons_append]⟩
theorem Zig{b:UInt8}:∀{x y:ByteArray} {r q:List ByteArray},b ∉ bl x->b ∉ bl y->(∀ p∈r,b ∉ bl p)->(∀ p∈q,b ∉ bl p)->bl x++(r.flatMap fun p=>b::bl p)=bl y++(q.flatMap fun p=>b::bl p)->x=y/\r=q
 | x,y,r,q,hx,hy,hr,hq,h=>by
  obtain⟨h1,h2⟩:=Zie hx hy Zif Zif h
  refine⟨Zd2 h1,?_⟩
  match r,q with
  | [],[]=>rfl
  | [],z::q=>rw[UbH,UaL] at h2;cases h2
  | z::r,[]=>rw[UbH,UaL] at h2;cases h2
  | z::r,z'::q =>
   rw[UaL,UaL,List.cons_append,List.cons_append] at h2
   injection h2 with _ h2
   obtain⟨g1,g2⟩:=Zig (hr z (by simp)) (hq z' (by simp)) (fun p hp=>hr p (by simp [hp])) (fun p hp=>hq p (by simp [hp])) h2
   rw[g1,g2]
  termination_by _ _ r=>r.length
theorem Xa{P:Nat->Prop}{j:Nat}(h:∀ k,k<j->P k)(hj:P j):∀ k,k<j+1->P k:=fun k hk=>by
 by_cases e:k=j
 ·subst e;exact hj
 ·exact h k (by omega)
theorem Zd5{n a b:Int}:J3 n a b=dc (a<=n/\n<=b):=by
 unfold J3
 rw[Wh,Bool.decide_and]
theorem Zih:∀(x y:List UInt8),(!Op.bytesLess x y)=(Op.bytesLess y x || decide (x=y))
 | [],[]=>by simp [Op.bytesLess]
 | [],_::_=>by simp [Op.bytesLess]
 | _::_,[]=>by simp [Op.bytesLess]
 | a::x,b::y=>by
  have ih:=Zih x y
  simp only[Op.bytesLess]
  by_cases h:a=b
  ·subst h
   have e:¬ a<a:=UbT a
   simp [e,ih]
  ·by_cases h1:a<b
   ·have h2:¬ b<a:=fun h2=>UbT a (UInt8.lt_trans h1 h2)
    have h3:¬ b=a:=fun e=>h e.symm
    simp [h,h1,h2,h3]
   ·have h2:b<a:=by
     rcases UInt8.lt_or_lt_of_ne h with h | h
     ·exact absurd h h1
     ·exact h
    simp [h,h1,h2]
def XJ(s t:ByteArray):Prop:=Op.bytesLess s.data.toList t.data.toList=true
theorem Zvf{s t:ByteArray}:(!Op.bytesLess s.data.toList t.data.toList) = !dc (XJ s t):=by
 unfold XJ
 rw[Wh,Bool.decide_eq_true]
theorem Zvg{s t:ByteArray}:(Op.bytesLess t.data.toList s.data.toList || decide (t=s)) = !dc (XJ s t):=by
 rw[<-Zvf,Zih]
 congr 1
 have:t=s↔s.data.toList=t.data.toList:=⟨fun h=>by rw[h],fun h=>by
  cases s with | mk s=>cases t with | mk t=>exact congrArg ByteArray.mk (Array.toList_inj.1 h.symm)⟩
 simp only[this]
def Dk(l:List ByteArray)(i:Nat):Prop:=∀ h:i<l.length,J6 l[i]/\∀ _:0<i,XJ (l[i-1]'(by omega)) l[i]
def Vi(l:List ByteArray):Prop:=(∀ i,Dk l i)/\l.length<=16
theorem Zii(l:List ByteArray)(hl:l.length<=4294967296)(hb:∀ y∈l,y.size<=4294967296)(lvl:Nat)(S:Zc):Sem UbX ZaX lvl [.tr (.sl (rS l))] S (iB (dc (Vi l))) S:=by
 refine Zr Zui trivial ?_
 simp only[Zhm,Uab,Zb,seval,Za,men]
 refine ZZ (α:=Unit) l.length (fun j _=>[(3,iI j)]) (fun j _=>[]) (fun j _=>∀ k,k<j->Dk l k) () (by simp only[Zb,seval,Za,men]) (by (simp only[Zb,seval,Za,men]) <;> rfl) (fun k hk=>absurd hk (UaZ k)) ?_
 intro j _ hj hA
 simp only[Uab,Zb,seval,Za,men]
 refine Zs (fun hlt=>?_) (fun hge=>?_)
 ·have hja:j<l.length:=by omega
  have ga:=Jd (c:=fun s=>[ts s]) hja
  have hno:¬ Dk l j->dc (Vi l)=false:=fun h=>ZP fun g=>h (g.1 j)
  simp only[ga,Uab,Zb,seval,Za,men]
  refine Zk (Zh2 l[j] (by have:=hb _ (Uan hja);omega)) ?_
  cases h1:dc (J6 l[j])
  ·simp only[Zb,seval,Za,men]
   rw[hno fun h=>dc_not.1 h1 (h hja).1]
  by_cases q:0<j
  ·have e1:((j:Int)-1).toNat=j-1:=by omega
   have e2:(0:Int)<=j-1:=by omega
   have q5:(0:Int)<j:=by omega
   have gb:=Jd (c:=fun s=>[ts s]) (l:=l) (j:=j-1) (by omega)
   simp only[q5,e1,e2,ga,gb,Uab,Zb,seval,Za,men]
   cases hc:Op.bytesLess (l[j-1]'(by omega)).data.toList l[j].data.toList
   ·simp only[Zb,seval,Za,men]
    exact⟨by rw[Zh];omega,by rw[hno fun h=>by have:=(h hja).2 q;unfold XJ at this;rw[this] at hc;cases hc]⟩
   ·simp only[Zb,seval,Za,men]
    exact⟨by rw[Zh];omega,by rw[Zh];omega,Zy () hja rfl (Xa hA fun _=>⟨dc_iff.1 h1,fun _=>hc⟩)⟩
  ·have q5:¬ (0:Int)<j:=by omega
   simp only[q5,ga,Uab,Zb,seval,Za,men]
   exact⟨by rw[Zh];omega,Zy () hja rfl (Xa hA fun _=>⟨dc_iff.1 h1,fun h=>absurd h q⟩)⟩
 ·have hj1:j=l.length:=by omega
  subst hj1
  rw[XH (p:=Vi l) (q:=(l.length:Int)<=16) ⟨fun g=>by have:=g.2;omega,fun g=>⟨fun i h=>hA i h h,by omega⟩⟩,Wh]
theorem Zij(l:List ByteArray)(hl:l.length<=4294967296)(hb:∀ y∈l,y.size<=4294967296)(lvl:Nat)(S:Zc):Sem UbX Za1 lvl [.tr (.sl (rS l))] S (iB (dc (Vi l))) S:=by
 refine Zr Zur trivial ?_
 simp only[Zhv,Uab,Zb,seval,Za,men]
 refine ZZ (α:=Unit) l.length (fun j _=>[(7,iI j)]) (fun j _=>[]) (fun j _=>∀ k,k<j->Dk l k) () (by simp only[Zb,seval,Za,men]) (by (simp only[Zb,seval,Za,men]) <;> rfl) (fun k hk=>absurd hk (UaZ k)) ?_
 intro j _ hj hA
 simp only[Uab,Zb,seval,Za,men]
 refine Zs (fun hlt=>?_) (fun hge=>?_)
 ·have hja:j<l.length:=by omega
  have ga:=Jd (c:=fun s=>[ts s]) hja
  have hno:¬ Dk l j->dc (Vi l)=false:=fun h=>ZP fun g=>h (g.1 j)
  simp only[ga,Uab,Zb,seval,Za,men]
  refine Zk (Zh3 l[j] (by have:=hb _ (Uan hja);omega)) ?_
  cases h1:dc (J6 l[j])
  ·simp only[Zb,seval,Za,men]
   rw[hno fun h=>dc_not.1 h1 (h hja).1]
  by_cases q:0<j
  ·have e1:((j:Int)-1).toNat=j-1:=by omega
   have e2:(0:Int)<=j-1:=by omega
   have q5:(0:Int)<j:=by omega
   have gb:=Jd (c:=fun s=>[ts s]) (l:=l) (j:=j-1) (by omega)
   simp only[q5,e1,e2,ga,gb,Uab,Zb,seval,Za,men]
   rw[Zvg]
   cases hc:dc (XJ (l[j-1]'(by omega)) l[j])
   ·simp only[Zb,seval,Za,men]
    exact⟨by rw[Zh];omega,by rw[hno fun h=>dc_not.1 hc ((h hja).2 q)]⟩
   ·simp only[Zb,seval,Za,men]
    exact⟨by rw[Zh];omega,by rw[Zh];omega,Zy () hja rfl (Xa hA fun _=>⟨dc_iff.1 h1,fun _=>dc_iff.1 hc⟩)⟩
  ·have q5:¬ (0:Int)<j:=by omega
   simp only[q5,ga,Uab,Zb,seval,Za,men]
   exact⟨by rw[Zh];omega,Zy () hja rfl (Xa hA fun _=>⟨dc_iff.1 h1,fun h=>absurd h q⟩)⟩
 ·have hj1:j=l.length:=by omega
  subst hj1
  rw[XH (p:=Vi l) (q:=(l.length:Int)<=16) ⟨fun g=>by have:=g.2;omega,fun g=>⟨fun i h=>hA i h h,by omega⟩⟩,Wh]
def Vj(b:TBigraph)(l:Int):Prop:=0<=l/\l<=b.edges+b.outer.length-1
theorem Zik(b:TBigraph)(l:Int)(he:0<=b.edges/\b.edges<=8)(ho:b.outer.length<=4294967296)(lvl:Nat)(S:Zc):Sem UbX ZaZ lvl [.ag ((Zl b).map .tr),iI l] S (iB (dc (Vj b l))) S:=by
 refine Zr Zum trivial ?_
 simp only[Zhq,Zl,Uab,Zb,seval,Za,men]
 refine⟨by rw[Zh];omega,by rw[Zh];omega,?_⟩
 refine Zk (Q7 l 0 (b.edges+b.outer.length-1)) ?_
 simp only[Zb,seval,Za,men]
 rw[Zd5]
 rfl
theorem Zil(b:TBigraph)(l:Int)(he:0<=b.edges/\b.edges<=8)(ho:b.outer.length<=4294967296)(lvl:Nat)(S:Zc):Sem UbX Za3 lvl [.ag ((Zl b).map .tr),iI l] S (iB (dc (Vj b l))) S:=by
 refine Zr Zuv trivial ?_
 simp only[Zhz,Zl,Uab,Zb,seval,Za,men]
 refine⟨by rw[Zh];omega,by rw[Zh];omega,?_⟩
 refine Zk (XI l 0 (b.edges+b.outer.length-1)) ?_
 simp only[Zb,seval,Za,men]
 rw[Zd5]
 rfl
def Dl(sig:List TControl)(c:Int):Int:=((sig[c.toNat]?).map TControl.kind_).getD 0
def Wl(sig:List TControl)(c:Int):Int:=((sig[c.toNat]?).map TControl.ports).getD 0
def Dm(b:TBigraph)(p:Int):Int:=((b.nodes[p.toNat]?).map TNode.control).getD 0
def YO(sig:List TControl)(b:TBigraph)(p VF:Int):Prop:=(p<0/\-b.roots<=p)\/(0<=p/\p<VF/\¬ Dl sig (Dm b p)=2)
def Dn(sig:List TControl)(b:TBigraph)(n:Nat):Prop:=∀ i,i<n->∀ h:i<b.nodes.length,0<=b.nodes[i].control/\b.nodes[i].control<=(sig.length:Int)-1
theorem Zim(sig:List TControl)(b:TBigraph)(p:Int)(k:Nat)(hp:Z2 .i64 p)(hr:0<=b.roots/\b.roots<=4)(hk:k<=b.nodes.length)(hc:Dn sig b k)(lvl:Nat)(S:Zc):Sem UbX ZaY lvl [.tr (.sl (sig.map ZE)),.ag ((Zl b).map .tr),iI p,iI k] S (iB (dc (YO sig b p k))) S:=by
 rw[Zh] at hp
 refine Zr Zul trivial ?_
 simp only[Zhp,Zl,Uab,Zb,seval,Za,men]
 refine Zs (fun hneg=>?_) (fun hpos=>?_)
 ·refine⟨by rw[Zh];omega,by rw[Zh];omega,?_⟩
  refine Zk (Q7 (-1-p) 0 (b.roots-1)) ?_
  simp only[Zb,seval,Za,men]
  have hiff:(0 <= -1-p/\-1-p<=b.roots-1)↔YO sig b p k:=⟨fun h=>.inl (by omega),fun h=>by rcases h with h | h <;> omega⟩
  rw[Zd5,XH hiff]
 ·refine Zs (fun hb=>?_) (fun hb=>?_)
  ·obtain⟨q,rfl⟩:∃ q:Nat,p=q:=⟨p.toNat,by omega⟩
   have hq:q<b.nodes.length:=by omega
   have ga:=Jd (c:=ZB) hq
   obtain⟨m1,m2⟩:=hc q (by omega) hq
   obtain⟨m,hm⟩:∃ m:Nat,b.nodes[q].control=m:=⟨b.nodes[q].control.toNat,by omega⟩
   have hms:m<sig.length:=by omega
   have gs:=Jd (c:=ZE) hms
   simp only[hb,ga,gs,ZB,ZE,hm,Int.toNat_natCast,Uak,Uab,Zb,seval,Za,men]
   have e:Dl sig (Dm b q)=sig[m].kind_:=by simp [Dl,Dm,hq,hm,hms]
   have hiff:YO sig b q k ↔ ¬ sig[m].kind_=2:=by
    constructor
    ·intro h
     rcases h with h | h
     ·omega
     ·rw[<-e];exact h.2.2
    ·intro h
     exact .inr ⟨by omega,hb,by rw[e];exact h⟩
   rw[XH hiff,Wh]
  ·rw[ZP fun h:YO sig b p k=>by rcases h with h | h <;> omega]
theorem Zin(sig:List TControl)(b:TBigraph)(p:Int)(k:Nat)(hr:0<=b.roots/\b.roots<=4)(hk:k<=b.nodes.length)(hc:Dn sig b k)(lvl:Nat)(S:Zc):Sem UbX Za2 lvl [.ag ((Zl b).map .tr),.tr (.sl (sig.map ZE)),iI p,iI k] S (iB (dc (YO sig b p k))) S:=by
 refine Zr Zut trivial ?_
 simp only[Zhx,Zl,Uab,Zb,seval,Za,men]
 refine Zs (fun hneg=>?_) (fun hpos=>?_)
 ·refine⟨by rw[Zh];omega,?_⟩
  have hiff:YO sig b p k ↔ -b.roots<=p:=⟨fun h=>by rcases h with h | h <;> omega,fun h=>.inl (by omega)⟩
  rw[XH hiff,Wh]
 ·refine Zs (fun hb=>?_) (fun hb=>?_)
  ·obtain⟨q,rfl⟩:∃ q:Nat,p=q:=⟨p.toNat,by omega⟩
   have hq:q<b.nodes.length:=by omega
   have ga:=Jd (c:=ZB) hq
   obtain⟨m1,m2⟩:=hc q (by omega) hq
   obtain⟨m,hm⟩:∃ m:Nat,b.nodes[q].control=m:=⟨b.nodes[q].control.toNat,by omega⟩
   have hms:m<sig.length:=by omega
   have gs:=Jd (c:=ZE) hms
   simp only[hb,ga,gs,ZB,ZE,hm,Int.toNat_natCast,Uak,Uab,Zb,seval,Za,men]
   have e:Dl sig (Dm b q)=sig[m].kind_:=by simp [Dl,Dm,hq,hm,hms]
   have hiff:YO sig b q k ↔ ¬ sig[m].kind_=2:=by
    constructor
    ·intro h
     rcases h with h | h
     ·omega
     ·rw[<-e];exact h.2.2
    ·intro h
     exact .inr ⟨by omega,hb,by rw[e];exact h⟩
   rw[XH hiff,Wh]
  ·rw[ZP fun h:YO sig b p k=>by rcases h with h | h <;> omega]
structure nodeOK (sig:List TControl) (b:TBigraph) (x:TNode) (i:Nat):Prop where
 ctl:0<=x.control/\x.control<=(sig.length:Int)-1
 par:YO sig b x.parent i
 ports:(x.links.length:Int)=Wl sig x.control
 links:∀ l∈x.links,Vj b l
theorem Zvh(sig:List TControl)(b:TBigraph)(i:Nat)(hi:i<b.nodes.length)(hn:sig.length<=4294967296)(hl:b.nodes[i].links.length<=4294967296)(hp:Z2 .i64 b.nodes[i].parent)(hr:0<=b.roots/\b.roots<=4)(he:0<=b.edges/\b.edges<=8)(ho:b.outer.length<=4294967296)(hc:Dn sig b i)(lvl:Nat)(S:Zc):Sem UbX Zds lvl [.tr (.sl (sig.map ZE)),.ag ((Zl b).map .tr),iI i] S (iB (dc (nodeOK sig b b.nodes[i] i))) S:=by
 refine Zr Zuk trivial ?_
 have ga:=Jd (c:=ZB) hi
 simp only[Zho,Zl,Uab,ga,ZB,Zb,seval,Za,men]
 refine⟨by rw[Zh];omega,?_⟩
 refine Zk (Q7 b.nodes[i].control 0 ((sig.length:Int)-1)) ?_
 cases h1:J3 b.nodes[i].control 0 ((sig.length:Int)-1)
 ·simp only[Zb,seval,Za,men]
  rw[ZP fun h:nodeOK sig b b.nodes[i] i=>inB_not.1 h1 h.ctl]
 have r1:=inB_iff.1 h1
 simp only[Zl,Uab,ZB,Zb,seval,Za,men]
 refine Zk (Zim sig b b.nodes[i].parent i hp hr (by omega) hc) ?_
 cases h2:dc (YO sig b b.nodes[i].parent i)
 ·simp only[Zb,seval,Za,men]
  rw[ZP fun h:nodeOK sig b b.nodes[i] i=>dc_not.1 h2 h.par]
 obtain⟨m,hm⟩:∃ m:Nat,b.nodes[i].control=m:=⟨b.nodes[i].control.toNat,by omega⟩
 have hms:m<sig.length:=by omega
 have gs:=Jd (c:=ZE) hms
 have e:Wl sig b.nodes[i].control=sig[m].ports:=by simp [Wl,hm,hms]
 simp only[hm,gs,ZE,Zl,Uab,ZB,Zb,seval,Za,men]
 refine Zs (fun hne=>?_) (fun heq=>?_)
 ·rw[ZP fun h:nodeOK sig b b.nodes[i] i=>by have:=h.ports;rw[e] at this;exact hne this]
 refine ZZ (α:=Unit) b.nodes[i].links.length (fun j _=>[(8,iI j)]) (fun j _=>[]) (fun j _=>∀ k,k<j->Vj b (g0 b.nodes[i].links k)) () (by simp only[Zb,seval,Za,men]) (by (simp only[Zb,seval,Za,men]) <;> rfl) (fun k hk=>absurd hk (UaZ k)) ?_
 intro j _ hj hA
 simp only[Uab,Zb,seval,Za,men]
 refine Zs (fun hlt=>?_) (fun hge=>?_)
 ·have hja:j<b.nodes[i].links.length:=by omega
  have gl:=Z5 hja
  simp only[gl,Uab,Zb,seval,Za,men]
  refine Zk (Zik b (g0 b.nodes[i].links j) he ho) ?_
  cases hc:dc (Vj b (g0 b.nodes[i].links j))
  ·simp only[Zb,seval,Za,men]
   rw[ZP fun h:nodeOK sig b b.nodes[i] i=>dc_not.1 hc (h.links _ (by simp [hja]))]
  ·simp only[Zb,seval,Za,men]
   exact⟨by rw[Zh];omega,Zy () hja rfl (Xa hA (dc_iff.1 hc))⟩
 ·have hj1:j=b.nodes[i].links.length:=by omega
  subst hj1
  have:nodeOK sig b b.nodes[i] i:=⟨r1,dc_iff.1 h2,by rw[e];omega,fun l hl=>by
   obtain⟨k,hk,rfl⟩:=UaX hl
   have:=hA k hk
   simpa [hk] using this⟩
  rw[Vh this]
def inn(b:TBigraph):List ByteArray:=b.inner.map TWire.name
theorem Zd6(a b:List ByteArray):rS (a++b)=rS a++rS b:=Ua8
theorem Zvi(b:TBigraph)(hn:b.inner.length<=4294967296)(lvl:Nat)(S:Zc):Sem UbX Zdr lvl [.ag ((Zl b).map .tr)] S (.ow 1 (rS (inn b)) true) S:=by
 refine Zr Zuj trivial ?_
 simp only[Zhn,Uab,Zl,Zb,seval,Za,men]
 refine ZZ (α:=Unit) b.inner.length (fun j _=>[(3,.hd (lvl,160) [] 0 j none j),(4,iI j)]) (fun j _=>[(160,.ar 1 (rS ((inn b).take j)) true j 0)]) (fun _ _=>True) () (by simp only[Zb,seval,Za,men]) (by (simp only[Zb,seval,Za,men]) <;> rfl) trivial ?_
 intro j _ hj _
 have hil:(inn b).length=b.inner.length:=by simp [inn]
 simp only[Uab,Zb,seval,Za,men]
 refine Zs (fun hlt=>?_) (fun hge=>?_)
 ·have hja:j<b.inner.length:=by omega
  have ga:=Jd (c:=ZU) hja
  have hlN:(rS ((inn b).take j)).length=j:=by rw[Uab,Uao];omega
  simp only[ga,ZU,hlN,Uab,Zb,seval,Za,men]
  have hstep:rS ((inn b).take j)++[[ts b.inner[j].name]]=rS ((inn b).take (j+1)):=by
   rw[Uah (by omega),Zd6]
   simp [inn]
  refine⟨by omega,by rw[Zh];omega,Zy () hja ?_ trivial⟩
  rw[<-hstep]
  rfl
 ·have:j=b.inner.length:=by omega
  subst this
  rw[Uar (by omega)]
  exact⟨hil.symm,rfl⟩
theorem Zvj(b:TBigraph)(hn:b.inner.length<=4294967296)(lvl:Nat)(S:Zc):Sem UbX Zdx lvl [.ag ((Zl b).map .tr)] S (.ow 1 (rS (inn b)) true) S:=by
 refine Zr Zus trivial ?_
 simp only[Zhw,Uab,Zl,Zb,seval,Za,men]
 refine ZZ (α:=Unit) b.inner.length (fun j _=>[(3,.hd (lvl,192) [] 0 j none j),(10,iI j)]) (fun j _=>[(192,.ar 1 (rS ((inn b).take j)) true j 0)]) (fun _ _=>True) () (by simp only[Zb,seval,Za,men]) (by (simp only[Zb,seval,Za,men]) <;> rfl) trivial ?_
 intro j _ hj _
 have hil:(inn b).length=b.inner.length:=by simp [inn]
 simp only[Uab,Zb,seval,Za,men]
 refine Zs (fun hlt=>?_) (fun hge=>?_)
 ·have hja:j<b.inner.length:=by omega
  have ga:=Jd (c:=ZU) hja
  have hlN:(rS ((inn b).take j)).length=j:=by rw[Uab,Uao];omega
  simp only[ga,ZU,hlN,Uab,Zb,seval,Za,men]
  have hstep:rS ((inn b).take j)++[[ts b.inner[j].name]]=rS ((inn b).take (j+1)):=by
   rw[Uah (by omega),Zd6]
   simp [inn]
  refine⟨by omega,by rw[Zh];omega,Zy () hja ?_ trivial⟩
  rw[<-hstep]
  rfl
 ·have:j=b.inner.length:=by omega
  subst this
  rw[Uar (by omega)]
  exact⟨hil.symm,rfl⟩
def Zbd(sig:List TControl)(b:TBigraph)(i:Nat):Prop:=∀ h:i<b.nodes.length,nodeOK sig b b.nodes[i] i
structure bigOK (sig:List TControl) (b:TBigraph):Prop where
 sg:VQ sig
 roots:0<=b.roots/\b.roots<=4
 nodesL:b.nodes.length<=8
 sitesL:b.sites.length<=4
 edges:0<=b.edges/\b.edges<=8
 outer:Vi b.outer
 inn:Vi (inn b)
 nodes:∀ i,Zbd sig b i
 sites:∀ p∈b.sites,YO sig b p b.nodes.length
 inner:∀ w∈b.inner,Vj b w.link
theorem Zbe{sig:List TControl}{b:TBigraph}{j:Nat}(h:∀ k,k<j->Zbd sig b k):Dn sig b j:=fun i hi hl=>(h i hi hl).ctl
theorem Xb{b:TBigraph}:(inn b).length=b.inner.length:=by simp [inn]
theorem Zio{b:TBigraph}{n:Nat}(h:∀ y∈b.inner,Vt n y):∀ y∈inn b,y.size<=n:=fun y hy=>by
 obtain⟨w,hw,rfl⟩:=UaG.1 hy
 exact h w hw
theorem Zvk(sig:List TControl)(b:TBigraph)(hn:sig.length<=4294967296)(hbs:∀ y∈sig,J2 4294967296 y)(hb:Vf 4294967296 b)(hf:Dd b)(lvl:Nat)(S:Zc):Sem UbX Zc9 lvl [.tr (.sl (sig.map ZE)),.ag ((Zl b).map .tr)] S (iB (dc (bigOK sig b))) S:=by
 obtain⟨b1,b2,b3,b4,b5,b6,b7⟩:=hb
 obtain⟨f1,f2,f3,f4,f5⟩:=hf
 refine Zr Zt9 trivial ?_
 simp only[Zhd,Uab,Zl,Zb,seval,Za,men]
 refine Zk (Zu3 sig (by omega) (fun y hy=>Zh8 (hbs y hy))) ?_
 cases h1:dc (VQ sig)
 ·simp only[Zb,seval,Za,men]
  rw[ZP fun h:bigOK sig b=>dc_not.1 h1 h.sg]
 simp only[Uab,Zl,Zb,seval,Za,men]
 refine Zk (Q7 b.roots 0 4) ?_
 cases h2:J3 b.roots 0 4
 ·simp only[Zb,seval,Za,men]
  rw[ZP fun h:bigOK sig b=>inB_not.1 h2 h.roots]
 by_cases h3:(8:Int)<b.nodes.length
 ·simp only[h3,Uab,Zl,Zb,seval,Za,men]
  rw[ZP fun h:bigOK sig b=>by have:=h.nodesL;omega]
 by_cases h4:(4:Int)<b.sites.length
 ·simp only[h3,h4,Uab,Zl,Zb,seval,Za,men]
  rw[ZP fun h:bigOK sig b=>by have:=h.sitesL;omega]
 simp only[h3,h4,Uab,Zl,Zb,seval,Za,men]
 refine Zk (Q7 b.edges 0 8) ?_
 cases h5:J3 b.edges 0 8
 ·simp only[Zb,seval,Za,men]
  rw[ZP fun h:bigOK sig b=>inB_not.1 h5 h.edges]
 have r2:=inB_iff.1 h2
 have r5:=inB_iff.1 h5
 simp only[Uab,Zl,Zb,seval,Za,men]
 refine Zk (Zii b.outer (by assumption) (by assumption)) ?_
 cases h6:dc (Vi b.outer)
 ·simp only[Zb,seval,Za,men]
  rw[ZP fun h:bigOK sig b=>dc_not.1 h6 h.outer]
 by_cases h7:(16:Int)<b.inner.length
 ·simp only[h7,Uab,Zl,Zb,seval,Za,men]
  rw[ZP fun h:bigOK sig b=>by have:=h.inn.2;rw[Xb] at this;omega]
 simp only[h7,Uab,Zl,Zb,seval,Za,men]
 refine Zk (Zvi b (by omega)) ?_
 simp only[Uab,Zl,Zb,seval,Za,men]
 refine Zk (Zii (inn b) (by rw[Xb];omega) (Zio (by assumption))) ?_
 cases h8:dc (Vi (inn b))
 ·simp only[Zb,seval,Za,men]
  rw[ZP fun h:bigOK sig b=>dc_not.1 h8 h.inn]
 simp only[Uab,Zl,Zb,seval,Za,men]
 have ho:=(dc_iff.1 h6).2
 refine ZZ (α:=Unit) b.nodes.length (fun j _=>[(5,iI j)]) (fun j _=>[]) (fun j _=>∀ k,k<j->Zbd sig b k) () (by simp only[Zb,seval,Za,men]) (by (simp only[Zb,seval,Za,men]) <;> rfl) (fun k hk=>absurd hk (UaZ k)) ?_
 intro j _ hj hA
 simp only[Uab,Zl,Zb,seval,Za,men]
 refine Zs (fun hlt=>?_) (fun hge=>?_)
 ·have hja:j<b.nodes.length:=by omega
  have hm:=Uan hja
  refine Zk (Zvh sig b j hja hn (by first | exact(b2 _ hm) | exact(b3 _ hm)) (by first | exact(f1 _ hm).2.1 | exact(f2 _ hm).2.1) r2 r5 (by omega) (Zbe hA)) ?_
  cases hc:dc (nodeOK sig b b.nodes[j] j)
  ·simp only[Zb,seval,Za,men]
   rw[ZP fun h:bigOK sig b=>dc_not.1 hc (h.nodes j hja)]
  ·simp only[Zb,seval,Za,men]
   exact⟨by rw[Zh];omega,Zy () hja rfl (Xa hA fun _=>dc_iff.1 hc)⟩
 have hj1:j=b.nodes.length:=by omega
 subst hj1
 refine ZZ (α:=Unit) b.sites.length (fun j _=>[(6,iI j)]) (fun j _=>[]) (fun j _=>∀ k,k<j->YO sig b (g0 b.sites k) b.nodes.length) () (by simp only[Zb,seval,Za,men]) (by (simp only[Zb,seval,Za,men]) <;> rfl) (fun k hk=>absurd hk (UaZ k)) ?_
 intro j _ hj hB
 simp only[Uab,Zl,Zb,seval,Za,men]
 refine Zs (fun hlt=>?_) (fun hge=>?_)
 ·have hja:j<b.sites.length:=by omega
  have ga:=Z5 hja
  have hg:g0 b.sites j∈b.sites:=by simp [hja]
  simp only[ga,Uab,Zl,Zb,seval,Za,men]
  refine Zk (Zim sig b (g0 b.sites j) b.nodes.length (by first | exact f3 _ hg | exact f2 _ hg | exact f4 _ hg) r2 (Uaf _) (Zbe hA)) ?_
  cases hc:dc (YO sig b (g0 b.sites j) b.nodes.length)
  ·simp only[Zb,seval,Za,men]
   rw[ZP fun h:bigOK sig b=>dc_not.1 hc (h.sites _ hg)]
  ·simp only[Zb,seval,Za,men]
   exact⟨by rw[Zh];omega,Zy () hja rfl (Xa hB (dc_iff.1 hc))⟩
 have hj1:j=b.sites.length:=by omega
 subst hj1
 refine ZZ (α:=Unit) b.inner.length (fun j _=>[(7,iI j)]) (fun j _=>[]) (fun j _=>∀ k,k<j->∀ h:k<b.inner.length,Vj b b.inner[k].link) () (by simp only[Zb,seval,Za,men]) (by (simp only[Zb,seval,Za,men]) <;> rfl) (fun k hk=>absurd hk (UaZ k)) ?_
 intro j _ hj hC
 simp only[Uab,Zl,Zb,seval,Za,men]
 refine Zs (fun hlt=>?_) (fun hge=>?_)
 ·have hja:j<b.inner.length:=by omega
  have ga:=Jd (c:=ZU) hja
  simp only[ga,ZU,Uab,Zl,Zb,seval,Za,men]
  refine Zk (Zik b b.inner[j].link r5 (by omega)) ?_
  cases hc:dc (Vj b b.inner[j].link)
  ·simp only[Zb,seval,Za,men]
   rw[ZP fun h:bigOK sig b=>dc_not.1 hc (h.inner _ (Uan hja))]
  ·simp only[Zb,seval,Za,men]
   exact⟨by rw[Zh];omega,Zy () hja rfl (Xa hC fun _=>dc_iff.1 hc)⟩
 have hj1:j=b.inner.length:=by omega
 subst hj1
 have:bigOK sig b:=⟨dc_iff.1 h1,r2,by omega,by omega,r5,dc_iff.1 h6,dc_iff.1 h8,fun i h=>hA i h h,fun p hp=>by
  obtain⟨k,hk,rfl⟩:=UaX hp
  have:=hB k hk
  simpa [hk] using this,fun w hw=>by
  obtain⟨k,hk,rfl⟩:=UaX hw
  exact hC k hk hk⟩
 rw[Vh this]
theorem Zvl(l:Int)(b:TBigraph)(he:0<=b.edges/\b.edges<=8)(ho:b.outer.length<=4294967296)(lvl:Nat)(S:Zc):Sem UbX Zdz lvl [iI l,.ta (Zl b)] S (iB (!dc (Vj b l))) S:=by
 refine Zr Zuu trivial ?_
 simp only[Zhy,Zl,Zb,seval,Za,men]
 refine Zk (Zil b l he ho) ?_
 simp only[Zb,seval,Za,men]
theorem Zvm(p:Int)(sig:List TControl)(b:TBigraph)(hr:0<=b.roots/\b.roots<=4)(hc:Dn sig b b.nodes.length)(lvl:Nat)(S:Zc):Sem UbX ZdA lvl [iI p,.ta (Zl b),.ta [Tr.sl (sig.map ZE)]] S (iB (!dc (YO sig b p b.nodes.length))) S:=by
 refine Zr Zuw trivial ?_
 simp only[ZhA,Zl,Uab,Zb,seval,Za,men]
 refine Zk (Zin sig b p b.nodes.length hr (Uaf _) hc) ?_
 simp only[Zb,seval,Za,men]
theorem Zvn(w:TWire)(b:TBigraph)(he:0<=b.edges/\b.edges<=8)(ho:b.outer.length<=4294967296)(lvl:Nat)(S:Zc):Sem UbX ZdB lvl [.ag ((ZU w).map .tr),.ta (Zl b)] S (iB (!dc (Vj b w.link))) S:=by
 refine Zr Zux trivial ?_
 simp only[ZhB,Zl,ZU,Zb,seval,Za,men]
 refine Zk (Zil b w.link he ho) ?_
 simp only[Zb,seval,Za,men]
theorem Zvo:Zo UbX Zg8 (Q6 2 (some 2))=true:=by kernel_rfl
theorem Zvp:Zo UbX Zg4 (Wg Zg8)=true:=by kernel_rfl
theorem any_no{α:Type}{l:List α}{p:α->Prop}:(l.any fun n=>!dc (p n))=false↔∀ n∈l,p n:=by
 simp only[List.any_eq_false,Uau,Bool.not_eq_false,dc_iff]
theorem Zvq(sig:List TControl)(b:TBigraph)(hn:sig.length<=4294967296)(hbs:∀ y∈sig,J2 4294967296 y)(hb:Vf 4294967296 b)(lvl:Nat)(S:Zc):Sem UbX Zdf lvl [.tr (.sl (sig.map ZE)),.ag ((Zl b).map .tr)] S (iB (dc (bigOK sig b))) S:=by
 obtain⟨b1,b2,b3,b4,b5,b6,b7⟩:=hb
 refine Zr Zub trivial ?_
 simp only[Zhf,Uab,Zl,Zb,seval,Za,men]
 refine Zk (Zu4 sig (by omega) (fun y hy=>Zh8 (hbs y hy))) ?_
 cases h1:dc (VQ sig)
 ·simp only[Zb,seval,Za,men]
  rw[ZP fun h:bigOK sig b=>dc_not.1 h1 h.sg]
 simp only[Uab,Zl,Zb,seval,Za,men]
 refine Zk (XI b.roots 0 4) ?_
 cases h2:J3 b.roots 0 4
 ·simp only[Zb,seval,Za,men]
  rw[ZP fun h:bigOK sig b=>inB_not.1 h2 h.roots]
 by_cases h3:(8:Int)<b.nodes.length
 ·simp only[h3,Uab,Zl,Zb,seval,Za,men]
  rw[ZP fun h:bigOK sig b=>by have:=h.nodesL;omega]
 by_cases h4:(4:Int)<b.sites.length
 ·simp only[h3,h4,Uab,Zl,Zb,seval,Za,men]
  rw[ZP fun h:bigOK sig b=>by have:=h.sitesL;omega]
 simp only[h3,h4,Uab,Zl,Zb,seval,Za,men]
 refine Zk (XI b.edges 0 8) ?_
 cases h5:J3 b.edges 0 8
 ·simp only[Zb,seval,Za,men]
  rw[ZP fun h:bigOK sig b=>inB_not.1 h5 h.edges]
 have r2:=inB_iff.1 h2
 have r5:=inB_iff.1 h5
 simp only[Uab,Zl,Zb,seval,Za,men]
 refine Zk (Zij b.outer (by assumption) (by assumption)) ?_
 cases h6:dc (Vi b.outer)
 ·simp only[Zb,seval,Za,men]
  rw[ZP fun h:bigOK sig b=>dc_not.1 h6 h.outer]
 simp only[Uab,Zl,Zb,seval,Za,men]
 refine Zk (Zvj b (by omega)) ?_
 simp only[Uab,Zl,Zb,seval,Za,men]
 refine Zk (Zij (inn b) (by rw[Xb];omega) (Zio (by assumption))) ?_
 cases h8:dc (Vi (inn b))
 ·simp only[Zb,seval,Za,men]
  rw[ZP fun h:bigOK sig b=>dc_not.1 h8 h.inn]
 simp only[Uab,Zl,Zb,seval,Za,men]
 have ho:=(dc_iff.1 h6).2
 refine ZZ (α:=Unit) b.nodes.length (fun j _=>[(49,iI j)]) (fun j _=>[]) (fun j _=>∀ k,k<j->Zbd sig b k) () (by simp only[Zb,seval,Za,men]) (by (simp only[Zb,seval,Za,men]) <;> rfl) (fun k hk=>absurd hk (UaZ k)) ?_
 intro j _ hj hA
 simp only[Uab,Zl,Zb,seval,Za,men]
 refine Zs (fun hlt=>?_) (fun hge=>?_)
 ·have hja:j<b.nodes.length:=by omega
  have hm:=Uan hja
  have ga:=Jd (c:=ZB) hja
  have hll:b.nodes[j].links.length<=4294967296:=by first | exact(b2 _ hm) | exact(b3 _ hm)
  have hno:¬ nodeOK sig b b.nodes[j] j->dc (bigOK sig b)=false:=fun h=>ZP fun g=>h (g.nodes j hja)
  simp only[ga,ZB,Uab,Zl,Zb,seval,Za,men]
  refine⟨by rw[Zh];omega,?_⟩
  refine Zk (XI b.nodes[j].control 0 ((sig.length:Int)-1)) ?_
  cases p1:J3 b.nodes[j].control 0 ((sig.length:Int)-1)
  ·simp only[Zb,seval,Za,men]
   rw[hno fun h=>inB_not.1 p1 h.ctl]
  have q1:=inB_iff.1 p1
  simp only[ZB,Uab,Zl,Zb,seval,Za,men]
  refine Zk (Zin sig b b.nodes[j].parent j r2 (by omega) (Zbe hA)) ?_
  cases p2:dc (YO sig b b.nodes[j].parent j)
  ·simp only[Zb,seval,Za,men]
   rw[hno fun h=>dc_not.1 p2 h.par]
  obtain⟨m,hmm⟩:∃ m:Nat,b.nodes[j].control=m:=⟨b.nodes[j].control.toNat,by omega⟩
  have hms:m<sig.length:=by omega
  have gs:=Jd (c:=ZE) hms
  have e:Wl sig b.nodes[j].control=sig[m].ports:=by simp [Wl,hmm,hms]
  by_cases p3:(b.nodes[j].links.length:Int)=sig[m].ports
  case neg =>
   simp only[p3,hmm,gs,Int.toNat_natCast,Uak,ZE,ZB,Uab,Zl,Zb,seval,Za,men]
   rw[hno fun h=>p3 (by rw[<-e];exact h.ports)]
  simp only[p3,hmm,gs,Int.toNat_natCast,Uak,ZE,ZB,Uab,Zl,Zb,seval,Za,men]
  refine Zk (ZhX (t:=tv) (cs:=[Zl b]) Zh5 Zh4 b.nodes[j].links (by omega) (fun x _ lvl S=>Zvl x b r5 (by omega) lvl S)) ?_
  cases p4:b.nodes[j].links.any fun l=>!dc (Vj b l)
  ·simp only[Zb,seval,Za,men]
   exact⟨by rw[Zh];omega,Zy () hja rfl (Xa hA fun _=>⟨q1,dc_iff.1 p2,by rw[e];exact p3,any_no.1 p4⟩)⟩
  ·simp only[Zb,seval,Za,men]
   rw[hno fun h=>by rw[any_no.2 h.links] at p4;cases p4]
 have hj1:j=b.nodes.length:=by omega
 subst hj1
 refine Zk (ZhX (t:=tv) (cs:=[Zl b,[Tr.sl (sig.map ZE)]]) Zh5 Zh4 b.sites (by omega) (fun x _ lvl S=>Zvm x sig b r2 (Zbe hA) lvl S)) ?_
 cases h9:b.sites.any fun p=>!dc (YO sig b p b.nodes.length)
 case true =>
  simp only[Zb,seval,Za,men]
  rw[ZP fun h:bigOK sig b=>by rw[any_no.2 h.sites] at h9;cases h9]
 simp only[Uab,Zl,Zb,seval,Za,men]
 refine Zk (ZhY (cs:=[Zl b]) Zvp Zvo (fun x=>rfl) b.inner (by omega) (fun x _ lvl S=>Zvn x b r5 (by omega) lvl S)) ?_
 cases h10:b.inner.any fun w=>!dc (Vj b w.link)
 case true =>
  simp only[Zb,seval,Za,men]
  rw[ZP fun h:bigOK sig b=>by rw[(any_no (p:=fun w:TWire=>Vj b w.link)).2 h.inner] at h10;cases h10]
 simp only[Zb,seval,Za,men]
 have:bigOK sig b:=⟨dc_iff.1 h1,r2,by omega,by omega,r5,dc_iff.1 h6,dc_iff.1 h8,fun i h=>hA i h h,any_no.1 h9,any_no.1 h10⟩
 rw[Vh this]
def YV(f:Nat->Prop)[DecidablePred f]:Nat->List Int
 | 0=>[]
 | j+1=>if f j then YV f j++[(j:Int)] else YV f j
theorem Qz{f:Nat->Prop}[DecidablePred f]:∀{j:Nat},(YV f j).length<=j
 | 0=>Uaf 0
 | j+1=>by
  unfold YV
  have:=Qz (f:=f) (j:=j)
  split
  ·rw[Uai,List.length_singleton];omega
  ·omega
theorem Zbf{f:Nat->Prop}[DecidablePred f]{j:Nat}(h:f j):YV f (j+1)=YV f j++[(j:Int)]:=by rw[YV,if_pos h]
theorem Zbg{f:Nat->Prop}[DecidablePred f]{j:Nat}(h:¬ f j):YV f (j+1)=YV f j:=by rw[YV,if_neg h]
def Zd7(b:TBigraph)(j:Nat):Int:=((b.nodes[j]?).map TNode.parent).getD 0
theorem Zbh{b:TBigraph}{j:Nat}(h:j<b.nodes.length):Zd7 b j=b.nodes[j].parent:=by simp [Zd7,h]
abbrev YW(b:TBigraph)(p:Int):Nat->List Int:=YV fun j=>Zd7 b j=p
abbrev YX(b:TBigraph)(p:Int):Nat->List Int:=YV fun j=>g0 b.sites j=p
def kids(b:TBigraph)(p:Int):List Int:=YW b p b.nodes.length
def Yu(b:TBigraph)(p:Int):List Int:=YX b p b.sites.length
theorem Zvr(b:TBigraph)(p:Int)(hl:b.nodes.length<=4294967296)(lvl:Nat)(S:Zc):Sem UbX ZdP lvl [.ag ((Zl b).map .tr),iI p] S (.ow 1 (rI (kids b p)) true) S:=by
 refine Zr ZuO trivial ?_
 simp only[ZhR,Zl,Uab,Zb,seval,Za,men]
 refine ZZ (α:=Unit) b.nodes.length (fun j _=>[(5,.hd (lvl,224) [] 0 (YW b p j).length none (YW b p j).length),(6,iI j)]) (fun j _=>[(224,.ar 1 (rI (YW b p j)) true (YW b p j).length 0)]) (fun _ _=>True) () (by simp only[Zb,seval,Za,men]) (by (simp only[Zb,seval,Za,men]) <;> rfl) trivial ?_
 intro j _ hj _
 simp only[Uab,Zb,seval,Za,men]
 refine Zs (fun hlt=>?_) (fun hge=>?_)
 ·have hja:j<b.nodes.length:=by omega
  have ga:=Jd (c:=ZB) hja
  have hle:(YW b p j).length<=j:=Qz
  simp only[ga,ZB,Uab,Zb,seval,Za,men]
  refine Zs (fun he=>?_) (fun hne=>?_)
  ·refine⟨by omega,by rw[Zh];omega,Zy () hja ?_ trivial⟩
   rw[YW,Zbf (by rw[Zbh hja];exact he),Uai,Vv]
   rfl
  ·refine⟨by rw[Zh];omega,Zy () hja ?_ trivial⟩
   rw[YW,Zbg (by rw[Zbh hja];exact hne)]
   rfl
 ·have:j=b.nodes.length:=by omega
  subst this
  rfl
theorem Zvs(b:TBigraph)(p:Int)(hl:b.sites.length<=4294967296)(lvl:Nat)(S:Zc):Sem UbX ZdQ lvl [.ag ((Zl b).map .tr),iI p] S (.ow 1 (rI (Yu b p)) true) S:=by
 refine Zr ZuP trivial ?_
 simp only[ZhS,Zl,Uab,Zb,seval,Za,men]
 refine ZZ (α:=Unit) b.sites.length (fun j _=>[(5,.hd (lvl,224) [] 0 (YX b p j).length none (YX b p j).length),(6,iI j)]) (fun j _=>[(224,.ar 1 (rI (YX b p j)) true (YX b p j).length 0)]) (fun _ _=>True) () (by simp only[Zb,seval,Za,men]) (by (simp only[Zb,seval,Za,men]) <;> rfl) trivial ?_
 intro j _ hj _
 simp only[Uab,Zb,seval,Za,men]
 refine Zs (fun hlt=>?_) (fun hge=>?_)
 ·have hja:j<b.sites.length:=by omega
  have ga:=Z5 hja
  have hle:(YX b p j).length<=j:=Qz
  simp only[ga,Uab,Zb,seval,Za,men]
  refine Zs (fun he=>?_) (fun hne=>?_)
  ·refine⟨by omega,by rw[Zh];omega,Zy () hja ?_ trivial⟩
   rw[YX,Zbf (f:=fun j=>g0 b.sites j=p) he,Uai,Vv]
   rfl
  ·refine⟨by rw[Zh];omega,Zy () hja ?_ trivial⟩
   rw[YX,Zbg (f:=fun j=>g0 b.sites j=p) hne]
   rfl
 ·have:j=b.sites.length:=by omega
  subst this
  rfl
theorem Zip(b:TBigraph)(p:Int)(hn:b.nodes.length<=4294967296)(hl:b.sites.length<=4294967296)(lvl:Nat)(S:Zc):Sem UbX ZdD lvl [.ag ((Zl b).map .tr),iI p] S (.tu [.ow 1 (rI (kids b p)) true,.ow 1 (rI (Yu b p)) true]) S:=by
 refine Zr Zuz ⟨trivial,trivial,trivial⟩ ?_
 simp only[ZhD,Zl,Uab,Zb,seval,Za,men]
 refine ZZ (α:=Unit) b.nodes.length (fun j _=>[(6,.hd (lvl,384) [] 0 (YW b p j).length none (YW b p j).length),(17,iI j)]) (fun j _=>[(384,.ar 1 (rI (YW b p j)) true (YW b p j).length 0)]) (fun _ _=>True) () (by simp only[Zb,seval,Za,men]) (by (simp only[Zb,seval,Za,men]) <;> rfl) trivial ?_
 intro j _ hj _
 simp only[Uab,Zb,seval,Za,men]
 refine Zs (fun hlt=>?_) (fun hge=>?_)
 ·have hja:j<b.nodes.length:=by omega
  have ga:=Jd (c:=ZB) hja
  have hle:(YW b p j).length<=j:=Qz
  simp only[ga,ZB,Uab,Zb,seval,Za,men]
  refine Zs (fun he=>?_) (fun hne=>?_)
  ·refine⟨by omega,by rw[Zh];omega,Zy () hja ?_ trivial⟩
   rw[YW,Zbf (by rw[Zbh hja];exact he),Uai,Vv]
   rfl
  ·refine⟨by rw[Zh];omega,Zy () hja ?_ trivial⟩
   rw[YW,Zbg (by rw[Zbh hja];exact hne)]
   rfl
 have:j=b.nodes.length:=by omega
 subst this
 refine ZZ (α:=Unit) b.sites.length (fun j _=>[(7,.hd (lvl,416) [] 0 (YX b p j).length none (YX b p j).length),(34,iI j)]) (fun j _=>[(416,.ar 1 (rI (YX b p j)) true (YX b p j).length 0)]) (fun _ _=>True) () (by simp only[Zb,seval,Za,men]) (by (simp only[Zb,seval,Za,men]) <;> rfl) trivial ?_
 intro j _ hj _
 simp only[Uab,Zb,seval,Za,men]
 refine Zs (fun hlt=>?_) (fun hge=>?_)
 ·have hja:j<b.sites.length:=by omega
  have ga:=Z5 hja
  have hle:(YX b p j).length<=j:=Qz
  simp only[ga,Uab,Zb,seval,Za,men]
  refine Zs (fun he=>?_) (fun hne=>?_)
  ·refine⟨by omega,by rw[Zh];omega,Zy () hja ?_ trivial⟩
   rw[YX,Zbf (f:=fun j=>g0 b.sites j=p) he,Uai,Vv]
   rfl
  ·refine⟨by rw[Zh];omega,Zy () hja ?_ trivial⟩
   rw[YX,Zbg (f:=fun j=>g0 b.sites j=p) hne]
   rfl
 ·have:j=b.sites.length:=by omega
  subst this
  rfl
def YY(x:Int×Int):List Tr:=[tv x.1,tv x.2]
def JG(l:Int)(i:Nat)(ls:List Int):Nat->List (Int×Int)
 | 0=>[]
 | k+1=>if g0 ls k=l then JG l i ls k++[((i:Int),(k:Int))] else JG l i ls k
theorem Do{l:Int}{i:Nat}{ls:List Int}:∀{k:Nat},(JG l i ls k).length<=k
 | 0=>Uaf 0
 | k+1=>by
  unfold JG
  have:=Do (l:=l) (i:=i) (ls:=ls) (k:=k)
  split
  ·rw[Uai,List.length_singleton];omega
  ·omega
theorem Ziq{l:Int}{i:Nat}{ls:List Int}{k:Nat}(h:g0 ls k=l):JG l i ls (k+1)=JG l i ls k++[((i:Int),(k:Int))]:=by rw[JG,if_pos h]
theorem Zir{l:Int}{i:Nat}{ls:List Int}{k:Nat}(h:¬ g0 ls k=l):JG l i ls (k+1)=JG l i ls k:=by rw[JG,if_neg h]
def ZF(b:TBigraph)(j:Nat):List Int:=((b.nodes[j]?).map TNode.links).getD []
theorem Wm{b:TBigraph}{j:Nat}(h:j<b.nodes.length):ZF b j=b.nodes[j].links:=by simp [ZF,h]
def Jq(b:TBigraph)(l:Int):Nat->List (Int×Int)
 | 0=>[]
 | i+1=>Jq b l i++JG l i (ZF b i) (ZF b i).length
def ports(b:TBigraph)(l:Int):List (Int×Int):=Jq b l b.nodes.length
theorem Zbi{b:TBigraph}{l:Int}(h:∀ x∈b.nodes,x.links.length<=1000):∀{j:Nat},j<=b.nodes.length->(Jq b l j).length<=j*1000
 | 0,_=>Ua9 _
 | j+1,hj=>by
  have ih:=Zbi h (l:=l) (j:=j) (by omega)
  have h1:=Do (l:=l) (i:=j) (ls:=ZF b j) (k:=(ZF b j).length)
  have h2:=h _ (Uan (show j<b.nodes.length by omega))
  rw[Jq,Uai]
  rw[Wm (by omega)] at h1 ⊢
  omega
def J7(b:TBigraph)(j:Nat):Int:=((b.inner[j]?).map TWire.link).getD 0
def XK(b:TBigraph)(j:Nat):ByteArray:=((b.inner[j]?).map TWire.name).getD ⟨#[]⟩
theorem Zd8{b:TBigraph}{j:Nat}(h:j<b.inner.length):J7 b j=b.inner[j].link:=by simp [J7,h]
theorem Uc{b:TBigraph}{j:Nat}(h:j<b.inner.length):XK b j=b.inner[j].name:=by simp [XK,h]
def J4(b:TBigraph)(l:Int):Nat->List ByteArray
 | 0=>[]
 | j+1=>if J7 b j=l then J4 b l j++[XK b j] else J4 b l j
theorem Zbj{b:TBigraph}{l:Int}:∀{j:Nat},(J4 b l j).length<=j
 | 0=>Uaf 0
 | j+1=>by
  unfold J4
  have:=Zbj (b:=b) (l:=l) (j:=j)
  split
  ·rw[Uai,List.length_singleton];omega
  ·omega
theorem Zvt{b:TBigraph}{l:Int}{j:Nat}(h:J7 b j=l):J4 b l (j+1)=J4 b l j++[XK b j]:=by rw[J4,if_pos h]
theorem Zvu{b:TBigraph}{l:Int}{j:Nat}(h:¬ J7 b j=l):J4 b l (j+1)=J4 b l j:=by rw[J4,if_neg h]
def Jt(b:TBigraph)(l:Int):List ByteArray:=J4 b l b.inner.length
theorem Zis(a b:List (Int×Int)):(a++b).map YY=a.map YY++b.map YY:=Ua8
theorem Zvv(b:TBigraph)(l:Int)(hn:b.nodes.length<=1000)(hk:∀ x∈b.nodes,x.links.length<=1000)(lvl:Nat)(S:Zc):Sem UbX ZdR lvl [.ag ((Zl b).map .tr),iI l] S (.ow 2 ((ports b l).map YY) true) S:=by
 refine Zr ZuQ trivial ?_
 simp only[ZhT,Zl,Uab,Zb,seval,Za,men]
 refine ZZ (α:=Unit) b.nodes.length (fun j _=>[(5,.hd (lvl,256) [] 0 (Jq b l j).length none (Jq b l j).length),(6,iI j)]) (fun j _=>[(256,.ar 2 ((Jq b l j).map YY) true (Jq b l j).length 0)]) (fun _ _=>True) () (by simp only[Zb,seval,Za,men]) (by (simp only[Zb,seval,Za,men]) <;> rfl) trivial ?_
 intro j _ hj _
 simp only[Uab,Zb,seval,Za,men]
 refine Zs (fun hlt=>?_) (fun hge=>?_)
 ·have hja:j<b.nodes.length:=by omega
  have ga:=Jd (c:=ZB) hja
  have hle:=Zbi hk (l:=l) hj
  have hlk:=hk _ (Uan hja)
  refine ZZ (α:=Unit) b.nodes[j].links.length (fun k _=>[(5,.hd (lvl,256) [] 0 (Jq b l j++JG l j b.nodes[j].links k).length none (Jq b l j++JG l j b.nodes[j].links k).length),(7,iI k)]) (fun k _=>[(256,.ar 2 ((Jq b l j++JG l j b.nodes[j].links k).map YY) true (Jq b l j++JG l j b.nodes[j].links k).length 0)]) (fun _ _=>True) () (by simp only[Zb,seval,Za,men]) (by (simp only[JG,Ua5,Zb,seval,Za,men]) <;> rfl) trivial ?_
  intro k _ hkk _
  simp only[ga,ZB,Uab,Zb,seval,Za,men]
  refine Zs (fun hlt2=>?_) (fun hge2=>?_)
  ·have hka:k<b.nodes[j].links.length:=by omega
   have gl:=Z5 hka
   have hr:=Do (l:=l) (i:=j) (ls:=b.nodes[j].links) (k:=k)
   simp only[ga,gl,ZB,Uab,Zb,seval,Za,men]
   refine Zs (fun he=>?_) (fun hne=>?_)
   ·refine⟨by rw[Uai];omega,by rw[Zh];omega,Zy () hka ?_ trivial⟩
    rw[Ziq he,<-Uav,Uai (bs:=[_]),Zis (Jq b l j++_)]
    rfl
   ·refine⟨by rw[Zh];omega,Zy () hka ?_ trivial⟩
    rw[Zir hne]
    rfl
  ·have:k=b.nodes[j].links.length:=by omega
   subst this
   refine⟨by rw[Zh];omega,Zy () hja ?_ trivial⟩
   rw[Jq,Wm hja]
   rfl
 ·have:j=b.nodes.length:=by omega
  subst this
  rfl
theorem Zit(b:TBigraph)(l:Int)(hn:b.nodes.length<=1000)(hk:∀ x∈b.nodes,x.links.length<=1000)(hi:b.inner.length<=4294967296)(lvl:Nat)(S:Zc):Sem UbX ZdE lvl [.ag ((Zl b).map .tr),iI l] S (.tu [.ow 2 ((ports b l).map YY) true,.ow 1 (rS (Jt b l)) true]) S:=by
 refine Zr ZuB ⟨trivial,trivial,trivial⟩ ?_
 simp only[ZhF,Zl,Uab,Zb,seval,Za,men]
 refine ZZ (α:=Unit) b.nodes.length (fun j _=>[(6,.hd (lvl,448) [] 0 (Jq b l j).length none (Jq b l j).length),(19,iI j)]) (fun j _=>[(448,.ar 2 ((Jq b l j).map YY) true (Jq b l j).length 0)]) (fun _ _=>True) () (by simp only[Zb,seval,Za,men]) (by (simp only[Zb,seval,Za,men]) <;> rfl) trivial ?_
 intro j _ hj _
 simp only[Uab,Zb,seval,Za,men]
 refine Zs (fun hlt=>?_) (fun hge=>?_)
 ·have hja:j<b.nodes.length:=by omega
  have ga:=Jd (c:=ZB) hja
  have hle:=Zbi hk (l:=l) hj
  have hlk:=hk _ (Uan hja)
  simp only[ga,ZB,Uab,Zb,seval,Za,men]
  refine ZZ (α:=Unit) b.nodes[j].links.length (fun k _=>[(6,.hd (lvl,448) [] 0 (Jq b l j++JG l j b.nodes[j].links k).length none (Jq b l j++JG l j b.nodes[j].links k).length),(27,iI k)]) (fun k _=>[(448,.ar 2 ((Jq b l j++JG l j b.nodes[j].links k).map YY) true (Jq b l j++JG l j b.nodes[j].links k).length 0)]) (fun _ _=>True) () (by simp only[Zb,seval,Za,men]) (by (simp only[JG,Ua5,Zb,seval,Za,men]) <;> rfl) trivial ?_
  intro k _ hkk _
  simp only[ga,ZB,Uab,Zb,seval,Za,men]
  refine Zs (fun hlt2=>?_) (fun hge2=>?_)
  ·have hka:k<b.nodes[j].links.length:=by omega
   have gl:=Z5 hka
   have hr:=Do (l:=l) (i:=j) (ls:=b.nodes[j].links) (k:=k)
   simp only[ga,gl,ZB,Uab,Zb,seval,Za,men]
   refine Zs (fun he=>?_) (fun hne=>?_)
   ·refine⟨by rw[Uai];omega,by rw[Zh];omega,Zy () hka ?_ trivial⟩
    rw[Ziq he,<-Uav,Uai (bs:=[_]),Zis (Jq b l j++_)]
    rfl
   ·refine⟨by rw[Zh];omega,Zy () hka ?_ trivial⟩
    rw[Zir hne]
    rfl
  ·have:k=b.nodes[j].links.length:=by omega
   subst this
   refine⟨by rw[Zh];omega,Zy () hja ?_ trivial⟩
   rw[Jq,Wm hja]
   rfl
 have:j=b.nodes.length:=by omega
 subst this
 refine ZZ (α:=Unit) b.inner.length (fun j _=>[(7,.hd (lvl,480) [] 0 (J4 b l j).length none (J4 b l j).length),(46,iI j)]) (fun j _=>[(480,.ar 1 (rS (J4 b l j)) true (J4 b l j).length 0)]) (fun _ _=>True) () (by simp only[Zb,seval,Za,men]) (by (simp only[Zb,seval,Za,men]) <;> rfl) trivial ?_
 intro j _ hj _
 simp only[Uab,Zb,seval,Za,men]
 refine Zs (fun hlt=>?_) (fun hge=>?_)
 ·have hja:j<b.inner.length:=by omega
  have ga:=Jd (c:=ZU) hja
  have hle:=Zbj (b:=b) (l:=l) (j:=j)
  simp only[ga,ZU,Uab,Zb,seval,Za,men]
  refine Zs (fun he=>?_) (fun hne=>?_)
  ·refine⟨by omega,by rw[Zh];omega,Zy () hja ?_ trivial⟩
   rw[Zvt (by rw[Zd8 hja];exact he),Uai,Zd6,Uc hja]
   rfl
  ·refine⟨by rw[Zh];omega,Zy () hja ?_ trivial⟩
   rw[Zvu (by rw[Zd8 hja];exact hne)]
   rfl
 ·have:j=b.inner.length:=by omega
  subst this
  rfl
def Ud(l:List UInt8):Nat:=l.foldl (fun a c=>10*a+(c.toNat-48)) 0
def dvI:List UInt8->Int
 | []=>0
 | c::r=>if c.toNat=45 then -(Ud r:Int) else (Ud (c::r):Int)
theorem QA{x:Nat}(h:x<10):(UInt8.ofNat (48+x)).toNat=48+x:=by
 have key:∀ a:Fin 10,(UInt8.ofNat (48+a.val)).toNat=48+a.val:=by decide
 exact key ⟨x,h⟩
theorem Ziu{u:Nat}(h:u<100):Ud (Lib.decDigits u)=u/\∃ c r,Lib.decDigits u=c::r/\48<=c.toNat/\c.toNat<58:=by
 by_cases h1:u<10
 ·rw[dd1 h1]
  refine⟨?_,_,_,rfl,?_,?_⟩
  ·show 10*0+((UInt8.ofNat (48+u)).toNat-48)=u
   rw[QA h1];omega
  ·rw[QA h1];omega
  ·rw[QA h1];omega
 ·rw[dd2 (by omega) h]
  refine⟨?_,_,_,rfl,?_,?_⟩
  ·show 10*(10*0+((UInt8.ofNat (48+u / 10)).toNat-48))+((UInt8.ofNat (48+u % 10)).toNat-48)=u
   rw[QA (by omega),QA (by omega)];omega
  ·rw[QA (by omega)];omega
  ·rw[QA (by omega)];omega
def lo8(w:ByteArray):Prop:=∃ c r,bl w=c::r/\c.toNat<97
def hi8(w:ByteArray):Prop:=∃ c r,bl w=c::r/\97<=c.toNat
theorem Dp{w:ByteArray}(h1:lo8 w)(h2:hi8 w):False:=by
 obtain⟨c,r,e1,g1⟩:=h1
 obtain⟨d,q,e2,g2⟩:=h2
 rw[e1] at e2
 injection e2 with e3 _
 rw[e3] at g1
 omega
theorem Dq{n:Int}(h:YN n):dvI (bl (Je n))=n/\lo8 (Je n):=by
 obtain⟨h1,h2⟩:=h
 by_cases h0:0<=n
 ·obtain⟨u,rfl⟩:=Ua2 h0
  obtain⟨e1,c,r,e2,e3,e4⟩:=Ziu (u:=u) (by omega)
  have hb:bl (Je u)=c::r:=by
   rw[Zd3 h0]
   unfold Qx
   rw[Wj,Int.toNat_natCast,e2]
  rw[e2] at e1
  refine⟨?_,c,r,hb,by omega⟩
  rw[hb]
  show (if c.toNat=45 then -(Ud r:Int) else (Ud (c::r):Int))=(u:Int)
  rw[if_neg (by omega),e1]
 ·obtain⟨u,hu⟩:=Ua2 (show 0 <= -n by omega)
  obtain⟨e1,c,r,e2,e3,e4⟩:=Ziu (u:=u) (by omega)
  have hb:bl (Je n)=45::c::r:=by
   rw[Zd4 (by omega),Vw,hu]
   unfold Qx
   rw[Wj,Int.toNat_natCast,e2]
   rfl
  rw[e2] at e1
  refine⟨?_,45,c::r,hb,by decide⟩
  rw[hb]
  show -(Ud (c::r):Int)=n
  rw[e1];omega
theorem Dr{n m:Int}(hn:YN n)(hm:YN m)(h:Je n=Je m):n=m:=by
 rw[<-(Dq hn).1,h,(Dq hm).1]
theorem Ds{n:Int}(h:YN n):(32:UInt8) ∉ bl (Je n):=by
 obtain⟨h1,h2⟩:=h
 have key:∀ u,u<100->(32:UInt8) ∉ Lib.decDigits u:=fun u hu hm=>by
  by_cases g:u<10
  ·rw[dd1 g,UaO] at hm
   have:=congrArg UInt8.toNat hm
   rw[QA g] at this
   have e:(32:UInt8).toNat=32:=rfl
   omega
  ·rw[dd2 (by omega) hu] at hm
   have e:(32:UInt8).toNat=32:=rfl
   simp only[UaP,List.not_mem_nil,or_false] at hm
   rcases hm with hm | hm
   ·have:=congrArg UInt8.toNat hm
    rw[QA (by omega)] at this
    omega
   ·have:=congrArg UInt8.toNat hm
    rw[QA (by omega)] at this
    omega
 by_cases h0:0<=n
 ·rw[Zd3 h0]
  unfold Qx
  rw[Wj]
  exact key _ (by omega)
 ·rw[Zd4 (by omega),Vw]
  unfold Qx
  rw[Wj]
  intro hm
  rcases Uas.1 hm with hm | hm
  ·revert hm;decide
  ·exact key _ (by omega) hm
abbrev wOWN:ByteArray:=⟨#[111,119,110]⟩
abbrev wIN:ByteArray:=⟨#[105,110]⟩
abbrev Ziv:ByteArray:=⟨#[107,105,100,115]⟩
abbrev Ziw:ByteArray:=⟨#[115,105,116,101,115]⟩
abbrev Wn:ByteArray:=⟨#[111,117,116,101,114]⟩
abbrev Ue:ByteArray:=⟨#[101,100,103,101]⟩
theorem Zix{w:ByteArray}(h:J6 w):hi8 w:=by
 cases e:bl w with
 | nil =>
  have:=Zh9 w
  have h2:=h.2.1
  rw[e] at this
  simp at this
  omega
 | cons c r=>exact⟨c,r,e,(h.1 c (by show c∈bl w;rw[e];simp)).1⟩
theorem Ziy{w:ByteArray}(h:J6 w):(32:UInt8) ∉ bl w:=fun hm=>by
 have:=(h.1 32 hm).1
 revert this;decide
inductive LD where
 | out (n:ByteArray)
 | edg (p:List Int) (ns:List ByteArray)
def J0:LD->List ByteArray
 | .out n=>[Wn,n]
 | .edg p ns=>Ue::(p.map Je++ns)
def Zbk(l:List Int):Prop:=∀ k∈l,YN k
def Wo:LD->Prop
 | .out n=>(32:UInt8) ∉ bl n
 | .edg p ns=>p≠[]/\Zbk p/\∀ n∈ns,J6 n
def Zbl(x:List ByteArray):Prop:=x=[]\/∃ h t,x=h::t/\hi8 h
theorem Zd9:∀{a b:List Int} {x y:List ByteArray},Zbk a->Zbk b->Zbl x->Zbl y->a.map Je++x=b.map Je++y->a=b/\x=y
 | [],[],x,y,_,_,_,_,h=>⟨rfl,h⟩
 | [],m::b,x,y,_,hb,hx,_,h=>by
  exfalso
  rw[UaR,List.nil_append] at h
  rcases hx with rfl | ⟨w,t,rfl,hw⟩
  ·cases h
  ·injection h with h1 _
   rw[h1] at hw
   exact Dp (Dq (hb m (by simp))).2 hw
 | n::a,[],x,y,ha,_,_,hy,h=>by
  exfalso
  rw[UaR,List.nil_append] at h
  rcases hy with rfl | ⟨w,t,rfl,hw⟩
  ·cases h
  ·injection h with h1 _
   rw[<-h1] at hw
   exact Dp (Dq (ha n (by simp))).2 hw
 | n::a,m::b,x,y,ha,hb,hx,hy,h=>by
  injection h with h1 h2
  obtain⟨e1,e2⟩:=Zd9 (fun k hk=>ha k (by simp [hk])) (fun k hk=>hb k (by simp [hk])) hx hy h2
  exact⟨by rw[Dr (ha n (by simp)) (hb m (by simp)) h1,e1],e2⟩
def Wp(x:List ByteArray):Prop:=x=[]\/(∃ t,x=Wn::t)\/∃ p t,x=Ue::p::t/\lo8 p
theorem Zvw{n:ByteArray}(h:J6 n):n≠Wn:=fun e=>by
 have:=h.2.2
 rw[e] at this
 revert this;decide
theorem Ziz:∀{a b x y:List ByteArray},(∀ n∈a,J6 n)->(∀ n∈b,J6 n)->Wp x->Wp y->a++x=b++y->a=b/\x=y
 | [],[],x,y,_,_,_,_,h=>⟨rfl,h⟩
 | [],m::b,x,y,_,hb,hx,hy,h=>by
  exfalso
  exact clash (hb m (by simp)) (fun n hn=>hb n (by simp [hn])) hx hy h
 | n::a,[],x,y,ha,_,hx,hy,h=>by
  exfalso
  exact clash (ha n (by simp)) (fun k hk=>ha k (by simp [hk])) hy hx h.symm
 | n::a,m::b,x,y,ha,hb,hx,hy,h=>by
  injection h with h1 h2
  obtain⟨e1,e2⟩:=Ziz (fun k hk=>ha k (by simp [hk])) (fun k hk=>hb k (by simp [hk])) hx hy h2
  exact⟨by rw[h1,e1],e2⟩
where
 clash {m:ByteArray} {b x y:List ByteArray} (hm:J6 m) (hb:∀ n∈b,J6 n) (hx:Wp x) (hy:Wp y) (h:x=m::(b++y)):False:=by
  rcases hx with rfl | ⟨t,rfl⟩ | ⟨p,t,rfl,hp⟩
  ·cases h
  ·injection h with h1 _
   exact Zvw hm h1.symm
  ·injection h with _ h2
   cases b with
   | cons c r =>
    injection h2 with h3 _
    rw[h3] at hp
    exact Dp hp (Zix (hb c (by simp)))
   | nil =>
    rw[List.nil_append] at h2
    rcases hy with rfl | ⟨q,rfl⟩ | ⟨q,u,rfl,_⟩
    ·cases h2
    ·injection h2 with h3 _
     rw[h3] at hp
     exact Dp hp ⟨111,_,rfl,by decide⟩
    ·injection h2 with h3 _
     rw[h3] at hp
     exact Dp hp ⟨101,_,rfl,by decide⟩
theorem Zbm:∀{L:List LD},(∀ d∈L,Wo d)->Wp (L.flatMap J0)
 | [],_=>.inl rfl
 | .out n::r,_=>.inr (.inl ⟨n::r.flatMap J0,rfl⟩)
 | .edg p ns::r,h=>by
  obtain⟨h1,h2,_⟩:=h (.edg p ns) (by simp)
  cases p with
  | nil=>exact absurd rfl h1
  | cons k q=>exact .inr (.inr ⟨Je k,(q.map Je++ns)++r.flatMap J0,rfl,(Dq (h2 k (by simp))).2⟩)
theorem Zvx{x:List ByteArray}(h:Wp x):Zbl x:=by
 rcases h with rfl | ⟨t,rfl⟩ | ⟨p,t,rfl,_⟩
 ·exact .inl rfl
 ·exact .inr ⟨_,_,rfl,111,_,rfl,by decide⟩
 ·exact .inr ⟨_,_,rfl,101,_,rfl,by decide⟩
theorem ZiA{a x:List ByteArray}(ha:∀ n∈a,J6 n)(h:Wp x):Zbl (a++x):=by
 cases a with
 | nil=>exact Zvx h
 | cons n r=>exact .inr ⟨n,r++x,rfl,Zix (ha n (by simp))⟩
theorem Zea:∀{L M:List LD},(∀ d∈L,Wo d)->(∀ d∈M,Wo d)->L.flatMap J0=M.flatMap J0->L=M
 | [],[],_,_,_=>rfl
 | [],d::r,_,_,h=>by cases d <;> (simp [J0] at h)
 | d::r,[],_,_,h=>by cases d <;> (simp [J0] at h)
 | .out n::r,.out m::q,h1,h2,h=>by
  have h:Wn::n::r.flatMap J0=Wn::m::q.flatMap J0:=h
  injection h with _ h
  injection h with e h
  rw[e,Zea (fun d hd=>h1 d (by simp [hd])) (fun d hd=>h2 d (by simp [hd])) h]
 | .out n::r,.edg p ns::q,_,_,h=>by
  have h:Wn::n::r.flatMap J0=Ue::((p.map Je++ns)++q.flatMap J0):=h
  injection h with e _
  exact absurd e (by decide)
 | .edg p ns::q,.out n::r,_,_,h=>by
  have h:Ue::((p.map Je++ns)++q.flatMap J0)=Wn::n::r.flatMap J0:=h
  injection h with e _
  exact absurd e (by decide)
 | .edg p ns::r,.edg p' ns'::q,h1,h2,h=>by
  have h:Ue::((p.map Je++ns)++r.flatMap J0)=Ue::((p'.map Je++ns')++q.flatMap J0):=h
  injection h with _ h
  rw[Uav,Uav] at h
  have k1:=h1 (.edg p ns) (by simp)
  have k2:=h2 (.edg p' ns') (by simp)
  have r1:∀ d∈r,Wo d:=fun d hd=>h1 d (by simp [hd])
  have r2:∀ d∈q,Wo d:=fun d hd=>h2 d (by simp [hd])
  obtain⟨e1,h⟩:=Zd9 k1.2.1 k2.2.1 (ZiA k1.2.2 (Zbm r1)) (ZiA k2.2.2 (Zbm r2)) h
  obtain⟨e2,h⟩:=Ziz k1.2.2 k2.2.2 (Zbm r1) (Zbm r2) h
  rw[e1,e2,Zea r1 r2 h]
structure DS where
 own:Int
 par:Int
 kids:List Int
 sites:Int
 links:List LD
structure dsOK (d:DS):Prop where
 own:YN d.own
 par:YN d.par
 kids:Zbk d.kids
 sites:YN d.sites
 links:∀ l∈d.links,Wo l
def Xc(d:DS):List ByteArray:=Je d.own::wIN::Je d.par::Ziv::(d.kids.map Je++(Ziw::Je d.sites::d.links.flatMap J0))
theorem Zvy{d e:DS}(hd:dsOK d)(he:dsOK e)(h:Xc d=Xc e):d=e:=by
 unfold Xc at h
 injection h with h1 h
 injection h with _ h
 injection h with h2 h
 injection h with _ h
 obtain⟨h3,h⟩:=Zd9 hd.kids he.kids (.inr ⟨_,_,rfl,115,_,rfl,by decide⟩) (.inr ⟨_,_,rfl,115,_,rfl,by decide⟩) h
 injection h with _ h
 injection h with h4 h
 have h5:=Zea hd.links he.links h
 have g1:=Dr hd.own he.own h1
 have g2:=Dr hd.par he.par h2
 have g4:=Dr hd.sites he.sites h4
 cases d;cases e
 simp only at g1 g2 h3 g4 h5
 subst g1 g2 h3 g4 h5
 rfl
theorem Zvz{d:LD}(h:Wo d):∀ w∈J0 d,(32:UInt8) ∉ bl w:=fun w hw=>by
 cases d with
 | out n =>
  simp only[J0,UaP,List.not_mem_nil,or_false] at hw
  rcases hw with rfl | rfl
  ·decide
  ·exact h
 | edg p ns =>
  rcases UaP.1 hw with rfl | hw
  ·decide
  ·rcases Uas.1 hw with hw | hw
   ·obtain⟨k,hk,rfl⟩:=UaG.1 hw
    exact Ds (h.2.1 k hk)
   ·exact Ziy (h.2.2 w hw)
theorem ZiB{d:DS}(h:dsOK d):∀ w∈Xc d,(32:UInt8) ∉ bl w:=fun w hw=>by
 unfold Xc at hw
 simp only[UaP,Uas] at hw
 rcases hw with rfl | rfl | rfl | rfl | hw | rfl | rfl | hw
 ·exact Ds h.own
 ·decide
 ·exact Ds h.par
 ·decide
 ·obtain⟨k,hk,rfl⟩:=UaG.1 hw
  exact Ds (h.kids k hk)
 ·decide
 ·exact Ds h.sites
 ·obtain⟨d,hd,hw⟩:=List.mem_flatMap.1 hw
  exact Zvz (h.links d hd) w hw
theorem ZvA{s t:ByteArray}{d e:DS}(hs:bl s=bl wOWN++(Xc d).flatMap fun w=>32::bl w)(ht:bl t=bl wOWN++(Xc e).flatMap fun w=>32::bl w)(hd:dsOK d)(he:dsOK e):s=t↔d=e:=by
 constructor
 ·intro h
  rw[h,ht] at hs
  have:=(Zig (b:=32) (by decide) (by decide) (ZiB he) (ZiB hd) hs).2
  exact(Zvy he hd this).symm
 ·intro h
  refine Zd2 ?_
  rw[hs,ht,h]
def idle(b:TBigraph)(l:Int):Prop:=(ports b l).length=0/\(Jt b l).length=0
structure small (b:TBigraph):Prop where
 nodes:b.nodes.length<=8
 links:∀ x∈b.nodes,x.links.length<=1000
 sites:b.sites.length<=4
 outer:b.outer.length<=16
 inner:b.inner.length<=16
 roots:0<=b.roots/\b.roots<=4
 edges:0<=b.edges/\b.edges<=8
theorem ZiC{sig:List TControl}(h:VQ sig)(c:Int):Wl sig c<=3:=by
 unfold Wl
 cases e:sig[c.toNat]? with
 | none=>decide
 | some x =>
  obtain⟨hl,rfl⟩:=Uac.1 e
  exact((h.1 _ hl).1).2.1.2
theorem bigOK.small{sig:List TControl}{b:TBigraph}(h:bigOK sig b):small b :=
 ⟨h.nodesL,fun x hx=>by
  obtain⟨k,hk,rfl⟩:=UaX hx
  have h1:=(h.nodes k hk).ports
  have h2:=ZiC h.sg b.nodes[k].control
  omega,h.sitesL,h.outer.2,by have:=h.inn.2;rw[Xb] at this;exact this,h.roots,h.edges⟩
theorem Zeb{l:Int}{i:Nat}{ls:List Int}{p:Int×Int}:∀{k:Nat},p∈JG l i ls k->∃ m:Nat,m<k/\p=((i:Int),(m:Int))
 | 0,h=>by simp [JG] at h
 | k+1,h=>by
  unfold JG at h
  split at h
  ·rcases Uas.1 h with h | h
   ·obtain⟨m,h1,h2⟩:=Zeb h
    exact⟨m,by omega,h2⟩
   ·exact⟨k,by omega,by simpa using h⟩
  ·obtain⟨m,h1,h2⟩:=Zeb h
   exact⟨m,by omega,h2⟩
theorem ZiD{b:TBigraph}{l:Int}{p:Int×Int}:∀{j:Nat},p∈Jq b l j->∃ i m:Nat,i<j/\m<(ZF b i).length/\p=((i:Int),(m:Int))
 | 0,h=>by simp [Jq] at h
 | j+1,h=>by
  rw[Jq] at h
  rcases Uas.1 h with h | h
  ·obtain⟨i,m,h1,h2,h3⟩:=ZiD h
   exact⟨i,m,by omega,h2,h3⟩
  ·obtain⟨m,h1,h2⟩:=Zeb h
   exact⟨j,m,by omega,h1,h2⟩
theorem Uf{f:Nat->Prop}[DecidablePred f]{n:Int}:∀{j:Nat},n∈YV f j->∃ i:Nat,i<j/\n=i/\f i
 | 0,h=>by simp [YV] at h
 | j+1,h=>by
  unfold YV at h
  split at h
  ·rename_i hf
   rcases Uas.1 h with h | h
   ·obtain⟨i,h1,h2⟩:=Uf h
    exact⟨i,by omega,h2⟩
   ·exact⟨j,by omega,by simpa using h,hf⟩
  ·obtain⟨i,h1,h2⟩:=Uf h
   exact⟨i,by omega,h2⟩
structure Bn (n:Nat) (B:Int) (l:List Int):Prop where
 len:l.length=n
 bd:∀ x∈l,0<=x/\x<=B
theorem Bn.g{n:Nat}{B:Int}{l:List Int}(h:Bn n B l)(hB:0<=B)(k:Nat):0<=g0 l k/\g0 l k<=B:=by
 by_cases hk:k<l.length
 ·have:g0 l k=l[k]:=by simp [hk]
  rw[this]
  exact h.bd _ (Uan hk)
 ·have:g0 l k=0:=by simp [g0,List.getD,UaY (Nat.le_of_not_lt hk)]
  rw[this]
  omega
theorem Bn.set{n:Nat}{B C:Int}{l:List Int}(h:Bn n B l)(hB:B<=C){k:Nat}{v:Int}(h0:0<=v)(h1:v<=C):Bn n C (l.set k v):=by
 refine⟨by rw[UaI];exact h.len,fun x hx=>?_⟩
 rcases UaH hx with hx | hx
 ·have:=h.bd x hx
  omega
 ·omega
theorem Bn.mono{n:Nat}{B C:Int}{l:List Int}(h:Bn n B l)(hB:B<=C):Bn n C l:=⟨h.len,fun x hx=>by have:=h.bd x hx;omega⟩
theorem Zbn{b:TBigraph}(hs:small b)(l:Int):(ports b l).length<=8000:=by
 have h1:=Zbi (l:=l) hs.links (j:=b.nodes.length) (Uaf _)
 have h2:=hs.nodes
 unfold ports
 omega
theorem Dt{l:List Int}{q:Nat}{v:Int}(h:q<l.length):ZG (rI l) [] q 0 (.v (.int .i64 v))=rI (l.set q v):=by
 rw[Qo (Z5 h)]
 simp only[List.map_set]
 rfl
theorem ZvB{l:List Int}:ScR (rI l)=True:=eq_true fun e he t ht=>by
 obtain⟨f,_,rfl⟩:=UaG.1 he
 simp only[UaO] at ht
 subst ht
 rfl
theorem ZvC{l:List Int}:Zu 1 (rI l)=True:=eq_true fun e he=>by
 obtain⟨f,_,rfl⟩:=UaG.1 he
 rfl
theorem ZvD(l:List Int)(hl:l.length<=4294967296)(lvl:Nat)(S:Zc):Sem UbX ZdF lvl [tI l] S (.ow 1 (rI l) true) S:=by
 refine Zr ZuC trivial ?_
 simp only[ZhG,Uab,ZvB,ZvC,Zb,seval,Za,men]
 exact⟨hl,fun h=>by rw[h]⟩
theorem ZvE{a b:List Int}(h:a.length=b.length)(hg:∀ k,k<a.length->g0 a k=g0 b k):a=b:=by
 refine List.ext_getElem h fun k h1 h2=>?_
 have:=hg k h1
 simpa [h1,h2] using this
theorem ZiE(a b:List Int)(ha:a.length<=4294967296)(hb:b.length<=4294967296)(lvl:Nat)(S:Zc):Sem UbX Za0 lvl [tI a,tI b] S (iB (dc (a=b))) S:=by
 refine Zr Zuo trivial ?_
 simp only[Zhs,Uab,Zb,seval,Za,men]
 refine Zs (fun hne=>?_) (fun heq=>?_)
 ·have:¬ a=b:=fun h=>by subst h;exact hne rfl
  rw[ZP this]
 have hE:a.length=b.length:=by omega
 refine ZZ (α:=Unit) a.length (fun j _=>[(5,iI j)]) (fun j _=>[]) (fun j _=>∀ k,k<j->g0 a k=g0 b k) () (by simp only[Zb,seval,Za,men]) (by (simp only[Zb,seval,Za,men]) <;> rfl) (fun k hk=>absurd hk (UaZ k)) ?_
 intro j _ hj hA
 simp only[Uab,Zb,seval,Za,men]
 refine Zs (fun hlt=>?_) (fun hge=>?_)
 ·have hja:j<a.length:=by omega
  have hjb:j<b.length:=by omega
  have ga:=Z5 hja
  have gb:=Z5 hjb
  simp only[ga,gb,Uab,Zb,seval,Za,men]
  refine Zs (fun hne=>?_) (fun heq=>?_)
  ·have:¬ a=b:=fun h=>hne (by rw[h])
   rw[ZP this]
  ·exact⟨by rw[Zh];omega,Zy () hja rfl (Zva hA (by omega))⟩
 ·have hj1:j=a.length:=by omega
  subst hj1
  rw[Vh (ZvE hE hA)]
theorem ZvF(a b:Int)(lvl:Nat)(S:Zc):Sem UbX Za8 lvl [iI a,iI b] S (iB (decide (a<b))) S:=by
 refine Zr ZuN trivial ?_
 simp only[ZhQ,Zb,seval,Za,men]
 refine Zk (ZuX a) ?_
 simp only[Zb,seval,Za,men]
def Xd(x:List Int)(i:Nat):Prop:=∀ p q,p<q->q<i->g0 x p<=g0 x q
def Du(x:List Int)(i j:Nat):Prop:=(∀ p q,p<q->q<=i->p≠j->q≠j->g0 x p<=g0 x q)/\∀ q,j<q->q<=i->g0 x j<=g0 x q
def Ug(x:List Int)(j:Nat):List Int:=(x.set j (g0 x (j-1))).set (j-1) (g0 x j)
theorem Zec{y:List Int}{a b:Nat}{v:Int}(h:a<y.length):g0 (y.set a v) b=if a=b then v else g0 y b:=by
 show (y.set a v).getD b 0=if a=b then v else y.getD b 0
 rw[Ubb,Ube,Ubb]
 by_cases e:a=b
 ·rw[if_pos e,if_pos e,if_pos (by omega)];rfl
 ·rw[if_neg e,if_neg e]
theorem ZvG{y:List Int}{i:Nat}(h:Du y i 0):Xd y (i+1):=fun p q h1 h2=>by
 by_cases e:p=0
 ·subst e;exact h.2 q h1 (by omega)
 ·exact h.1 p q h1 (by omega) e (by omega)
theorem ZvH{y:List Int}{i j:Nat}(h:Du y i j)(hj:0<j)(hji:j<=i)(hle:g0 y (j-1)<=g0 y j):Xd y (i+1):=fun p q h1 h2=>by
 by_cases e:p=j
 ·subst e;exact h.2 q h1 (by omega)
 ·by_cases e2:q=j
  ·subst e2
   by_cases e3:p=q-1
   ·subst e3;exact hle
   ·exact Int.le_trans (h.1 p (q-1) (by omega) (by omega) e (by omega)) hle
  ·exact h.1 p q h1 (by omega) e e2
theorem ZvI{y:List Int}{i j:Nat}(h:Du y i j)(hj:0<j)(hji:j<=i)(hi:i<y.length)(hlt:g0 y j<g0 y (j-1)):Du (Ug y j) i (j-1):=by
 have e:∀ b,g0 (Ug y j) b=if j-1=b then g0 y j else if j=b then g0 y (j-1) else g0 y b:=fun b=>by
  unfold Ug
  rw[Zec (by rw[UaI];omega),Zec (by omega)]
 refine⟨fun p q h1 h2 h3 h4=>?_,fun q h1 h2=>?_⟩
 ·rw[e p,e q,if_neg (show ¬ j-1=p from fun g=>h3 g.symm),if_neg (show ¬ j-1=q from fun g=>h4 g.symm)]
  by_cases ep:j=p
  ·rw[if_pos ep,if_neg (show ¬ j=q by omega)]
   exact h.1 (j-1) q (by omega) h2 (by omega) (by omega)
  ·rw[if_neg ep]
   by_cases eq:j=q
   ·rw[if_pos eq]
    exact h.1 p (j-1) (by omega) (by omega) (by omega) (by omega)
   ·rw[if_neg eq]
    exact h.1 p q h1 h2 (fun g=>ep g.symm) (fun g=>eq g.symm)
 ·rw[e (j-1),e q,if_pos rfl,if_neg (show ¬ j-1=q by omega)]
  by_cases eq:j=q
  ·rw[if_pos eq];omega
  ·rw[if_neg eq]
   exact h.2 q (by omega) h2
theorem ZvJ{y:List Int}{j:Nat}(hj:0<j)(hi:j<y.length):(Ug y j).Perm y:=by
 have h:=@List.set_set_perm _ y j (j-1) hi (by omega)
 have e1:g0 y j=y[j]:=by simp [g0,hi]
 have e2:g0 y (j-1)=y[j-1]'(by omega):=by
  show y.getD (j-1) 0=_
  rw[Ubb,Uag (by omega)]
  rfl
 unfold Ug
 rw[e1,e2]
 exact h
theorem Zed{y:List Int}{j:Nat}{v:Int}(h:j<y.length):ZG (rI y) [] j 0 (.v (.int .i64 v))=rI (y.set j v):=by
 simp only[ZG]
 rw[Z5 h]
 exact(List.map_set (f:=fun n:Int=>[tv n]) (l:=y) (i:=j) (a:=v)).symm
theorem ZvK(l:List Int)(hl:l.length<=12)(lvl:Nat)(S:Zc)(id:Zd)(u:Bool)(hw ver:Nat)(hid:id.1<lvl)(hS:S id=some (.ar 1 (rI l) u hw ver))(srt:List Int)(hsrt:∀ x:List Int,x.Perm l->Xd x l.length->x=srt) :
  Sem UbX ZdN lvl [.hd id [] 0 l.length none hw,iI 0,iI l.length] S (.tu []) (Zf S id (.ar 1 (rI srt) u hw ver)):=by
 have hne:id.1≠lvl:=by omega
 refine Zr ZuM trivial ?_
 simp only[ZhP,Zb,seval,Za,men]
 refine⟨by rw[Zh];omega,?_⟩
 refine JR (α:=List Int) l.length (fun k x=>⟨lvl,[(0,.hd id [] 0 l.length none hw),(1,iI 0),(2,iI l.length),(6,iI ((k+1:Nat):Int))],[],Zf S id (.ar 1 (rI x) u hw ver)⟩) (fun k x=>x.Perm l/\Xd x (k+1)) l ⟨by simp only[ZY hne,Zb,seval,Za,men],by (simp only[W3 hS,Zb,seval,Za,men]) <;> rfl⟩ ⟨List.Perm.refl _,fun p q h1 h2=>by omega⟩ ?_
 intro k x hk ⟨hA1,hA2⟩
 have hxl:x.length=l.length:=hA1.length_eq
 simp only[Zb,seval,Za,men]
 refine Zs (fun hlt=>?_) (fun hge=>?_)
 ·have hk1:k+1<l.length:=by omega
  refine JR (α:=List Int) (k+1) (fun m y=>⟨lvl,[(0,.hd id [] 0 l.length none hw),(1,iI 0),(2,iI l.length),(6,iI ((k+1:Nat):Int)),(7,iI ((k+1-m:Nat):Int))],[],Zf S id (.ar 1 (rI y) u hw ver)⟩) (fun m y=>y.Perm l/\Du y (k+1) (k+1-m)) x ⟨by simp only[ZY hne,Zb,seval,Za,men],by (simp only[Zb,seval,Za,men]) <;> rfl⟩ ⟨hA1,fun p q h1 h2 h3 h4=>hA2 p q h1 (by omega),fun q h1 h2=>by omega⟩ ?_
  intro m y hm ⟨hB1,hB2⟩
  have hyl:y.length=l.length:=hB1.length_eq
  generalize hj:k+1-m=j at hB2 ⊢
  by_cases hj0:j=0
  ·subst hj0
   simp only[Zb,seval,Za,men]
   exact⟨by rw[Zh];omega,fun h=>absurd h hne,Zy y (by omega) rfl ⟨hB1,ZvG hB2⟩⟩
  ·have g1:(0:Int)<j:=by omega
   have e1:((j:Int)-1)=((j-1:Nat):Int):=by omega
   have gj:=Z5 (l:=y) (i:=j) (by omega)
   have gj1:=Z5 (l:=y) (i:=j-1) (by omega)
   have l1:j<l.length:=by omega
   have l2:j-1<l.length:=by omega
   simp only[g1,JZ hne,YD,e1,gj,gj1,l1,l2,Uax,Zb,seval,Za,men]
   refine⟨by rw[Zh];omega,Zk (ZvF (g0 y j) (g0 y (j-1))) ?_⟩
   by_cases hlt2:g0 y j<g0 y (j-1)
   ·have s1:=Zed (y:=y) (j:=j) (v:=g0 y (j-1)) (by omega)
    have s2:=Zed (y:=y.set j (g0 y (j-1))) (j:=j-1) (v:=g0 y j) (by rw[UaI];omega)
    have gj2:=Z5 (l:=y.set j (g0 y (j-1))) (i:=j-1) (by rw[UaI];omega)
    simp only[hlt2,g1,JZ hne,VI hne,VL,YD,ZY hne,e1,gj,gj1,gj2,s1,s2,l1,l2,Uax,Zb,seval,Za,men]
    subst hj
    refine⟨by rw[Zh];omega,by rw[Zh];omega,by rw[Zh];omega,Zy (Ug y (k+1-m)) (by omega) (by rw[show k+1-(m+1)=k+1-m-1 from by omega];rfl) ⟨(ZvJ (by omega) (by omega)).trans hB1,?_⟩⟩
    rw[show k+1-(m+1)=k+1-m-1 from by omega]
    exact ZvI hB2 (by omega) (by omega) (by omega) hlt2
   ·simp only[hlt2,Zb,seval,Za,men]
    exact⟨by rw[Zh];omega,fun h=>absurd h hne,Zy y (by omega) rfl ⟨hB1,ZvH hB2 (by omega) (by omega) (by omega)⟩⟩
 ·have:k+1=l.length\/k=l.length:=by omega
  have hup:Xd x l.length:=fun p q h1 h2=>hA2 p q h1 (by omega)
  have hx:=hsrt x hA1 hup
  rw[hx]
theorem ZvL(l:List Int)(hl:l.length<=12)(r:Int)(lvl:Nat)(S:Zc)(id:Zd)(u:Bool)(hw ver:Nat)(hid:id.1<lvl)(hS:S id=some (.ar 1 (rI l) u hw ver))(srt:List Int)(hsrt:∀ x:List Int,x.Perm l->Xd x l.length->x=srt) :
  Sem UbX Dg lvl [.hd id [] 0 l.length none hw,iI 0,iI l.length,iI r] S (.tu []) (Zf S id (.ar 1 (rI srt) u hw ver)):=by
 have hne:id.1≠lvl:=by omega
 refine Zr ZuH trivial ?_
 simp only[ZhM,Zb,seval,Za,men]
 refine JR (α:=Unit) 0 (fun _ _=>⟨lvl,[(0,.hd id [] 0 l.length none hw),(1,iI 0),(2,iI l.length),(3,iI r),(8,iB true),(9,iB true)],[],S⟩) (fun _ _=>True) () ⟨by simp only[ZY hne,Zb,seval,Za,men],by (simp only[Zb,seval,Za,men]) <;> rfl⟩ trivial ?_
 intro _ _ _ _
 have h12:(l.length:Int)-0<=12:=by omega
 simp only[h12,Zb,seval,Za,men]
 refine⟨by rw[Zh];omega,?_⟩
 simp only[Yb]
 refine X6 [] (Zf S id (.ar 1 (rI srt) u hw ver)) (fun i hi=>by unfold Zf;rw[if_neg (fun e=>hne (by rw[<-e];exact hi))]) (by
  rw[U9 hne]
  exact ZvK l hl (lvl+1) (Zw lvl [] S) id u hw ver (by omega) (by rw[JZ hne];exact hS) srt hsrt) ?_
 simp only[ZY hne,Zb,seval,Za,men]
theorem ZvM{v:Int}(h0:0<=v)(h:v<=12):∃ r:Int,∀(lvl:Nat) (S:Zc),Sem UbX ZdO lvl [.tr (.v (.int .u64 v))] S (iI r) S:=by
 have:v=0\/v=1\/v=2\/v=3\/v=4\/v=5\/v=6\/v=7\/v=8\/v=9\/v=10\/v=11\/v=12:=by omega
 rcases this with rfl | rfl | rfl | rfl | rfl | rfl | rfl | rfl | rfl | rfl | rfl | rfl | rfl
 ·refine⟨0,fun lvl S=>Zr Vu trivial ?_⟩
  simp only[Vg,Zb,seval,Za,men]
  simp [Z2,IntKind.min,IntKind.max,IntKind.signed,IntKind.bits]
 ·refine⟨1,fun lvl S=>Zr Vu trivial ?_⟩
  simp only[Vg,Zb,seval,Za,men]
  simp [Z2,IntKind.min,IntKind.max,IntKind.signed,IntKind.bits]
 ·refine⟨2,fun lvl S=>Zr Vu trivial ?_⟩
  simp only[Vg,Zb,seval,Za,men]
  simp [Z2,IntKind.min,IntKind.max,IntKind.signed,IntKind.bits]
 ·refine⟨2,fun lvl S=>Zr Vu trivial ?_⟩
  simp only[Vg,Zb,seval,Za,men]
  simp [Z2,IntKind.min,IntKind.max,IntKind.signed,IntKind.bits]
 ·refine⟨3,fun lvl S=>Zr Vu trivial ?_⟩
  simp only[Vg,Zb,seval,Za,men]
  simp [Z2,IntKind.min,IntKind.max,IntKind.signed,IntKind.bits]
 ·refine⟨3,fun lvl S=>Zr Vu trivial ?_⟩
  simp only[Vg,Zb,seval,Za,men]
  simp [Z2,IntKind.min,IntKind.max,IntKind.signed,IntKind.bits]
 ·refine⟨3,fun lvl S=>Zr Vu trivial ?_⟩
  simp only[Vg,Zb,seval,Za,men]
  simp [Z2,IntKind.min,IntKind.max,IntKind.signed,IntKind.bits]
 ·refine⟨3,fun lvl S=>Zr Vu trivial ?_⟩
  simp only[Vg,Zb,seval,Za,men]
  simp [Z2,IntKind.min,IntKind.max,IntKind.signed,IntKind.bits]
 ·refine⟨4,fun lvl S=>Zr Vu trivial ?_⟩
  simp only[Vg,Zb,seval,Za,men]
  simp [Z2,IntKind.min,IntKind.max,IntKind.signed,IntKind.bits]
 ·refine⟨4,fun lvl S=>Zr Vu trivial ?_⟩
  simp only[Vg,Zb,seval,Za,men]
  simp [Z2,IntKind.min,IntKind.max,IntKind.signed,IntKind.bits]
 ·refine⟨4,fun lvl S=>Zr Vu trivial ?_⟩
  simp only[Vg,Zb,seval,Za,men]
  simp [Z2,IntKind.min,IntKind.max,IntKind.signed,IntKind.bits]
 ·refine⟨4,fun lvl S=>Zr Vu trivial ?_⟩
  simp only[Vg,Zb,seval,Za,men]
  simp [Z2,IntKind.min,IntKind.max,IntKind.signed,IntKind.bits]
 ·refine⟨4,fun lvl S=>Zr Vu trivial ?_⟩
  simp only[Vg,Zb,seval,Za,men]
  simp [Z2,IntKind.min,IntKind.max,IntKind.signed,IntKind.bits]
theorem ZvN{v:Int}(h0:0<=v)(h:v<=12):∃ r:Int,∀(lvl:Nat) (S:Zc),Sem UbX ZdJ lvl [.tr (.v (.int .u64 v))] S (iI r) S:=by
 obtain⟨r,hr⟩:=ZvM h0 h
 refine⟨r,fun lvl S=>Zr ZuI trivial ?_⟩
 simp only[ZhN,Zb,seval,Za,men]
 refine Zk hr ?_
 simp only[Zb,seval,Za,men]
theorem ZiF(l:List Int)(hl:l.length<=12)(lvl:Nat)(S:Zc)(id:Zd)(u:Bool)(hw ver:Nat)(hid:id.1<lvl)(hS:S id=some (.ar 1 (rI l) u hw ver))(srt:List Int)(hsrt:∀ x:List Int,x.Perm l->Xd x l.length->x=srt) :
  Sem UbX Wf lvl [.hd id [] 0 l.length none hw] S (.tu []) (Zf S id (.ar 1 (rI srt) u hw ver)):=by
 have hne:id.1≠lvl:=by omega
 obtain⟨r,hr⟩:=ZvN (v:=(l.length:Int)) (by omega) (by omega)
 refine Zr ZuA trivial ?_
 simp only[ZhE,Zb,seval,Za,men]
 refine⟨⟨by show (0:Int)<=l.length;omega,by show (l.length:Int)<=18446744073709551615;omega⟩,Zk hr ?_⟩
 simp only[Zb,seval,Za,men]
 refine X6 [] (Zf S id (.ar 1 (rI srt) u hw ver)) (fun i hi=>by unfold Zf;rw[if_neg (fun e=>hne (by rw[<-e];exact hi))]) (by
  rw[U9 hne]
  exact ZvL l hl r (lvl+1) (Zw lvl [] S) id u hw ver (by omega) (by rw[JZ hne];exact hS) srt hsrt) ?_
 simp only[ZY hne,Zb,seval,Za,men]
def cz{α:Type}[DecidableEq α](g:Nat->α):Nat->List α
 | 0=>[]
 | m+1=>cz g m++if m≠0/\g m=g (m-1) then [] else [g m]
theorem Zee{α:Type}[DecidableEq α]{g:Nat->α}{m:Nat}(h0:m≠0)(h:g m=g (m-1)):cz g (m+1)=cz g m:=by
 rw[cz,if_pos ⟨h0,h⟩,Ua5]
theorem ZvO{α:Type}[DecidableEq α]{g:Nat->α}{m:Nat}(h:g m≠g (m-1)):cz g (m+1)=cz g m++[g m]:=by
 rw[cz,if_neg (fun e=>h e.2)]
theorem Zef{l:List Int}:∀{n:Nat},n<=l.length->(∀ m,0<m->m<n->g0 l m≠g0 l (m-1))->cz (g0 l) n=l.take n
 | 0,_,_=>by simp [cz]
 | n+1,hn,h=>by
  have ih:=Zef (n:=n) (by omega) fun m h0 h1=>h m h0 (by omega)
  have hx:cz (g0 l) (n+1)=cz (g0 l) n++[g0 l n]:=by
   rw[cz,if_neg (fun e=>h n (by omega) (by omega) e.2)]
  rw[hx,ih,Uah (by omega)]
  have:g0 l n=l[n]'(by omega):=by
   show l.getD n 0=_
   rw[Ubb,Uag (by omega)]
   rfl
  rw[this]
theorem ZvP{α:Type}{y:List α}{i:Nat}{v:α}(h:i<y.length):(y.set i v).take (i+1)=y.take i++[v]:=by
 rw[Uah (by rw[UaI];exact h),List.getElem_set_self,List.take_set_of_le (Uaf i)]
theorem Zeg{lvl:Nat}{S:Zc}{id:Zd}{k hw ver:Nat}{es:Row}{u:Bool}(hne:id.1≠lvl)(hS:S id=some (.ar k es u hw ver)):Js (Zw lvl [] S) id [] k:=by
 unfold Js
 rw[JZ hne,hS]
theorem ZvQ(l:List Int)(hl:l.length<=4294967290)(lvl:Nat)(S:Zc)(id:Zd)(u:Bool)(hw ver:Nat)(hid:id.1<lvl)(hS:S id=some (.ar 1 (rI l) u hw ver)) :
  ∃ v2,Sem UbX ZdG lvl [.hd id [] 0 l.length none hw] S (.hd id [] 0 (cz (g0 l) l.length).length none hw) (Zf S id (.ar 1 (rI (cz (g0 l) l.length)) u hw v2)):=by
 have hne:id.1≠lvl:=by omega
 by_cases hd:∀ m,0<m->m<l.length->g0 l m≠g0 l (m-1)
 ·refine⟨ver,?_⟩
  rw[Zef (Uaf _) hd,UaT,W3 hS]
  refine Zr ZhH hid ?_
  simp only[ZdS,Zb,seval,Za,men]
  by_cases h2:(l.length:Int)<2
  ·rw[if_pos h2]
   simp only[ZcF hne,Zb,seval,Za,men]
  rw[if_neg h2]
  refine JR (α:=Unit) l.length (fun k _=>⟨lvl,[(0,.hd id [] 0 l.length none hw),(3,iI ((k+1:Nat):Int))],[],S⟩) (fun k _=>k+1<=l.length) () ⟨by simp only[ZY hne,Zb,seval,Za,men],by (simp only[Zb,seval,Za,men]) <;> rfl⟩ (by omega) ?_
  intro k _ hk hA
  simp only[Zb,seval,Za,men]
  refine Zs (fun hlt=>?_) (fun hge=>?_)
  ·have gj:=Z5 (l:=l) (i:=k+1) (by omega)
   have gj1:=Z5 (l:=l) (i:=k) (by omega)
   have l1:k+1<l.length:=by omega
   have l2:k<l.length:=by omega
   have hx:=hd (k+1) (by omega) l1
   rw[Nat.add_sub_cancel] at hx
   have e1:(((k+1:Nat):Int)-1)=(k:Int):=by omega
   simp only[JZ hne,hS,e1,gj,gj1,l1,l2,hx,Uax,ZY hne,Zb,seval,Za,men]
   exact⟨by rw[Zh];omega,by rw[Zh];omega,Zy () (by omega) rfl (by omega)⟩
  ·simp only[ZcF hne,Zb,seval,Za,men]
 ·refine⟨ver+1,?_⟩
  refine Zr ZhH hid ?_
  simp only[ZdS,Zb,seval,Za,men]
  by_cases h2:(l.length:Int)<2
  ·exact absurd (fun m h0 h1=>by omega) hd
  rw[if_neg h2]
  refine JR (α:=Unit) l.length (fun k _=>⟨lvl,[(0,.hd id [] 0 l.length none hw),(3,iI ((k+1:Nat):Int))],[],S⟩) (fun k _=>k+1<=l.length/\∀ m,0<m->m<k+1->g0 l m≠g0 l (m-1)) () ⟨by simp only[ZY hne,Zb,seval,Za,men],by (simp only[Zb,seval,Za,men]) <;> rfl⟩ ⟨by omega,fun m h0 h1=>by omega⟩ ?_
  intro k _ hk ⟨hA,hB⟩
  simp only[Zb,seval,Za,men]
  refine Zs (fun hlt=>?_) (fun hge=>?_)
  ·have gj:=Z5 (l:=l) (i:=k+1) (by omega)
   have gj1:=Z5 (l:=l) (i:=k) (by omega)
   have l1:k+1<l.length:=by omega
   have l2:k<l.length:=by omega
   have e1:(((k+1:Nat):Int)-1)=(k:Int):=by omega
   by_cases hx:g0 l (k+1)=g0 l k
   ·have hc1:=Zef (l:=l) (n:=k+1) (by omega) hB
    have hc2:cz (g0 l) (k+1+1)=cz (g0 l) (k+1):=Zee (by omega) (by rw[Nat.add_sub_cancel];exact hx)
    simp only[JZ hne,hS,e1,gj,gj1,l1,l2,hx,Uax,ZY hne,Zb,seval,Za,men]
    refine⟨by rw[Zh];omega,by omega,Zeg hne hS,?_⟩
    refine JR (α:=Nat×List Int) l.length (fun m x=>⟨lvl,[(0,.hd id [] 0 l.length none hw),(3,iI (x.1:Int)),(4,.hd id [] (k+1) (l.length-(k+1)) none hw),(5,iI ((m+1:Nat):Int))],[],Zf S id (.ar 1 (rI x.2) u hw ver)⟩) (fun m x=>k+1+m+1<=l.length/\x.2.length=l.length/\x.1=(cz (g0 l) (k+1+m+1)).length/\x.2.take x.1=cz (g0 l) (k+1+m+1)/\x.1<=k+1+m/\∀ q,k+1+m<=q->g0 x.2 q=g0 l q) (k+1,l) ⟨by simp only[ZY hne,Zb,seval,Za,men],by (simp only[W3 hS,Zb,seval,Za,men]) <;> rfl⟩ ⟨by omega,rfl,by rw[Nat.add_zero,hc2,hc1,Uao];omega,by rw[Nat.add_zero,hc2,hc1],by omega,fun _ _=>rfl⟩ ?_
    intro m ⟨i,y⟩ hm ⟨hm1,hy,hi,ht,hle,hq⟩
    dsimp only at hy hi ht hle hq
    simp only[Zb,seval,Za,men]
    refine Zs (fun hlt2=>?_) (fun hge2=>?_)
    ·have b1:k+1+(m+1)<l.length:=by omega
     have b2:m+1<l.length-(k+1):=by omega
     have b3:m<l.length-(k+1):=by omega
     have gy:=Z5 (l:=y) (i:=k+1+(m+1)) (by omega)
     have gy1:=Z5 (l:=y) (i:=k+1+m) (by omega)
     have q1:=hq (k+1+(m+1)) (by omega)
     have q2:=hq (k+1+m) (by omega)
     have e2:(((m+1:Nat):Int)-1)=(m:Int):=by omega
     have b4:i<l.length:=by omega
     by_cases hx2:g0 l (k+1+(m+1))=g0 l (k+1+m)
     ·have hc3:cz (g0 l) (k+1+(m+1)+1)=cz (g0 l) (k+1+m+1):=Zee (by omega) hx2
      simp only[JZ hne,YD,e2,gy,gy1,q1,q2,b2,b3,hx2,ZY hne,Zb,seval,Za,men]
      exact⟨by rw[Zh];omega,by rw[Zh];omega,Zy (i,y) (by omega) rfl ⟨by omega,hy,by rw[show k+1+(m+1)+1=k+1+(m+1)+1 from rfl,hc3];exact hi,by rw[hc3];exact ht,by show i<=k+1+(m+1);omega,fun q hqq=>hq q (by omega)⟩⟩
     ·have hc3:cz (g0 l) (k+1+(m+1)+1)=cz (g0 l) (k+1+m+1)++[g0 l (k+1+(m+1))]:=ZvO hx2
      have s1:=Zed (y:=y) (j:=i) (v:=g0 l (k+1+(m+1))) (by omega)
      have gy0:=Z5 (l:=y) (i:=i) (by omega)
      simp only[JZ hne,VI hne,VL,YD,e2,gy,gy0,gy1,q1,q2,b2,b3,b4,hx2,s1,Uax,ZY hne,Zb,seval,Za,men]
      exact⟨by rw[Zh];omega,by rw[Zh];omega,by rw[Zh];omega,Zy (i+1,y.set i (g0 l (k+1+(m+1)))) (by omega) rfl ⟨by omega,by rw[UaI];exact hy,by rw[hc3,Uai,<-hi];rfl,by rw[ZvP (by omega),ht,hc3],by show i+1<=k+1+(m+1);omega,fun q hqq=>by
       rw[Zec (by omega),if_neg (by omega)]
       exact hq q (by omega)⟩⟩
    ·have en:k+1+m+1=l.length:=by omega
     rw[en] at hi ht
     refine⟨by omega,Zeg hne (YD ..),?_⟩
     have tk:(rI y).take i=rI (cz (g0 l) l.length):=by rw[<-ht];exact(List.map_take ..).symm
     simp only[JZ hne,VI hne,VL,YD,tk,Uab,hy,Zb,seval,Za,men]
     refine⟨by omega,by omega,by omega,by omega,Zeg hne (YD ..),?_⟩
     simp only[ZcF hne,Nat.sub_zero,hi,Zb,seval,Za,men]
   ·simp only[JZ hne,hS,e1,gj,gj1,l1,l2,hx,Uax,ZY hne,Zb,seval,Za,men]
    exact⟨by rw[Zh];omega,by rw[Zh];omega,Zy () (by omega) rfl ⟨by omega,fun m h0 h1=>by
     by_cases e:m=k+1
     ·subst e;exact hx
     ·exact hB m h0 (by omega)⟩⟩
  ·exact absurd (fun m h0 h1=>hB m h0 (by omega)) hd
theorem Uh{C:Zz}{env:List (Nat×IV)}{loc:List (Nat×Ob)}{out:Zc}{d:Option Nat}{K:St->Prop}{fid:FuncId}{imp:Bool}{lvl:Nat}{args:List IV}{r:IV}(key:Nat)(o:Ob)(h:C fid (lvl+1) args (Zw lvl loc out) r (Zf (Zw lvl loc out) (lvl,key) o))
  (hk:freshK (keyOf d) (ptO key o loc) (impv imp lvl (keyOf d) 0 r).2.length/\K ⟨lvl,ptd d (impv imp lvl (keyOf d) 0 r).1 env,addO (keyOf d) (impv imp lvl (keyOf d) 0 r).2 (ptO key o loc),out⟩):Q4 C fid imp lvl env loc out d K args :=
 X6 (ptO key o loc) out (fun _ _=>rfl) (by rw[W8];exact h) hk
theorem ZvR{C:Zz}{env:List (Nat×IV)}{loc:List (Nat×Ob)}{out:Zc}{d:Option Nat}{K:St->Prop}{fid:FuncId}{imp:Bool}{lvl:Nat}{args:List IV}{r:IV}(key:Nat)(o:Nat->Ob)(h:∃ v,C fid (lvl+1) args (Zw lvl loc out) r (Zf (Zw lvl loc out) (lvl,key) (o v)))
  (hk:∀ v,freshK (keyOf d) (ptO key (o v) loc) (impv imp lvl (keyOf d) 0 r).2.length/\K ⟨lvl,ptd d (impv imp lvl (keyOf d) 0 r).1 env,addO (keyOf d) (impv imp lvl (keyOf d) 0 r).2 (ptO key (o v) loc),out⟩):Q4 C fid imp lvl env loc out d K args:=by
 obtain⟨v,h⟩:=h
 exact Uh key (o v) h (hk v)
theorem ZiG{α:Type}{f:α->Bool}:∀{l:List α} {j:Int},(Yt f l j = -1/\∀ x∈l,f x=false)\/∃ i,∃ h:i<l.length,Yt f l j=j+i/\(∀ x∈l.take i,f x=false)/\f l[i]=true
 | [],j=>.inl ⟨rfl,fun _ h=>by cases h⟩
 | x::r,j=>by
  rw[Di]
  cases hx:f x with
  | true=>exact .inr ⟨0,by simp,by simp,by simp,hx⟩
  | false =>
   rcases ZiG (f:=f) (l:=r) (j:=j+1) with ⟨h1,h2⟩ | ⟨i,h,h1,h2,h3⟩
   ·exact .inl ⟨by simp [h1],fun y hy=>by
     rcases UaP.1 hy with rfl | hy
     ·exact hx
     ·exact h2 y hy⟩
   ·refine .inr ⟨i+1,by simpa using h,by simp only[UaU,if_false,h1];omega,fun y hy=>?_,by simpa using h3⟩
    rw[List.take_succ_cons] at hy
    rcases UaP.1 hy with rfl | hy
    ·exact hx
    ·exact h2 y hy
section
variable {α:Type} {e0:α} {lt:α->α->Prop}
def gx(e0:α)(l:List α)(i:Nat):α:=l.getD i e0
theorem Zbo{l:List α}{i:Nat}(h:i<l.length):gx e0 l i=l[i]:=by
 unfold gx
 rw[Ubb,Uag h]
 rfl
end
structure Ords {α:Type} (lt:α->α->Prop):Prop where
 irr:∀ a,¬ lt a a
 tr:∀ a b c,lt a b->lt b c->lt a c
 tri:∀ a b,lt a b\/a=b\/lt b a
theorem Ords.asym{α:Type}{lt:α->α->Prop}(O:Ords lt)(a b:α)(h:lt a b):¬ lt b a:=fun g=>O.irr a (O.tr _ _ _ h g)
section
variable {α:Type} {e0:α} {lt:α->α->Prop}
theorem Zbp(O:Ords lt):∀{x y:List α},x.Pairwise (fun a b=>¬ lt b a)->y.Pairwise (fun a b=>¬ lt b a)->x.Perm y->x=y
 | [],y,_,_,h=>by rw[List.nil_perm.1 h]
 | a::r,[],_,_,h=>by have:=h.length_eq;simp at this
 | a::r,b::s,hx,hy,h=>by
  rw[Ubr] at hx hy
  have e:a=b:=by
   rcases UaP.1 (h.mem_iff.1 (UbN (a:=a) (l:=r))) with e | h1
   ·exact e
   ·rcases UaP.1 (h.mem_iff.2 (UbN (a:=b) (l:=s))) with e | h2
    ·exact e.symm
    ·rcases O.tri a b with g | g | g
     ·exact absurd g (hy.1 a h1)
     ·exact g
     ·exact absurd g (hx.1 b h2)
  subst e
  congr 1
  exact Zbp O hx.2 hy.2 h.cons_inv
noncomputable def Wq(lt:α->α->Prop)(l:List α):List α:=l.mergeSort fun a b=>@decide (¬ lt b a) (Classical.propDecidable _)
theorem srtG_perm{l:List α}:(Wq lt l).Perm l:=List.mergeSort_perm ..
theorem Dv(O:Ords lt){l:List α}:(Wq lt l).Pairwise (fun a b=>¬ lt b a):=by
 classical
 have h:=List.pairwise_mergeSort (le:=fun a b=>@decide (¬ lt b a) (Classical.propDecidable _)) (fun a b c h1 h2=>by
  simp only[decide_eq_true_eq] at *
  intro g
  rcases O.tri a b with k | k | k
  ·exact h2 (O.tr _ _ _ g k)
  ·subst k;exact h2 g
  ·exact h1 k) (fun a b=>by
  simp only[UaJ,decide_eq_true_eq]
  by_cases g:lt b a
  ·exact .inr (O.asym _ _ g)
  ·exact .inl g) l
 exact h.imp (fun h=>by simpa using h)
theorem cz_mem[DecidableEq α]{g:Nat->α}{c:α}:∀{n:Nat},c∈cz g n↔∃ i,i<n/\g i=c
 | 0=>by simp [cz]
 | n+1=>by
  rw[cz,Uas,cz_mem (n:=n)]
  constructor
  ·rintro(⟨i,h1,h2⟩ | h)
   ·exact⟨i,by omega,h2⟩
   ·split at h
    ·cases h
    ·exact⟨n,by omega,(UaO.1 h).symm⟩
  ·rintro⟨i,h1,h2⟩
   by_cases e:i=n
   ·subst e
    by_cases k:i≠0/\g i=g (i-1)
    ·exact .inl ⟨i-1,by omega,k.2.symm.trans h2⟩
    ·rw[if_neg k];exact .inr (by simp [h2])
   ·exact .inl ⟨i,by omega,h2⟩
theorem ZiH(O:Ords lt)[DecidableEq α]{g:Nat->α}:∀{n:Nat},(∀ i j,i<j->j<n -> ¬ lt (g j) (g i))->(cz g n).Pairwise lt
 | 0,_=>by simp [cz]
 | n+1,h=>by
  have ih:=ZiH O (n:=n) fun i j h1 h2=>h i j h1 (by omega)
  by_cases k:n≠0/\g n=g (n-1)
  ·rw[Zee k.1 k.2];exact ih
  ·have hx:cz g (n+1)=cz g n++[g n]:=by rw[cz,if_neg k]
   rw[hx,Ubl]
   refine⟨ih,by simp,fun c hc d hd=>?_⟩
   rw[UaO] at hd
   subst hd
   obtain⟨i,h1,rfl⟩:=cz_mem.1 hc
   have hn0:n≠0:=by omega
   rcases O.tri (g i) (g n) with e | e | e
   ·exact e
   ·exfalso
    have e1:¬ lt (g n) (g (n-1)):=h (n-1) n (by omega) (by omega)
    have e2:¬ lt (g (n-1)) (g i):=by
     by_cases q:i=n-1
     ·subst q;exact O.irr _
     ·exact h i (n-1) (by omega) (by omega)
    rw[e] at e2
    rcases O.tri (g n) (g (n-1)) with q | q | q
    ·exact e1 q
    ·exact k ⟨hn0,q⟩
    ·exact e2 q
   ·exact absurd e (h i n h1 (by omega))
noncomputable def Zbq[DecidableEq α](e0:α)(lt:α->α->Prop)(l:List α):List α:=cz (gx e0 (Wq lt l)) (Wq lt l).length
theorem ZvS(O:Ords lt)[DecidableEq α]{l:List α}:(Zbq e0 lt l).Pairwise lt:=ZiH O fun i j h1 h2=>by
 rw[Zbo h2,Zbo (Nat.lt_trans h1 h2)]
 exact List.pairwise_iff_getElem.1 (Dv O) i j _ _ h1
theorem ZvT[DecidableEq α]{l:List α}{c:α}:c∈Zbq e0 lt l↔c∈l:=by
 unfold Zbq
 rw[cz_mem,<-(srtG_perm (lt:=lt) (l:=l)).mem_iff]
 constructor
 ·rintro⟨i,h1,h2⟩
  rw[Zbo h1] at h2
  rw[<-h2];exact Uan h1
 ·intro h
  obtain⟨i,h1,h2⟩:=UaX h
  exact⟨i,h1,by rw[Zbo h1];exact h2⟩
end
theorem XL:Ords (fun a b:Int=>a<b):=⟨fun a=>Int.lt_irrefl a,fun a b c=>Int.lt_trans,fun a b=>Int.lt_trichotomy a b⟩
noncomputable def Yk(l:List Int):List Int:=Zbq 0 (fun a b:Int=>a<b) l
theorem ZiI{l:List Int}:(Yk l).Nodup:=(ZvS XL).imp fun h e=>by omega
theorem Zeh:∀{x y:List Int},x.Nodup->(∀ c∈x,c∈y)->x.length<=y.length/\(y.length<=x.length->x.Perm y)
 | [],y,_,_=>⟨Ua9 _,fun h=>by rw[List.length_eq_zero_iff.1 (Nat.le_zero.1 h)]⟩
 | a::r,y,hd,hs=>by
  have hc:=List.nodup_cons.1 hd
  have ha:a∈y:=hs a (by simp)
  have hp:=List.perm_cons_erase ha
  obtain⟨h1,h2⟩:=Zeh (x:=r) (y:=y.erase a) hc.2 fun c hcr=>(List.mem_erase_of_ne (fun e=>hc.1 (by rw[<-e];exact hcr))).2 (hs c (by simp [hcr]))
  have hl:=hp.length_eq
  simp only[List.length_cons] at hl ⊢
  exact⟨by omega,fun h=>((h2 (by omega)).cons a).trans hp.symm⟩
theorem ZvU{x:List Int}(h:Xd x x.length):x.Pairwise (fun a b=>a<=b):=by
 rw[List.pairwise_iff_getElem]
 intro i j hi hj hij
 have:=h i j hij hj
 rwa [show g0 x i=x[i] by simp [hi],show g0 x j=x[j] by simp [hj]] at this
theorem ZiJ{l x:List Int}(hp:x.Perm l)(h:Xd x l.length):x=Wq (fun a b:Int=>a<b) l:=by
 rw[<-hp.length_eq] at h
 exact Zbp XL ((ZvU h).imp fun h=>by omega) (Dv XL) (hp.trans srtG_perm.symm)
theorem ZiK(l:List Int)(hl:l.length<=12)(lvl:Nat)(S:Zc):Sem UbX ZaW lvl [tI l] S (iI ((Yk l).length:Int)) S:=by
 obtain⟨srt,hsr⟩:∃ r,r=Wq (fun a b:Int=>a<b) l:=⟨_,rfl⟩
 have hp:srt.length=l.length:=by rw[hsr];exact srtG_perm.length_eq
 have hN:Yk l=cz (g0 srt) srt.length:=by rw[hsr];rfl
 rw[hN]
 refine Zr Zuf trivial ?_
 simp only[Zhj,Zb,seval,Za,men]
 refine Zk (ZvD l (by omega)) ?_
 simp only[Uab,Zb,seval,Za,men]
 have s1:=fun S' hS=>ZiF l hl (lvl+1) S' (lvl,160) true l.length 0 (UaD _) hS srt (fun x hp hu=>by rw[hsr];exact ZiJ hp hu)
 refine Uh 160 _ (s1 _ ?_) ?_
 ·rw[JN];rfl
 simp only[Zb,seval,Za,men]
 have s2:=fun S' hS=>ZvQ srt (by omega) (lvl+1) S' (lvl,160) true l.length 0 (UaD _) hS
 rw[show Yb (IV.hd (lvl,160) [] 0 l.length none l.length)=IV.hd (lvl,160) [] 0 srt.length none l.length from by rw[hp];rfl]
 refine ZvR 160 _ (s2 _ ?_) fun v=>?_
 ·rw[JN];rfl
 simp only[Uab,Zb,seval,Za,men]
 try rfl
end Go.Fd
