/-
  The annotated codes of the functions, printed by a program of mine (gen.py), and the check that they belong to the program.
-/
import Derived.Test.YtgkglbecjlffiaaGreatDoorT04
import Derived.KernelRfl
import Derived.Shelf.Strings.SlTrimAscii
import Derived.Test.YtgkglbecjlffiaaGreatDoorProg
import Derived.Shelf.Spec.SlicesInsertGrow
import Derived.Sort.Row
import Derived.Sort.Grow
import Derived.Shelf.Spec.SlicesInsert
set_option linter.all false
namespace Go.Fd
open Go.Proofs.Tryz renaming prog->UbR
def Zho:F2 :=
 { nt:=107,res:=[.c 8 (some 5) [0,0,0,0,0],.t 9 [0]],body:=(.sq (rg [oo 8 (.al [.slice none 0 0,.slice none 0 0,.slice none 0 0,.slice none 0 0,.slice none 0 0] []),om 9 (.k (.bool false))]) (.sq (.sq (rg [qM 16 0,oo 17 (.ca .pure false (.f ZaZ) [.t 16]),oo 18 (.nt (.t 17)),qM 19 18,og 20 19 false (.mv (.t 2) none),og 21 19 false (.ca .pure false (.f Vl) [.t 20,i6 1,i6 4]),og 22 19 false (.nt (.t 21)),oo 23 (.pk (.t 19) (.k (.bool true)) (.t 22)),qM 24 23,og 25 24 false (.mv (.t 0) none),og 26 24 false (.mv (.t 1) none),og 27 24 false (.mv (.t 2) none),og 28 24 false (.ca .pure false (.f Zdh) [.t 25,.t 26,.t 27]),og 29 24 false (.nt (.t 28)),oo 30 (.pk (.t 24) (.k (.bool true)) (.t 29)),qM 31 30,og 32 31 false (.mv (.t 3) none),og 33 31 false (.ln (.t 32)),og 34 31 false (.ca .pure false (.f Vl) [.t 33,i6 1,i6 8]),og 35 31 false (.nt (.t 34)),oo 36 (.pk (.t 31) (.k (.bool true)) (.t 35))]) (.cd (.t 36) (.sq (rg [oo 37 (.bd [.slice none 0 0,.slice none 0 0,.slice none 0 0,.slice none 0 0,.slice none 0 0] [] [(4,2)]),
 ZI (.st 5 (.t 8) (.t 37)),om 9 (.k (.bool false))]) (.rt)) (.sk))) (.sq (.rg (some 0) [oo 38 (.bs 1 0 [] []),qM 39 0,qN 40 39,oo 41 (.ca .pure true (.f Zdi) [.t 40]),qM 42 1,oo 43 (.ca .pure true (.f Zdj) [.t 42]),qM 44 2,oo 45 (.ms 1 [.int .i64 0] (.t 44)),oo 46 (.bd [.slice none 0 0,.slice none 0 0,.slice none 0 0,.slice none 0 0,.slice none 0 0] [(0,1,.t 38),(1,1,.t 41),(2,1,.t 43),(3,1,.t 45)] [(4,2)]),oo 10 (.al [.slice none 0 0,.slice none 0 0,.slice none 0 0,.slice none 0 0,.slice none 0 0] []),
 ZI (.st 5 (.t 10) (.t 46))]) (.sq (.sq (rg [om 11 (i6 0)]) (.bl 0 (.lp [0,2,3,8,10,11] [256,320,1184,1216,1312,1376,1440,1472,1920,3328] (.sq (.sq (rg [qM 47 11,qM 48 3,qN 49 48,qB 50 .lss 47 49]) (.cd (.t 50) (.sk) (.ex 0))) (.sq (.bl 1 (.sq (.sq (rg [qM 53 0,qM 54 3,qM 55 11,qI 56 6 54 55,qS 57 6 56,oo 58 (.ca .pure false (.f Zdk) [.t 53,.t 57]),oo 59 (.nt (.t 58))]) (.cd (.t 59) (.sq (rg [oo 60 (.bd [.slice none 0 0,.slice none 0 0,.slice none 0 0,.slice none 0 0,.slice none 0 0] [] [(4,2)]),
 ZI (.st 5 (.t 8) (.t 60)),om 9 (.k (.bool false))]) (.rt)) (.sk))) (.rg (some 0) [qS 61 5 10,qM 62 3,qM 63 11,qI 64 6 62 63,qS 65 6 64,oo 66 (.ca .any false (.f Za0) [.t 61,.t 65]),
 ZI (.st 5 (.t 10) (.t 66))])))
 (rg [qM 51 11,oo 52 (.bi .add 0 (.t 51) (i6 1)),qM 11 52])))))) (.sq (.sq (rg [om 12 (i6 0)]) (.bl 2 (.lp [2,3,8,10,12] [256,320,1184,1216,1312,1376,1440,1472,1920,3328] (.sq (.sq (rg [qM 67 12,qM 68 2,qB 69 .lss 67 68]) (.cd (.t 69) (.sk) (.ex 2))) (.sq (.bl 3 (.sq (rg [qM 72 12,oo 73 (.bi .add 0 (.t 72) (i6 1)),qM 13 73]) (.bl 4 (.lp [2,3,8,10,12,13] [256,320,1184,1216,1312,1376,1440,1472,1920,3328] (.sq (.sq (rg [qM 74 13,qM 75 2,qB 76 .lss 74 75]) (.cd (.t 76) (.sk) (.ex 4))) (.sq (.bl 5 (.sq (rg [om 14 (.k (.bool false))]) (.sq (.sq (rg [om 15 (i6 0)]) (.bl 6 (.lp [2,3,8,10,12,13,14,15] [256,320,1184,1216,1312,1376,1440,1472,1920,3328] (.sq (.sq (rg [qM 79 15,qM 80 3,qN 81 80,qB 82 .lss 79 81]) (.cd (.t 82) (.sk) (.ex 6))) (.sq (.bl 7 (.rg (some 0) [qM 85 14,qM 86 85,og 87 86 false (.ld (some 5) (.t 10)),og 88 86 false (.mv (.t 3) none),og 89 86 false (.mv (.t 15) none),og 90 86 false (.ia 6 (.t 88) (.t 89)),og 91 86 false (.ld (some 6) (.t 90)),og 92 86 false (.mv (.t 12) none),og 93 86 false (.mv (.t 13) none),og 94 86 false (.ca .pure false (.f Zdl) [.t 87,.t 91,.t 92,.t 93]),oo 95 (.pk (.t 86) (.k (.bool true)) (.t 94)),qM 14 95]))
 (rg [qM 83 15,oo 84 (.bi .add 0 (.t 83) (i6 1)),qM 15 84])))))) (.sq (rg [qM 96 14,oo 97 (.nt (.t 96))]) (.cd (.t 97) (rg [qF 98 4 10,qL 99 98,qM 100 12,qM 101 13,oo 102 (.bd [.int .i64 0,.int .i64 0] [(0,1,.t 100),(1,1,.t 101)] []),oo 103 (.bs 2 1 [.int .i64 0,.int .i64 0] [(0,.t 102)]),oo 104 (.ap 2 0 (.t 99) (.t 103)),qF 105 4 10,
 ZI (.st 1 (.t 105) (.t 104))]) (.sk))))))
 (rg [qM 77 13,oo 78 (.bi .add 0 (.t 77) (i6 1)),qM 13 78])))))))
 (rg [qM 70 12,oo 71 (.bi .add 0 (.t 70) (i6 1)),qM 12 71])))))) (.sq (rg [qS 106 5 10,
 ZI (.st 5 (.t 8) (.t 106)),om 9 (.k (.bool true))]) (.rt))))))) }
theorem Zux:Zo UbR Zda Zho=true:=by kernel_rfl
def Zhp:F2 :=
 { nt:=166,res:=[.c 8 (some 5) [2,2,2,2,3],.t 9 [0]],body:=(.sq (rg [oo 4 (.bt (.t 0)),oo 8 (.al [.slice none 0 0,.slice none 0 0,.slice none 0 0,.slice none 0 0,.slice none 0 0] []),om 9 (.k (.bool false))]) (.sq (.sq (rg [qM 24 2,oo 25 (.ca .pure false (.f YE) [.t 24,i6 1,i6 4]),oo 26 (.nt (.t 25)),qM 27 26,og 28 27 false (.mv (.t 3) none),og 29 27 false (.ln (.t 28)),og 30 27 false (.ca .pure false (.f YE) [.t 29,i6 1,i6 8]),og 31 27 false (.nt (.t 30)),oo 32 (.pk (.t 27) (.k (.bool true)) (.t 31))]) (.cd (.t 32) (.sq (rg [oo 33 (.bd [.slice none 0 0,.slice none 0 0,.slice none 0 0,.slice none 0 0,.slice none 0 0] [] [(2,1),(4,2)]),
 ZI (.st 5 (.t 8) (.t 33)),om 9 (.k (.bool false))]) (.rt)) (.sk))) (.sq (.rg (some 0) [qL 34 4,qN 35 34,oo 36 (.ms 1 [.slice none 0 0] (.t 35)),qM 37 2,oo 38 (.ms 1 [.int .i64 0] (.t 37)),oo 39 (.bd [.slice none 0 0,.slice none 0 0,.slice none 0 0,.slice none 0 0,.slice none 0 0] [(1,1,.t 36),(3,1,.t 38)] [(0,1),(2,1),(4,2)]),oo 10 (.al [.slice none 0 0,.slice none 0 0,.slice none 0 0,.slice none 0 0,.slice none 0 0] []),
 ZI (.st 5 (.t 10) (.t 39))]) (.sq (.sq (rg [qM 40 1,qN 41 40,om 42 (i6 0)]) (.bl 0 (.lp [2,3,4,8,10,40,41,42] [256,320,1056,1057,1152,1216,1248,1249,1250,1632,2016,2017,2592,3328,3936] (.sq (rg [qB 43 .lss 42 41]) (.sq (.cd (.t 43) (.sk) (.ex 0)) (.sq (.bl 1 (.sq (rg [qI 44 1 40 42,qL 45 44,qM 12 45]) (.rg (some 0) [qF 46 2 10,qL 47 46,qM 48 12,oo 49 (.ca .pure true (.f Za1) [.t 48]),oo 50 (.bv 1 1 [.slice none 0 0] [(0,.t 49)]),oo 51 (.ap 1 2 (.t 47) (.t 50)),qF 52 2 10,
 ZI (.st 1 (.t 52) (.t 51))])))
 (rg [oo 53 (.bi .add 0 (.t 42) (i6 1)),qM 42 53]))))))) (.sq (.sq (rg [qL 54 4,qS 55 5 10,oo 56 (.ca .pure false (.f Zdo) [.t 54,.t 55]),oo 57 (.nt (.t 56)),qM 58 57,og 59 58 false (.mv (.t 3) none),og 60 58 false (.mf Za2 [.t 4]),og 61 58 false (.ca .pure false (.f Zhf) [.t 59,.t 60]),oo 62 (.pk (.t 58) (.k (.bool true)) (.t 61))]) (.cd (.t 62) (.sq (rg [oo 63 (.bd [.slice none 0 0,.slice none 0 0,.slice none 0 0,.slice none 0 0,.slice none 0 0] [] [(2,1),(4,2)]),
 ZI (.st 5 (.t 8) (.t 63)),om 9 (.k (.bool false))]) (.rt)) (.sk))) (.sq (.sq (rg [qM 64 2,om 65 (i6 0)]) (.bl 2 (.lp [2,3,8,10,64,65] [256,320,1056,1057,1152,1216,1248,1249,1250,1632,2016,2017,2592,3328,3936] (.sq (rg [qB 66 .lss 65 64]) (.sq (.cd (.t 66) (.sk) (.ex 2)) (.sq (.bl 3 (.sq (rg [qM 67 65,qM 13 67]) (.sq (rg [qM 68 13,oo 69 (.bi .add 0 (.t 68) (i6 1)),qM 14 69]) (.bl 4 (.lp [2,3,8,10,13,14,64,65] [256,320,1056,1057,1152,1216,1248,1249,1250,1632,2016,2017,2592,3328,3936] (.sq (.sq (rg [qM 70 14,qM 71 2,qB 72 .lss 70 71]) (.cd (.t 72) (.sk) (.ex 4))) (.sq (.bl 5 (rg [qF 75 4 10,qL 76 75,qM 77 13,qM 78 14,oo 79 (.bd [.int .i64 0,.int .i64 0] [(0,1,.t 77),(1,1,.t 78)] []),oo 80 (.bs 2 1 [.int .i64 0,.int .i64 0] [(0,.t 79)]),oo 81 (.ap 2 0 (.t 76) (.t 80)),qF 82 4 10,
 ZI (.st 1 (.t 82) (.t 81))]))
 (rg [qM 73 14,oo 74 (.bi .add 0 (.t 73) (i6 1)),qM 14 74]))))))))
 (rg [oo 83 (.bi .add 0 (.t 65) (i6 1)),qM 65 83]))))))) (.sq (.sq (rg [qM 84 3,qN 85 84,om 86 (i6 0)]) (.bl 6 (.lp [8,10,84,85,86] [256,320,1056,1057,1152,1216,1248,1249,1250,1632,2016,2017,2592,3328,3936] (.sq (rg [qB 87 .lss 86 85]) (.sq (.cd (.t 87) (.sk) (.ex 6)) (.sq (.bl 7 (.sq (rg [qI 88 6 84 86,qS 89 6 88,oo 16 (.al [.int .i64 0,.slice none 0 0,.slice none 0 0,.int .i64 0,.slice none 0 0,.slice none 0 0] []),
 ZI (.st 6 (.t 16) (.t 89))]) (.sq (.sq (rg [qF 90 1 16,qL 91 90,qN 92 91,om 93 (i6 0)]) (.bl 8 (.lp [8,10,16,84,85,86,91,92,93] [256,320,512,1056,1057,1152,1216,1248,1249,1250,1632,2016,2017,2592,3328,3936] (.sq (rg [qB 94 .lss 93 92]) (.sq (.cd (.t 94) (.sk) (.ex 8)) (.sq (.bl 9 (.sq (rg [qI 95 3 91 93,qS 96 3 95,oo 18 (.al [.int .i64 0,.int .i64 0,.slice none 0 0] []),
 ZI (.st 3 (.t 18) (.t 96))]) (.sq (rg [qF 97 1 18,qL 98 97,oo 99 (.bi .lss 0 (.t 98) (i6 0))]) (.cd (.t 99) (rg [qF 100 0 10,qL 101 100,qF 102 0 18,qL 103 102,oo 104 (.ca .see true (.f Dg) [.t 101,.t 103]),qF 105 0 10,
 ZI (.sk 1248 (.t 105) 104)]) (.sq (rg [qF 106 1 16,qL 107 106,qF 108 1 18,qL 109 108,qI 110 3 107 109,qF 111 0 110,qL 112 111,qM 19 112]) (.rg (some 0) [qF 113 1 10,qL 114 113,qM 115 19,qF 116 1 10,qL 117 116,qM 118 19,qI 119 1 117 118,qL 120 119,qF 121 0 18,qL 122 121,oo 123 (.ca .see true (.f Dg) [.t 120,.t 122]),qI 124 1 114 115,
 ZI (.st 1 (.t 124) (.t 123))]))))))
 (rg [oo 125 (.bi .add 0 (.t 93) (i6 1)),qM 93 125]))))))) (.sq (rg [qF 126 3 16,qL 127 126,qF 128 4 16,qL 129 128,qN 130 129,qB 131 .add 127 130,om 132 (i6 0)]) (.bl 10 (.lp [8,10,16,84,85,86,131,132] [256,320,512,1056,1057,1152,1216,1248,1249,1250,1632,2016,2017,2592,3328,3936] (.sq (rg [qB 133 .lss 132 131]) (.sq (.cd (.t 133) (.sk) (.ex 10)) (.sq (.bl 11 (.sq (rg [qM 134 132,qM 20 134]) (.sq (rg [qS 135 5 10,qS 136 6 16,qM 137 20,oo 138 (.ca .pure true (.f Zdq) [.t 135,.t 136,.t 137]),oo 21 (.al [.slice none 0 0] []),
 ZI (.st 1 (.t 21) (.t 138))]) (.sq (.sq (rg [qL 139 21,qN 140 139,om 141 (i6 0)]) (.bl 12 (.lp [8,10,16,21,84,85,86,131,132,139,140,141] [256,320,512,672,1056,1057,1152,1216,1248,1249,1250,1632,2016,2017,2592,3328,3936,4416] (.sq (rg [qB 142 .lss 141 140]) (.sq (.cd (.t 142) (.sk) (.ex 12)) (.sq (.bl 13 (.sq (rg [qM 143 141,qI 144 1 139 141,qL 145 144,qM 22 143,qM 23 145]) (.rg (some 0) [qF 146 3 10,qL 147 146,qM 148 22,qF 149 3 10,qL 150 149,qM 151 22,qI 152 1 150 151,qL 153 152,qM 154 23,oo 155 (.mm true (.t 153) (.t 154)),qI 156 1 147 148,
 ZI (.st 1 (.t 156) (.t 155))])))
 (rg [oo 157 (.bi .add 0 (.t 141) (i6 1)),qM 141 157])))))))
 (rg [qF 158 4 10,qL 159 158,oo 160 (.mz Za3 [.t 21]),oo 161 (.ca .any false (.f Zdr) [.t 159,.t 160]),qF 162 4 10,
 ZI (.st 1 (.t 162) (.t 161))])))))
 (rg [oo 163 (.bi .add 0 (.t 132) (i6 1)),qM 132 163]))))))))))
 (rg [oo 164 (.bi .add 0 (.t 86) (i6 1)),qM 86 164]))))))) (.sq (rg [qS 165 5 10,
 ZI (.st 5 (.t 8) (.t 165)),om 9 (.k (.bool true))]) (.rt))))))))) }
theorem Zuy:Zo UbR ZaW Zhp=true:=by kernel_rfl
def Zhq:F2 :=
 { nt:=55,res:=[.t 2 [0]],body:=(.sq (rg [om 2 (.k (.bool false))]) (.sq (.sq (rg [om 3 (i6 0)]) (.bl 0 (.lp [0,3] [] (.sq (.sq (rg [qM 5 3,qM 6 0,qN 7 6,qB 8 .lss 5 7]) (.cd (.t 8) (.sk) (.ex 0))) (.sq (.bl 1 (.sq (.sq (rg [qM 11 0,qM 12 3,qI 13 3 11 12,qF 14 0 13,qL 15 14,oo 16 (.ca .pure false (.f Za5) [.t 15]),oo 17 (.nt (.t 16)),qM 18 17,og 19 18 false (.mv (.t 0) none),og 20 18 false (.mv (.t 3) none),og 21 18 false (.ia 3 (.t 19) (.t 20)),og 22 18 false (.fa 1 (.t 21)),og 23 18 false (.ld none (.t 22)),og 24 18 false (.ca .pure false (.f Vl) [.t 23,i6 0,i6 3]),og 25 18 false (.nt (.t 24)),oo 26 (.pk (.t 18) (.k (.bool true)) (.t 25)),qM 27 26,og 28 27 false (.mv (.t 0) none),og 29 27 false (.mv (.t 3) none),og 30 27 false (.ia 3 (.t 28) (.t 29)),og 31 27 false (.fa 2 (.t 30)),og 32 27 false (.ld none (.t 31)),og 33 27 false (.ca .pure false (.f Vl) [.t 32,i6 0,i6 2]),og 34 27 false (.nt (.t 33)),oo 35 (.pk (.t 27) (.k (.bool true)) (.t 34))]) (.cd (.t 35) (.sq (rg [om 2 (.k (.bool false))]) (.rt)) (.sk))) (.sq (rg [om 4 (i6 0)]) (.bl 2 (.lp [0,3,4] [] (.sq (.sq (rg [qM 36 4,qM 37 3,qB 38 .lss 36 37]) (.cd (.t 38) (.sk) (.ex 2))) (.sq (.bl 3 (.sq (.rg (some 0) [qM 41 0,qM 42 4,qI 43 3 41 42,qF 44 0 43,qL 45 44,qM 46 0,qM 47 3,qI 48 3 46 47,qF 49 0 48,qL 50 49,qB 51 .eql 45 50]) (.cd (.t 51) (.sq (rg [om 2 (.k (.bool false))]) (.rt)) (.sk))))
 (rg [qM 39 4,oo 40 (.bi .add 0 (.t 39) (i6 1)),qM 4 40]))))))))
 (rg [qM 9 3,oo 10 (.bi .add 0 (.t 9) (i6 1)),qM 3 10])))))) (.sq (rg [qM 52 0,qN 53 52,oo 54 (.ca .pure false (.f Vl) [.t 53,i6 1,i6 6]),qM 2 54]) (.rt)))) }
theorem Zuz:Zo UbR ZaZ Zhq=true:=by kernel_rfl
def Zhr:F2 :=
 { nt:=15,res:=[.t 6 [0]],body:=(.sq (rg [om 6 (.k (.bool false))]) (.sq (rg [qM 7 0,qM 8 1,qB 9 .geq 7 8,qM 10 9,og 11 10 true (.mv (.t 0) none),og 12 10 true (.mv (.t 2) none),og 13 10 true (.bi .leq 0 (.t 11) (.t 12)),oo 14 (.pk (.t 10) (.t 13) (.k (.bool false))),qM 6 14]) (.rt))) }
theorem ZuA:Zo UbR Vl Zhr=true:=by kernel_rfl
def Zhs:F2 :=
 { nt:=51,res:=[.t 6 [0]],body:=(.sq (rg [om 6 (.k (.bool false))]) (.sq (.sq (rg [qM 9 1,qN 10 9,qM 11 0,qN 12 11,qB 13 .neq 10 12]) (.cd (.t 13) (.sq (rg [om 6 (.k (.bool false))]) (.rt)) (.sk))) (.sq (.sq (rg [om 7 (i6 0)]) (.bl 0 (.lp [0,1,2,7] [] (.sq (.sq (rg [qM 14 7,qM 15 1,qN 16 15,qB 17 .lss 14 16]) (.cd (.t 17) (.sk) (.ex 0))) (.sq (.bl 1 (.sq (.sq (.rg (some 0) [qM 20 1,qM 21 7,qI 22 1 20 21,qL 23 22,qN 24 23,qM 25 0,qM 26 7,qI 27 3 25 26,qF 28 1 27,qL 29 28,qB 30 .neq 24 29]) (.cd (.t 30) (.sq (rg [om 6 (.k (.bool false))]) (.rt)) (.sk))) (.sq (rg [om 8 (i6 0)]) (.bl 2 (.lp [0,1,2,7,8] [] (.sq (.sq (rg [qM 31 8,qM 32 1,qM 33 7,qI 34 1 32 33,qL 35 34,qN 36 35,qB 37 .lss 31 36]) (.cd (.t 37) (.sk) (.ex 2))) (.sq (.bl 3 (.sq (rg [qM 40 1,qM 41 7,qI 42 1 40 41,qL 43 42,qM 44 8,qI 45 1 43 44,qL 46 45,qM 47 2,oo 48 (.bi .sub 0 (.t 47) (i6 1)),oo 49 (.ca .pure false (.f Vl) [.t 46,i6 0,.t 48]),oo 50 (.nt (.t 49))]) (.cd (.t 50) (.sq (rg [om 6 (.k (.bool false))]) (.rt)) (.sk))))
 (rg [qM 38 8,oo 39 (.bi .add 0 (.t 38) (i6 1)),qM 8 39]))))))))
 (rg [qM 18 7,oo 19 (.bi .add 0 (.t 18) (i6 1)),qM 7 19])))))) (.sq (rg [om 6 (.k (.bool true))]) (.rt))))) }
theorem ZuB:Zo UbR Zdh Zhs=true:=by kernel_rfl
def Zht:F2 :=
 { nt:=16,res:=[.t 2 [2]],body:=(.sq (rg [om 2 (.k (.slice none 0 0))]) (.sq (rg [oo 5 (.bs 1 0 [] []),qM 3 5]) (.sq (.sq (rg [om 4 (i6 0)]) (.bl 0 (.lp [0,3,4] [160,448] (.sq (.sq (rg [qM 6 4,qM 7 0,qB 8 .lss 6 7]) (.cd (.t 8) (.sk) (.ex 0))) (.sq (.bl 1 (rg [qM 11 3,oo 12 (.bs 1 0 [] []),oo 13 (.bw 1 1 [.slice none 0 0] [(0,.t 12)]),oo 14 (.ap 1 1 (.t 11) (.t 13)),qM 3 14]))
 (rg [qM 9 4,oo 10 (.bi .add 0 (.t 9) (i6 1)),qM 4 10])))))) (.sq (rg [qM 15 3,qM 2 15]) (.rt))))) }
theorem ZuC:Zo UbR Zdi Zht=true:=by kernel_rfl
def Zhu:F2 :=
 { nt:=21,res:=[.t 2 [2]],body:=(.sq (rg [om 2 (.k (.slice none 0 0))]) (.sq (rg [oo 5 (.bs 1 0 [] []),qM 3 5]) (.sq (.sq (rg [om 4 (i6 0)]) (.bl 0 (.lp [0,3,4] [160,608] (.sq (.sq (rg [qM 6 4,qM 7 0,qN 8 7,qB 9 .lss 6 8]) (.cd (.t 9) (.sk) (.ex 0))) (.sq (.bl 1 (rg [qM 12 3,qM 13 0,qM 14 4,qI 15 1 13 14,qL 16 15,oo 17 (.ca .pure true (.f ZdD) [.t 16]),oo 18 (.bw 1 1 [.slice none 0 0] [(0,.t 17)]),oo 19 (.ap 1 2 (.t 12) (.t 18)),qM 3 19]))
 (rg [qM 10 4,oo 11 (.bi .add 0 (.t 10) (i6 1)),qM 4 11])))))) (.sq (rg [qM 20 3,qM 2 20]) (.rt))))) }
theorem ZuD:Zo UbR Zdj Zhu=true:=by kernel_rfl
def Zhv:F2 :=
 { nt:=98,res:=[.t 4 [0]],body:=(.sq (rg [oo 3 (.bt (.t 1)),om 4 (.k (.bool false))]) (.sq (.sq (rg [qM 8 0,oo 9 (.ca .pure false (.f ZaZ) [.t 8]),oo 10 (.nt (.t 9)),qM 11 10,og 12 11 false (.fa 0 (.t 3)),og 13 11 false (.ld none (.t 12)),og 14 11 false (.ca .pure false (.f Vl) [.t 13,i6 0,i6 4]),og 15 11 false (.nt (.t 14)),oo 16 (.pk (.t 11) (.k (.bool true)) (.t 15)),qM 17 16,og 18 17 false (.fa 1 (.t 3)),og 19 17 false (.ld none (.t 18)),og 20 17 false (.ln (.t 19)),og 21 17 false (.bi .gtr 0 (.t 20) (i6 8)),oo 22 (.pk (.t 17) (.k (.bool true)) (.t 21)),qM 23 22,og 24 23 false (.fa 2 (.t 3)),og 25 23 false (.ld none (.t 24)),og 26 23 false (.ln (.t 25)),og 27 23 false (.bi .gtr 0 (.t 26) (i6 4)),oo 28 (.pk (.t 23) (.k (.bool true)) (.t 27)),qM 29 28,og 30 29 false (.fa 3 (.t 3)),og 31 29 false (.ld none (.t 30)),og 32 29 false (.ca .pure false (.f Vl) [.t 31,i6 0,i6 8]),og 33 29 false (.nt (.t 32)),oo 34 (.pk (.t 29) (.k (.bool true)) (.t 33))]) (.cd (.t 34) (.sq (rg [om 4 (.k (.bool false))]) (.rt)) (.sk))) (.sq (.sq (rg [qF 35 4 3,qL 36 35,oo 37 (.ca .pure false (.f Za6) [.t 36]),oo 38 (.nt (.t 37)),qM 39 38,og 40 39 false (.fa 5 (.t 3)),og 41 39 false (.ld none (.t 40)),og 42 39 false (.ln (.t 41)),og 43 39 false (.bi .gtr 0 (.t 42) (i6 16)),oo 44 (.pk (.t 39) (.k (.bool true)) (.t 43)),qM 45 44,og 46 45 false (.ld (some 6) (.t 3)),og 47 45 false (.ca .pure false (.f ZdE) [.t 46]),og 48 45 false (.ca .pure false (.f Za6) [.t 47]),og 49 45 false (.nt (.t 48)),oo 50 (.pk (.t 45) (.k (.bool true)) (.t 49))]) (.cd (.t 50) (.sq (rg [om 4 (.k (.bool false))]) (.rt)) (.sk))) (.sq (.sq (rg [om 5 (i6 0)]) (.bl 0 (.lp [0,3,5] [] (.sq (.sq (rg [qM 51 5,qF 52 1 3,qL 53 52,qN 54 53,qB 55 .lss 51 54]) (.cd (.t 55) (.sk) (.ex 0))) (.sq (.bl 1 (.sq (rg [qM 58 0,qS 59 6 3,qM 60 5,oo 61 (.ca .pure false (.f ZdF) [.t 58,.t 59,.t 60]),oo 62 (.nt (.t 61))]) (.cd (.t 62) (.sq (rg [om 4 (.k (.bool false))]) (.rt)) (.sk))))
 (rg [qM 56 5,oo 57 (.bi .add 0 (.t 56) (i6 1)),qM 5 57])))))) (.sq (.sq (rg [om 6 (i6 0)]) (.bl 2 (.lp [0,3,6] [] (.sq (.sq (rg [qM 63 6,qF 64 2 3,qL 65 64,qN 66 65,qB 67 .lss 63 66]) (.cd (.t 67) (.sk) (.ex 2))) (.sq (.bl 3 (.sq (.rg (some 0) [qM 70 0,qS 71 6 3,qF 72 2 3,qL 73 72,qM 74 6,qI 75 1 73 74,qL 76 75,qF 77 1 3,qL 78 77,qN 79 78,oo 80 (.ca .pure false (.f Za7) [.t 70,.t 71,.t 76,.t 79]),oo 81 (.nt (.t 80))]) (.cd (.t 81) (.sq (rg [om 4 (.k (.bool false))]) (.rt)) (.sk))))
 (rg [qM 68 6,oo 69 (.bi .add 0 (.t 68) (i6 1)),qM 6 69])))))) (.sq (.sq (rg [om 7 (i6 0)]) (.bl 4 (.lp [3,7] [] (.sq (.sq (rg [qM 82 7,qF 83 5 3,qL 84 83,qN 85 84,qB 86 .lss 82 85]) (.cd (.t 86) (.sk) (.ex 4))) (.sq (.bl 5 (.sq (.rg (some 0) [qS 89 6 3,qF 90 5 3,qL 91 90,qM 92 7,qI 93 2 91 92,qF 94 1 93,qL 95 94,oo 96 (.ca .pure false (.f Za8) [.t 89,.t 95]),oo 97 (.nt (.t 96))]) (.cd (.t 97) (.sq (rg [om 4 (.k (.bool false))]) (.rt)) (.sk))))
 (rg [qM 87 7,oo 88 (.bi .add 0 (.t 87) (i6 1)),qM 7 88])))))) (.sq (rg [om 4 (.k (.bool true))]) (.rt)))))))) }
theorem ZuE:Zo UbR Zdk Zhv=true:=by kernel_rfl
def Zd8:F2 :=
 { nt:=88,res:=[.c 4 (some 5) [2,2,2,2,3]],body:=(.sq (rg [oo 2 (.bx (.t 0)),oo 3 (.bt (.t 1)),oo 4 (.al [.slice none 0 0,.slice none 0 0,.slice none 0 0,.slice none 0 0,.slice none 0 0] [])]) (.sq (rg [qS 12 5 2,oo 5 (.al [.slice none 0 0,.slice none 0 0,.slice none 0 0,.slice none 0 0,.slice none 0 0] []),
 ZI (.st 5 (.t 5) (.t 12))]) (.sq (.sq (rg [om 6 (i6 0)]) (.bl 0 (.lp [2,3,4,5,6] [64,128,160] (.sq (.sq (rg [qM 13 6,qF 14 1 3,qL 15 14,qN 16 15,qB 17 .lss 13 16]) (.cd (.t 17) (.sk) (.ex 0))) (.sq (.bl 1 (.sq (rg [qF 20 1 3,qL 21 20,qM 22 6,qI 23 3 21 22,qS 24 3 23,oo 7 (.al [.int .i64 0,.int .i64 0,.slice none 0 0] []),
 ZI (.st 3 (.t 7) (.t 24))]) (.sq (rg [qF 25 1 7,qL 26 25,oo 27 (.bi .lss 0 (.t 26) (i6 0))]) (.cd (.t 27) (rg [qF 28 0 5,qL 29 28,qF 30 0 7,qL 31 30,oo 32 (.ca .see false (.f Dj) [.t 29,.t 31]),qF 33 0 5,
 ZI (.st 1 (.t 33) (.t 32))]) (.sq (rg [qF 34 1 3,qL 35 34,qF 36 1 7,qL 37 36,qI 38 3 35 37,qF 39 0 38,qL 40 39,qM 8 40]) (.rg (some 0) [qF 41 1 5,qL 42 41,qM 43 8,qF 44 1 5,qL 45 44,qM 46 8,qI 47 1 45 46,qL 48 47,qF 49 0 7,qL 50 49,oo 51 (.ca .pure false (.f Dj) [.t 48,.t 50]),qI 52 1 42 43,
 ZI (.st 1 (.t 52) (.t 51))]))))))
 (rg [qM 18 6,oo 19 (.bi .add 0 (.t 18) (i6 1)),qM 6 19])))))) (.sq (.sq (rg [om 9 (i6 0)]) (.bl 2 (.lp [2,3,4,5,9] [64,128,160] (.sq (.sq (rg [qM 53 9,qF 54 3 3,qL 55 54,qF 56 4 3,qL 57 56,qN 58 57,qB 59 .add 55 58,qB 60 .lss 53 59]) (.cd (.t 60) (.sk) (.ex 2))) (.sq (.bl 3 (.sq (rg [qS 63 5 2,qS 64 6 3,qM 65 9,oo 66 (.ca .pure false (.f Za9) [.t 63,.t 64,.t 65]),qM 10 66]) (.sq (rg [om 11 (i6 0)]) (.bl 4 (.lp [2,3,4,5,9,10,11] [64,128,160] (.sq (.sq (rg [qM 67 11,qM 68 10,qN 69 68,qB 70 .lss 67 69]) (.cd (.t 70) (.sk) (.ex 4))) (.sq (.bl 5 (.rg (some 0) [qF 73 3 5,qL 74 73,qM 75 11,qF 76 3 5,qL 77 76,qM 78 11,qI 79 1 77 78,qL 80 79,qM 81 10,qM 82 11,qI 83 1 81 82,qL 84 83,oo 85 (.ca .pure false (.f ZdG) [.t 80,.t 84]),qI 86 1 74 75,
 ZI (.st 1 (.t 86) (.t 85))]))
 (rg [qM 71 11,oo 72 (.bi .add 0 (.t 71) (i6 1)),qM 11 72]))))))))
 (rg [qM 61 9,oo 62 (.bi .add 0 (.t 61) (i6 1)),qM 9 62])))))) (.sq (rg [qS 87 5 5,
 ZI (.st 5 (.t 4) (.t 87))]) (.rt)))))) }
theorem Zhw:Zo UbR Za0 Zd8=true:=by kernel_rfl
def Zhx:F2 :=
 { nt:=37,res:=[.t 8 [0]],body:=(.sq (rg [oo 4 (.bt (.t 0)),oo 5 (.bt (.t 1)),om 8 (.k (.bool false))]) (.sq (.sq (rg [om 9 (i6 0)]) (.bl 0 (.lp [2,3,4,5,9] [] (.sq (.sq (rg [qM 11 9,qF 12 3 5,qL 13 12,qF 14 4 5,qL 15 14,qN 16 15,qB 17 .add 13 16,qB 18 .lss 11 17]) (.cd (.t 18) (.sk) (.ex 0))) (.sq (.bl 1 (.sq (rg [qS 21 5 4,qS 22 6 5,qM 23 9,oo 24 (.ca .pure false (.f Za9) [.t 21,.t 22,.t 23]),qM 10 24]) (.sq (rg [qM 25 10,qM 26 2,qI 27 1 25 26,qL 28 27,oo 29 (.bi .gtr 0 (.t 28) (i6 0)),qM 30 29,og 31 30 true (.mv (.t 10) none),og 32 30 true (.mv (.t 3) none),og 33 30 true (.ia 1 (.t 31) (.t 32)),og 34 30 true (.ld none (.t 33)),og 35 30 true (.bi .gtr 0 (.t 34) (i6 0)),oo 36 (.pk (.t 30) (.t 35) (.k (.bool false)))]) (.cd (.t 36) (.sq (rg [om 8 (.k (.bool true))]) (.rt)) (.sk)))))
 (rg [qM 19 9,oo 20 (.bi .add 0 (.t 19) (i6 1)),qM 9 20])))))) (.sq (rg [om 8 (.k (.bool false))]) (.rt)))) }
theorem ZuF:Zo UbR Zdl Zhx=true:=by kernel_rfl
def Zhy:F2 :=
 { nt:=15,res:=[.t 6 [0]],body:=(.sq (rg [om 6 (.k (.bool false))]) (.sq (rg [qM 7 0,qM 8 1,qB 9 .geq 7 8,qM 10 9,og 11 10 true (.mv (.t 0) none),og 12 10 true (.mv (.t 2) none),og 13 10 true (.bi .leq 0 (.t 11) (.t 12)),oo 14 (.pk (.t 10) (.t 13) (.k (.bool false))),qM 6 14]) (.rt))) }
theorem ZuG:Zo UbR YE Zhy=true:=by kernel_rfl
def Zhz:F2 :=
 { nt:=8,res:=[.t 2 [2]],body:=(.sq (rg [om 2 (.k (.slice none 0 0))]) (.sq (.sq (rg [qM 3 0,oo 4 (.nl false (.t 3))]) (.cd (.t 4) (.sq (rg [om 2 (.k (.slice none 0 0))]) (.rt)) (.sk))) (.sq (rg [oo 5 (.bs 1 0 [] []),qM 6 0,oo 7 (.ap 1 0 (.t 5) (.t 6)),qM 2 7]) (.rt)))) }
theorem ZuH:Zo UbR Za1 Zhz=true:=by kernel_rfl
def ZhA:F2 :=
 { nt:=104,res:=[.t 4 [0]],body:=(.sq (rg [oo 3 (.bt (.t 1)),om 4 (.k (.bool false))]) (.sq (.sq (rg [qM 7 0,oo 8 (.ca .pure false (.f Zba) [.t 7]),oo 9 (.nt (.t 8)),qM 10 9,og 11 10 false (.fa 0 (.t 3)),og 12 10 false (.ld none (.t 11)),og 13 10 false (.mv (.t 0) none),og 14 10 false (.ln (.t 13)),og 15 10 false (.ca .pure false (.f Zbb) [.t 12,.t 14]),og 16 10 false (.nt (.t 15)),oo 17 (.pk (.t 10) (.k (.bool true)) (.t 16)),qM 18 17,og 19 18 false (.fa 1 (.t 3)),og 20 18 false (.ld none (.t 19)),og 21 18 false (.ln (.t 20)),og 22 18 false (.mv (.t 0) none),og 23 18 false (.ln (.t 22)),og 24 18 false (.bi .neq 0 (.t 21) (.t 23)),oo 25 (.pk (.t 18) (.k (.bool true)) (.t 24)),qM 26 25,og 27 26 false (.fa 2 (.t 3)),og 28 26 false (.ld none (.t 27)),og 29 26 false (.ln (.t 28)),og 30 26 false (.mv (.t 0) none),og 31 26 false (.ln (.t 30)),og 32 26 false (.bi .neq 0 (.t 29) (.t 31)),oo 33 (.pk (.t 26) (.k (.bool true)) (.t 32))]) (.cd (.t 33) (.sq (rg [om 4 (.k (.bool false))]) (.rt)) (.sk))) (.sq (.sq (rg [qF 34 3 3,qL 35 34,qN 36 35,oo 37 (.ca .pure false (.f YE) [.t 36,i6 1,i6 4]),oo 38 (.nt (.t 37)),qM 39 38,og 40 39 false (.fa 3 (.t 3)),og 41 39 false (.ld none (.t 40)),og 42 39 false (.ca .pure false (.f Dk) [.t 41,.f ZdK]),oo 43 (.pk (.t 39) (.k (.bool true)) (.t 42)),qM 44 43,og 45 44 false (.fa 4 (.t 3)),og 46 44 false (.ld none (.t 45)),og 47 44 false (.fa 3 (.t 3)),og 48 44 false (.ld none (.t 47)),og 49 44 false (.ln (.t 48)),og 50 44 false (.ca .pure false (.f ZdL) [.t 46,.t 49]),og 51 44 false (.nt (.t 50)),oo 52 (.pk (.t 44) (.k (.bool true)) (.t 51))]) (.cd (.t 52) (.sq (rg [om 4 (.k (.bool false))]) (.rt)) (.sk))) (.sq (.sq (rg [qM 53 0,qN 54 53,om 55 (i6 0)]) (.bl 0 (.lp [0,3,53,54,55] [] (.sq (rg [qB 56 .lss 55 54]) (.sq (.cd (.t 56) (.sk) (.ex 0)) (.sq (.bl 1 (.sq (rg [qM 57 55,qI 58 3 53 55,qS 59 3 58,oo 6 (.al [.string ⟨#[]⟩,.int .i64 0,.int .i64 0] []),qM 5 57,
 ZI (.st 3 (.t 6) (.t 59))]) (.sq (.rg (some 0) [qF 60 1 3,qL 61 60,qM 62 5,qI 63 1 61 62,qL 64 63,qM 65 0,qN 66 65,oo 67 (.ca .pure false (.f Zbb) [.t 64,.t 66]),oo 68 (.nt (.t 67)),qM 69 68,og 70 69 false (.fa 2 (.t 6)),og 71 69 false (.ld none (.t 70)),og 72 69 false (.bi .eql 0 (.t 71) (i6 2)),og 73 69 false (.mv (.t 72) none),og 74 73 true (.fa 1 (.t 3)),og 75 73 true (.ld none (.t 74)),og 76 73 true (.mv (.t 5) none),og 77 73 true (.ia 1 (.t 75) (.t 76)),og 78 73 true (.ld none (.t 77)),og 79 73 true (.ln (.t 78)),og 80 73 true (.bi .gtr 0 (.t 79) (i6 0)),og 81 69 false (.pk (.t 73) (.t 80) (.k (.bool false))),oo 82 (.pk (.t 69) (.k (.bool true)) (.t 81)),qM 83 82,og 84 83 false (.fa 2 (.t 3)),og 85 83 false (.ld none (.t 84)),og 86 83 false (.mv (.t 5) none),og 87 83 false (.ia 1 (.t 85) (.t 86)),og 88 83 false (.ld none (.t 87)),og 89 83 false (.ln (.t 88)),og 90 83 false (.fa 1 (.t 6)),og 91 83 false (.ld none (.t 90)),og 92 83 false (.bi .neq 0 (.t 89) (.t 91)),oo 93 (.pk (.t 83) (.k (.bool true)) (.t 92)),qM 94 93,og 95 94 false (.fa 2 (.t 3)),og 96 94 false (.ld none (.t 95)),og 97 94 false (.mv (.t 5) none),og 98 94 false (.ia 1 (.t 96) (.t 97)),og 99 94 false (.ld none (.t 98)),og 100 94 false (.mf ZdM [.t 3]),og 101 94 false (.ca .pure false (.f Dk) [.t 99,.t 100]),oo 102 (.pk (.t 94) (.k (.bool true)) (.t 101))]) (.cd (.t 102) (.sq (rg [om 4 (.k (.bool false))]) (.rt)) (.sk)))))
 (rg [oo 103 (.bi .add 0 (.t 55) (i6 1)),qM 55 103]))))))) (.sq (rg [om 4 (.k (.bool true))]) (.rt)))))) }
theorem ZuI:Zo UbR Zdo ZhA=true:=by kernel_rfl
def ZhB:F2 :=
 { nt:=8,res:=[.t 3 [0]],body:=(.sq (rg [oo 2 (.bt (.t 0)),om 3 (.k (.bool false))]) (.sq (rg [qL 4 1,qS 5 6 2,oo 6 (.ca .pure false (.f Zdp) [.t 4,.t 5]),oo 7 (.nt (.t 6)),qM 3 7]) (.rt))) }
theorem ZuJ:Zo UbR Za2 ZhB=true:=by kernel_rfl
def ZhC:F2 :=
 { nt:=101,res:=[.t 4 [0]],body:=(.sq (rg [oo 2 (.bt (.t 0)),oo 3 (.bt (.t 1)),om 4 (.k (.bool false))]) (.sq (.sq (rg [qL 7 2,oo 8 (.ca .pure false (.f Zba) [.t 7]),oo 9 (.nt (.t 8)),qM 10 9,og 11 10 false (.fa 0 (.t 3)),og 12 10 false (.ld none (.t 11)),og 13 10 false (.ca .pure false (.f YE) [.t 12,i6 0,i6 4]),og 14 10 false (.nt (.t 13)),oo 15 (.pk (.t 10) (.k (.bool true)) (.t 14)),qM 16 15,og 17 16 false (.fa 1 (.t 3)),og 18 16 false (.ld none (.t 17)),og 19 16 false (.ln (.t 18)),og 20 16 false (.bi .gtr 0 (.t 19) (i6 8)),oo 21 (.pk (.t 16) (.k (.bool true)) (.t 20)),qM 22 21,og 23 22 false (.fa 2 (.t 3)),og 24 22 false (.ld none (.t 23)),og 25 22 false (.ln (.t 24)),og 26 22 false (.bi .gtr 0 (.t 25) (i6 4)),oo 27 (.pk (.t 22) (.k (.bool true)) (.t 26)),qM 28 27,og 29 28 false (.fa 3 (.t 3)),og 30 28 false (.ld none (.t 29)),og 31 28 false (.ca .pure false (.f YE) [.t 30,i6 0,i6 8]),og 32 28 false (.nt (.t 31)),oo 33 (.pk (.t 28) (.k (.bool true)) (.t 32)),qM 34 33,og 35 34 false (.fa 4 (.t 3)),og 36 34 false (.ld none (.t 35)),og 37 34 false (.ca .pure false (.f Zbc) [.t 36]),og 38 34 false (.nt (.t 37)),oo 39 (.pk (.t 34) (.k (.bool true)) (.t 38)),qM 40 39,og 41 40 false (.ld (some 6) (.t 3)),og 42 40 false (.ca .pure false (.f ZdN) [.t 41]),og 43 40 false (.ca .pure false (.f Zbc) [.t 42]),og 44 40 false (.nt (.t 43)),oo 45 (.pk (.t 40) (.k (.bool true)) (.t 44))]) (.cd (.t 45) (.sq (rg [om 4 (.k (.bool false))]) (.rt)) (.sk))) (.sq (.sq (rg [qF 46 1 3,qL 47 46,qN 48 47,om 49 (i6 0)]) (.bl 0 (.lp [2,3,47,48,49] [] (.sq (rg [qB 50 .lss 49 48]) (.sq (.cd (.t 50) (.sk) (.ex 0)) (.sq (.bl 1 (.sq (rg [qM 51 49,qI 52 3 47 49,qS 53 3 52,oo 6 (.al [.int .i64 0,.int .i64 0,.slice none 0 0] []),qM 5 51,
 ZI (.st 3 (.t 6) (.t 53))]) (.sq (.rg (some 0) [qF 54 0 6,qL 55 54,qL 56 2,qN 57 56,oo 58 (.bi .sub 0 (.t 57) (i6 1)),oo 59 (.ca .pure false (.f YE) [.t 55,i6 0,.t 58]),oo 60 (.nt (.t 59)),qM 61 60,og 62 61 false (.ld (some 6) (.t 3)),og 63 61 false (.ld none (.t 2)),og 64 61 false (.fa 1 (.t 6)),og 65 61 false (.ld none (.t 64)),og 66 61 false (.mv (.t 5) none),og 67 61 false (.ca .pure false (.f Zbd) [.t 62,.t 63,.t 65,.t 66]),og 68 61 false (.nt (.t 67)),oo 69 (.pk (.t 61) (.k (.bool true)) (.t 68)),qM 70 69,og 71 70 false (.fa 2 (.t 6)),og 72 70 false (.ld none (.t 71)),og 73 70 false (.ln (.t 72)),og 74 70 false (.ld none (.t 2)),og 75 70 false (.fa 0 (.t 6)),og 76 70 false (.ld none (.t 75)),og 77 70 false (.ia 3 (.t 74) (.t 76)),og 78 70 false (.fa 1 (.t 77)),og 79 70 false (.ld none (.t 78)),og 80 70 false (.bi .neq 0 (.t 73) (.t 79)),oo 81 (.pk (.t 70) (.k (.bool true)) (.t 80)),qM 82 81,og 83 82 false (.fa 2 (.t 6)),og 84 82 false (.ld none (.t 83)),og 85 82 false (.mf ZdO [.t 3]),og 86 82 false (.ca .pure false (.f Dk) [.t 84,.t 85]),oo 87 (.pk (.t 82) (.k (.bool true)) (.t 86))]) (.cd (.t 87) (.sq (rg [om 4 (.k (.bool false))]) (.rt)) (.sk)))))
 (rg [oo 88 (.bi .add 0 (.t 49) (i6 1)),qM 49 88]))))))) (.sq (rg [qF 89 2 3,qL 90 89,oo 91 (.mf ZdP [.t 3,.t 2]),oo 92 (.ca .pure false (.f Dk) [.t 90,.t 91]),oo 93 (.nt (.t 92)),qM 94 93,og 95 94 true (.fa 5 (.t 3)),og 96 94 true (.ld none (.t 95)),og 97 94 true (.mf ZdQ [.t 3]),og 98 94 true (.ca .pure false (.f Zhh) [.t 96,.t 97]),og 99 94 true (.nt (.t 98)),oo 100 (.pk (.t 94) (.t 99) (.k (.bool false))),qM 4 100]) (.rt))))) }
theorem ZuK:Zo UbR Zdp ZhC=true:=by kernel_rfl
def Zd9:F2 :=
 { nt:=21,res:=[.t 4 [2]],body:=(.sq (rg [om 4 (.k (.slice none 0 0))]) (.sq (rg [qM 8 0,qM 9 1,oo 10 (.ca .pure false (.f ZdR) [.t 8,.t 9]),qM 7 10,qE 11 0 7,qE 12 1 7,qM 5 11,qM 6 12]) (.sq (.sq (rg [qM 13 6]) (.cd (.t 13) (.sq (rg [qM 14 0,qM 4 14]) (.rt)) (.sk))) (.sq (rg [qM 15 0,oo 16 (.ca .pure true (.f Za1) [.t 15]),qM 17 5,qM 18 1,oo 19 (.bs 1 1 [.int .i64 0] [(0,.t 18)]),oo 20 (.ca .any false (.f Zuw) [.t 16,.t 17,.t 19]),qM 4 20]) (.rt))))) }
theorem ZhD:Zo UbR Dg Zd9=true:=by kernel_rfl
def ZhE:F2 :=
 { nt:=50,res:=[.t 6 [2]],body:=(.sq (rg [oo 3 (.bt (.t 0)),oo 4 (.bt (.t 1)),om 6 (.k (.slice none 0 0))]) (.sq (rg [qF 12 3 3,qL 13 12,qN 14 13,oo 15 (.ms 1 [.int .i64 0] (.t 14)),qM 7 15]) (.sq (rg [qS 17 6 4,qM 18 2,oo 19 (.ca .pure false (.f ZdS) [.t 17,.t 18]),qM 16 19,qE 20 0 16,qE 21 1 16,qM 8 20,qM 9 21]) (.sq (.sq (rg [qM 22 8,qN 23 22,om 24 (i6 0)]) (.bl 0 (.lp [3,4,7,22,23,24] [480] (.sq (rg [qB 25 .lss 24 23]) (.sq (.cd (.t 25) (.sk) (.ex 0)) (.sq (.bl 1 (.sq (rg [qI 26 2 22 24,qS 27 2 26,oo 11 (.al [.int .i64 0,.int .i64 0] []),
 ZI (.st 2 (.t 11) (.t 27))]) (.rg (some 0) [qM 28 7,qF 29 2 3,qL 30 29,qF 31 1 4,qL 32 31,oo 33 (.ja 1 2 (.t 11) (i6 0)),qL 34 33,qI 35 3 32 34,qF 36 0 35,qL 37 36,qI 38 1 30 37,qL 39 38,oo 40 (.ja 1 2 (.t 11) (i6 1)),qL 41 40,qI 42 1 39 41,qL 43 42,qI 44 1 28 43,qL 45 44,oo 46 (.bi .add 0 (.t 45) (i6 1)),qI 47 1 28 43,
 ZI (.st 1 (.t 47) (.t 46))])))
 (rg [oo 48 (.bi .add 0 (.t 24) (i6 1)),qM 24 48]))))))) (.sq (rg [qM 49 7,qM 6 49]) (.rt)))))) }
theorem ZuL:Zo UbR Zdq ZhE=true:=by kernel_rfl
def Zea:F2 :=
 { nt:=42,res:=[.t 4 [3]],body:=(.sq (rg [om 4 (.k (.slice none 0 0))]) (.sq (rg [qM 8 0,qM 9 1,oo 10 (.ca .pure false (.f Zhi) [.t 8,.t 9]),qM 5 10]) (.sq (.sq (rg [qM 11 5,oo 12 (.bi .eql 0 (.t 11) (i6 (-1)))]) (.cd (.t 12) (.sq (rg [qM 13 0,qM 4 13]) (.rt)) (.sk))) (.sq (.sq (rg [qM 14 5,oo 15 (.bi .add 0 (.t 14) (i6 1)),qM 6 15]) (.bl 0 (.lp [0,1,5,6] [] (.sq (.sq (rg [qM 16 6,qM 17 0,qN 18 17,qB 19 .lss 16 18]) (.cd (.t 19) (.sk) (.ex 0))) (.sq (.bl 1 (.sq (rg [qM 22 0,qM 23 6,qI 24 2 22 23,qS 25 2 24,oo 7 (.al [.int .i64 0,.int .i64 0] []),
 ZI (.st 2 (.t 7) (.t 25))]) (.sq (rg [qM 26 1,qS 27 2 7,oo 28 (.ca .pure false (.t 26) [.t 27]),oo 29 (.nt (.t 28))]) (.cd (.t 29) (.sq (rg [qM 30 0,qM 31 5,qS 32 2 7,qI 33 2 30 31,
 ZI (.st 2 (.t 33) (.t 32))])
 (rg [qM 34 5,oo 35 (.bi .add 0 (.t 34) (i6 1)),qM 5 35])) (.sk)))))
 (rg [qM 20 6,oo 21 (.bi .add 0 (.t 20) (i6 1)),qM 6 21])))))) (.sq (rg [qM 36 0,qM 37 5,oo 38 (.sx 2 (.t 36) (some (.t 37)) none none),
 ZI (.cl 2 [.int .i64 0,.int .i64 0] (.t 38))]) (.sq (rg [qM 39 0,qM 40 5,oo 41 (.sx 2 (.t 39) none (some (.t 40)) none),qM 4 41]) (.rt))))))) }
theorem ZhF:Zo UbR Zdr Zea=true:=by kernel_rfl
def ZhG:F2 :=
 { nt:=18,res:=[.t 3 [0]],body:=(.sq (rg [oo 2 (.bt (.t 0)),om 3 (.k (.bool false))]) (.sq (rg [qL 4 1,oo 5 (.ja 1 2 (.t 2) (i6 0)),qL 6 5,qI 7 1 4 6,qL 8 7,oo 9 (.bi .gtr 0 (.t 8) (i6 0)),qM 10 9,og 11 10 true (.ld none (.t 1)),og 12 10 true (.ja 1 2 (.t 2) (i6 1)),og 13 10 true (.ld none (.t 12)),og 14 10 true (.ia 1 (.t 11) (.t 13)),og 15 10 true (.ld none (.t 14)),og 16 10 true (.bi .gtr 0 (.t 15) (i6 0)),oo 17 (.pk (.t 10) (.t 16) (.k (.bool false))),qM 3 17]) (.rt))) }
theorem ZuM:Zo UbR Za3 ZhG=true:=by kernel_rfl
def ZhH:F2 :=
 { nt:=23,res:=[.t 2 [0]],body:=(.sq (rg [om 2 (.k (.bool false))]) (.sq (.sq (rg [om 3 (i6 0)]) (.bl 0 (.lp [0,3] [] (.sq (.sq (rg [qM 4 3,qM 5 0,oo 6 (.lg (.t 5)),qB 7 .lss 4 6]) (.cd (.t 7) (.sk) (.ex 0))) (.sq (.bl 1 (.sq (rg [qM 10 0,qM 11 3,oo 12 (.ix (.t 10) (.t 11)),oo 13 (.bi .lss 0 (.t 12) (.k (.int .u8 97))),qM 14 13,og 15 14 false (.mv (.t 0) none),og 16 14 false (.mv (.t 3) none),og 17 14 false (.ix (.t 15) (.t 16)),og 18 14 false (.bi .gtr 0 (.t 17) (.k (.int .u8 122))),oo 19 (.pk (.t 14) (.k (.bool true)) (.t 18))]) (.cd (.t 19) (.sq (rg [om 2 (.k (.bool false))]) (.rt)) (.sk))))
 (rg [qM 8 3,oo 9 (.bi .add 0 (.t 8) (i6 1)),qM 3 9])))))) (.sq (rg [qM 20 0,oo 21 (.lg (.t 20)),oo 22 (.ca .pure false (.f Vl) [.t 21,i6 1,i6 4]),qM 2 22]) (.rt)))) }
theorem ZuN:Zo UbR Za5 ZhH=true:=by kernel_rfl
def ZhI:F2 :=
 { nt:=6,res:=[.t 2 [2]],body:=(.sq (rg [om 2 (.k (.slice none 0 0))]) (.sq (rg [oo 3 (.bs 1 0 [] []),qM 4 0,oo 5 (.ap 1 0 (.t 3) (.t 4)),qM 2 5]) (.rt))) }
theorem ZuO:Zo UbR ZdD ZhI=true:=by kernel_rfl
def ZhJ:F2 :=
 { nt:=35,res:=[.t 2 [0]],body:=(.sq (rg [om 2 (.k (.bool false))]) (.sq (.sq (rg [om 3 (i6 0)]) (.bl 0 (.lp [0,3] [] (.sq (.sq (rg [qM 4 3,qM 5 0,qN 6 5,qB 7 .lss 4 6]) (.cd (.t 7) (.sk) (.ex 0))) (.sq (.bl 1 (.sq (.rg (some 0) [qM 10 0,qM 11 3,qI 12 1 10 11,qL 13 12,oo 14 (.ca .pure false (.f Za5) [.t 13]),oo 15 (.nt (.t 14)),qM 16 15,og 17 16 false (.mv (.t 3) none),og 18 16 false (.bi .gtr 0 (.t 17) (i6 0)),og 19 16 false (.mv (.t 18) none),og 20 19 true (.mv (.t 0) none),og 21 19 true (.mv (.t 3) none),og 22 19 true (.bi .sub 0 (.t 21) (i6 1)),og 23 19 true (.ia 1 (.t 20) (.t 22)),og 24 19 true (.ld none (.t 23)),og 25 19 true (.mv (.t 0) none),og 26 19 true (.mv (.t 3) none),og 27 19 true (.ia 1 (.t 25) (.t 26)),og 28 19 true (.ld none (.t 27)),og 29 19 true (.bi .geq 0 (.t 24) (.t 28)),og 30 16 false (.pk (.t 19) (.t 29) (.k (.bool false))),oo 31 (.pk (.t 16) (.k (.bool true)) (.t 30))]) (.cd (.t 31) (.sq (rg [om 2 (.k (.bool false))]) (.rt)) (.sk))))
 (rg [qM 8 3,oo 9 (.bi .add 0 (.t 8) (i6 1)),qM 3 9])))))) (.sq (rg [qM 32 0,qN 33 32,oo 34 (.bi .leq 0 (.t 33) (i6 16)),qM 2 34]) (.rt)))) }
theorem ZuP:Zo UbR Za6 ZhJ=true:=by kernel_rfl
def ZhK:F2 :=
 { nt:=23,res:=[.t 2 [2]],body:=(.sq (rg [oo 1 (.bt (.t 0)),om 2 (.k (.slice none 0 0))]) (.sq (rg [oo 5 (.bs 1 0 [] []),qM 3 5]) (.sq (.sq (rg [om 4 (i6 0)]) (.bl 0 (.lp [1,3,4] [160,672] (.sq (.sq (rg [qM 6 4,qF 7 5 1,qL 8 7,qN 9 8,qB 10 .lss 6 9]) (.cd (.t 10) (.sk) (.ex 0))) (.sq (.bl 1 (rg [qM 13 3,qF 14 5 1,qL 15 14,qM 16 4,qI 17 2 15 16,qF 18 0 17,qL 19 18,oo 20 (.bs 1 1 [.string ⟨#[]⟩] [(0,.t 19)]),oo 21 (.ap 1 0 (.t 13) (.t 20)),qM 3 21]))
 (rg [qM 11 4,oo 12 (.bi .add 0 (.t 11) (i6 1)),qM 4 12])))))) (.sq (rg [qM 22 3,qM 2 22]) (.rt))))) }
theorem ZuQ:Zo UbR ZdE ZhK=true:=by kernel_rfl
def ZhL:F2 :=
 { nt:=57,res:=[.t 6 [0]],body:=(.sq (rg [oo 4 (.bt (.t 1)),om 6 (.k (.bool false))]) (.sq (rg [qF 9 1 4,qL 10 9,qM 11 2,qI 12 3 10 11,qS 13 3 12,oo 7 (.al [.int .i64 0,.int .i64 0,.slice none 0 0] []),
 ZI (.st 3 (.t 7) (.t 13))]) (.sq (.sq (.rg (some 0) [qF 14 0 7,qL 15 14,qM 16 0,qN 17 16,oo 18 (.bi .sub 0 (.t 17) (i6 1)),oo 19 (.ca .pure false (.f Vl) [.t 15,i6 0,.t 18]),oo 20 (.nt (.t 19)),qM 21 20,og 22 21 false (.mv (.t 0) none),og 23 21 false (.ld (some 6) (.t 4)),og 24 21 false (.fa 1 (.t 7)),og 25 21 false (.ld none (.t 24)),og 26 21 false (.mv (.t 2) none),og 27 21 false (.ca .pure false (.f Za7) [.t 22,.t 23,.t 25,.t 26]),og 28 21 false (.nt (.t 27)),oo 29 (.pk (.t 21) (.k (.bool true)) (.t 28)),qM 30 29,og 31 30 false (.fa 2 (.t 7)),og 32 30 false (.ld none (.t 31)),og 33 30 false (.ln (.t 32)),og 34 30 false (.mv (.t 0) none),og 35 30 false (.fa 0 (.t 7)),og 36 30 false (.ld none (.t 35)),og 37 30 false (.ia 3 (.t 34) (.t 36)),og 38 30 false (.fa 1 (.t 37)),og 39 30 false (.ld none (.t 38)),og 40 30 false (.bi .neq 0 (.t 33) (.t 39)),oo 41 (.pk (.t 30) (.k (.bool true)) (.t 40))]) (.cd (.t 41) (.sq (rg [om 6 (.k (.bool false))]) (.rt)) (.sk))) (.sq (.sq (rg [om 8 (i6 0)]) (.bl 0 (.lp [4,7,8] [224] (.sq (.sq (rg [qM 42 8,qF 43 2 7,qL 44 43,qN 45 44,qB 46 .lss 42 45]) (.cd (.t 46) (.sk) (.ex 0))) (.sq (.bl 1 (.sq (.rg (some 0) [qS 49 6 4,qF 50 2 7,qL 51 50,qM 52 8,qI 53 1 51 52,qL 54 53,oo 55 (.ca .pure false (.f Za8) [.t 49,.t 54]),oo 56 (.nt (.t 55))]) (.cd (.t 56) (.sq (rg [om 6 (.k (.bool false))]) (.rt)) (.sk))))
 (rg [qM 47 8,oo 48 (.bi .add 0 (.t 47) (i6 1)),qM 8 48])))))) (.sq (rg [om 6 (.k (.bool true))]) (.rt)))))) }
theorem ZuR:Zo UbR ZdF ZhL=true:=by kernel_rfl
def ZhM:F2 :=
 { nt:=33,res:=[.t 8 [0]],body:=(.sq (rg [oo 5 (.bt (.t 1)),om 8 (.k (.bool false))]) (.sq (.sq (rg [qM 9 2,oo 10 (.bi .lss 0 (.t 9) (i6 0))]) (.cd (.t 10) (.sq (rg [qM 11 2,oo 12 (.bi .sub 0 (i6 (-1)) (.t 11)),qF 13 0 5,qL 14 13,oo 15 (.bi .sub 0 (.t 14) (i6 1)),oo 16 (.ca .pure false (.f Vl) [.t 12,i6 0,.t 15]),qM 8 16]) (.rt)) (.sk))) (.sq (rg [qM 17 2,qM 18 3,qB 19 .lss 17 18,qM 20 19,og 21 20 true (.mv (.t 0) none),og 22 20 true (.fa 1 (.t 5)),og 23 20 true (.ld none (.t 22)),og 24 20 true (.mv (.t 2) none),og 25 20 true (.ia 3 (.t 23) (.t 24)),og 26 20 true (.fa 0 (.t 25)),og 27 20 true (.ld none (.t 26)),og 28 20 true (.ia 3 (.t 21) (.t 27)),og 29 20 true (.fa 2 (.t 28)),og 30 20 true (.ld none (.t 29)),og 31 20 true (.bi .neq 0 (.t 30) (i6 2)),oo 32 (.pk (.t 20) (.t 31) (.k (.bool false))),qM 8 32]) (.rt)))) }
theorem ZuS:Zo UbR Za7 ZhM=true:=by kernel_rfl
def ZhN:F2 :=
 { nt:=14,res:=[.t 4 [0]],body:=(.sq (rg [oo 2 (.bt (.t 0)),om 4 (.k (.bool false))]) (.sq (rg [qM 5 1,qF 6 3 2,qL 7 6,qF 8 4 2,qL 9 8,qN 10 9,qB 11 .add 7 10,oo 12 (.bi .sub 0 (.t 11) (i6 1)),oo 13 (.ca .pure false (.f Vl) [.t 5,i6 0,.t 12]),qM 4 13]) (.rt))) }
theorem ZuT:Zo UbR Za8 ZhN=true:=by kernel_rfl
def Zeb:F2 :=
 { nt:=45,res:=[.t 4 [0]],body:=(.sq (rg [om 4 (.k (.slice none 0 0))]) (.sq (rg [om 5 (i6 0)]) (.sq (.bl 0 (.lp [0,1,5] [] (.sq (.sq (rg [qM 6 5,qM 7 0,qN 8 7,qB 9 .lss 6 8,qM 10 9,og 11 10 true (.mv (.t 0) none),og 12 10 true (.mv (.t 5) none),og 13 10 true (.ia 1 (.t 11) (.t 12)),og 14 10 true (.ld none (.t 13)),og 15 10 true (.mv (.t 1) none),og 16 10 true (.bi .lss 0 (.t 14) (.t 15)),oo 17 (.pk (.t 10) (.t 16) (.k (.bool false)))]) (.cd (.t 17) (.sk) (.ex 0))) (.bl 1 (rg [qM 18 5,oo 19 (.bi .add 0 (.t 18) (i6 1)),qM 5 19]))))) (.sq (.sq (rg [qM 20 5,qM 21 0,qN 22 21,qB 23 .lss 20 22,qM 24 23,og 25 24 true (.mv (.t 0) none),og 26 24 true (.mv (.t 5) none),og 27 24 true (.ia 1 (.t 25) (.t 26)),og 28 24 true (.ld none (.t 27)),og 29 24 true (.mv (.t 1) none),og 30 24 true (.bi .eql 0 (.t 28) (.t 29)),oo 31 (.pk (.t 24) (.t 30) (.k (.bool false)))]) (.cd (.t 31) (.sq (rg [qM 32 0,qM 4 32]) (.rt)) (.sk))) (.sq (.rg (some 0) [oo 33 (.bs 1 0 [] []),qM 34 0,qM 35 5,oo 36 (.sx 1 (.t 34) none (some (.t 35)) none),oo 37 (.a0 1 (.t 33) (.t 36)),qM 38 1,oo 39 (.bs 1 1 [.int .i64 0] [(0,.t 38)]),oo 40 (.a0 1 (.t 37) (.t 39)),qM 41 0,qM 42 5,oo 43 (.sw 1 (.t 41) (some (.t 42)) none none),oo 44 (.ap 1 0 (.t 40) (.t 43)),qM 4 44]) (.rt)))))) }
theorem ZhO:Zo UbR Dj Zeb=true:=by kernel_rfl
def ZhP:F2 :=
 { nt:=54,res:=[.t 6 [2]],body:=(.sq (rg [oo 3 (.bt (.t 0)),oo 4 (.bt (.t 1)),om 6 (.k (.slice none 0 0))]) (.sq (rg [qF 11 3 3,qL 12 11,qN 13 12,oo 14 (.ms 1 [.int .i64 0] (.t 13)),qM 7 14]) (.sq (rg [qS 15 6 4,qM 16 2,oo 17 (.ca .pure false (.f ZdZ) [.t 15,.t 16]),qM 8 17]) (.sq (.sq (rg [om 9 (i6 0)]) (.bl 0 (.lp [3,4,7,8,9] [448] (.sq (.sq (rg [qM 18 9,qM 19 8,qN 20 19,qB 21 .lss 18 20]) (.cd (.t 21) (.sk) (.ex 0))) (.sq (.bl 1 (.sq (.rg (some 0) [qF 24 2 3,qL 25 24,qF 26 1 4,qL 27 26,qM 28 8,qM 29 9,qI 30 2 28 29,oo 31 (.ja 1 2 (.t 30) (i6 0)),qL 32 31,qI 33 3 27 32,qF 34 0 33,qL 35 34,qI 36 1 25 35,qL 37 36,qM 38 8,qM 39 9,qI 40 2 38 39,oo 41 (.ja 1 2 (.t 40) (i6 1)),qL 42 41,qI 43 1 37 42,qL 44 43,qM 10 44])
 (rg [qM 45 7,qM 46 10,qM 47 7,qM 48 10,qI 49 1 47 48,qL 50 49,oo 51 (.bi .add 0 (.t 50) (i6 1)),qI 52 1 45 46,
 ZI (.st 1 (.t 52) (.t 51))])))
 (rg [qM 22 9,oo 23 (.bi .add 0 (.t 22) (i6 1)),qM 9 23])))))) (.sq (rg [qM 53 7,qM 6 53]) (.rt)))))) }
theorem ZuU:Zo UbR Za9 ZhP=true:=by kernel_rfl
def Zec:F2 :=
 { nt:=10,res:=[.t 4 [0]],body:=(.sq (rg [om 4 (i6 0)]) (.sq (.sq (rg [qM 5 0,qM 6 1,qB 7 .gtr 5 6]) (.cd (.t 7) (.sq (rg [qM 8 0,qM 4 8]) (.rt)) (.sk))) (.sq (rg [qM 9 1,qM 4 9]) (.rt)))) }
theorem ZuV:Zo UbR ZdG Zec=true:=by kernel_rfl
def ZhQ:F2 :=
 { nt:=40,res:=[.t 2 [0]],body:=(.sq (rg [om 2 (.k (.bool false))]) (.sq (.sq (rg [qM 5 0,qN 6 5,oo 7 (.ca .pure false (.f YE) [.t 6,i6 1,i6 6]),oo 8 (.nt (.t 7))]) (.cd (.t 8) (.sq (rg [om 2 (.k (.bool false))]) (.rt)) (.sk))) (.sq (.sq (rg [qM 9 0,qN 10 9,om 11 (i6 0)]) (.bl 0 (.lp [0,9,10,11] [] (.sq (rg [qB 12 .lss 11 10]) (.sq (.cd (.t 12) (.sk) (.ex 0)) (.sq (.bl 1 (.sq (rg [qM 13 11,qI 14 3 9 11,qS 15 3 14,oo 4 (.al [.string ⟨#[]⟩,.int .i64 0,.int .i64 0] []),qM 3 13,
 ZI (.st 3 (.t 4) (.t 15))]) (.sq (rg [qF 16 0 4,qL 17 16,oo 18 (.ca .pure false (.f Zbf) [.t 17]),oo 19 (.nt (.t 18)),qM 20 19,og 21 20 false (.fa 1 (.t 4)),og 22 20 false (.ld none (.t 21)),og 23 20 false (.ca .pure false (.f YE) [.t 22,i6 0,i6 3]),og 24 20 false (.nt (.t 23)),oo 25 (.pk (.t 20) (.k (.bool true)) (.t 24)),qM 26 25,og 27 26 false (.fa 2 (.t 4)),og 28 26 false (.ld none (.t 27)),og 29 26 false (.ca .pure false (.f YE) [.t 28,i6 0,i6 2]),og 30 26 false (.nt (.t 29)),oo 31 (.pk (.t 26) (.k (.bool true)) (.t 30)),qM 32 31,og 33 32 false (.mv (.t 0) none),og 34 32 false (.mv (.t 3) none),og 35 32 false (.sx 3 (.t 33) none (some (.t 34)) none),og 36 32 false (.mf Zbg [.t 4]),og 37 32 false (.ca .pure false (.f Zhj) [.t 35,.t 36]),oo 38 (.pk (.t 32) (.k (.bool true)) (.t 37))]) (.cd (.t 38) (.sq (rg [om 2 (.k (.bool false))]) (.rt)) (.sk)))))
 (rg [oo 39 (.bi .add 0 (.t 11) (i6 1)),qM 11 39]))))))) (.sq (rg [om 2 (.k (.bool true))]) (.rt))))) }
theorem ZuW:Zo UbR Zba ZhQ=true:=by kernel_rfl
def ZhR:F2 :=
 { nt:=33,res:=[.t 4 [0]],body:=(.sq (rg [om 4 (.k (.bool false))]) (.sq (.sq (rg [qM 7 0,qN 8 7,om 9 (i6 0)]) (.bl 0 (.lp [0,1,7,8,9] [] (.sq (rg [qB 10 .lss 9 8]) (.sq (.cd (.t 10) (.sk) (.ex 0)) (.sq (.bl 1 (.sq (rg [qM 11 9,qI 12 1 7 9,qL 13 12,qM 5 11,qM 6 13]) (.sq (rg [qM 14 6,qM 15 1,oo 16 (.bi .sub 0 (.t 15) (i6 1)),oo 17 (.ca .pure false (.f YE) [.t 14,i6 0,.t 16]),oo 18 (.nt (.t 17)),qM 19 18,og 20 19 false (.mv (.t 5) none),og 21 19 false (.bi .gtr 0 (.t 20) (i6 0)),og 22 19 false (.mv (.t 21) none),og 23 22 true (.mv (.t 6) none),og 24 22 true (.mv (.t 0) none),og 25 22 true (.mv (.t 5) none),og 26 22 true (.bi .sub 0 (.t 25) (i6 1)),og 27 22 true (.ia 1 (.t 24) (.t 26)),og 28 22 true (.ld none (.t 27)),og 29 22 true (.bi .leq 0 (.t 23) (.t 28)),og 30 19 false (.pk (.t 22) (.t 29) (.k (.bool false))),oo 31 (.pk (.t 19) (.k (.bool true)) (.t 30))]) (.cd (.t 31) (.sq (rg [om 4 (.k (.bool false))]) (.rt)) (.sk)))))
 (rg [oo 32 (.bi .add 0 (.t 9) (i6 1)),qM 9 32]))))))) (.sq (rg [om 4 (.k (.bool true))]) (.rt)))) }
theorem ZuX:Zo UbR Zbb ZhR=true:=by kernel_rfl
def ZhS:F2 :=
 { nt:=6,res:=[.t 2 [0]],body:=(.sq (rg [om 2 (.k (.bool false))]) (.sq (rg [qM 3 0,oo 4 (.ca .pure false (.f YE) [.t 3,i6 0,i6 24]),oo 5 (.nt (.t 4)),qM 2 5]) (.rt))) }
theorem ZuY:Zo UbR ZdK ZhS=true:=by kernel_rfl
def ZhT:F2 :=
 { nt:=44,res:=[.t 4 [0]],body:=(.sq (rg [om 4 (.k (.bool false))]) (.sq (.sq (rg [qM 7 0,qN 8 7,om 9 (i6 0)]) (.bl 0 (.lp [0,1,7,8,9] [] (.sq (rg [qB 10 .lss 9 8]) (.sq (.cd (.t 10) (.sk) (.ex 0)) (.sq (.bl 1 (.sq (rg [qM 11 9,qI 12 2 7 9,qS 13 2 12,oo 6 (.al [.int .i64 0,.int .i64 0] []),qM 5 11,
 ZI (.st 2 (.t 6) (.t 13))]) (.sq (.rg (some 0) [oo 14 (.ja 1 2 (.t 6) (i6 0)),qL 15 14,oo 16 (.ja 1 2 (.t 6) (i6 1)),qL 17 16,oo 18 (.bi .sub 1 (.t 17) (i6 1)),oo 19 (.ca .pure false (.f YE) [.t 15,i6 0,.t 18]),oo 20 (.nt (.t 19)),qM 21 20,og 22 21 false (.ja 1 2 (.t 6) (i6 1)),og 23 21 false (.ld none (.t 22)),og 24 21 false (.mv (.t 1) none),og 25 21 false (.bi .sub 0 (.t 24) (i6 1)),og 26 21 false (.ca .pure false (.f YE) [.t 23,i6 0,.t 25]),og 27 21 false (.nt (.t 26)),oo 28 (.pk (.t 21) (.k (.bool true)) (.t 27)),qM 29 28,og 30 29 false (.mv (.t 5) none),og 31 29 false (.bi .gtr 0 (.t 30) (i6 0)),og 32 29 false (.mv (.t 31) none),og 33 32 true (.mv (.t 0) none),og 34 32 true (.mv (.t 5) none),og 35 32 true (.bi .sub 0 (.t 34) (i6 1)),og 36 32 true (.ia 2 (.t 33) (.t 35)),og 37 32 true (.ld (some 2) (.t 36)),og 38 32 true (.ld (some 2) (.t 6)),og 39 32 true (.ca .pure false (.f Zd2) [.t 37,.t 38]),og 40 32 true (.bi .geq 0 (.t 39) (i6 0)),og 41 29 false (.pk (.t 32) (.t 40) (.k (.bool false))),oo 42 (.pk (.t 29) (.k (.bool true)) (.t 41))]) (.cd (.t 42) (.sq (rg [om 4 (.k (.bool false))]) (.rt)) (.sk)))))
 (rg [oo 43 (.bi .add 0 (.t 9) (i6 1)),qM 9 43]))))))) (.sq (rg [om 4 (.k (.bool true))]) (.rt)))) }
theorem ZuZ:Zo UbR ZdL ZhT=true:=by kernel_rfl
def ZhU:F2 :=
 { nt:=11,res:=[.t 3 [0]],body:=(.sq (rg [om 3 (.k (.bool false))]) (.sq (rg [qM 4 0,qF 5 3 1,qL 6 5,qN 7 6,oo 8 (.bi .sub 0 (.t 7) (i6 1)),oo 9 (.ca .pure false (.f YE) [.t 4,i6 0,.t 8]),oo 10 (.nt (.t 9)),qM 3 10]) (.rt))) }
theorem Zu0:Zo UbR ZdM ZhU=true:=by kernel_rfl
def ZhV:F2 :=
 { nt:=32,res:=[.t 2 [0]],body:=(.sq (rg [om 2 (.k (.bool false))]) (.sq (.sq (rg [qM 5 0,qN 6 5,om 7 (i6 0)]) (.bl 0 (.lp [0,5,6,7] [] (.sq (rg [qB 8 .lss 7 6]) (.sq (.cd (.t 8) (.sk) (.ex 0)) (.sq (.bl 1 (.sq (rg [qM 9 7,qI 10 1 5 7,qL 11 10,qM 3 9,qM 4 11]) (.sq (rg [qM 12 4,oo 13 (.ca .pure false (.f Zbf) [.t 12]),oo 14 (.nt (.t 13)),qM 15 14,og 16 15 false (.mv (.t 3) none),og 17 15 false (.bi .gtr 0 (.t 16) (i6 0)),og 18 15 false (.mv (.t 17) none),og 19 18 true (.mv (.t 4) none),og 20 18 true (.mv (.t 0) none),og 21 18 true (.mv (.t 3) none),og 22 18 true (.bi .sub 0 (.t 21) (i6 1)),og 23 18 true (.ia 1 (.t 20) (.t 22)),og 24 18 true (.ld none (.t 23)),og 25 18 true (.bi .leq 0 (.t 19) (.t 24)),og 26 15 false (.pk (.t 18) (.t 25) (.k (.bool false))),oo 27 (.pk (.t 15) (.k (.bool true)) (.t 26))]) (.cd (.t 27) (.sq (rg [om 2 (.k (.bool false))]) (.rt)) (.sk)))))
 (rg [oo 28 (.bi .add 0 (.t 7) (i6 1)),qM 7 28]))))))) (.sq (rg [qM 29 0,qN 30 29,oo 31 (.bi .leq 0 (.t 30) (i6 16)),qM 2 31]) (.rt)))) }
theorem Zu1:Zo UbR Zbc ZhV=true:=by kernel_rfl
def ZhW:F2 :=
 { nt:=21,res:=[.t 2 [2]],body:=(.sq (rg [oo 1 (.bt (.t 0)),om 2 (.k (.slice none 0 0))]) (.sq (rg [oo 6 (.bs 1 0 [] []),qM 3 6]) (.sq (.sq (rg [qF 7 5 1,qL 8 7,qN 9 8,om 10 (i6 0)]) (.bl 0 (.lp [3,8,9,10] [192,576] (.sq (rg [qB 11 .lss 10 9]) (.sq (.cd (.t 11) (.sk) (.ex 0)) (.sq (.bl 1 (.sq (rg [qI 12 2 8 10,qS 13 2 12,oo 5 (.al [.string ⟨#[]⟩,.int .i64 0] []),
 ZI (.st 2 (.t 5) (.t 13))])
 (rg [qM 14 3,qF 15 0 5,qL 16 15,oo 17 (.bs 1 1 [.string ⟨#[]⟩] [(0,.t 16)]),oo 18 (.ap 1 0 (.t 14) (.t 17)),qM 3 18])))
 (rg [oo 19 (.bi .add 0 (.t 10) (i6 1)),qM 10 19]))))))) (.sq (rg [qM 20 3,qM 2 20]) (.rt))))) }
theorem Zu2:Zo UbR ZdN ZhW=true:=by kernel_rfl
def ZhX:F2 :=
 { nt:=32,res:=[.t 8 [0]],body:=(.sq (rg [oo 4 (.bt (.t 0)),om 8 (.k (.bool false))]) (.sq (.sq (rg [qM 9 2,oo 10 (.bi .lss 0 (.t 9) (i6 0))]) (.cd (.t 10) (.sq (rg [qM 11 2,qF 12 0 4,qL 13 12,oo 14 (.ng (.t 13)),qB 15 .geq 11 14,qM 8 15]) (.rt)) (.sk))) (.sq (rg [qM 16 2,qM 17 3,qB 18 .lss 16 17,qM 19 18,og 20 19 true (.mv (.t 1) none),og 21 19 true (.fa 1 (.t 4)),og 22 19 true (.ld none (.t 21)),og 23 19 true (.mv (.t 2) none),og 24 19 true (.ia 3 (.t 22) (.t 23)),og 25 19 true (.fa 0 (.t 24)),og 26 19 true (.ld none (.t 25)),og 27 19 true (.ia 3 (.t 20) (.t 26)),og 28 19 true (.fa 2 (.t 27)),og 29 19 true (.ld none (.t 28)),og 30 19 true (.bi .neq 0 (.t 29) (i6 2)),oo 31 (.pk (.t 19) (.t 30) (.k (.bool false))),qM 8 31]) (.rt)))) }
theorem Zu3:Zo UbR Zbd ZhX=true:=by kernel_rfl
def ZhY:F2 :=
 { nt:=8,res:=[.t 3 [0]],body:=(.sq (rg [om 3 (.k (.bool false))]) (.sq (rg [qS 4 6 1,qM 5 0,oo 6 (.ca .pure false (.f Zbe) [.t 4,.t 5]),oo 7 (.nt (.t 6)),qM 3 7]) (.rt))) }
theorem Zu4:Zo UbR ZdO ZhY=true:=by kernel_rfl
def ZhZ:F2 :=
 { nt:=14,res:=[.t 4 [0]],body:=(.sq (rg [oo 2 (.bt (.t 0)),om 4 (.k (.bool false))]) (.sq (rg [qM 5 1,qF 6 3 2,qL 7 6,qF 8 4 2,qL 9 8,qN 10 9,qB 11 .add 7 10,oo 12 (.bi .sub 0 (.t 11) (i6 1)),oo 13 (.ca .pure false (.f YE) [.t 5,i6 0,.t 12]),qM 4 13]) (.rt))) }
theorem Zu5:Zo UbR Zbe ZhZ=true:=by kernel_rfl
def Zh0:F2 :=
 { nt:=13,res:=[.t 4 [0]],body:=(.sq (rg [om 4 (.k (.bool false))]) (.sq (rg [qS 5 6 1,qL 6 2,qM 7 0,qF 8 1 1,qL 9 8,qN 10 9,oo 11 (.ca .pure false (.f Zbd) [.t 5,.t 6,.t 7,.t 10]),oo 12 (.nt (.t 11)),qM 4 12]) (.rt))) }
theorem Zu6:Zo UbR ZdP Zh0=true:=by kernel_rfl
def Zh1:F2 :=
 { nt:=9,res:=[.t 3 [0]],body:=(.sq (rg [oo 2 (.bt (.t 0)),om 3 (.k (.bool false))]) (.sq (rg [qS 4 6 1,qF 5 1 2,qL 6 5,oo 7 (.ca .pure false (.f Zbe) [.t 4,.t 6]),oo 8 (.nt (.t 7)),qM 3 8]) (.rt))) }
theorem Zu7:Zo UbR ZdQ Zh1=true:=by kernel_rfl
def Zh2:F2 :=
 { nt:=54,res:=[.t 4 [0],.t 5 [0]],body:=(.sq (rg [om 4 (i6 0),om 5 (.k (.bool false))]) (.sq (rg [qM 10 0,qN 11 10,qM 6 11]) (.sq (rg [qM 12 6,om 7 (i6 0),qM 8 12]) (.sq (.bl 0 (.lp [0,1,6,7,8] [] (.sq (.sq (rg [qM 13 7,qM 14 8,qB 15 .lss 13 14]) (.cd (.t 15) (.sk) (.ex 0))) (.bl 1 (.sq (rg [qM 16 7,qM 17 8,qB 18 .add 16 17,oo 19 (.cv (.int .u64) (.t 18)),oo 20 (.bi .shr 0 (.t 19) (.k (.int .u64 1))),oo 21 (.cv (.int .i64) (.t 20)),qM 9 21]) (.sq (rg [qM 22 0,qM 23 9,qI 24 1 22 23,qL 25 24,qM 26 1,oo 27 (.ca .pure false (.f Zd3) [.t 25,.t 26])]) (.cd (.t 27) (rg [qM 28 9,oo 29 (.bi .add 0 (.t 28) (i6 1)),qM 7 29])
 (rg [qM 30 9,qM 8 30])))))))) (.sq (rg [qM 31 7,qM 32 7,qM 33 6,qB 34 .lss 32 33,qM 35 34,og 36 35 true (.mv (.t 0) none),og 37 35 true (.mv (.t 7) none),og 38 35 true (.ia 1 (.t 36) (.t 37)),og 39 35 true (.ld none (.t 38)),og 40 35 true (.mv (.t 1) none),og 41 35 true (.bi .eql 0 (.t 39) (.t 40)),og 42 35 true (.mv (.t 41) none),og 43 42 false (.mv (.t 0) none),og 44 42 false (.mv (.t 7) none),og 45 42 false (.ia 1 (.t 43) (.t 44)),og 46 42 false (.ld none (.t 45)),og 47 42 false (.ca .pure false (.f Zbh) [.t 46]),og 48 42 false (.mv (.t 47) none),og 49 48 true (.mv (.t 1) none),og 50 48 true (.ca .pure false (.f Zbh) [.t 49]),og 51 42 false (.pk (.t 48) (.t 50) (.k (.bool false))),og 52 35 true (.pk (.t 42) (.k (.bool true)) (.t 51)),oo 53 (.pk (.t 35) (.t 52) (.k (.bool false))),qM 4 31,qM 5 53]) (.rt)))))) }
theorem Zu8:Zo UbR ZdR Zh2=true:=by kernel_rfl
def Zh3:F2 :=
 { nt:=62,res:=[.t 4 [3],.t 5 [2]],body:=(.sq (rg [oo 2 (.bt (.t 0)),om 4 (.k (.slice none 0 0)),om 5 (.k (.slice none 0 0))]) (.sq (rg [oo 14 (.bs 2 0 [] []),oo 15 (.bs 1 0 [] []),qM 6 14,qM 7 15]) (.sq (.sq (rg [qF 16 1 2,qL 17 16,qN 18 17,om 19 (i6 0)]) (.bl 0 (.lp [1,2,6,7,17,18,19] [448,480,1280,1856] (.sq (rg [qB 20 .lss 19 18]) (.sq (.cd (.t 20) (.sk) (.ex 0)) (.sq (.bl 1 (.sq (rg [qM 21 19,qI 22 3 17 19,qS 23 3 22,oo 9 (.al [.int .i64 0,.int .i64 0,.slice none 0 0] []),qM 8 21,
 ZI (.st 3 (.t 9) (.t 23))]) (.sq (rg [qF 24 2 9,qL 25 24,qN 26 25,om 27 (i6 0)]) (.bl 2 (.lp [1,2,6,7,8,17,18,19,25,26,27] [288,448,480,1280,1856] (.sq (rg [qB 28 .lss 27 26]) (.sq (.cd (.t 28) (.sk) (.ex 2)) (.sq (.bl 3 (.sq (rg [qM 29 27,qI 30 1 25 27,qL 31 30,qM 10 29,qM 11 31]) (.sq (rg [qM 32 11,qM 33 1,qB 34 .eql 32 33]) (.cd (.t 34) (rg [qM 35 6,qM 36 8,qM 37 10,oo 38 (.bd [.int .i64 0,.int .i64 0] [(0,1,.t 36),(1,1,.t 37)] []),oo 39 (.bs 2 1 [.int .i64 0,.int .i64 0] [(0,.t 38)]),oo 40 (.ap 2 0 (.t 35) (.t 39)),qM 6 40]) (.sk)))))
 (rg [oo 41 (.bi .add 0 (.t 27) (i6 1)),qM 27 41])))))))))
 (rg [oo 42 (.bi .add 0 (.t 19) (i6 1)),qM 19 42]))))))) (.sq (.sq (rg [qF 43 5 2,qL 44 43,qN 45 44,om 46 (i6 0)]) (.bl 4 (.lp [1,6,7,44,45,46] [448,480,1280,1856] (.sq (rg [qB 47 .lss 46 45]) (.sq (.cd (.t 47) (.sk) (.ex 4)) (.sq (.bl 5 (.sq (rg [qI 48 2 44 46,qS 49 2 48,oo 13 (.al [.string ⟨#[]⟩,.int .i64 0] []),
 ZI (.st 2 (.t 13) (.t 49))]) (.sq (rg [qF 50 1 13,qL 51 50,qM 52 1,qB 53 .eql 51 52]) (.cd (.t 53) (rg [qM 54 7,qF 55 0 13,qL 56 55,oo 57 (.bs 1 1 [.string ⟨#[]⟩] [(0,.t 56)]),oo 58 (.ap 1 0 (.t 54) (.t 57)),qM 7 58]) (.sk)))))
 (rg [oo 59 (.bi .add 0 (.t 46) (i6 1)),qM 46 59]))))))) (.sq (rg [qM 60 6,qM 61 7,qM 4 60,qM 5 61]) (.rt)))))) }
theorem Zu9:Zo UbR ZdS Zh3=true:=by kernel_rfl
def Zh4:F2 :=
 { nt:=45,res:=[.t 4 [3]],body:=(.sq (rg [oo 2 (.bt (.t 0)),om 4 (.k (.slice none 0 0))]) (.sq (rg [oo 8 (.bs 2 0 [] []),qM 5 8]) (.sq (.sq (rg [om 6 (i6 0)]) (.bl 0 (.lp [1,2,5,6] [256,1376] (.sq (.sq (rg [qM 9 6,qF 10 1 2,qL 11 10,qN 12 11,qB 13 .lss 9 12]) (.cd (.t 13) (.sk) (.ex 0))) (.sq (.bl 1 (.sq (rg [om 7 (i6 0)]) (.bl 2 (.lp [1,2,5,6,7] [256,1376] (.sq (.sq (rg [qM 16 7,qF 17 1 2,qL 18 17,qM 19 6,qI 20 3 18 19,qF 21 2 20,qL 22 21,qN 23 22,qB 24 .lss 16 23]) (.cd (.t 24) (.sk) (.ex 2))) (.sq (.bl 3 (.sq (rg [qF 27 1 2,qL 28 27,qM 29 6,qI 30 3 28 29,qF 31 2 30,qL 32 31,qM 33 7,qI 34 1 32 33,qL 35 34,qM 36 1,qB 37 .eql 35 36]) (.cd (.t 37) (rg [qM 38 5,qM 39 6,qM 40 7,oo 41 (.bd [.int .i64 0,.int .i64 0] [(0,1,.t 39),(1,1,.t 40)] []),oo 42 (.bs 2 1 [.int .i64 0,.int .i64 0] [(0,.t 41)]),oo 43 (.ap 2 0 (.t 38) (.t 42)),qM 5 43]) (.sk))))
 (rg [qM 25 7,oo 26 (.bi .add 0 (.t 25) (i6 1)),qM 7 26])))))))
 (rg [qM 14 6,oo 15 (.bi .add 0 (.t 14) (i6 1)),qM 6 15])))))) (.sq (rg [qM 44 5,qM 4 44]) (.rt))))) }
theorem Zva:Zo UbR ZdZ Zh4=true:=by kernel_rfl
def Zh5:F2 :=
 { nt:=11,res:=[.t 2 [0]],body:=(.sq (rg [om 2 (.k (.bool false))]) (.sq (rg [qM 3 0,oo 4 (.lg (.t 3)),oo 5 (.ca .pure false (.f YE) [.t 4,i6 1,i6 4]),qM 6 5,og 7 6 true (.mv (.t 0) none),og 8 6 true (.ca .pure false (.f Zhm) [.t 7,.k (.string ⟨#[97,98,99,100,101,102,103,104,105,106,107,108,109,110,111,112,113,114,115,116,117,118,119,120,121,122]⟩)]),og 9 6 true (.bi .eql 0 (.t 8) (.k (.string ⟨#[]⟩))),oo 10 (.pk (.t 6) (.t 9) (.k (.bool false))),qM 2 10]) (.rt))) }
theorem Zvb:Zo UbR Zbf Zh5=true:=by kernel_rfl
def Zh6:F2 :=
 { nt:=9,res:=[.t 3 [0]],body:=(.sq (rg [oo 2 (.bt (.t 0)),om 3 (.k (.bool false))]) (.sq (rg [qF 4 0 2,qL 5 4,qF 6 0 1,qL 7 6,qB 8 .eql 5 7,qM 3 8]) (.rt))) }
theorem Zvc:Zo UbR Zbg Zh6=true:=by kernel_rfl
def Zh7:F2 :=
 { nt:=8,res:=[.t 4 [0]],body:=(.sq (rg [oo 2 (.bt (.t 0)),oo 3 (.bt (.t 1)),om 4 (i6 0)]) (.sq (.rg (some 0) [oo 5 (.sa 2 (.t 2)),oo 6 (.sa 2 (.t 3)),oo 7 (.ca .pure false (.f Zd6) [.t 5,.t 6]),qM 4 7]) (.rt))) }
theorem Zvd:Zo UbR Zd2 Zh7=true:=by kernel_rfl
def Zh8:F2 :=
 { nt:=17,res:=[.t 4 [0]],body:=(.sq (rg [om 4 (.k (.bool false))]) (.sq (rg [qM 5 0,oo 6 (.ca .pure false (.f Uh) [.t 5]),qM 7 6,og 8 7 true (.mv (.t 1) none),og 9 7 true (.ca .pure false (.f Uh) [.t 8]),og 10 7 true (.nt (.t 9)),oo 11 (.pk (.t 7) (.t 10) (.k (.bool false))),qM 12 11,og 13 12 false (.mv (.t 0) none),og 14 12 false (.mv (.t 1) none),og 15 12 false (.bi .lss 0 (.t 13) (.t 14)),oo 16 (.pk (.t 12) (.k (.bool true)) (.t 15)),qM 4 16]) (.rt))) }
theorem Zve:Zo UbR Zd3 Zh8=true:=by kernel_rfl
def Zh9:F2 :=
 { nt:=6,res:=[.t 2 [0]],body:=(.sq (rg [om 2 (.k (.bool false))]) (.sq (rg [qM 3 0,qM 4 0,qB 5 .neq 3 4,qM 2 5]) (.rt))) }
theorem Zvf:Zo UbR Zbh Zh9=true:=by kernel_rfl
def Zia:F2 :=
 { nt:=36,res:=[.t 4 [0]],body:=(.sq (rg [om 4 (i6 0)]) (.sq (.sq (rg [qM 9 0,qN 10 9,om 11 (i6 0)]) (.bl 0 (.lp [0,1,9,10,11] [] (.sq (rg [qB 12 .lss 11 10]) (.sq (.cd (.t 12) (.sk) (.ex 0)) (.sq (.bl 1 (.sq (rg [qM 13 11,qI 14 1 9 11,qL 15 14,qM 5 13,qM 6 15]) (.sq (.sq (rg [qM 16 5,qM 17 1,qN 18 17,qB 19 .geq 16 18]) (.cd (.t 19) (.sq (rg [om 4 (i6 1)]) (.rt)) (.sk))) (.sq (rg [qM 20 1,qM 21 5,qI 22 1 20 21,qL 23 22,qM 7 23]) (.sq (rg [qM 24 6,qM 25 7,oo 26 (.ca .pure false (.f Zd7) [.t 24,.t 25]),qM 8 26]) (.sq (rg [qM 27 8,oo 28 (.bi .neq 0 (.t 27) (i6 0))]) (.cd (.t 28) (.sq (rg [qM 29 8,qM 4 29]) (.rt)) (.sk))))))))
 (rg [oo 30 (.bi .add 0 (.t 11) (i6 1)),qM 11 30]))))))) (.sq (.sq (rg [qM 31 0,qN 32 31,qM 33 1,qN 34 33,qB 35 .lss 32 34]) (.cd (.t 35) (.sq (rg [om 4 (i6 (-1))]) (.rt)) (.sk))) (.sq (rg [om 4 (i6 0)]) (.rt))))) }
theorem Zvg:Zo UbR Zd6 Zia=true:=by kernel_rfl
def Zib:F2 :=
 { nt:=6,res:=[.t 2 [0]],body:=(.sq (rg [om 2 (.k (.bool false))]) (.sq (rg [qM 3 0,qM 4 0,qB 5 .neq 3 4,qM 2 5]) (.rt))) }
theorem Zvh:Zo UbR Uh Zib=true:=by kernel_rfl
def Zic:F2 :=
 { nt:=20,res:=[.t 4 [0]],body:=(.sq (rg [om 4 (i6 0)]) (.sq (rg [qM 7 0,oo 8 (.ca .pure false (.f Uh) [.t 7]),qM 5 8]) (.sq (rg [qM 9 1,oo 10 (.ca .pure false (.f Uh) [.t 9]),qM 6 10]) (.sq (.sq (rg [qM 11 5]) (.cd (.t 11) (.sq (.sq (rg [qM 12 6]) (.cd (.t 12) (.sq (rg [om 4 (i6 0)]) (.rt)) (.sk))) (.sq (rg [om 4 (i6 (-1))]) (.rt))) (.sk))) (.sq (.sq (rg [qM 13 6]) (.cd (.t 13) (.sq (rg [om 4 (i6 1)]) (.rt)) (.sk))) (.sq (.sq (rg [qM 14 0,qM 15 1,qB 16 .lss 14 15]) (.cd (.t 16) (.sq (rg [om 4 (i6 (-1))]) (.rt)) (.sk))) (.sq (.sq (rg [qM 17 0,qM 18 1,qB 19 .gtr 17 18]) (.cd (.t 19) (.sq (rg [om 4 (i6 1)]) (.rt)) (.sk))) (.sq (rg [om 4 (i6 0)]) (.rt))))))))) }
theorem Zvi:Zo UbR Zd7 Zic=true:=by kernel_rfl
def Qk(k:Nat)(m:Option Nat):F2 :=
 { nt:=19,res:=[.t 4 [0]],body:=(.sq (.rg none [⟨some 4,none,.mv (.k (.int .i64 0)) none⟩]) (.sq (.sq (.rg none [⟨some 6,none,.mv (.t 0) none⟩,
    ⟨some 7,none,.ln (.t 6)⟩,
    ⟨some 8,none,.mv (.k (.int .i64 0)) none⟩]) (.bl 0 (.lp [0,1,7,8] [] (.sq (.rg none [⟨some 9,none,.bi .lss 0 (.t 8) (.t 7)⟩]) (.sq (.cd (.t 9) (.sk) (.ex 0)) (.sq (.bl 1 (.sq (.rg none [⟨some 10,none,.mv (.t 8) none⟩,
      ⟨some 5,none,.mv (.t 10) none⟩]) (.sq (.rg none [⟨some 11,none,.mv (.t 1) none⟩,
      ⟨some 12,none,.mv (.t 0) none⟩,
      ⟨some 13,none,.mv (.t 5) none⟩,
      ⟨some 14,none,.ia k (.t 12) (.t 13)⟩,
      ⟨some 15,none,.ld m (.t 14)⟩,
      ⟨some 16,none,.ca .pure false (.t 11) [.t 15]⟩]) (.cd (.t 16) (.sq (.rg none [⟨some 17,none,.mv (.t 5) none⟩,
      ⟨some 4,none,.mv (.t 17) none⟩]) (.rt)) (.sk))))) (.rg none [⟨some 18,none,.bi .add 0 (.t 8) (.k (.int .i64 1))⟩,
    ⟨some 8,none,.mv (.t 18) none⟩]))))))) (.sq (.rg none [⟨some 4,none,.mv (.k (.int .i64 (-1))) none⟩]) (.rt)))) }
def XK(fi:FuncId):F2 :=
 { nt:=9,res:=[.t 4 [0]],body:=(.sq (.rg none [⟨some 4,none,.mv (.k (.bool false)) none⟩]) (.sq (.rg none [⟨some 5,none,.mv (.t 0) none⟩,
   ⟨some 6,none,.mv (.t 1) none⟩,
   ⟨some 7,none,.ca .pure false (.f fi) [.t 5,.t 6]⟩,
   ⟨some 8,none,.bi .geq 0 (.t 7) (.k (.int .i64 0))⟩,
   ⟨some 4,none,.mv (.t 8) none⟩]) (.rt))) }
end Go.Fd

namespace Go.Fd
set_option maxRecDepth 20000
section rules
variable {L:Zc} {F:List IV->Prop} {lvl:Nat}
theorem XL:∀{l:List (List Tr)} {F:List IV->Prop},ZV L (l.map IV.ta) F=F (l.map IV.ta)
 | [],F=>ZcN
 | x::r,F=>by
  simp only[UaB]
  rw[ZgN,XL]
  rfl
theorem Ql{Pd:Zd->Prop}:∀{l:List (List Tr)},Za Pd (l.map IV.ta)=True
 | []=>rfl
 | x::r=>by
  simp only[UaB,Za,men,true_and]
  exact Ql
theorem Vm{js:List Nat}{l:List (List Tr)}:Vs lvl js (l.map IV.ta)=True:=Ql
end rules
section
variable {P:Program} {α:Type}
theorem ZY{α β:Type}{c:α->β}{l:List α}{j:Nat}(h:j<l.length):(l.map c)[j]? = some (c l[j]):=by simp [h]
theorem Zid{α:Type}{c:α->List Tr}{l:List α}{j:Nat}:cut (l.map c) 0 (j-0)=(l.take j).map c:=by
 simp only[cut,Uby,Nat.sub_zero,List.map_take]
theorem Zie{α:Type}{l:List α}{j:Nat}(h:j<l.length):l.drop j=l[j]::l.drop (j+1):=UaW h
def Vn(f:α->Bool):List α->Int->Int
 | [],_=>-1
 | x::r,j=>if f x=true then j else Vn f r (j+1)
theorem Zbi{f:α->Bool}{x:α}{r:List α}{j:Int}:Vn f (x::r) j=if f x=true then j else Vn f r (j+1):=rfl
theorem Zif{f:α->Bool}:∀{l:List α} {j:Int},0<=j->(0<=Vn f l j↔l.any f=true)
 | [],j,_=>by simp [Vn]
 | x::r,j,h=>by
  rw[Zbi,List.any_cons]
  cases hx:f x with
  | true=>simp [h]
  | false =>
   simp only[UaZ,if_false,Bool.false_or]
   exact Zif (by omega)
theorem Zvj{fid:FuncId}(hc:Zo P fid (Qk 1 none)=true){t:α->Tr}{f:α->Bool}{fe:FuncId}{cs:List (List Tr)}(l:List α)(hl:l.length<=9223372036854775807)
  (hf:∀ x∈l,∀ lvl S,Sem P fe lvl (.tr (t x)::cs.map IV.ta) S (iB (f x)) S) (lvl:Nat) (S:Zc):Sem P fid lvl [.tr (.sl (l.map fun x=>[t x])),.fn fe (cs.map IV.ta)] S (iI (Vn f l 0)) S:=by
 refine Zv hc trivial ?_
 simp only[Qk,Uab,Vm,Zb,seval,Za,men]
 refine Ja (α:=Unit) l.length (fun j _=>[(8,iI j)]) (fun _ _=>[]) (fun j _=>Vn f (l.drop j) j=Vn f l 0) () (by simp only[Vm,Zb,seval,Za,men]) (by (simp only[Zb,seval,Za,men]) <;> rfl) rfl ?_
 intro j _ hj hA
 simp only[Uab,Vm,Zb,seval,Za,men]
 refine Zl (fun hlt=>?_) (fun hge=>?_)
 ·have hja:j<l.length:=by omega
  have ga:=ZY (c:=fun x=>[t x]) hja
  rw[Zie hja,Zbi] at hA
  simp only[ga,Vm,XL,Ql,Zb,seval,Za,men]
  refine Zi (hf _ (Ual hja)) ?_
  simp only[Ql,Vm,Zb,seval,Za,men]
  refine Zl (fun h=>?_) (fun h=>?_)
  ·rw[if_pos h] at hA
   rw[<-hA]
  ·rw[if_neg h] at hA
   exact⟨by rw[Zh];omega,Zr () hja rfl hA⟩
 ·have:j=l.length:=by omega
  subst this
  rw[Ubr] at hA
  rw[<-hA]
  rfl
theorem Zig{k:Nat}{fid:FuncId}(hc:Zo P fid (Qk k (some k))=true){c:α->List Tr}(hk:∀ x,(c x).length=k){f:α->Bool}{fe:FuncId}{cs:List (List Tr)}(l:List α)(hl:l.length<=9223372036854775807)
  (hf:∀ x∈l,∀ lvl S,Sem P fe lvl (.ag ((c x).map .tr)::cs.map IV.ta) S (iB (f x)) S) (lvl:Nat) (S:Zc):Sem P fid lvl [.tr (.sl (l.map c)),.fn fe (cs.map IV.ta)] S (iI (Vn f l 0)) S:=by
 refine Zv hc trivial ?_
 simp only[Qk,Uab,Vm,Zb,seval,Za,men]
 refine Ja (α:=Unit) l.length (fun j _=>[(8,iI j)]) (fun _ _=>[]) (fun j _=>Vn f (l.drop j) j=Vn f l 0) () (by simp only[Vm,Zb,seval,Za,men]) (by (simp only[Zb,seval,Za,men]) <;> rfl) rfl ?_
 intro j _ hj hA
 simp only[Uab,Vm,Zb,seval,Za,men]
 refine Zl (fun hlt=>?_) (fun hge=>?_)
 ·have hja:j<l.length:=by omega
  have ga:=ZY (c:=c) hja
  have hkk:=hk l[j]
  have htk:(c l[j]).take k=c l[j]:=UaL (by omega)
  rw[Zie hja,Zbi] at hA
  simp only[ga,hkk,htk,Vm,XL,ZcS,Ql,ZaH,Zb,seval,Za,men]
  refine Zi (hf _ (Ual hja)) ?_
  simp only[Ql,ZaH,Vm,Zb,seval,Za,men]
  refine Zl (fun h=>?_) (fun h=>?_)
  ·rw[if_pos h] at hA
   rw[<-hA]
  ·rw[if_neg h] at hA
   exact⟨by rw[Zh];omega,Zr () hja rfl hA⟩
 ·have:j=l.length:=by omega
  subst this
  rw[Ubr] at hA
  rw[<-hA]
  rfl
theorem Zih{fid fi:FuncId}(hc:Zo P fid (XK fi)=true){es:Row}{f:α->Bool}{fe:FuncId}{cs:List (List Tr)}{l:List α}
  (hi:∀ lvl S,Sem P fi lvl [.tr (.sl es),.fn fe (cs.map IV.ta)] S (iI (Vn f l 0)) S) (lvl:Nat) (S:Zc):Sem P fid lvl [.tr (.sl es),.fn fe (cs.map IV.ta)] S (iB (l.any f)) S:=by
 refine Zv hc trivial ?_
 simp only[XK,XL,Ql,Vm,Zb,seval,Za,men]
 refine Zi hi ?_
 simp only[XL,Ql,Zb,seval,Za,men]
 have:=Zif (f:=f) (l:=l) (Ubd 0)
 by_cases h:l.any f=true
 ·simp [h,this.2 h]
 ·simp [h,mt this.1 h]
theorem Dl{fid fi:FuncId}(hc:Zo P fid (XK fi)=true)(hi:Zo P fi (Qk 1 none)=true){t:α->Tr}{f:α->Bool}{fe:FuncId}{cs:List (List Tr)}(l:List α)(hl:l.length<=9223372036854775807)
  (hf:∀ x∈l,∀ lvl S,Sem P fe lvl (.tr (t x)::cs.map IV.ta) S (iB (f x)) S) (lvl:Nat) (S:Zc):Sem P fid lvl [.tr (.sl (l.map fun x=>[t x])),.fn fe (cs.map IV.ta)] S (iB (l.any f)) S :=
 Zih hc (Zvj hi l hl hf) lvl S
theorem Zed{k:Nat}{fid fi:FuncId}(hc:Zo P fid (XK fi)=true)(hi:Zo P fi (Qk k (some k))=true){c:α->List Tr}(hk:∀ x,(c x).length=k){f:α->Bool}{fe:FuncId}{cs:List (List Tr)}(l:List α)(hl:l.length<=9223372036854775807)
  (hf:∀ x∈l,∀ lvl S,Sem P fe lvl (.ag ((c x).map .tr)::cs.map IV.ta) S (iB (f x)) S) (lvl:Nat) (S:Zc):Sem P fid lvl [.tr (.sl (l.map c)),.fn fe (cs.map IV.ta)] S (iB (l.any f)) S :=
 Zih hc (Zig hi hk l hl hf) lvl S
end
end Go.Fd

namespace Go.Fd
open Go.Proofs.Tryz renaming prog->UbR
set_option maxRecDepth 20000
noncomputable def dc(p:Prop):Bool:=@decide p (Classical.propDecidable p)
theorem dc_iff{p:Prop}:dc p=true↔p:=by unfold dc;simp
theorem Ye{p:Prop}(h:p):dc p=true:=dc_iff.2 h
theorem ZN{p:Prop}(h:¬ p):dc p=false:=by
 cases hh:dc p with
 | false=>rfl
 | true=>exact absurd (dc_iff.1 hh) h
theorem dc_not{p:Prop}:dc p=false ↔ ¬ p:=⟨fun h hp=>(by rw[Ye hp] at h;cases h),ZN⟩
theorem XM{p q:Prop}(h:p↔q):dc p=dc q:=by rw[propext h]
theorem Wm{p:Prop}[Decidable p]:dc p=decide p:=by
 by_cases h:p
 ·rw[Ye h];simp [h]
 ·rw[ZN h];simp [h]
abbrev g0(l:List Int)(i:Nat):Int:=l.getD i 0
abbrev A3:=Int×Int×Int
abbrev g3(l:List A3)(i:Nat):A3:=l.getD i (0,0,0)
theorem JE{l:List Int}{i:Nat}(h:i<l.length):(rI l)[i]? = some [tv (g0 l i)]:=by simp [h]
def Jw(n a b:Int):Bool:=decide (a<=n)&&decide (n<=b)
theorem inB_iff{n a b:Int}:Jw n a b=true↔a<=n/\n<=b:=by simp [Jw]
theorem inB_not{n a b:Int}:Jw n a b=false ↔ ¬ (a<=n/\n<=b):=by
 rw[<-inB_iff];cases Jw n a b <;> simp
theorem VV(n a b:Int)(lvl:Nat)(S:Zc):Sem UbR Vl lvl [iI n,iI a,iI b] S (iB (Jw n a b)) S:=by
 refine Zv ZuA trivial ?_
 simp only[Zhr,Zb,seval,Za,men]
 refine Zl (fun h=>?_) (fun h=>?_) <;> simp [Jw,h]
theorem YW(n a b:Int)(lvl:Nat)(S:Zc):Sem UbR YE lvl [iI n,iI a,iI b] S (iB (Jw n a b)) S:=by
 refine Zv ZuG trivial ?_
 simp only[Zhy,Zb,seval,Za,men]
 refine Zl (fun h=>?_) (fun h=>?_) <;> simp [Jw,h]
def Xb(lo hi:Int)(l:List Int):Prop:=∀ i,i<l.length->lo<=g0 l i/\g0 l i<=hi/\(0<i->g0 l (i-1)<g0 l i)
theorem Zii(l:List Int)(JX:Int)(hl:l.length<=9223372036854775807)(hb:0<=JX)(hb2:JX<=9223372036854775807)(lvl:Nat)(S:Zc):Sem UbR Zbb lvl [tI l,iI JX] S (iB (dc (Xb 0 (JX-1) l))) S:=by
 refine Zv ZuX trivial ?_
 simp only[ZhR,Uab,Zb,seval,Za,men]
 refine Jf (α:=Unit) l.length (fun j _=>⟨lvl,[(0,tI l),(1,iI JX),(7,tI l),(8,iI l.length),(9,iI j)],[],S⟩) (fun j _=>∀ i,i<j->0<=g0 l i/\g0 l i<=JX-1/\(0<i->g0 l (i-1)<g0 l i)) () ⟨by simp only[Zb,seval,Za,men],by (simp only[Zb,seval,Za,men]) <;> rfl⟩ (fun i hi=>by omega) ?_
 intro j _ hj hA
 simp only[Uab,Zb,seval,Za,men]
 refine Zl (fun hlt=>?_) (fun hge=>?_)
 ·have hja:j<l.length:=by omega
  have ga:=JE hja
  have hfb:Jq .i64 (JX-1):=by rw[Zh];omega
  simp only[ga,hfb,Zb,seval,Za,men]
  refine Zi (YW (g0 l j) 0 (JX-1)) ?_
  simp only[Zb,seval,Za,men]
  refine Zl (fun hin=>?_) (fun hin=>?_)
  ·have hin':=inB_iff.1 hin
   have hgo:(0<j->g0 l (j-1)<g0 l j)->∀ i,i<j+1->0<=g0 l i/\g0 l i<=JX-1/\(0<i->g0 l (i-1)<g0 l i):=fun hp i hi=>by
    by_cases e:i=j
    ·subst e;exact⟨hin'.1,hin'.2,hp⟩
    ·exact hA i (by omega)
   refine Zl (fun hpos=>?_) (fun hpos=>?_)
   ·have hp:((j:Int)-1).toNat=j-1:=by omega
    have hp0:(0:Int)<=j-1:=by omega
    have gb:=JE (l:=l) (i:=j-1) (by omega)
    simp only[hp,hp0,gb,ga,Zb,seval,Za,men]
    refine⟨by rw[Zh];omega,Zl (fun hge=>?_) (fun hlt2=>?_)⟩
    ·have:¬ Xb 0 (JX-1) l:=fun hr=>by have:=(hr j hja).2.2 (by omega);omega
     rw[ZN this]
    ·exact⟨by rw[Zh];omega,Zr () hja rfl (hgo fun _=>by omega)⟩
   ·exact⟨by rw[Zh];omega,Zr () hja rfl (hgo fun h=>by omega)⟩
  ·have:¬ Xb 0 (JX-1) l:=fun hr=>hin (inB_iff.2 ⟨(hr j hja).1,(hr j hja).2.1⟩)
   rw[ZN this]
 ·have:j=l.length:=by omega
  subst this
  rw[Ye (p:=Xb 0 (JX-1) l) hA]
def QJ:List Int->List Int->Int
 | [],[]=>0
 | [],_::_=>-1
 | _::_,[]=>1
 | x::r,y::s=>if x<y then -1 else if y<x then 1 else QJ r s
def Zee(x y:Int):Int:=if x<y then -1 else if y<x then 1 else 0
theorem Zef(x:Int)(lvl:Nat)(S:Zc):Sem UbR Uh lvl [iI x] S (iB false) S:=by
 refine Zv Zvh trivial ?_
 simp only[Zib,Zb,seval,Za,men]
theorem Zvk(x y:Int)(lvl:Nat)(S:Zc):Sem UbR Zd7 lvl [iI x,iI y] S (iI (Zee x y)) S:=by
 refine Zv Zvi trivial ?_
 simp only[Zic,Zb,seval,Za,men]
 refine Zi (Zef x) ?_
 simp only[Zb,seval,Za,men]
 refine Zi (Zef y) ?_
 simp only[Zb,seval,Za,men]
 unfold Zee
 refine Zl (fun h=>?_) (fun h=>?_)
 ·rw[if_pos h]
 ·rw[if_neg h]
  refine Zl (fun h2=>?_) (fun h2=>?_)
  ·rw[if_pos h2]
  ·rw[if_neg h2]
theorem Zvl(a b:List Int)(ha:a.length<=9223372036854775807)(hb:b.length<=9223372036854775807)(lvl:Nat)(S:Zc):Sem UbR Zd6 lvl [tI a,tI b] S (iI (QJ a b)) S:=by
 refine Zv Zvg trivial ?_
 simp only[Zia,Uab,Zb,seval,Za,men]
 refine Jf (α:=Unit) a.length (fun j _=>⟨lvl,[(0,tI a),(1,tI b),(9,tI a),(10,iI a.length),(11,iI j)],[],S⟩) (fun j _=>j<=b.length/\QJ (a.drop j) (b.drop j)=QJ a b) () ⟨by simp only[Zb,seval,Za,men],by (simp only[Zb,seval,Za,men]) <;> rfl⟩ ⟨Ubg _,rfl⟩ ?_
 intro j _ hj ⟨hjb,hA⟩
 simp only[Uab,Zb,seval,Za,men]
 refine Zl (fun hlt=>?_) (fun hge=>?_)
 ·have hja:j<a.length:=by omega
  have ga:=JE hja
  have e1:a.drop j=g0 a j::a.drop (j+1):=by rw[UaW hja];simp [hja]
  rw[e1] at hA
  simp only[ga,Uab,Zb,seval,Za,men]
  refine Zl (fun hbe=>?_) (fun hbl=>?_)
  ·have:b.drop j=[]:=List.drop_eq_nil_of_le (by omega)
   rw[this] at hA
   simp only[QJ] at hA
   rw[<-hA]
  ·have hjb2:j<b.length:=by omega
   have gb:=JE hjb2
   have e2:b.drop j=g0 b j::b.drop (j+1):=by rw[UaW hjb2];simp [hjb2]
   rw[e2] at hA
   simp only[QJ] at hA
   simp only[gb,Zb,seval,Za,men]
   refine Zi (Zvk (g0 a j) (g0 b j)) ?_
   simp only[Zb,seval,Za,men]
   unfold Zee
   by_cases h1:g0 a j<g0 b j
   ·rw[if_pos h1] at hA
    rw[if_pos h1,if_pos (by decide),<-hA]
   ·rw[if_neg h1] at hA
    rw[if_neg h1]
    by_cases h2:g0 b j<g0 a j
    ·rw[if_pos h2] at hA
     rw[if_pos h2,if_pos (by decide),<-hA]
    ·rw[if_neg h2] at hA
     rw[if_neg h2,if_neg (by decide)]
     exact⟨by rw[Zh];omega,Zr () hja rfl ⟨by omega,hA⟩⟩
 ·have:j=a.length:=by omega
  subst this
  rw[Ubr] at hA
  refine Zl (fun h1=>?_) (fun h1=>?_)
  ·have hb1:a.length<b.length:=by omega
   have e2:b.drop a.length=g0 b a.length::b.drop (a.length+1):=by rw[UaW hb1];simp [hb1]
   rw[e2] at hA
   simp only[QJ] at hA
   rw[<-hA]
  ·have:b.drop a.length=[]:=List.drop_eq_nil_of_le (by omega)
   rw[this] at hA
   simp only[QJ] at hA
   rw[<-hA]
end Go.Fd

namespace Go.Proofs
open Go.Shelf
def Tryz.lays160_ren:Go.Shelf.Ren:=⟨fun | 160=>114 | 232=>120 | 231=>119 | 227=>121 | 234=>123 | 233=>122 | 236=>125 | 235=>124 | 228=>128 | 271=>131 | 151=>130 | 197=>129 | 120=>134 | 152=>133 | 260=>132 | 137=>135 | 119=>136 | 224=>137 | 225=>138 | 217=>139 | 266=>140 | n=>n,fun | 9=>9 | 4=>4 | 3=>3 | 5=>5 | 117=>149 | 116=>148 | 0=>0 | 124=>152 | 21=>21 | 105=>155 | 46=>138 | 119=>159 | 139=>162 | 138=>161 | n=>n,fun | 3=>0 | 4=>1 | n=>n⟩
theorem Tryz.lays160:Go.Proofs.Lays.n160 Tryz.prog Tryz.lays160_ren:={
  mixed:=by kernel_rfl,
  f119:=Tryz.func136.trans (congrArg some (by kernel_rfl)),
  f120:=Tryz.func134.trans (congrArg some (by kernel_rfl)),
  f137:=Tryz.func135.trans (congrArg some (by kernel_rfl)),
  f151:=Tryz.func130.trans (congrArg some (by kernel_rfl)),
  f152:=Tryz.func133.trans (congrArg some (by kernel_rfl)),
  f160:=Tryz.func114.trans (congrArg some (by kernel_rfl)),
  f197:=Tryz.func129.trans (congrArg some (by kernel_rfl)),
  f217:=Tryz.func139.trans (congrArg some (by kernel_rfl)),
  f224:=Tryz.func137.trans (congrArg some (by kernel_rfl)),
  f225:=Tryz.func138.trans (congrArg some (by kernel_rfl)),
  f227:=Tryz.func121.trans (congrArg some (by kernel_rfl)),
  f228:=Tryz.func128.trans (congrArg some (by kernel_rfl)),
  f231:=Tryz.func119.trans (congrArg some (by kernel_rfl)),
  f232:=Tryz.func120.trans (congrArg some (by kernel_rfl)),
  f233:=Tryz.func122.trans (congrArg some (by kernel_rfl)),
  f234:=Tryz.func123.trans (congrArg some (by kernel_rfl)),
  f235:=Tryz.func124.trans (congrArg some (by kernel_rfl)),
  f236:=Tryz.func125.trans (congrArg some (by kernel_rfl)),
  f260:=Tryz.func132.trans (congrArg some (by kernel_rfl)),
  f266:=Tryz.func140.trans (congrArg some (by kernel_rfl)),
  f271:=Tryz.func131.trans (congrArg some (by kernel_rfl)),
  t0:=Tryz.underlying0,
  a0:=Tryz.isAgg0,
  z0:=Tryz.sizeOf0,
  v0:=Tryz.zeroValue0,
  t3:=Tryz.underlying3,
  a3:=Tryz.isAgg3,
  z3:=Tryz.sizeOf3,
  v3:=Tryz.zeroValue3,
  t4:=Tryz.underlying4,
  a4:=Tryz.isAgg4,
  z4:=Tryz.sizeOf4,
  v4:=Tryz.zeroValue4,
  t5:=Tryz.underlying5,
  a5:=Tryz.isAgg5,
  z5:=Tryz.sizeOf5,
  v5:=Tryz.zeroValue5,
  t9:=Tryz.underlying9,
  a9:=Tryz.isAgg9,
  z9:=Tryz.sizeOf9,
  v9:=Tryz.zeroValue9,
  t21:=Tryz.underlying21,
  a21:=Tryz.isAgg21,
  z21:=Tryz.sizeOf21,
  v21:=Tryz.zeroValue21,
  t46:=Tryz.underlying138,
  a46:=Tryz.isAgg138,
  z46:=Tryz.sizeOf138,
  v46:=Tryz.zeroValue138,
  t105:=Tryz.underlying155,
  a105:=Tryz.isAgg155,
  z105:=Tryz.sizeOf155,
  v105:=Tryz.zeroValue155,
  t116:=Tryz.underlying148,
  a116:=Tryz.isAgg148,
  z116:=Tryz.sizeOf148,
  t117:=Tryz.underlying149,
  a117:=Tryz.isAgg149,
  z117:=Tryz.sizeOf149,
  v117:=Tryz.zeroValue149,
  t119:=Tryz.underlying159,
  a119:=Tryz.isAgg159,
  z119:=Tryz.sizeOf159,
  t124:=Tryz.underlying152,
  a124:=Tryz.isAgg152,
  z124:=Tryz.sizeOf152,
  v124:=Tryz.zeroValue152,
  t138:=Tryz.underlying161,
  a138:=Tryz.isAgg161,
  z138:=Tryz.sizeOf161,
  v138:=Tryz.zeroValue161,
  t139:=Tryz.underlying162,
  a139:=Tryz.isAgg162,
  z139:=Tryz.sizeOf162,
  v139:=Tryz.zeroValue162,
  g3:=by kernel_rfl,
  g4:=by kernel_rfl }
end Go.Proofs

namespace Go.Fd
open Go.Proofs.Tryz renaming prog->UbR
set_option maxRecDepth 20000
def Zij(P:Program)(f:FuncId):Bool:=match P.funcs[f]? with | some fn=>fn.body.isSome && !(fn.name == "runtime.NumGoroutine") | none=>false
theorem Zvm{P:Program}{f:FuncId}(h:Zij P f=true):UE P f:=by
 unfold Zij at h
 split at h
 ·rename_i fn hf
  simp only[Uad,Uar] at h
  exact⟨fn,hf,h.1,h.2⟩
 ·cases h
abbrev AZ:ByteArray:=⟨#[97,98,99,100,101,102,103,104,105,106,107,108,109,110,111,112,113,114,115,116,117,118,119,120,121,122]⟩
theorem Zvn(s:ByteArray)(hs:s.size<=9223372036854775807)(lvl:Nat)(S:Zc):Sem UbR Zhm lvl [iS s,iS AZ] S (iS ⟨(Lib.trimS s.data.toList AZ.data.toList).toArray⟩) S :=
 ZtK (xs:=[.string s,.string AZ]) (Zvm (by kernel_rfl)) rfl (fun w=>Go.Proofs.Any.strings_Trim_laid Proofs.Tryz.lays160 (by kernel_rfl) s AZ w hs (by decide) (Go.Proofs.ascii_of_all (by decide)))
def Qm(s:ByteArray):Prop:=(∀ b∈s.data.toList,97<=b.toNat/\b.toNat<=122)/\1<=s.size/\s.size<=4
theorem Zik(s:ByteArray):s.size=s.data.toList.length:=by rw[Array.length_toList];rfl
theorem Zil(b:UInt8):b∈AZ.data.toList↔97<=b.toNat/\b.toNat<=122:=by
 have:∀ n:Fin 256,(UInt8.ofNat n.val)∈AZ.data.toList↔97<=n.val/\n.val<=122:=by decide +kernel
 have h:UInt8.ofNat b.toNat∈AZ.data.toList↔97<=b.toNat/\b.toNat<=122:=this ⟨b.toNat,b.toNat_lt⟩
 rw[show UInt8.ofNat b.toNat=b from UInt8.ofNat_toNat] at h
 exact h
theorem Zeg{p:UInt8->Bool}:∀{l:List UInt8},l.dropWhile p=[]↔∀ b∈l,p b=true
 | []=>by simp
 | x::r=>by
  simp only[List.dropWhile_cons,UaV,forall_eq_or_imp]
  cases h:p x with
  | true=>simp [Zeg (l:=r)]
  | false=>simp
theorem Zim{p:UInt8->Bool}{b:UInt8}:∀{l:List UInt8},b∈l.takeWhile p->p b=true
 | [],h=>by simp at h
 | x::r,h=>by
  rw[List.takeWhile_cons] at h
  split at h
  ·rename_i hx
   rcases UaV.1 h with rfl | h
   ·exact hx
   ·exact Zim h
  ·cases h
theorem Zvo{l cs:List UInt8}(h:∀ b∈l,b∈cs):l.dropWhile (cs.contains ·)=[]:=by
 rw[Zeg]
 intro b hb
 simpa using h b hb
theorem trimS_nil{l cs:List UInt8}:Lib.trimS l cs=[]↔∀ b∈l,b∈cs:=by
 unfold Lib.trimS Lib.trimLeftS Lib.trimRightS
 constructor
 ·intro h b hb
  rw[Zeg] at h
  have hrev:∀ x∈(l.reverse.dropWhile (cs.contains ·)),x∈cs:=fun x hx=>by
   have:=h x (by simpa using hx)
   simpa using this
  have hsplit:l.reverse=l.reverse.takeWhile (cs.contains ·)++l.reverse.dropWhile (cs.contains ·):=(List.takeWhile_append_dropWhile).symm
  have hb2:b∈l.reverse:=by simpa using hb
  rw[hsplit] at hb2
  rcases Uax.1 hb2 with h1 | h1
  ·have:=Zim h1
   simpa using this
  ·exact hrev b h1
 ·intro h
  rw[Zvo (l:=l.reverse) (fun b hb=>h b (by simpa using hb))]
  rfl
theorem Zin(s:ByteArray)(hs:s.size<=9223372036854775807)(lvl:Nat)(S:Zc):Sem UbR Za5 lvl [iS s] S (iB (dc (Qm s))) S:=by
 refine Zv ZuN trivial ?_
 simp only[ZhH,Zb,seval,Za,men]
 refine Ja (α:=Unit) s.size (fun j _=>[(3,iI j)]) (fun _ _=>[]) (fun j _=>∀ b∈s.data.toList.take j,97<=b.toNat/\b.toNat<=122) () (by simp only[Zb,seval,Za,men]) (by (simp only[Zb,seval,Za,men]) <;> rfl) (fun b hb=>by simp at hb) ?_
 intro j _ hj hA
 simp only[Zb,seval,Za,men]
 refine Zl (fun hlt=>?_) (fun hge=>?_)
 ·have hja:j<s.data.toList.length:=by rw[<-Zik];omega
  have ga:s.data.toList[j]? = some (s.data.toList[j]):=Uaf hja
  have hno:¬ (97<=(s.data.toList[j]).toNat/\(s.data.toList[j]).toNat<=122) -> ¬ Qm s:=fun h hn=>h (hn.1 _ (Ual hja))
  by_cases h1:((s.data.toList[j]).toNat:Int)<97
  ·simp only[ga,h1,Zb,seval,Za,men]
   rw[ZN (hno (by omega))]
  by_cases h2:(122:Int)<(s.data.toList[j]).toNat
  ·simp only[ga,h1,h2,Zb,seval,Za,men]
   rw[ZN (hno (by omega))]
  ·simp only[ga,h1,h2,Zb,seval,Za,men]
   refine⟨by rw[Zh];omega,Zr () (by omega) rfl ?_⟩
   intro b hb
   rw[Uaj hja] at hb
   rcases Uax.1 hb with h | h
   ·exact hA b h
   ·have:b=s.data.toList[j]:=by simpa using h
    subst this
    omega
 ·have:j=s.size:=by omega
  subst this
  rw[Zik,Uaz] at hA
  refine Zi (VV s.size 1 4) ?_
  simp only[Zb,seval,Za,men]
  rw[XM (q:=1<=s.size/\s.size<=4) ⟨fun h=>h.2,fun h=>⟨hA,h⟩⟩]
  by_cases h:1<=s.size/\s.size<=4
  ·rw[Ye h,inB_iff.2 (by omega)]
  ·rw[ZN h,inB_not.2 (by omega)]
theorem Zio(s:ByteArray)(hs:s.size<=9223372036854775807)(lvl:Nat)(S:Zc):Sem UbR Zbf lvl [iS s] S (iB (dc (Qm s))) S:=by
 refine Zv Zvb trivial ?_
 simp only[Zh5,Zb,seval,Za,men]
 refine Zi (YW s.size 1 4) ?_
 simp only[Zb,seval,Za,men]
 cases hin:Jw (s.size:Int) 1 4 with
 | false =>
  have:¬ Qm s:=fun h=>(inB_not.1 hin) (by have:=h.2;omega)
  rw[ZN this]
  simp only[Zb,seval,Za,men]
 | true =>
  have hin':=inB_iff.1 hin
  simp only[Zb,seval,Za,men]
  refine Zi (Zvn s hs) ?_
  simp only[Zb,seval,Za,men]
  by_cases h:Qm s
  ·have:Lib.trimS s.data.toList AZ.data.toList=[]:=trimS_nil.2 (fun b hb=>(Zil b).2 (h.1 b hb))
   rw[Ye h,this]
   rfl
  ·have:¬ Lib.trimS s.data.toList AZ.data.toList=[]:=fun e=>h ⟨fun b hb=>(Zil b).1 (trimS_nil.1 e b hb),by omega,by omega⟩
   rw[ZN h]
   have h2:¬ (⟨(Lib.trimS s.data.toList AZ.data.toList).toArray⟩:ByteArray)=⟨#[]⟩:=fun e=>this (by
    have:=congrArg (fun b:ByteArray=>b.data.toList) e
    simpa using this)
   simp [h2]
def Zeh(c:TControl):Prop:=Qm c.name/\(0<=c.ports/\c.ports<=3)/\0<=c.kind_/\c.kind_<=2
def Dm(sig:List TControl)(i:Nat):Prop:=∀ h:i<sig.length,Zeh sig[i]/\∀ k (hk:k<i),(sig[k]'(by omega)).name≠sig[i].name
def YM(sig:List TControl):Prop:=(∀ i,Dm sig i)/\1<=sig.length/\sig.length<=6
theorem Zvp(c d:TControl)(lvl:Nat)(S:Zc):Sem UbR Zbg lvl [.ag ((ZB d).map .tr),.ta (ZB c)] S (iB (decide (d.name=c.name))) S:=by
 refine Zv Zvc trivial ?_
 simp only[Zh6,ZB,Zb,seval,Za,men]
theorem Zvq:Zo UbR Zhn (Qk 3 (some 3))=true:=by kernel_rfl
theorem Zvr:Zo UbR Zhj (XK Zhn)=true:=by kernel_rfl
theorem Zip(sig:List TControl)(hl:sig.length<=9223372036854775807)(hb:∀ y∈sig,Yd 9223372036854775807 y)(lvl:Nat)(S:Zc):Sem UbR ZaZ lvl [.tr (.sl (sig.map ZB))] S (iB (dc (YM sig))) S:=by
 refine Zv Zuz trivial ?_
 simp only[Zhq,Uab,Zb,seval,Za,men]
 refine Ja (α:=Unit) sig.length (fun j _=>[(3,iI j)]) (fun _ _=>[]) (fun j _=>∀ i,i<j->Dm sig i) () (by simp only[Zb,seval,Za,men]) (by (simp only[Zb,seval,Za,men]) <;> rfl) (fun i hi=>by omega) ?_
 intro j _ hj hA
 simp only[Uab,Zb,seval,Za,men]
 refine Zl (fun hlt=>?_) (fun hge=>?_)
 ·have hja:j<sig.length:=by omega
  have ga:=ZY (c:=ZB) hja
  have hbj:sig[j].name.size<=9223372036854775807:=hb _ (Ual hja)
  have hno:¬ Zeh sig[j] -> ¬ YM sig:=fun h hs=>h (hs.1 j hja).1
  simp only[ga,ZB,Zb,seval,Za,men]
  refine Zi (Zin sig[j].name hbj) ?_
  simp only[ga,ZB,Zb,seval,Za,men]
  cases hn:dc (Qm sig[j].name) with
  | false =>
   simp only[Zb,seval,Za,men]
   rw[ZN (hno fun h=>dc_not.1 hn h.1)]
  | true =>
   have hn':=dc_iff.1 hn
   simp only[ga,ZB,Zb,seval,Za,men]
   refine Zi (VV sig[j].ports 0 3) ?_
   simp only[ga,ZB,Zb,seval,Za,men]
   cases hp:Jw sig[j].ports 0 3 with
   | false =>
    simp only[Zb,seval,Za,men]
    rw[ZN (hno fun h=>inB_not.1 hp h.2.1)]
   | true =>
    have hp':=inB_iff.1 hp
    simp only[ga,ZB,Zb,seval,Za,men]
    refine Zi (VV sig[j].kind_ 0 2) ?_
    simp only[ga,ZB,Zb,seval,Za,men]
    cases hk:Jw sig[j].kind_ 0 2 with
    | false =>
     simp only[Zb,seval,Za,men]
     rw[ZN (hno fun h=>inB_not.1 hk h.2.2)]
    | true =>
     have hk':=inB_iff.1 hk
     simp only[Zb,seval,Za,men]
     refine Ja (α:=Unit) j (fun k _=>[(4,iI k)]) (fun _ _=>[]) (fun k _=>∀ i (hi:i<k),k<=j->∀ hi2:i<sig.length,(sig[i]'hi2).name≠sig[j].name) () (by simp only[Zb,seval,Za,men]) (by (simp only[Zb,seval,Za,men]) <;> rfl) (fun i hi=>by omega) ?_
     intro k _ hkj hB
     simp only[Uab,Zb,seval,Za,men]
     refine Zl (fun hlt2=>?_) (fun hge2=>?_)
     ·have hka:k<sig.length:=by omega
      have gb:=ZY (c:=ZB) hka
      simp only[ga,gb,ZB,Zb,seval,Za,men]
      refine Zl (fun he=>?_) (fun hne=>?_)
      ·rw[ZN (fun hs:YM sig=>(hs.1 j hja).2 k (by omega) he)]
      ·refine⟨by rw[Zh];omega,Zr () (by omega) rfl (fun i hi _ hi2=>?_)⟩
       by_cases e:i=k
       ·subst e;exact hne
       ·exact hB i (by omega) (by omega) hi2
     ·have:k=j:=by omega
      subst this
      refine⟨by rw[Zh];omega,Zr () hja rfl (fun i hi=>?_)⟩
      by_cases e:i=k
      ·subst e
       exact fun h=>⟨⟨hn',hp',hk'⟩,fun q hq=>hB q hq (Uag _) (by omega)⟩
      ·exact hA i (by omega)
 ·have:j=sig.length:=by omega
  subst this
  refine Zi (VV sig.length 1 6) ?_
  simp only[Zb,seval,Za,men]
  have hall:∀ i,Dm sig i:=fun i h=>hA i h h
  rw[XM (q:=1<=sig.length/\sig.length<=6) ⟨fun h=>h.2,fun h=>⟨hall,h⟩⟩]
  by_cases h:1<=sig.length/\sig.length<=6
  ·rw[Ye h,inB_iff.2 (by omega)]
  ·rw[ZN h,inB_not.2 (by omega)]
theorem Ziq(sig:List TControl)(hl:sig.length<=9223372036854775807)(hb:∀ y∈sig,Yd 9223372036854775807 y)(lvl:Nat)(S:Zc):Sem UbR Zba lvl [.tr (.sl (sig.map ZB))] S (iB (dc (YM sig))) S:=by
 refine Zv ZuW trivial ?_
 simp only[ZhQ,Uab,Zb,seval,Za,men]
 refine Zi (YW sig.length 1 6) ?_
 simp only[Uab,Zb,seval,Za,men]
 refine Zl (fun h=>?_) (fun h=>?_)
 ·rw[ZN (fun hs:YM sig=>(inB_not.1 h) (by have:=hs.2;omega))]
 have hln:=inB_iff.1 (by simpa using h)
 refine Ja (α:=Unit) sig.length (fun j _=>[(11,iI j)]) (fun _ _=>[]) (fun j _=>∀ i,i<j->Dm sig i) () (by simp only[Zb,seval,Za,men]) (by (simp only[Zb,seval,Za,men]) <;> rfl) (fun i hi=>by omega) ?_
 intro j _ hj hA
 simp only[Uab,Zb,seval,Za,men]
 refine Zl (fun hlt=>?_) (fun hge=>?_)
 ·have hja:j<sig.length:=by omega
  have ga:=ZY (c:=ZB) hja
  have hbj:sig[j].name.size<=9223372036854775807:=hb _ (Ual hja)
  have hno:¬ Zeh sig[j] -> ¬ YM sig:=fun h hs=>h (hs.1 j hja).1
  simp only[ga,ZB,Zb,seval,Za,men]
  refine Zi (Zio sig[j].name hbj) ?_
  simp only[ga,ZB,Zb,seval,Za,men]
  cases hn:dc (Qm sig[j].name) with
  | false =>
   simp only[Zb,seval,Za,men]
   rw[ZN (hno fun h=>dc_not.1 hn h.1)]
  | true =>
   have hn':=dc_iff.1 hn
   simp only[ga,ZB,Zb,seval,Za,men]
   refine Zi (YW sig[j].ports 0 3) ?_
   simp only[ga,ZB,Zb,seval,Za,men]
   cases hp:Jw sig[j].ports 0 3 with
   | false =>
    simp only[Zb,seval,Za,men]
    rw[ZN (hno fun h=>inB_not.1 hp h.2.1)]
   | true =>
    have hp':=inB_iff.1 hp
    simp only[ga,ZB,Zb,seval,Za,men]
    refine Zi (YW sig[j].kind_ 0 2) ?_
    simp only[ga,ZB,Zb,seval,Za,men]
    cases hk:Jw sig[j].kind_ 0 2 with
    | false =>
     simp only[Zb,seval,Za,men]
     rw[ZN (hno fun h=>inB_not.1 hk h.2.2)]
    | true =>
     have hk':=inB_iff.1 hk
     have hjl:j<=sig.length:=by omega
     simp only[Uab,hjl,Zb,seval,Za,men]
     have hc:=Zed (P:=UbR) Zvr Zvq Zhc (f:=fun d:TControl=>decide (d.name=sig[j].name)) (fe:=Zbg) (cs:=[ZB sig[j]]) (sig.take j) (by rw[Uas];omega) (fun d _ lvl S=>Zvp sig[j] d lvl S)
     rw[<-Zid] at hc
     refine⟨fun h=>h.elim,Ubg _,Zi hc ?_⟩
     simp only[Zb,seval,Za,men]
     cases ha:(sig.take j).any (fun d:TControl=>decide (d.name=sig[j].name)) with
     | true =>
      simp only[Zb,seval,Za,men]
      obtain⟨d,hd,he⟩:=List.any_eq_true.1 ha
      obtain⟨q,hq,rfl⟩:=UaU hd
      rw[Uas] at hq
      rw[ZN (fun hs:YM sig=>(hs.1 j hja).2 q (by omega) (by simpa using he))]
     | false =>
      simp only[Zb,seval,Za,men]
      refine⟨by rw[Zh];omega,Zr () hja rfl (fun i hi=>?_)⟩
      by_cases e:i=j
      ·subst e
       refine fun h=>⟨⟨hn',hp',hk'⟩,fun q hq=>?_⟩
       have:=(UbL.1 ha) sig[q] (by
        rw[List.mem_take_iff_getElem]
        exact⟨q,by omega,rfl⟩)
       simpa using this
      ·exact hA i (by omega)
 ·have:j=sig.length:=by omega
  subst this
  have hall:∀ i,Dm sig i:=fun i h=>hA i h h
  rw[Ye (p:=YM sig) ⟨hall,by omega,by omega⟩]
theorem Dn:Zo UbR Zhk (Qk 1 none)=true:=by kernel_rfl
theorem Do:Zo UbR Dk (XK Zhk)=true:=by kernel_rfl
def Zm(s:Int->Int)(P:Prop):Prop:=∀ l:Int,0<=l->l<=1048576->s l<=l/\(0<=s l->P)
theorem Zbj:Zm (fun l=>l) True:=fun _ _ _=>⟨Ubd _,fun _=>trivial⟩
theorem Wn{s g:Int->Int}{P Q:Prop}(hs:Zm s P)(hg:Zm g Q):Zm (fun l=>JM (s l) g) (P/\Q):=fun l h0 h1=>by
 have a:=hs l h0 h1
 by_cases h:s l<0
 ·simp only[JM,if_pos h]
  exact⟨by omega,fun h=>by omega⟩
 ·simp only[JM,if_neg h]
  have b:=hg (s l) (by omega) (by omega)
  exact⟨by omega,fun h2=>⟨a.2 (by omega),b.2 h2⟩⟩
theorem Zei(n:Nat):Zm (fun l=>Yf n l) (n<=4294967296):=fun l h0 h1=>by
 simp only[Yf]
 split
 ·exact⟨by omega,fun h=>by omega⟩
 ·exact⟨by omega,fun h=>by omega⟩
theorem Zej(n:Nat):Zm (fun l=>l-n) (n<=4294967296):=fun l h0 h1=>⟨by simp only;omega,fun h=>by simp only at h;omega⟩
theorem Zir{α:Type}{f:α->Int->Int}{P:α->Prop}(hf:∀ x,Zm (f x) (P x)):∀(a:List α),Zm (fun l=>J5 f a l) (∀ y∈a,P y)
 | []=>fun l _ _=>⟨Ubd l,fun _ y hy=>by cases hy⟩
 | x::r=>fun l h0 h1=>by
  simp only[J5]
  have a:=hf x l h0 h1
  split
  ·exact⟨by omega,fun h=>by omega⟩
  ·have b:=Zir hf r (f x l) (by omega) (by omega)
   refine⟨by simp only at b;omega,fun h y hy=>?_⟩
   cases hy with
   | head=>exact a.2 (by omega)
   | tail _ hy=>exact b.2 h y hy
theorem Ui{α:Type}{f:α->Int->Int}{P:α->Prop}(hf:∀ x,Zm (f x) (P x))(a:List α):Zm (fun l=>Jn f a l) (a.length<=4294967296/\∀ y∈a,P y):=fun l h0 h1=>by
 simp only[Jn]
 split
 ·exact⟨by omega,fun h=>by omega⟩
 ·have b:=Zir hf a (l-a.length) (by omega) (by omega)
  simp only at b
  exact⟨by omega,fun h=>⟨by omega,b.2 h⟩⟩
theorem Zbk{s:Int->Int}{P Q:Prop}(h:Zm s P)(hq:P->Q):Zm s Q:=fun l h0 h1=>⟨(h l h0 h1).1,fun h2=>hq ((h l h0 h1).2 h2)⟩
theorem Zvs(x:TControl):Zm (fun l=>YC x l) (Yd 4294967296 x):=by
 unfold YC
 exact Zbk (Wn (Zej _) Zbj) (fun h=>by unfold Yd;simp only[and_assoc,and_true,true_and,implies_true,forall_const] at h ⊢;try exact h)
theorem Zvt(x:TNode):Zm (fun l=>VS x l) (VQ 4294967296 x):=by
 unfold VS
 exact Zbk (Wn (Zei _) Zbj) (fun h=>by unfold VQ;simp only[and_assoc,and_true,true_and,implies_true,forall_const] at h ⊢;try exact h)
theorem Zvu(x:TWire):Zm (fun l=>VT x l) (VB 4294967296 x):=by
 unfold VT
 exact Zbk (Wn (Zej _) Zbj) (fun h=>by unfold VB;simp only[and_assoc,and_true,true_and,implies_true,forall_const] at h ⊢;try exact h)
theorem Zvv(x:TBigraph):Zm (fun l=>VU x l) (YD 4294967296 x):=by
 unfold VU
 exact Zbk (Wn (Ui (fun y=>(Zvt _)) _) (Wn (Zei _) (Wn (Ui (fun y=>(Zej _)) _) (Wn (Ui (fun y=>(Zvu _)) _) Zbj)))) (fun h=>by unfold YD;simp only[and_assoc,and_true,true_and,implies_true,forall_const] at h ⊢;try exact h)
theorem XN{a:Nat}(h:a<=4294967296):a<=9223372036854775807:=by omega
theorem Zbl{x:TControl}(h:Yd 4294967296 x):Yd 9223372036854775807 x:=by
 exact(XN h)
theorem Zek{x:TSorting}(h:VC 4294967296 x):VC 9223372036854775807 x:=by
 obtain⟨b0,b1,b2,b3,b4,b5,b6⟩:=h
 exact⟨(XN b0),(XN b1),(fun y0 hy0=>(XN (b2 y0 hy0))),(XN b3),(fun y0 hy0=>(XN (b4 y0 hy0))),(XN b5),(XN b6)⟩
theorem Wo{P:Nat->Prop}{j:Nat}(h:∀ k,k<j->P k)(hj:P j):∀ k,k<j+1->P k:=fun k hk=>by
 by_cases e:k=j
 ·subst e;exact hj
 ·exact h k (by omega)
abbrev A2:=Int×Int
abbrev Zs:List Int->List Tr:=fun l=>[Tr.sl (rI l)]
def Zbm(sig:List TControl)(nest:List (List Int))(k:Nat):Prop:=∀(h:k<nest.length) (h2:k<sig.length),Xb 0 ((sig.length:Int)-1) nest[k]/\(sig[k].kind_=2->nest[k]=[])
def Dp(sig:List TControl)(sorts:List (List Int))(many:Nat)(k:Nat):Prop:=∀(h:k<sorts.length) (h2:k<sig.length),(sorts[k].length:Int)=sig[k].ports/\∀ n∈sorts[k],0<=n/\n<=(many:Int)-1
def lt2(a b:A2):Prop:=a.1<b.1\/a.1=b.1/\a.2<b.2
def Dq(l:List A2)(many:Nat)(i:Nat):Prop:=∀ h:i<l.length,0<=l[i].1/\l[i].1<l[i].2/\l[i].2<(many:Int)/\(∀ h0:0<i,lt2 (l[i-1]'(by omega)) l[i])
structure sortOK (sig:List TControl) (s:TSorting):Prop where
 sg:YM sig
 tops:Xb 0 ((sig.length:Int)-1) s.tops
 nestL:s.nest.length=sig.length
 nest:∀ k,Zbm sig s.nest k
 sortsL:s.sorts.length=sig.length
 sorts:∀ k,Dp sig s.sorts s.most.length k
 many:1<=s.most.length/\s.most.length<=4
 most:∀ n∈s.most,0<=n/\n<=24
 apart:∀ i,Dq s.apart s.most.length i
theorem Z7{es:Row}{n:Nat}(h:es.length=n):cut es 0 n=es:=by
 simp only[cut,Uby]
 exact UaL (by omega)
theorem Zbn(n:Nat):List.replicate n [Tr.v (Value.int .i64 0)]=rI (List.replicate n 0):=by simp [rI]
def Zvw(sig:List TControl)(nest:List (List Int)):Prop:=nest.length=sig.length/\∀ k,Zbm sig nest k
def XO(sig:List TControl)(sorts:List (List Int))(many:Nat):Prop:=sorts.length=sig.length/\∀ k,Dp sig sorts many k
theorem Zvx(sig:List TControl)(sorts:List (List Int))(many:Nat)(hm:many<=4294967296)(hn:sig.length<=4294967296)(hl:sorts.length<=4294967296)(hb:∀ y∈sorts,y.length<=4294967296)(lvl:Nat)(S:Zc):Sem UbR Zdh lvl [.tr (.sl (sig.map ZB)),.tr (.sl (sorts.map Zs)),iI many] S (iB (dc (XO sig sorts many))) S:=by
 refine Zv ZuB trivial ?_
 simp only[Zhs,Uab,Zb,seval,Za,men]
 refine Zl (fun hne=>?_) (fun heq=>?_)
 ·have:¬ XO sig sorts many:=fun h=>by have:=h.1;omega
  rw[ZN this]
 have hE:sorts.length=sig.length:=by omega
 refine Ja (α:=Unit) sorts.length (fun j _=>[(7,iI j)]) (fun j _=>[]) (fun j _=>∀ k,k<j->Dp sig sorts many k) () (by simp only[Zb,seval,Za,men]) (by (simp only[Zb,seval,Za,men]) <;> rfl) (fun k hk=>absurd hk (UaE k)) ?_
 intro j _ hj hA
 simp only[Uab,Zb,seval,Za,men]
 refine Zl (fun hlt=>?_) (fun hge=>?_)
 ·have hja:j<sorts.length:=by omega
  have hjs:j<sig.length:=by omega
  have ga:=ZY (c:=Zs) hja
  have gs:=ZY (c:=ZB) hjs
  have hy:sorts[j].length<=4294967296:=hb _ (Ual hja)
  simp only[ga,gs,Uab,ZB,Zb,seval,Za,men]
  refine Zl (fun hne=>?_) (fun heq=>?_)
  ·have:¬ XO sig sorts many:=fun h=>hne (h.2 j hja hjs).1
   rw[ZN this]
  have heq2:(sorts[j].length:Int)=sig[j].ports:=by omega
  refine Ja (α:=Unit) sorts[j].length (fun i _=>[(8,iI i)]) (fun i _=>[]) (fun i _=>∀ k,k<i->0<=g0 sorts[j] k/\g0 sorts[j] k<=(many:Int)-1) () (by simp only[Zb,seval,Za,men]) (by (simp only[Zb,seval,Za,men]) <;> rfl) (fun k hk=>absurd hk (UaE k)) ?_
  intro i _ hi hB
  simp only[ga,gs,Uab,ZB,Zb,seval,Za,men]
  refine Zl (fun hlt2=>?_) (fun hge2=>?_)
  ·have hia:i<sorts[j].length:=by omega
   have gi:=JE hia
   simp only[ga,gs,gi,Uab,Zb,seval,Za,men]
   refine⟨by rw[Zh];omega,?_⟩
   refine Zi (VV (g0 sorts[j] i) 0 ((many:Int)-1)) ?_
   cases hc:Jw (g0 sorts[j] i) 0 ((many:Int)-1)
   ·simp only[Zb,seval,Za,men]
    have:¬ XO sig sorts many:=fun h=>inB_not.1 hc (by
     have:=(h.2 j hja hjs).2 (g0 sorts[j] i) (by simp [hia])
     exact this)
    rw[ZN this]
   ·simp only[Zb,seval,Za,men]
    exact⟨by rw[Zh];omega,Zr () hia rfl (Wo hB (inB_iff.1 hc))⟩
  ·have:i=sorts[j].length:=by omega
   subst this
   exact⟨by rw[Zh];omega,Zr () hja rfl (Wo hA fun _ _=>⟨heq2,fun n hn=>by
    obtain⟨k,hk,rfl⟩:=UaU hn
    have:=hB k hk
    simpa [hk] using this⟩)⟩
 ·have:j=sorts.length:=by omega
  subst this
  have:XO sig sorts many:=⟨hE,fun k h h2=>hA k h h h2⟩
  rw[Ye this]
theorem Zvy{sig:List TControl}{s:TSorting}:sortOK sig s↔YM sig/\Xb 0 ((sig.length:Int)-1) s.tops/\Zvw sig s.nest/\XO sig s.sorts s.most.length/\(1<=s.most.length/\s.most.length<=4)/\(∀ n∈s.most,0<=n/\n<=24)/\∀ i,Dq s.apart s.most.length i :=
 ⟨fun h=>⟨h.sg,h.tops,⟨h.nestL,h.nest⟩,⟨h.sortsL,h.sorts⟩,h.many,h.most,h.apart⟩,fun⟨a,b,c,d,e,f,g⟩=>⟨a,b,c.1,c.2,d.1,d.2,e,f,g⟩⟩
def Dr(a b:A2):Int:=QJ [a.1,a.2] [b.1,b.2]
theorem cmp2_lt{a b:A2}:Dr a b<0↔lt2 a b:=by
 unfold Dr lt2
 simp only[QJ]
 by_cases h1:a.1<b.1
 ·simp [h1]
 ·by_cases h2:b.1<a.1
  ·simp [h1,h2];omega
  ·by_cases h3:a.2<b.2
   ·simp [h1,h2,h3];omega
   ·by_cases h4:b.2<a.2 <;> simp [h1,h2,h3,h4]
theorem Zvz(a b:A2)(lvl:Nat)(S:Zc):Sem UbR Zd2 lvl [.ag ((Zx a).map .tr),.ag ((Zx b).map .tr)] S (iI (Dr a b)) S:=by
 refine Zv Zvd trivial ?_
 simp only[Zh7,Zx,Zb,seval,Za,men]
 refine Zi (Zvl [a.1,a.2] [b.1,b.2] (by simp) (by simp)) ?_
 simp only[Zb,seval,Za,men]
 rfl
def Zbo(l:List A2)(many:Nat):Prop:=∀ i,Dq l many i
theorem ZvA(l:List A2)(many:Nat)(hm:many<=4294967296)(hl:l.length<=4294967296)(lvl:Nat)(S:Zc):Sem UbR ZdL lvl [.tr (.sl (l.map Zx)),iI many] S (iB (dc (Zbo l many))) S:=by
 refine Zv ZuZ trivial ?_
 simp only[ZhT,Uab,Zb,seval,Za,men]
 refine Ja (α:=Unit) l.length (fun j _=>[(9,iI j)]) (fun j _=>[]) (fun j _=>∀ k,k<j->Dq l many k) () (by simp only[Zb,seval,Za,men]) (by (simp only[Zb,seval,Za,men]) <;> rfl) (fun k hk=>absurd hk (UaE k)) ?_
 intro j _ hj hB
 simp only[Uab,Zb,seval,Za,men]
 refine Zl (fun hlt=>?_) (fun hge=>?_)
 ·have hja:j<l.length:=by omega
  have ga:=ZY (c:=Zx) hja
  have hno:¬ Dq l many j->dc (Zbo l many)=false:=fun h=>ZN fun g=>h (g j)
  simp only[ga,Uab,Zx,Zb,seval,Za,men]
  refine Zi (YW l[j].1 0 (IntKind.wrap .i64 (l[j].2-1))) ?_
  cases p1:Jw l[j].1 0 (IntKind.wrap .i64 (l[j].2-1))
  ·simp only[Zb,seval,Za,men]
   rw[hno fun h=>inB_not.1 p1 (by
    have h2:=h hja
    rw[QV (by rw[Zh];omega)]
    omega)]
  simp only[ga,Uab,Zx,Zb,seval,Za,men]
  refine⟨by rw[Zh];omega,?_⟩
  refine Zi (YW l[j].2 0 ((many:Int)-1)) ?_
  cases p2:Jw l[j].2 0 ((many:Int)-1)
  ·simp only[Zb,seval,Za,men]
   rw[hno fun h=>inB_not.1 p2 (by
    have h2:=h hja
    omega)]
  have r2:=inB_iff.1 p2
  have r1:=inB_iff.1 p1
  rw[QV (by rw[Zh];omega)] at r1
  by_cases q4:0<j
  ·have e1:((j:Int)-1).toNat=j-1:=by omega
   have e2:(0:Int)<=j-1:=by omega
   have q5:(0:Int)<j:=by omega
   have gb:=ZY (c:=Zx) (l:=l) (j:=j-1) (by omega)
   simp only[q5,e1,e2,ga,gb,Uab,Zx,Zb,seval,Za,men]
   refine⟨by rw[Zh];omega,?_⟩
   refine Zi (Zvz (l[j-1]'(by omega)) l[j]) ?_
   by_cases hc:0<=Dr (l[j-1]'(by omega)) l[j]
   ·simp only[hc,Zb,seval,Za,men]
    rw[hno fun h=>by
     have:=cmp2_lt.2 ((h hja).2.2.2 q4)
     omega]
   ·have hc2:Dr (l[j-1]'(by omega)) l[j]<0:=by omega
    simp only[hc,Zb,seval,Za,men]
    exact⟨by rw[Zh];omega,Zr () hja rfl (Wo hB fun _=>⟨by omega,by omega,by omega,fun _=>cmp2_lt.1 hc2⟩)⟩
  ·have q5:¬ (0:Int)<j:=by omega
   simp only[q5,ga,Uab,Zx,Zb,seval,Za,men]
   exact⟨by rw[Zh];omega,Zr () hja rfl (Wo hB fun _=>⟨by omega,by omega,by omega,fun h=>absurd h q4⟩)⟩
 ·have hj1:j=l.length:=by omega
  subst hj1
  have:Zbo l many:=fun i h=>hB i h h
  rw[Ye this]
theorem ZvB(n:Int)(lvl:Nat)(S:Zc):Sem UbR ZdK lvl [iI n] S (iB (!Jw n 0 24)) S:=by
 refine Zv ZuY trivial ?_
 simp only[ZhS,Zb,seval,Za,men]
 refine Zi (YW n 0 24) ?_
 simp only[Zb,seval,Za,men]
theorem Zis(n:Int)(s:TSorting)(hm:s.most.length<=4294967296)(lvl:Nat)(S:Zc):Sem UbR ZdM lvl [iI n,.ta (ZJ s)] S (iB (!Jw n 0 ((s.most.length:Int)-1))) S:=by
 refine Zv Zu0 trivial ?_
 simp only[ZhU,ZJ,Uab,Zb,seval,Za,men]
 refine⟨by rw[Zh];omega,?_⟩
 refine Zi (YW n 0 ((s.most.length:Int)-1)) ?_
 simp only[Zb,seval,Za,men]
theorem any_out{l:List Int}{a b:Int}:(l.any fun n=>!Jw n a b)=false↔∀ n∈l,a<=n/\n<=b:=by
 simp only[UbL,Uar,Bool.not_eq_false,inB_iff]
set_option maxHeartbeats 2000000 in
theorem ZvC(sig:List TControl)(s:TSorting)(hn:sig.length<=4294967296)(hbs:∀ y∈sig,Yd 4294967296 y)(hb:VC 4294967296 s)(lvl:Nat)(S:Zc):Sem UbR Zdo lvl [.tr (.sl (sig.map ZB)),.ag ((ZJ s).map .tr)] S (iB (dc (sortOK sig s))) S:=by
 obtain⟨b1,b2,b3,b4,b5,b6,b7⟩:=hb
 refine Zv ZuI trivial ?_
 simp only[ZhA,Uab,ZJ,Zb,seval,Za,men]
 refine Zi (Ziq sig (by omega) (fun y hy=>Zbl (hbs y hy))) ?_
 cases h1:dc (YM sig)
 ·simp only[Zb,seval,Za,men]
  rw[ZN fun h=>dc_not.1 h1 h.sg]
 simp only[Uab,ZJ,Zb,seval,Za,men]
 refine Zi (Zii s.tops sig.length (by omega) (by omega) (by omega)) ?_
 cases h2:dc (Xb 0 ((sig.length:Int)-1) s.tops)
 ·simp only[Zb,seval,Za,men]
  rw[ZN fun h=>dc_not.1 h2 h.tops]
 by_cases e3:s.nest.length=sig.length
 case neg =>
  have e3':¬ (s.nest.length:Int)=sig.length:=by omega
  simp only[e3',Uab,ZJ,Zb,seval,Za,men]
  rw[ZN fun h=>e3 h.nestL]
 by_cases e4:s.sorts.length=sig.length
 case neg =>
  have e4':¬ (s.sorts.length:Int)=sig.length:=by omega
  simp only[e3,e4',Uab,ZJ,Zb,seval,Za,men]
  rw[ZN fun h=>e4 h.sortsL]
 simp only[e3,e4,Uab,ZJ,Zb,seval,Za,men]
 refine Zi (YW s.most.length 1 4) ?_
 cases h4:Jw s.most.length 1 4
 ·simp only[Zb,seval,Za,men]
  rw[ZN fun h=>inB_not.1 h4 (by have:=h.many;omega)]
 simp only[Uab,ZJ,Zb,seval,Za,men]
 refine Zi (Dl (t:=tv) (cs:=[]) Do Dn s.most (by omega) (fun x _ lvl S=>ZvB x lvl S)) ?_
 cases h5:s.most.any fun n=>!Jw n 0 24
 case true =>
  simp only[Zb,seval,Za,men]
  rw[ZN fun h=>by rw[any_out.2 h.most] at h5;cases h5]
 simp only[Uab,ZJ,Zb,seval,Za,men]
 refine Zi (ZvA s.apart s.most.length b6 b7) ?_
 cases h6:dc (Zbo s.apart s.most.length)
 ·simp only[Zb,seval,Za,men]
  rw[ZN fun h=>dc_not.1 h6 h.apart]
 simp only[Uab,ZJ,Zb,seval,Za,men]
 refine Ja (α:=Unit) sig.length (fun j _=>[(55,iI j)]) (fun j _=>[]) (fun j _=>∀ k,k<j->Zbm sig s.nest k/\Dp sig s.sorts s.most.length k) () (by simp only[Zb,seval,Za,men]) (by (simp only[Zb,seval,Za,men]) <;> rfl) (fun k hk=>absurd hk (UaE k)) ?_
 intro j _ hj hA
 simp only[Uab,ZJ,Zb,seval,Za,men]
 refine Zl (fun hlt=>?_) (fun hge=>?_)
 ·have hja:j<sig.length:=by omega
  have hjn:j<s.nest.length:=by omega
  have hjs:j<s.sorts.length:=by omega
  have ga:=ZY (c:=ZB) hja
  have gn:=ZY (c:=Zs) hjn
  have gs:=ZY (c:=Zs) hjs
  have y1:s.nest[j].length<=4294967296:=b3 _ (Ual hjn)
  have y2:s.sorts[j].length<=4294967296:=b5 _ (Ual hjs)
  simp only[ga,gn,gs,Uab,ZJ,ZB,Zb,seval,Za,men]
  refine Zi (Zii s.nest[j] sig.length (by omega) (by omega) (by omega)) ?_
  cases p1:dc (Xb 0 ((sig.length:Int)-1) s.nest[j])
  ·simp only[Zb,seval,Za,men]
   rw[ZN fun h=>dc_not.1 p1 (h.nest j hjn hja).1]
  by_cases p2:sig[j].kind_=2/\(0:Int)<s.nest[j].length
  ·simp only[p2.1,p2.2,ga,gn,gs,Uab,ZJ,ZB,Zb,seval,Za,men]
   rw[ZN fun h=>by
    have h1:=(h.nest j hjn hja).2 p2.1
    have h2:=p2.2
    rw[h1] at h2
    simp at h2]
  have hN:Zbm sig s.nest j:=fun _ _=>⟨dc_iff.1 p1,fun h=>List.length_eq_zero_iff.1 (by
   have:¬ (0:Int)<s.nest[j].length:=fun h2=>p2 ⟨h,h2⟩
   omega)⟩
  have go:∀ K:Prop,((¬ (s.sorts[j].length:Int)=sig[j].ports->dc (sortOK sig s)=false)->(∀ e:(s.sorts[j].length:Int)=sig[j].ports,(s.sorts[j].any (fun n=>!Jw n 0 ((s.most.length:Int)-1)))=true->dc (sortOK sig s)=false)->(∀ e:(s.sorts[j].length:Int)=sig[j].ports,(s.sorts[j].any (fun n=>!Jw n 0 ((s.most.length:Int)-1)))=false->Dp sig s.sorts s.most.length j)->K)->K:=fun K h=>h
   (fun h=>ZN fun g=>h (g.sorts j hjs hja).1)
   (fun e h=>ZN fun g=>by rw[any_out.2 (g.sorts j hjs hja).2] at h;cases h)
   (fun e h _ _=>⟨e,any_out.1 h⟩)
  refine go _ fun g1 g2 g3=>?_
  by_cases k1:sig[j].kind_=2
  ·have k2:¬ (0:Int)<s.nest[j].length:=fun h=>p2 ⟨k1,h⟩
   by_cases k3:(s.sorts[j].length:Int)=sig[j].ports
   case neg =>
    simp only[k1,k2,k3,ga,gn,gs,Uab,ZJ,ZB,Zb,seval,Za,men]
    rw[g1 k3]
   simp only[k1,k2,k3,ga,gn,gs,Uab,ZJ,ZB,Zb,seval,Za,men]
   refine Zi (Dl (t:=tv) (cs:=[ZJ s]) Do Dn s.sorts[j] (by omega) (fun x _ lvl S=>Zis x s b6 lvl S)) ?_
   cases h7:s.sorts[j].any fun n=>!Jw n 0 ((s.most.length:Int)-1)
   case true =>
    simp only[Zb,seval,Za,men]
    rw[g2 k3 h7]
   simp only[Zb,seval,Za,men]
   exact⟨by rw[Zh];omega,Zr () hja rfl (Wo hA ⟨hN,g3 k3 h7⟩)⟩
  ·by_cases k3:(s.sorts[j].length:Int)=sig[j].ports
   case neg =>
    simp only[k1,k3,ga,gn,gs,Uab,ZJ,ZB,Zb,seval,Za,men]
    rw[g1 k3]
   simp only[k1,k3,ga,gn,gs,Uab,ZJ,ZB,Zb,seval,Za,men]
   refine Zi (Dl (t:=tv) (cs:=[ZJ s]) Do Dn s.sorts[j] (by omega) (fun x _ lvl S=>Zis x s b6 lvl S)) ?_
   cases h7:s.sorts[j].any fun n=>!Jw n 0 ((s.most.length:Int)-1)
   case true =>
    simp only[Zb,seval,Za,men]
    rw[g2 k3 h7]
   simp only[Zb,seval,Za,men]
   exact⟨by rw[Zh];omega,Zr () hja rfl (Wo hA ⟨hN,g3 k3 h7⟩)⟩
 ·have hj1:j=sig.length:=by omega
  subst hj1
  have:sortOK sig s:=⟨dc_iff.1 h1,dc_iff.1 h2,e3,fun k hk h2=>(hA k h2).1 hk h2,e4,fun k hk h2=>(hA k h2).2 hk h2,by have:=inB_iff.1 h4;omega,any_out.1 h5,dc_iff.1 h6⟩
  rw[Ye this]
theorem Xc{P:Nat->Prop}{j:Nat}(h:∀ k,k<j->P k)(hj:P j):∀ k,k<j+1->P k:=fun k hk=>by
 by_cases e:k=j
 ·subst e;exact hj
 ·exact h k (by omega)
theorem Zel{n a b:Int}:Jw n a b=dc (a<=n/\n<=b):=by
 unfold Jw
 rw[Wm,Bool.decide_and]
theorem Zit:∀(x y:List UInt8),(!Op.bytesLess x y)=(Op.bytesLess y x || decide (x=y))
 | [],[]=>by simp [Op.bytesLess]
 | [],_::_=>by simp [Op.bytesLess]
 | _::_,[]=>by simp [Op.bytesLess]
 | a::x,b::y=>by
  have ih:=Zit x y
  simp only[Op.bytesLess]
  by_cases h:a=b
  ·subst h
   have e:¬ a<a:=UInt8.lt_irrefl a
   simp [e,ih]
  ·by_cases h1:a<b
   ·have h2:¬ b<a:=fun h2=>UInt8.lt_irrefl a (UInt8.lt_trans h1 h2)
    have h3:¬ b=a:=fun e=>h e.symm
    simp [h,h1,h2,h3]
   ·have h2:b<a:=by
     rcases UInt8.lt_or_lt_of_ne h with h | h
     ·exact absurd h h1
     ·exact h
    simp [h,h1,h2]
def Uj(s t:ByteArray):Prop:=Op.bytesLess s.data.toList t.data.toList=true
theorem ZvD{s t:ByteArray}:(!Op.bytesLess s.data.toList t.data.toList) = !dc (Uj s t):=by
 unfold Uj
 rw[Wm,Bool.decide_eq_true]
theorem ZvE{s t:ByteArray}:(Op.bytesLess t.data.toList s.data.toList || decide (t=s)) = !dc (Uj s t):=by
 rw[<-ZvD,Zit]
 congr 1
 have:t=s↔s.data.toList=t.data.toList:=⟨fun h=>by rw[h],fun h=>by
  cases s with | mk s=>cases t with | mk t=>exact congrArg ByteArray.mk (Array.toList_inj.1 h.symm)⟩
 simp only[this]
def Ds(l:List ByteArray)(i:Nat):Prop:=∀ h:i<l.length,Qm l[i]/\∀ _:0<i,Uj (l[i-1]'(by omega)) l[i]
def VW(l:List ByteArray):Prop:=(∀ i,Ds l i)/\l.length<=16
theorem Ziu(l:List ByteArray)(hl:l.length<=4294967296)(hb:∀ y∈l,y.size<=4294967296)(lvl:Nat)(S:Zc):Sem UbR Za6 lvl [.tr (.sl (rS l))] S (iB (dc (VW l))) S:=by
 refine Zv ZuP trivial ?_
 simp only[ZhJ,Uab,Zb,seval,Za,men]
 refine Ja (α:=Unit) l.length (fun j _=>[(3,iI j)]) (fun j _=>[]) (fun j _=>∀ k,k<j->Ds l k) () (by simp only[Zb,seval,Za,men]) (by (simp only[Zb,seval,Za,men]) <;> rfl) (fun k hk=>absurd hk (UaE k)) ?_
 intro j _ hj hA
 simp only[Uab,Zb,seval,Za,men]
 refine Zl (fun hlt=>?_) (fun hge=>?_)
 ·have hja:j<l.length:=by omega
  have ga:=ZY (c:=fun s=>[ts s]) hja
  have hno:¬ Ds l j->dc (VW l)=false:=fun h=>ZN fun g=>h (g.1 j)
  simp only[ga,Uab,Zb,seval,Za,men]
  refine Zi (Zin l[j] (by have:=hb _ (Ual hja);omega)) ?_
  cases h1:dc (Qm l[j])
  ·simp only[Zb,seval,Za,men]
   rw[hno fun h=>dc_not.1 h1 (h hja).1]
  by_cases q:0<j
  ·have e1:((j:Int)-1).toNat=j-1:=by omega
   have e2:(0:Int)<=j-1:=by omega
   have q5:(0:Int)<j:=by omega
   have gb:=ZY (c:=fun s=>[ts s]) (l:=l) (j:=j-1) (by omega)
   simp only[q5,e1,e2,ga,gb,Uab,Zb,seval,Za,men]
   cases hc:Op.bytesLess (l[j-1]'(by omega)).data.toList l[j].data.toList
   ·simp only[Zb,seval,Za,men]
    exact⟨by rw[Zh];omega,by rw[hno fun h=>by have:=(h hja).2 q;unfold Uj at this;rw[this] at hc;cases hc]⟩
   ·simp only[Zb,seval,Za,men]
    exact⟨by rw[Zh];omega,by rw[Zh];omega,Zr () hja rfl (Xc hA fun _=>⟨dc_iff.1 h1,fun _=>hc⟩)⟩
  ·have q5:¬ (0:Int)<j:=by omega
   simp only[q5,ga,Uab,Zb,seval,Za,men]
   exact⟨by rw[Zh];omega,Zr () hja rfl (Xc hA fun _=>⟨dc_iff.1 h1,fun h=>absurd h q⟩)⟩
 ·have hj1:j=l.length:=by omega
  subst hj1
  rw[XM (p:=VW l) (q:=(l.length:Int)<=16) ⟨fun g=>by have:=g.2;omega,fun g=>⟨fun i h=>hA i h h,by omega⟩⟩,Wm]
theorem Ziv(l:List ByteArray)(hl:l.length<=4294967296)(hb:∀ y∈l,y.size<=4294967296)(lvl:Nat)(S:Zc):Sem UbR Zbc lvl [.tr (.sl (rS l))] S (iB (dc (VW l))) S:=by
 refine Zv Zu1 trivial ?_
 simp only[ZhV,Uab,Zb,seval,Za,men]
 refine Ja (α:=Unit) l.length (fun j _=>[(7,iI j)]) (fun j _=>[]) (fun j _=>∀ k,k<j->Ds l k) () (by simp only[Zb,seval,Za,men]) (by (simp only[Zb,seval,Za,men]) <;> rfl) (fun k hk=>absurd hk (UaE k)) ?_
 intro j _ hj hA
 simp only[Uab,Zb,seval,Za,men]
 refine Zl (fun hlt=>?_) (fun hge=>?_)
 ·have hja:j<l.length:=by omega
  have ga:=ZY (c:=fun s=>[ts s]) hja
  have hno:¬ Ds l j->dc (VW l)=false:=fun h=>ZN fun g=>h (g.1 j)
  simp only[ga,Uab,Zb,seval,Za,men]
  refine Zi (Zio l[j] (by have:=hb _ (Ual hja);omega)) ?_
  cases h1:dc (Qm l[j])
  ·simp only[Zb,seval,Za,men]
   rw[hno fun h=>dc_not.1 h1 (h hja).1]
  by_cases q:0<j
  ·have e1:((j:Int)-1).toNat=j-1:=by omega
   have e2:(0:Int)<=j-1:=by omega
   have q5:(0:Int)<j:=by omega
   have gb:=ZY (c:=fun s=>[ts s]) (l:=l) (j:=j-1) (by omega)
   simp only[q5,e1,e2,ga,gb,Uab,Zb,seval,Za,men]
   rw[ZvE]
   cases hc:dc (Uj (l[j-1]'(by omega)) l[j])
   ·simp only[Zb,seval,Za,men]
    exact⟨by rw[Zh];omega,by rw[hno fun h=>dc_not.1 hc ((h hja).2 q)]⟩
   ·simp only[Zb,seval,Za,men]
    exact⟨by rw[Zh];omega,by rw[Zh];omega,Zr () hja rfl (Xc hA fun _=>⟨dc_iff.1 h1,fun _=>dc_iff.1 hc⟩)⟩
  ·have q5:¬ (0:Int)<j:=by omega
   simp only[q5,ga,Uab,Zb,seval,Za,men]
   exact⟨by rw[Zh];omega,Zr () hja rfl (Xc hA fun _=>⟨dc_iff.1 h1,fun h=>absurd h q⟩)⟩
 ·have hj1:j=l.length:=by omega
  subst hj1
  rw[XM (p:=VW l) (q:=(l.length:Int)<=16) ⟨fun g=>by have:=g.2;omega,fun g=>⟨fun i h=>hA i h h,by omega⟩⟩,Wm]
def VD(b:TBigraph)(l:Int):Prop:=0<=l/\l<=b.edges+b.outer.length-1
theorem Ziw(b:TBigraph)(l:Int)(he:0<=b.edges/\b.edges<=8)(ho:b.outer.length<=4294967296)(lvl:Nat)(S:Zc):Sem UbR Za8 lvl [.ag ((Zk b).map .tr),iI l] S (iB (dc (VD b l))) S:=by
 refine Zv ZuT trivial ?_
 simp only[ZhN,Zk,Uab,Zb,seval,Za,men]
 refine⟨by rw[Zh];omega,by rw[Zh];omega,?_⟩
 refine Zi (VV l 0 (b.edges+b.outer.length-1)) ?_
 simp only[Zb,seval,Za,men]
 rw[Zel]
 rfl
theorem Zix(b:TBigraph)(l:Int)(he:0<=b.edges/\b.edges<=8)(ho:b.outer.length<=4294967296)(lvl:Nat)(S:Zc):Sem UbR Zbe lvl [.ag ((Zk b).map .tr),iI l] S (iB (dc (VD b l))) S:=by
 refine Zv Zu5 trivial ?_
 simp only[ZhZ,Zk,Uab,Zb,seval,Za,men]
 refine⟨by rw[Zh];omega,by rw[Zh];omega,?_⟩
 refine Zi (YW l 0 (b.edges+b.outer.length-1)) ?_
 simp only[Zb,seval,Za,men]
 rw[Zel]
 rfl
def Dt(sig:List TControl)(c:Int):Int:=((sig[c.toNat]?).map TControl.kind_).getD 0
def Xd(sig:List TControl)(c:Int):Int:=((sig[c.toNat]?).map TControl.ports).getD 0
def ZT(b:TBigraph)(p:Int):Int:=((b.nodes[p.toNat]?).map TNode.control).getD 0
def YX(sig:List TControl)(b:TBigraph)(p JX:Int):Prop:=(p<0/\-b.roots<=p)\/(0<=p/\p<JX/\¬ Dt sig (ZT b p)=2)
def Du(sig:List TControl)(b:TBigraph)(n:Nat):Prop:=∀ i,i<n->∀ h:i<b.nodes.length,0<=b.nodes[i].control/\b.nodes[i].control<=(sig.length:Int)-1
theorem Ziy(sig:List TControl)(b:TBigraph)(p:Int)(k:Nat)(hp:Jq .i64 p)(hr:0<=b.roots/\b.roots<=4)(hk:k<=b.nodes.length)(hc:Du sig b k)(lvl:Nat)(S:Zc):Sem UbR Za7 lvl [.tr (.sl (sig.map ZB)),.ag ((Zk b).map .tr),iI p,iI k] S (iB (dc (YX sig b p k))) S:=by
 rw[Zh] at hp
 refine Zv ZuS trivial ?_
 simp only[ZhM,Zk,Uab,Zb,seval,Za,men]
 refine Zl (fun hneg=>?_) (fun hpos=>?_)
 ·refine⟨by rw[Zh];omega,by rw[Zh];omega,?_⟩
  refine Zi (VV (-1-p) 0 (b.roots-1)) ?_
  simp only[Zb,seval,Za,men]
  have hiff:(0 <= -1-p/\-1-p<=b.roots-1)↔YX sig b p k:=⟨fun h=>.inl (by omega),fun h=>by rcases h with h | h <;> omega⟩
  rw[Zel,XM hiff]
 ·refine Zl (fun hb=>?_) (fun hb=>?_)
  ·obtain⟨q,rfl⟩:∃ q:Nat,p=q:=⟨p.toNat,by omega⟩
   have hq:q<b.nodes.length:=by omega
   have ga:=ZY (c:=ZH) hq
   obtain⟨m1,m2⟩:=hc q (by omega) hq
   obtain⟨m,hm⟩:∃ m:Nat,b.nodes[q].control=m:=⟨b.nodes[q].control.toNat,by omega⟩
   have hms:m<sig.length:=by omega
   have gs:=ZY (c:=ZB) hms
   simp only[hb,ga,gs,ZH,ZB,hm,Int.toNat_natCast,Uah,Uab,Zb,seval,Za,men]
   have e:Dt sig (ZT b q)=sig[m].kind_:=by simp [Dt,ZT,hq,hm,hms]
   have hiff:YX sig b q k ↔ ¬ sig[m].kind_=2:=by
    constructor
    ·intro h
     rcases h with h | h
     ·omega
     ·rw[<-e];exact h.2.2
    ·intro h
     exact .inr ⟨by omega,hb,by rw[e];exact h⟩
   rw[XM hiff,Wm]
  ·rw[ZN fun h:YX sig b p k=>by rcases h with h | h <;> omega]
theorem Ziz(sig:List TControl)(b:TBigraph)(p:Int)(k:Nat)(hr:0<=b.roots/\b.roots<=4)(hk:k<=b.nodes.length)(hc:Du sig b k)(lvl:Nat)(S:Zc):Sem UbR Zbd lvl [.ag ((Zk b).map .tr),.tr (.sl (sig.map ZB)),iI p,iI k] S (iB (dc (YX sig b p k))) S:=by
 refine Zv Zu3 trivial ?_
 simp only[ZhX,Zk,Uab,Zb,seval,Za,men]
 refine Zl (fun hneg=>?_) (fun hpos=>?_)
 ·refine⟨by rw[Zh];omega,?_⟩
  have hiff:YX sig b p k ↔ -b.roots<=p:=⟨fun h=>by rcases h with h | h <;> omega,fun h=>.inl (by omega)⟩
  rw[XM hiff,Wm]
 ·refine Zl (fun hb=>?_) (fun hb=>?_)
  ·obtain⟨q,rfl⟩:∃ q:Nat,p=q:=⟨p.toNat,by omega⟩
   have hq:q<b.nodes.length:=by omega
   have ga:=ZY (c:=ZH) hq
   obtain⟨m1,m2⟩:=hc q (by omega) hq
   obtain⟨m,hm⟩:∃ m:Nat,b.nodes[q].control=m:=⟨b.nodes[q].control.toNat,by omega⟩
   have hms:m<sig.length:=by omega
   have gs:=ZY (c:=ZB) hms
   simp only[hb,ga,gs,ZH,ZB,hm,Int.toNat_natCast,Uah,Uab,Zb,seval,Za,men]
   have e:Dt sig (ZT b q)=sig[m].kind_:=by simp [Dt,ZT,hq,hm,hms]
   have hiff:YX sig b q k ↔ ¬ sig[m].kind_=2:=by
    constructor
    ·intro h
     rcases h with h | h
     ·omega
     ·rw[<-e];exact h.2.2
    ·intro h
     exact .inr ⟨by omega,hb,by rw[e];exact h⟩
   rw[XM hiff,Wm]
  ·rw[ZN fun h:YX sig b p k=>by rcases h with h | h <;> omega]
structure nodeOK (sig:List TControl) (b:TBigraph) (x:TNode) (i:Nat):Prop where
 ctl:0<=x.control/\x.control<=(sig.length:Int)-1
 par:YX sig b x.parent i
 ports:(x.links.length:Int)=Xd sig x.control
 links:∀ l∈x.links,VD b l
theorem ZvF(sig:List TControl)(b:TBigraph)(i:Nat)(hi:i<b.nodes.length)(hn:sig.length<=4294967296)(hl:b.nodes[i].links.length<=4294967296)(hp:Jq .i64 b.nodes[i].parent)(hr:0<=b.roots/\b.roots<=4)(he:0<=b.edges/\b.edges<=8)(ho:b.outer.length<=4294967296)(hc:Du sig b i)(lvl:Nat)(S:Zc):Sem UbR ZdF lvl [.tr (.sl (sig.map ZB)),.ag ((Zk b).map .tr),iI i] S (iB (dc (nodeOK sig b b.nodes[i] i))) S:=by
 refine Zv ZuR trivial ?_
 have ga:=ZY (c:=ZH) hi
 simp only[ZhL,Zk,Uab,ga,ZH,Zb,seval,Za,men]
 refine⟨by rw[Zh];omega,?_⟩
 refine Zi (VV b.nodes[i].control 0 ((sig.length:Int)-1)) ?_
 cases h1:Jw b.nodes[i].control 0 ((sig.length:Int)-1)
 ·simp only[Zb,seval,Za,men]
  rw[ZN fun h:nodeOK sig b b.nodes[i] i=>inB_not.1 h1 h.ctl]
 have r1:=inB_iff.1 h1
 simp only[Zk,Uab,ZH,Zb,seval,Za,men]
 refine Zi (Ziy sig b b.nodes[i].parent i hp hr (by omega) hc) ?_
 cases h2:dc (YX sig b b.nodes[i].parent i)
 ·simp only[Zb,seval,Za,men]
  rw[ZN fun h:nodeOK sig b b.nodes[i] i=>dc_not.1 h2 h.par]
 obtain⟨m,hm⟩:∃ m:Nat,b.nodes[i].control=m:=⟨b.nodes[i].control.toNat,by omega⟩
 have hms:m<sig.length:=by omega
 have gs:=ZY (c:=ZB) hms
 have e:Xd sig b.nodes[i].control=sig[m].ports:=by simp [Xd,hm,hms]
 simp only[hm,gs,ZB,Zk,Uab,ZH,Zb,seval,Za,men]
 refine Zl (fun hne=>?_) (fun heq=>?_)
 ·rw[ZN fun h:nodeOK sig b b.nodes[i] i=>by have:=h.ports;rw[e] at this;exact hne this]
 refine Ja (α:=Unit) b.nodes[i].links.length (fun j _=>[(8,iI j)]) (fun j _=>[]) (fun j _=>∀ k,k<j->VD b (g0 b.nodes[i].links k)) () (by simp only[Zb,seval,Za,men]) (by (simp only[Zb,seval,Za,men]) <;> rfl) (fun k hk=>absurd hk (UaE k)) ?_
 intro j _ hj hA
 simp only[Uab,Zb,seval,Za,men]
 refine Zl (fun hlt=>?_) (fun hge=>?_)
 ·have hja:j<b.nodes[i].links.length:=by omega
  have gl:=JE hja
  simp only[gl,Uab,Zb,seval,Za,men]
  refine Zi (Ziw b (g0 b.nodes[i].links j) he ho) ?_
  cases hc:dc (VD b (g0 b.nodes[i].links j))
  ·simp only[Zb,seval,Za,men]
   rw[ZN fun h:nodeOK sig b b.nodes[i] i=>dc_not.1 hc (h.links _ (by simp [hja]))]
  ·simp only[Zb,seval,Za,men]
   exact⟨by rw[Zh];omega,Zr () hja rfl (Xc hA (dc_iff.1 hc))⟩
 ·have hj1:j=b.nodes[i].links.length:=by omega
  subst hj1
  have:nodeOK sig b b.nodes[i] i:=⟨r1,dc_iff.1 h2,by rw[e];omega,fun l hl=>by
   obtain⟨k,hk,rfl⟩:=UaU hl
   have:=hA k hk
   simpa [hk] using this⟩
  rw[Ye this]
def inn(b:TBigraph):List ByteArray:=b.inner.map TWire.name
theorem Zem(a b:List ByteArray):rS (a++b)=rS a++rS b:=UaS
theorem ZvG(b:TBigraph)(hn:b.inner.length<=4294967296)(lvl:Nat)(S:Zc):Sem UbR ZdE lvl [.ag ((Zk b).map .tr)] S (.ow 1 (rS (inn b)) true) S:=by
 refine Zv ZuQ trivial ?_
 simp only[ZhK,Uab,Zk,Zb,seval,Za,men]
 refine Ja (α:=Unit) b.inner.length (fun j _=>[(3,.hd (lvl,160) [] 0 j none j),(4,iI j)]) (fun j _=>[(160,.ar 1 (rS ((inn b).take j)) true j 0)]) (fun _ _=>True) () (by simp only[Zb,seval,Za,men]) (by (simp only[Zb,seval,Za,men]) <;> rfl) trivial ?_
 intro j _ hj _
 have hil:(inn b).length=b.inner.length:=by simp [inn]
 simp only[Uab,Zb,seval,Za,men]
 refine Zl (fun hlt=>?_) (fun hge=>?_)
 ·have hja:j<b.inner.length:=by omega
  have ga:=ZY (c:=Jc) hja
  have hlN:(rS ((inn b).take j)).length=j:=by rw[Uab,Uas];omega
  simp only[ga,Jc,hlN,Uab,Zb,seval,Za,men]
  have hstep:rS ((inn b).take j)++[[ts b.inner[j].name]]=rS ((inn b).take (j+1)):=by
   rw[Uaj (by omega),Zem]
   simp [inn]
  refine⟨by omega,by rw[Zh];omega,Zr () hja ?_ trivial⟩
  rw[<-hstep]
  rfl
 ·have:j=b.inner.length:=by omega
  subst this
  rw[UaL (by omega)]
  exact⟨hil.symm,rfl⟩
theorem ZvH(b:TBigraph)(hn:b.inner.length<=4294967296)(lvl:Nat)(S:Zc):Sem UbR ZdN lvl [.ag ((Zk b).map .tr)] S (.ow 1 (rS (inn b)) true) S:=by
 refine Zv Zu2 trivial ?_
 simp only[ZhW,Uab,Zk,Zb,seval,Za,men]
 refine Ja (α:=Unit) b.inner.length (fun j _=>[(3,.hd (lvl,192) [] 0 j none j),(10,iI j)]) (fun j _=>[(192,.ar 1 (rS ((inn b).take j)) true j 0)]) (fun _ _=>True) () (by simp only[Zb,seval,Za,men]) (by (simp only[Zb,seval,Za,men]) <;> rfl) trivial ?_
 intro j _ hj _
 have hil:(inn b).length=b.inner.length:=by simp [inn]
 simp only[Uab,Zb,seval,Za,men]
 refine Zl (fun hlt=>?_) (fun hge=>?_)
 ·have hja:j<b.inner.length:=by omega
  have ga:=ZY (c:=Jc) hja
  have hlN:(rS ((inn b).take j)).length=j:=by rw[Uab,Uas];omega
  simp only[ga,Jc,hlN,Uab,Zb,seval,Za,men]
  have hstep:rS ((inn b).take j)++[[ts b.inner[j].name]]=rS ((inn b).take (j+1)):=by
   rw[Uaj (by omega),Zem]
   simp [inn]
  refine⟨by omega,by rw[Zh];omega,Zr () hja ?_ trivial⟩
  rw[<-hstep]
  rfl
 ·have:j=b.inner.length:=by omega
  subst this
  rw[UaL (by omega)]
  exact⟨hil.symm,rfl⟩
def Zbp(sig:List TControl)(b:TBigraph)(i:Nat):Prop:=∀ h:i<b.nodes.length,nodeOK sig b b.nodes[i] i
structure bigOK (sig:List TControl) (b:TBigraph):Prop where
 sg:YM sig
 roots:0<=b.roots/\b.roots<=4
 nodesL:b.nodes.length<=8
 sitesL:b.sites.length<=4
 edges:0<=b.edges/\b.edges<=8
 outer:VW b.outer
 inn:VW (inn b)
 nodes:∀ i,Zbp sig b i
 sites:∀ p∈b.sites,YX sig b p b.nodes.length
 inner:∀ w∈b.inner,VD b w.link
theorem Zbq{sig:List TControl}{b:TBigraph}{j:Nat}(h:∀ k,k<j->Zbp sig b k):Du sig b j:=fun i hi hl=>(h i hi hl).ctl
theorem Zbr{b:TBigraph}:(inn b).length=b.inner.length:=by simp [inn]
theorem ZiA{b:TBigraph}{n:Nat}(h:∀ y∈b.inner,VB n y):∀ y∈inn b,y.size<=n:=fun y hy=>by
 obtain⟨w,hw,rfl⟩:=UaP.1 hy
 exact h w hw
theorem ZiB(sig:List TControl)(b:TBigraph)(hn:sig.length<=4294967296)(hbs:∀ y∈sig,Yd 4294967296 y)(hb:YD 4294967296 b)(hf:Ud b)(lvl:Nat)(S:Zc):Sem UbR Zdk lvl [.tr (.sl (sig.map ZB)),.ag ((Zk b).map .tr)] S (iB (dc (bigOK sig b))) S:=by
 obtain⟨b1,b2,b3,b4,b5,b6,b7⟩:=hb
 obtain⟨f1,f2,f3,f4,f5⟩:=hf
 refine Zv ZuE trivial ?_
 simp only[Zhv,Uab,Zk,Zb,seval,Za,men]
 refine Zi (Zip sig (by omega) (fun y hy=>Zbl (hbs y hy))) ?_
 cases h1:dc (YM sig)
 ·simp only[Zb,seval,Za,men]
  rw[ZN fun h:bigOK sig b=>dc_not.1 h1 h.sg]
 simp only[Uab,Zk,Zb,seval,Za,men]
 refine Zi (VV b.roots 0 4) ?_
 cases h2:Jw b.roots 0 4
 ·simp only[Zb,seval,Za,men]
  rw[ZN fun h:bigOK sig b=>inB_not.1 h2 h.roots]
 by_cases h3:(8:Int)<b.nodes.length
 ·simp only[h3,Uab,Zk,Zb,seval,Za,men]
  rw[ZN fun h:bigOK sig b=>by have:=h.nodesL;omega]
 by_cases h4:(4:Int)<b.sites.length
 ·simp only[h3,h4,Uab,Zk,Zb,seval,Za,men]
  rw[ZN fun h:bigOK sig b=>by have:=h.sitesL;omega]
 simp only[h3,h4,Uab,Zk,Zb,seval,Za,men]
 refine Zi (VV b.edges 0 8) ?_
 cases h5:Jw b.edges 0 8
 ·simp only[Zb,seval,Za,men]
  rw[ZN fun h:bigOK sig b=>inB_not.1 h5 h.edges]
 have r2:=inB_iff.1 h2
 have r5:=inB_iff.1 h5
 simp only[Uab,Zk,Zb,seval,Za,men]
 refine Zi (Ziu b.outer (by assumption) (by assumption)) ?_
 cases h6:dc (VW b.outer)
 ·simp only[Zb,seval,Za,men]
  rw[ZN fun h:bigOK sig b=>dc_not.1 h6 h.outer]
 by_cases h7:(16:Int)<b.inner.length
 ·simp only[h7,Uab,Zk,Zb,seval,Za,men]
  rw[ZN fun h:bigOK sig b=>by have:=h.inn.2;rw[Zbr] at this;omega]
 simp only[h7,Uab,Zk,Zb,seval,Za,men]
 refine Zi (ZvG b (by omega)) ?_
 simp only[Uab,Zk,Zb,seval,Za,men]
 refine Zi (Ziu (inn b) (by rw[Zbr];omega) (ZiA (by assumption))) ?_
 cases h8:dc (VW (inn b))
 ·simp only[Zb,seval,Za,men]
  rw[ZN fun h:bigOK sig b=>dc_not.1 h8 h.inn]
 simp only[Uab,Zk,Zb,seval,Za,men]
 have ho:=(dc_iff.1 h6).2
 refine Ja (α:=Unit) b.nodes.length (fun j _=>[(5,iI j)]) (fun j _=>[]) (fun j _=>∀ k,k<j->Zbp sig b k) () (by simp only[Zb,seval,Za,men]) (by (simp only[Zb,seval,Za,men]) <;> rfl) (fun k hk=>absurd hk (UaE k)) ?_
 intro j _ hj hA
 simp only[Uab,Zk,Zb,seval,Za,men]
 refine Zl (fun hlt=>?_) (fun hge=>?_)
 ·have hja:j<b.nodes.length:=by omega
  have hm:=Ual hja
  refine Zi (ZvF sig b j hja hn (by first | exact(b2 _ hm) | exact(b3 _ hm)) (by first | exact(f1 _ hm).2.1 | exact(f2 _ hm).2.1) r2 r5 (by omega) (Zbq hA)) ?_
  cases hc:dc (nodeOK sig b b.nodes[j] j)
  ·simp only[Zb,seval,Za,men]
   rw[ZN fun h:bigOK sig b=>dc_not.1 hc (h.nodes j hja)]
  ·simp only[Zb,seval,Za,men]
   exact⟨by rw[Zh];omega,Zr () hja rfl (Xc hA fun _=>dc_iff.1 hc)⟩
 have hj1:j=b.nodes.length:=by omega
 subst hj1
 refine Ja (α:=Unit) b.sites.length (fun j _=>[(6,iI j)]) (fun j _=>[]) (fun j _=>∀ k,k<j->YX sig b (g0 b.sites k) b.nodes.length) () (by simp only[Zb,seval,Za,men]) (by (simp only[Zb,seval,Za,men]) <;> rfl) (fun k hk=>absurd hk (UaE k)) ?_
 intro j _ hj hB
 simp only[Uab,Zk,Zb,seval,Za,men]
 refine Zl (fun hlt=>?_) (fun hge=>?_)
 ·have hja:j<b.sites.length:=by omega
  have ga:=JE hja
  have hg:g0 b.sites j∈b.sites:=by simp [hja]
  simp only[ga,Uab,Zk,Zb,seval,Za,men]
  refine Zi (Ziy sig b (g0 b.sites j) b.nodes.length (by first | exact f3 _ hg | exact f2 _ hg | exact f4 _ hg) r2 (Uag _) (Zbq hA)) ?_
  cases hc:dc (YX sig b (g0 b.sites j) b.nodes.length)
  ·simp only[Zb,seval,Za,men]
   rw[ZN fun h:bigOK sig b=>dc_not.1 hc (h.sites _ hg)]
  ·simp only[Zb,seval,Za,men]
   exact⟨by rw[Zh];omega,Zr () hja rfl (Xc hB (dc_iff.1 hc))⟩
 have hj1:j=b.sites.length:=by omega
 subst hj1
 refine Ja (α:=Unit) b.inner.length (fun j _=>[(7,iI j)]) (fun j _=>[]) (fun j _=>∀ k,k<j->∀ h:k<b.inner.length,VD b b.inner[k].link) () (by simp only[Zb,seval,Za,men]) (by (simp only[Zb,seval,Za,men]) <;> rfl) (fun k hk=>absurd hk (UaE k)) ?_
 intro j _ hj hC
 simp only[Uab,Zk,Zb,seval,Za,men]
 refine Zl (fun hlt=>?_) (fun hge=>?_)
 ·have hja:j<b.inner.length:=by omega
  have ga:=ZY (c:=Jc) hja
  simp only[ga,Jc,Uab,Zk,Zb,seval,Za,men]
  refine Zi (Ziw b b.inner[j].link r5 (by omega)) ?_
  cases hc:dc (VD b b.inner[j].link)
  ·simp only[Zb,seval,Za,men]
   rw[ZN fun h:bigOK sig b=>dc_not.1 hc (h.inner _ (Ual hja))]
  ·simp only[Zb,seval,Za,men]
   exact⟨by rw[Zh];omega,Zr () hja rfl (Xc hC fun _=>dc_iff.1 hc)⟩
 have hj1:j=b.inner.length:=by omega
 subst hj1
 have:bigOK sig b:=⟨dc_iff.1 h1,r2,by omega,by omega,r5,dc_iff.1 h6,dc_iff.1 h8,fun i h=>hA i h h,fun p hp=>by
  obtain⟨k,hk,rfl⟩:=UaU hp
  have:=hB k hk
  simpa [hk] using this,fun w hw=>by
  obtain⟨k,hk,rfl⟩:=UaU hw
  exact hC k hk hk⟩
 rw[Ye this]
theorem ZvI(l:Int)(b:TBigraph)(he:0<=b.edges/\b.edges<=8)(ho:b.outer.length<=4294967296)(lvl:Nat)(S:Zc):Sem UbR ZdO lvl [iI l,.ta (Zk b)] S (iB (!dc (VD b l))) S:=by
 refine Zv Zu4 trivial ?_
 simp only[ZhY,Zk,Zb,seval,Za,men]
 refine Zi (Zix b l he ho) ?_
 simp only[Zb,seval,Za,men]
theorem ZvJ(p:Int)(sig:List TControl)(b:TBigraph)(hr:0<=b.roots/\b.roots<=4)(hc:Du sig b b.nodes.length)(lvl:Nat)(S:Zc):Sem UbR ZdP lvl [iI p,.ta (Zk b),.ta [Tr.sl (sig.map ZB)]] S (iB (!dc (YX sig b p b.nodes.length))) S:=by
 refine Zv Zu6 trivial ?_
 simp only[Zh0,Zk,Uab,Zb,seval,Za,men]
 refine Zi (Ziz sig b p b.nodes.length hr (Uag _) hc) ?_
 simp only[Zb,seval,Za,men]
theorem ZvK(w:TWire)(b:TBigraph)(he:0<=b.edges/\b.edges<=8)(ho:b.outer.length<=4294967296)(lvl:Nat)(S:Zc):Sem UbR ZdQ lvl [.ag ((Jc w).map .tr),.ta (Zk b)] S (iB (!dc (VD b w.link))) S:=by
 refine Zv Zu7 trivial ?_
 simp only[Zh1,Zk,Jc,Zb,seval,Za,men]
 refine Zi (Zix b w.link he ho) ?_
 simp only[Zb,seval,Za,men]
theorem ZvL:Zo UbR Zhl (Qk 2 (some 2))=true:=by kernel_rfl
theorem ZvM:Zo UbR Zhh (XK Zhl)=true:=by kernel_rfl
theorem any_no{α:Type}{l:List α}{p:α->Prop}:(l.any fun n=>!dc (p n))=false↔∀ n∈l,p n:=by
 simp only[UbL,Uar,Bool.not_eq_false,dc_iff]
theorem ZvN(sig:List TControl)(b:TBigraph)(hn:sig.length<=4294967296)(hbs:∀ y∈sig,Yd 4294967296 y)(hb:YD 4294967296 b)(lvl:Nat)(S:Zc):Sem UbR Zdp lvl [.tr (.sl (sig.map ZB)),.ag ((Zk b).map .tr)] S (iB (dc (bigOK sig b))) S:=by
 obtain⟨b1,b2,b3,b4,b5,b6,b7⟩:=hb
 refine Zv ZuK trivial ?_
 simp only[ZhC,Uab,Zk,Zb,seval,Za,men]
 refine Zi (Ziq sig (by omega) (fun y hy=>Zbl (hbs y hy))) ?_
 cases h1:dc (YM sig)
 ·simp only[Zb,seval,Za,men]
  rw[ZN fun h:bigOK sig b=>dc_not.1 h1 h.sg]
 simp only[Uab,Zk,Zb,seval,Za,men]
 refine Zi (YW b.roots 0 4) ?_
 cases h2:Jw b.roots 0 4
 ·simp only[Zb,seval,Za,men]
  rw[ZN fun h:bigOK sig b=>inB_not.1 h2 h.roots]
 by_cases h3:(8:Int)<b.nodes.length
 ·simp only[h3,Uab,Zk,Zb,seval,Za,men]
  rw[ZN fun h:bigOK sig b=>by have:=h.nodesL;omega]
 by_cases h4:(4:Int)<b.sites.length
 ·simp only[h3,h4,Uab,Zk,Zb,seval,Za,men]
  rw[ZN fun h:bigOK sig b=>by have:=h.sitesL;omega]
 simp only[h3,h4,Uab,Zk,Zb,seval,Za,men]
 refine Zi (YW b.edges 0 8) ?_
 cases h5:Jw b.edges 0 8
 ·simp only[Zb,seval,Za,men]
  rw[ZN fun h:bigOK sig b=>inB_not.1 h5 h.edges]
 have r2:=inB_iff.1 h2
 have r5:=inB_iff.1 h5
 simp only[Uab,Zk,Zb,seval,Za,men]
 refine Zi (Ziv b.outer (by assumption) (by assumption)) ?_
 cases h6:dc (VW b.outer)
 ·simp only[Zb,seval,Za,men]
  rw[ZN fun h:bigOK sig b=>dc_not.1 h6 h.outer]
 simp only[Uab,Zk,Zb,seval,Za,men]
 refine Zi (ZvH b (by omega)) ?_
 simp only[Uab,Zk,Zb,seval,Za,men]
 refine Zi (Ziv (inn b) (by rw[Zbr];omega) (ZiA (by assumption))) ?_
 cases h8:dc (VW (inn b))
 ·simp only[Zb,seval,Za,men]
  rw[ZN fun h:bigOK sig b=>dc_not.1 h8 h.inn]
 simp only[Uab,Zk,Zb,seval,Za,men]
 have ho:=(dc_iff.1 h6).2
 refine Ja (α:=Unit) b.nodes.length (fun j _=>[(49,iI j)]) (fun j _=>[]) (fun j _=>∀ k,k<j->Zbp sig b k) () (by simp only[Zb,seval,Za,men]) (by (simp only[Zb,seval,Za,men]) <;> rfl) (fun k hk=>absurd hk (UaE k)) ?_
 intro j _ hj hA
 simp only[Uab,Zk,Zb,seval,Za,men]
 refine Zl (fun hlt=>?_) (fun hge=>?_)
 ·have hja:j<b.nodes.length:=by omega
  have hm:=Ual hja
  have ga:=ZY (c:=ZH) hja
  have hll:b.nodes[j].links.length<=4294967296:=by first | exact(b2 _ hm) | exact(b3 _ hm)
  have hno:¬ nodeOK sig b b.nodes[j] j->dc (bigOK sig b)=false:=fun h=>ZN fun g=>h (g.nodes j hja)
  simp only[ga,ZH,Uab,Zk,Zb,seval,Za,men]
  refine⟨by rw[Zh];omega,?_⟩
  refine Zi (YW b.nodes[j].control 0 ((sig.length:Int)-1)) ?_
  cases p1:Jw b.nodes[j].control 0 ((sig.length:Int)-1)
  ·simp only[Zb,seval,Za,men]
   rw[hno fun h=>inB_not.1 p1 h.ctl]
  have q1:=inB_iff.1 p1
  simp only[ZH,Uab,Zk,Zb,seval,Za,men]
  refine Zi (Ziz sig b b.nodes[j].parent j r2 (by omega) (Zbq hA)) ?_
  cases p2:dc (YX sig b b.nodes[j].parent j)
  ·simp only[Zb,seval,Za,men]
   rw[hno fun h=>dc_not.1 p2 h.par]
  obtain⟨m,hmm⟩:∃ m:Nat,b.nodes[j].control=m:=⟨b.nodes[j].control.toNat,by omega⟩
  have hms:m<sig.length:=by omega
  have gs:=ZY (c:=ZB) hms
  have e:Xd sig b.nodes[j].control=sig[m].ports:=by simp [Xd,hmm,hms]
  by_cases p3:(b.nodes[j].links.length:Int)=sig[m].ports
  case neg =>
   simp only[p3,hmm,gs,Int.toNat_natCast,Uah,ZB,ZH,Uab,Zk,Zb,seval,Za,men]
   rw[hno fun h=>p3 (by rw[<-e];exact h.ports)]
  simp only[p3,hmm,gs,Int.toNat_natCast,Uah,ZB,ZH,Uab,Zk,Zb,seval,Za,men]
  refine Zi (Dl (t:=tv) (cs:=[Zk b]) Do Dn b.nodes[j].links (by omega) (fun x _ lvl S=>ZvI x b r5 (by omega) lvl S)) ?_
  cases p4:b.nodes[j].links.any fun l=>!dc (VD b l)
  ·simp only[Zb,seval,Za,men]
   exact⟨by rw[Zh];omega,Zr () hja rfl (Xc hA fun _=>⟨q1,dc_iff.1 p2,by rw[e];exact p3,any_no.1 p4⟩)⟩
  ·simp only[Zb,seval,Za,men]
   rw[hno fun h=>by rw[any_no.2 h.links] at p4;cases p4]
 have hj1:j=b.nodes.length:=by omega
 subst hj1
 refine Zi (Dl (t:=tv) (cs:=[Zk b,[Tr.sl (sig.map ZB)]]) Do Dn b.sites (by omega) (fun x _ lvl S=>ZvJ x sig b r2 (Zbq hA) lvl S)) ?_
 cases h9:b.sites.any fun p=>!dc (YX sig b p b.nodes.length)
 case true =>
  simp only[Zb,seval,Za,men]
  rw[ZN fun h:bigOK sig b=>by rw[any_no.2 h.sites] at h9;cases h9]
 simp only[Uab,Zk,Zb,seval,Za,men]
 refine Zi (Zed (cs:=[Zk b]) ZvM ZvL (fun x=>rfl) b.inner (by omega) (fun x _ lvl S=>ZvK x b r5 (by omega) lvl S)) ?_
 cases h10:b.inner.any fun w=>!dc (VD b w.link)
 case true =>
  simp only[Zb,seval,Za,men]
  rw[ZN fun h:bigOK sig b=>by rw[(any_no (p:=fun w:TWire=>VD b w.link)).2 h.inner] at h10;cases h10]
 simp only[Zb,seval,Za,men]
 have:bigOK sig b:=⟨dc_iff.1 h1,r2,by omega,by omega,r5,dc_iff.1 h6,dc_iff.1 h8,fun i h=>hA i h h,any_no.1 h9,any_no.1 h10⟩
 rw[Ye this]
def J6(b:TBigraph)(j:Nat):Int:=((b.nodes[j]?).map TNode.parent).getD 0
theorem Y5{b:TBigraph}{j:Nat}(h:j<b.nodes.length):J6 b j=b.nodes[j].parent:=by simp [J6,h]
def VE(x:Int×Int):List Tr:=[tv x.1,tv x.2]
def J7(l:Int)(i:Nat)(ls:List Int):Nat->List (Int×Int)
 | 0=>[]
 | k+1=>if g0 ls k=l then J7 l i ls k++[((i:Int),(k:Int))] else J7 l i ls k
theorem Zbs{l:Int}{i:Nat}{ls:List Int}:∀{k:Nat},(J7 l i ls k).length<=k
 | 0=>Uag 0
 | k+1=>by
  unfold J7
  have:=Zbs (l:=l) (i:=i) (ls:=ls) (k:=k)
  split
  ·rw[Uam,List.length_singleton];omega
  ·omega
theorem ZiC{l:Int}{i:Nat}{ls:List Int}{k:Nat}(h:g0 ls k=l):J7 l i ls (k+1)=J7 l i ls k++[((i:Int),(k:Int))]:=by rw[J7,if_pos h]
theorem ZiD{l:Int}{i:Nat}{ls:List Int}{k:Nat}(h:¬ g0 ls k=l):J7 l i ls (k+1)=J7 l i ls k:=by rw[J7,if_neg h]
def Wp(b:TBigraph)(j:Nat):List Int:=((b.nodes[j]?).map TNode.links).getD []
theorem Zbt{b:TBigraph}{j:Nat}(h:j<b.nodes.length):Wp b j=b.nodes[j].links:=by simp [Wp,h]
def JR(b:TBigraph)(l:Int):Nat->List (Int×Int)
 | 0=>[]
 | i+1=>JR b l i++J7 l i (Wp b i) (Wp b i).length
def ports(b:TBigraph)(l:Int):List (Int×Int):=JR b l b.nodes.length
theorem Zbu{b:TBigraph}{l:Int}(h:∀ x∈b.nodes,x.links.length<=1000):∀{j:Nat},j<=b.nodes.length->(JR b l j).length<=j*1000
 | 0,_=>Ubg _
 | j+1,hj=>by
  have ih:=Zbu h (l:=l) (j:=j) (by omega)
  have h1:=Zbs (l:=l) (i:=j) (ls:=Wp b j) (k:=(Wp b j).length)
  have h2:=h _ (Ual (show j<b.nodes.length by omega))
  rw[JR,Uam]
  rw[Zbt (by omega)] at h1 ⊢
  omega
def Dv(b:TBigraph)(j:Nat):Int:=((b.inner[j]?).map TWire.link).getD 0
def Zbv(b:TBigraph)(j:Nat):ByteArray:=((b.inner[j]?).map TWire.name).getD ⟨#[]⟩
theorem ZiE{b:TBigraph}{j:Nat}(h:j<b.inner.length):Dv b j=b.inner[j].link:=by simp [Dv,h]
theorem ZvO{b:TBigraph}{j:Nat}(h:j<b.inner.length):Zbv b j=b.inner[j].name:=by simp [Zbv,h]
def Y6(b:TBigraph)(l:Int):Nat->List ByteArray
 | 0=>[]
 | j+1=>if Dv b j=l then Y6 b l j++[Zbv b j] else Y6 b l j
theorem ZiF{b:TBigraph}{l:Int}:∀{j:Nat},(Y6 b l j).length<=j
 | 0=>Uag 0
 | j+1=>by
  unfold Y6
  have:=ZiF (b:=b) (l:=l) (j:=j)
  split
  ·rw[Uam,List.length_singleton];omega
  ·omega
theorem ZvP{b:TBigraph}{l:Int}{j:Nat}(h:Dv b j=l):Y6 b l (j+1)=Y6 b l j++[Zbv b j]:=by rw[Y6,if_pos h]
theorem ZvQ{b:TBigraph}{l:Int}{j:Nat}(h:¬ Dv b j=l):Y6 b l (j+1)=Y6 b l j:=by rw[Y6,if_neg h]
def ZiG(b:TBigraph)(l:Int):List ByteArray:=Y6 b l b.inner.length
theorem ZiH(a b:List (Int×Int)):(a++b).map VE=a.map VE++b.map VE:=UaS
theorem ZvR(b:TBigraph)(l:Int)(hn:b.nodes.length<=1000)(hk:∀ x∈b.nodes,x.links.length<=1000)(lvl:Nat)(S:Zc):Sem UbR ZdZ lvl [.ag ((Zk b).map .tr),iI l] S (.ow 2 ((ports b l).map VE) true) S:=by
 refine Zv Zva trivial ?_
 simp only[Zh4,Zk,Uab,Zb,seval,Za,men]
 refine Ja (α:=Unit) b.nodes.length (fun j _=>[(5,.hd (lvl,256) [] 0 (JR b l j).length none (JR b l j).length),(6,iI j)]) (fun j _=>[(256,.ar 2 ((JR b l j).map VE) true (JR b l j).length 0)]) (fun _ _=>True) () (by simp only[Zb,seval,Za,men]) (by (simp only[Zb,seval,Za,men]) <;> rfl) trivial ?_
 intro j _ hj _
 simp only[Uab,Zb,seval,Za,men]
 refine Zl (fun hlt=>?_) (fun hge=>?_)
 ·have hja:j<b.nodes.length:=by omega
  have ga:=ZY (c:=ZH) hja
  have hle:=Zbu hk (l:=l) hj
  have hlk:=hk _ (Ual hja)
  refine Ja (α:=Unit) b.nodes[j].links.length (fun k _=>[(5,.hd (lvl,256) [] 0 (JR b l j++J7 l j b.nodes[j].links k).length none (JR b l j++J7 l j b.nodes[j].links k).length),(7,iI k)]) (fun k _=>[(256,.ar 2 ((JR b l j++J7 l j b.nodes[j].links k).map VE) true (JR b l j++J7 l j b.nodes[j].links k).length 0)]) (fun _ _=>True) () (by simp only[Zb,seval,Za,men]) (by (simp only[J7,Ua9,Zb,seval,Za,men]) <;> rfl) trivial ?_
  intro k _ hkk _
  simp only[ga,ZH,Uab,Zb,seval,Za,men]
  refine Zl (fun hlt2=>?_) (fun hge2=>?_)
  ·have hka:k<b.nodes[j].links.length:=by omega
   have gl:=JE hka
   have hr:=Zbs (l:=l) (i:=j) (ls:=b.nodes[j].links) (k:=k)
   simp only[ga,gl,ZH,Uab,Zb,seval,Za,men]
   refine Zl (fun he=>?_) (fun hne=>?_)
   ·refine⟨by rw[Uam];omega,by rw[Zh];omega,Zr () hka ?_ trivial⟩
    rw[ZiC he,<-UaR,Uam (bs:=[_]),ZiH (JR b l j++_)]
    rfl
   ·refine⟨by rw[Zh];omega,Zr () hka ?_ trivial⟩
    rw[ZiD hne]
    rfl
  ·have:k=b.nodes[j].links.length:=by omega
   subst this
   refine⟨by rw[Zh];omega,Zr () hja ?_ trivial⟩
   rw[JR,Zbt hja]
   rfl
 ·have:j=b.nodes.length:=by omega
  subst this
  rfl
theorem ZvS(b:TBigraph)(l:Int)(hn:b.nodes.length<=1000)(hk:∀ x∈b.nodes,x.links.length<=1000)(hi:b.inner.length<=4294967296)(lvl:Nat)(S:Zc):Sem UbR ZdS lvl [.ag ((Zk b).map .tr),iI l] S (.tu [.ow 2 ((ports b l).map VE) true,.ow 1 (rS (ZiG b l)) true]) S:=by
 refine Zv Zu9 ⟨trivial,trivial,trivial⟩ ?_
 simp only[Zh3,Zk,Uab,Zb,seval,Za,men]
 refine Ja (α:=Unit) b.nodes.length (fun j _=>[(6,.hd (lvl,448) [] 0 (JR b l j).length none (JR b l j).length),(19,iI j)]) (fun j _=>[(448,.ar 2 ((JR b l j).map VE) true (JR b l j).length 0)]) (fun _ _=>True) () (by simp only[Zb,seval,Za,men]) (by (simp only[Zb,seval,Za,men]) <;> rfl) trivial ?_
 intro j _ hj _
 simp only[Uab,Zb,seval,Za,men]
 refine Zl (fun hlt=>?_) (fun hge=>?_)
 ·have hja:j<b.nodes.length:=by omega
  have ga:=ZY (c:=ZH) hja
  have hle:=Zbu hk (l:=l) hj
  have hlk:=hk _ (Ual hja)
  simp only[ga,ZH,Uab,Zb,seval,Za,men]
  refine Ja (α:=Unit) b.nodes[j].links.length (fun k _=>[(6,.hd (lvl,448) [] 0 (JR b l j++J7 l j b.nodes[j].links k).length none (JR b l j++J7 l j b.nodes[j].links k).length),(27,iI k)]) (fun k _=>[(448,.ar 2 ((JR b l j++J7 l j b.nodes[j].links k).map VE) true (JR b l j++J7 l j b.nodes[j].links k).length 0)]) (fun _ _=>True) () (by simp only[Zb,seval,Za,men]) (by (simp only[J7,Ua9,Zb,seval,Za,men]) <;> rfl) trivial ?_
  intro k _ hkk _
  simp only[ga,ZH,Uab,Zb,seval,Za,men]
  refine Zl (fun hlt2=>?_) (fun hge2=>?_)
  ·have hka:k<b.nodes[j].links.length:=by omega
   have gl:=JE hka
   have hr:=Zbs (l:=l) (i:=j) (ls:=b.nodes[j].links) (k:=k)
   simp only[ga,gl,ZH,Uab,Zb,seval,Za,men]
   refine Zl (fun he=>?_) (fun hne=>?_)
   ·refine⟨by rw[Uam];omega,by rw[Zh];omega,Zr () hka ?_ trivial⟩
    rw[ZiC he,<-UaR,Uam (bs:=[_]),ZiH (JR b l j++_)]
    rfl
   ·refine⟨by rw[Zh];omega,Zr () hka ?_ trivial⟩
    rw[ZiD hne]
    rfl
  ·have:k=b.nodes[j].links.length:=by omega
   subst this
   refine⟨by rw[Zh];omega,Zr () hja ?_ trivial⟩
   rw[JR,Zbt hja]
   rfl
 have:j=b.nodes.length:=by omega
 subst this
 refine Ja (α:=Unit) b.inner.length (fun j _=>[(7,.hd (lvl,480) [] 0 (Y6 b l j).length none (Y6 b l j).length),(46,iI j)]) (fun j _=>[(480,.ar 1 (rS (Y6 b l j)) true (Y6 b l j).length 0)]) (fun _ _=>True) () (by simp only[Zb,seval,Za,men]) (by (simp only[Zb,seval,Za,men]) <;> rfl) trivial ?_
 intro j _ hj _
 simp only[Uab,Zb,seval,Za,men]
 refine Zl (fun hlt=>?_) (fun hge=>?_)
 ·have hja:j<b.inner.length:=by omega
  have ga:=ZY (c:=Jc) hja
  have hle:=ZiF (b:=b) (l:=l) (j:=j)
  simp only[ga,Jc,Uab,Zb,seval,Za,men]
  refine Zl (fun he=>?_) (fun hne=>?_)
  ·refine⟨by omega,by rw[Zh];omega,Zr () hja ?_ trivial⟩
   rw[ZvP (by rw[ZiE hja];exact he),Uam,Zem,ZvO hja]
   rfl
  ·refine⟨by rw[Zh];omega,Zr () hja ?_ trivial⟩
   rw[ZvQ (by rw[ZiE hja];exact hne)]
   rfl
 ·have:j=b.inner.length:=by omega
  subst this
  rfl
def idle(b:TBigraph)(l:Int):Prop:=(ports b l).length=0/\(ZiG b l).length=0
structure small (b:TBigraph):Prop where
 nodes:b.nodes.length<=8
 links:∀ x∈b.nodes,x.links.length<=1000
 sites:b.sites.length<=4
 outer:b.outer.length<=16
 inner:b.inner.length<=16
 roots:0<=b.roots/\b.roots<=4
 edges:0<=b.edges/\b.edges<=8
theorem ZvT{sig:List TControl}(h:YM sig)(c:Int):Xd sig c<=3:=by
 unfold Xd
 cases e:sig[c.toNat]? with
 | none=>decide
 | some x =>
  obtain⟨hl,rfl⟩:=Uac.1 e
  exact((h.1 _ hl).1).2.1.2
theorem bigOK.small{sig:List TControl}{b:TBigraph}(h:bigOK sig b):small b :=
 ⟨h.nodesL,fun x hx=>by
  obtain⟨k,hk,rfl⟩:=UaU hx
  have h1:=(h.nodes k hk).ports
  have h2:=ZvT h.sg b.nodes[k].control
  omega,h.sitesL,h.outer.2,by have:=h.inn.2;rw[Zbr] at this;exact this,h.roots,h.edges⟩
def Zbw{α:Type}(f:Nat->List α):Nat->List α
 | 0=>[]
 | j+1=>Zbw f j++f j
theorem ZiI{α:Type}{f:Nat->List α}{B:Nat}:∀{j:Nat},(∀ k,k<j->(f k).length<=B)->(Zbw f j).length<=j*B
 | 0,_=>Ubg _
 | j+1,h=>by
  have ih:=ZiI (f:=f) (B:=B) (j:=j) fun k hk=>h k (by omega)
  have h1:=h j (by omega)
  rw[Zbw,Uam,Nat.succ_mul]
  omega
theorem Zen{l:Int}{i:Nat}{ls:List Int}{p:Int×Int}:∀{k:Nat},p∈J7 l i ls k->∃ m:Nat,m<k/\p=((i:Int),(m:Int))
 | 0,h=>by simp [J7] at h
 | k+1,h=>by
  unfold J7 at h
  split at h
  ·rcases Uax.1 h with h | h
   ·obtain⟨m,h1,h2⟩:=Zen h
    exact⟨m,by omega,h2⟩
   ·exact⟨k,by omega,by simpa using h⟩
  ·obtain⟨m,h1,h2⟩:=Zen h
   exact⟨m,by omega,h2⟩
theorem ZiJ{b:TBigraph}{l:Int}{p:Int×Int}:∀{j:Nat},p∈JR b l j->∃ i m:Nat,i<j/\m<(Wp b i).length/\p=((i:Int),(m:Int))
 | 0,h=>by simp [JR] at h
 | j+1,h=>by
  rw[JR] at h
  rcases Uax.1 h with h | h
  ·obtain⟨i,m,h1,h2,h3⟩:=ZiJ h
   exact⟨i,m,by omega,h2,h3⟩
  ·obtain⟨m,h1,h2⟩:=Zen h
   exact⟨j,m,by omega,h1,h2⟩
def ZiK(s:TSorting)(c:Int):List Int:=(s.sorts[c.toNat]?).getD []
def Dw(s:TSorting)(b:TBigraph)(p:Int×Int):Int:=g0 (ZiK s (ZT b p.1)) p.2.toNat
def bump(l:List Int)(k:Int):List Int:=l.set k.toNat (g0 l k.toNat+1)
def Xe(s:TSorting)(b:TBigraph)(ps:List (Int×Int)):List Int:=ps.foldl (fun l p=>bump l (Dw s b p)) (List.replicate s.most.length 0)
def VF(s:TSorting)(b:TBigraph)(l:Int):List Int:=Xe s b (ports b l)
structure Bn (n:Nat) (B:Int) (l:List Int):Prop where
 len:l.length=n
 bd:∀ x∈l,0<=x/\x<=B
theorem Bn.g{n:Nat}{B:Int}{l:List Int}(h:Bn n B l)(hB:0<=B)(k:Nat):0<=g0 l k/\g0 l k<=B:=by
 by_cases hk:k<l.length
 ·have:g0 l k=l[k]:=by simp [hk]
  rw[this]
  exact h.bd _ (Ual hk)
 ·have:g0 l k=0:=by simp [g0,List.getD,Ua1 (Nat.le_of_not_lt hk)]
  rw[this]
  omega
theorem Bn.set{n:Nat}{B C:Int}{l:List Int}(h:Bn n B l)(hB:B<=C){k:Nat}{v:Int}(h0:0<=v)(h1:v<=C):Bn n C (l.set k v):=by
 refine⟨by rw[UaN];exact h.len,fun x hx=>?_⟩
 rcases UaG hx with hx | hx
 ·have:=h.bd x hx
  omega
 ·omega
theorem Bn.mono{n:Nat}{B C:Int}{l:List Int}(h:Bn n B l)(hB:B<=C):Bn n C l:=⟨h.len,fun x hx=>by have:=h.bd x hx;omega⟩
theorem ZvU(n:Nat):Bn n 0 (List.replicate n 0):=⟨Ua2,fun x hx=>by
 have:=List.eq_of_mem_replicate hx
 omega⟩
theorem Bn.bump{n:Nat}{B:Int}{l:List Int}(h:Bn n B l)(hB:0<=B)(k:Int):Bn n (B+1) (bump l k):=by
 have:=h.g hB k.toNat
 exact h.set (by omega) (by omega) (by omega)
theorem ZiL{n:Nat}(f:Int×Int->Int):∀(ps:List (Int×Int)) {B:Int} {l:List Int},0<=B->Bn n B l->Bn n (B+ps.length) (ps.foldl (fun l p=>bump l (f p)) l)
 | [],B,l,_,h=>by simpa using h
 | p::r,B,l,hB,h=>by
  have:=ZiL f r (B:=B+1) (by omega) (h.bump hB (f p))
  rw[List.foldl_cons,List.length_cons]
  exact this.mono (by omega)
theorem Dx(s:TSorting)(b:TBigraph)(ps:List (Int×Int)):Bn s.most.length ps.length (Xe s b ps):=by
 have:=ZiL (n:=s.most.length) (Dw s b) ps (Ubd 0) (ZvU _)
 rw[Int.zero_add] at this
 exact this
theorem ZiM{s:TSorting}{b:TBigraph}{ps:List (Int×Int)}{j:Nat}(h:j<ps.length):Xe s b (ps.take (j+1))=bump (Xe s b (ps.take j)) (Dw s b ps[j]):=by
 unfold Xe
 rw[Uaj h,UbM]
 rfl
theorem Zeo{b:TBigraph}(hs:small b)(l:Int):(ports b l).length<=8000:=by
 have h1:=Zbu (l:=l) hs.links (j:=b.nodes.length) (Uag _)
 have h2:=hs.nodes
 unfold ports
 omega
theorem Uk{s:TSorting}{b:TBigraph}(hs:small b)(l:Int):Bn s.most.length 8000 (VF s b l):=(Dx s b (ports b l)).mono (by have:=Zeo hs l;omega)
structure two (sig:List TControl) (s:TSorting) (b:TBigraph):Prop where
 srt:sortOK sig s
 big:bigOK sig b
theorem two.ctl{sig:List TControl}{s:TSorting}{b:TBigraph}(h:two sig s b){i:Nat}(hi:i<b.nodes.length):∃ c:Nat,b.nodes[i].control=c/\ZT b i=c/\c<sig.length/\c<s.nest.length/\c<s.sorts.length:=by
 have hc:=(h.big.nodes i hi).ctl
 refine⟨b.nodes[i].control.toNat,by omega,?_,by omega,by rw[h.srt.nestL];omega,by rw[h.srt.sortsL];omega⟩
 simp [ZT,hi]
 omega
theorem two.port{sig:List TControl}{s:TSorting}{b:TBigraph}(h:two sig s b){l:Int}{p:Int×Int}(hp:p∈ports b l) :
  ∃(i m c q:Nat) (hi:i<b.nodes.length) (hc:c<s.sorts.length),p=((i:Int),(m:Int))/\b.nodes[i].control=c/\m<s.sorts[c].length/\g0 s.sorts[c] m=q/\q<s.most.length/\Dw s b p=q:=by
 obtain⟨i,m,hi,hm,rfl⟩:=ZiJ hp
 obtain⟨c,e1,e2,c1,c2,c3⟩:=h.ctl hi
 have hn:=h.big.nodes i hi
 have hs:=h.srt.sorts c c3 c1
 rw[Zbt hi] at hm
 have hpt:=hn.ports
 have e3:Xd sig b.nodes[i].control=sig[c].ports:=by simp [Xd,e1,c1]
 rw[e3,<-hs.1] at hpt
 have hm2:m<s.sorts[c].length:=by omega
 have hg:g0 s.sorts[c] m=s.sorts[c][m]:=by simp [hm2]
 have hq:=hs.2 _ (Ual hm2)
 refine⟨i,m,c,(s.sorts[c][m]).toNat,hi,c3,rfl,e1,hm2,by omega,by omega,?_⟩
 simp only[Dw,e2,ZiK,Int.toNat_natCast,Uaf c3,Option.getD_some]
 omega
def Jd(b:TBigraph):Nat:=(b.edges+b.outer.length).toNat
theorem Ul{b:TBigraph}(h:small b):Jd b<=24:=by
 have h1:=h.edges
 have h2:=h.outer
 unfold Jd
 omega
theorem Wq{l:List Int}{q:Nat}{v:Int}(h:q<l.length):ZG (rI l) [] q 0 (.v (.int .i64 v))=rI (l.set q v):=by
 rw[YK (JE h)]
 simp only[Ube]
 rfl
theorem two.par{sig:List TControl}{s:TSorting}{b:TBigraph}(h2:two sig s b){j:Nat}(hj:j<b.nodes.length):-4<=b.nodes[j].parent/\b.nodes[j].parent<b.nodes.length:=by
 have h1:=(h2.big.nodes j hj).par
 have h3:=h2.big.roots
 rcases h1 with h1 | h1 <;> omega
theorem two.links{sig:List TControl}{s:TSorting}{b:TBigraph}(h2:two sig s b):(Jd b:Int)=b.edges+b.outer.length:=by
 have:=h2.big.edges
 unfold Jd
 omega
theorem ZvV{l:List Int}:ScR (rI l)=True:=eq_true fun e he t ht=>by
 obtain⟨f,_,rfl⟩:=UaP.1 he
 simp only[UaT] at ht
 subst ht
 rfl
theorem ZvW{l:List Int}:Zw 1 (rI l)=True:=eq_true fun e he=>by
 obtain⟨f,_,rfl⟩:=UaP.1 he
 rfl
theorem ZiN(l:List Int)(hl:l.length<=4294967296)(lvl:Nat)(S:Zc):Sem UbR Za1 lvl [tI l] S (.ow 1 (rI l) true) S:=by
 refine Zv ZuH trivial ?_
 simp only[Zhz,Uab,ZvV,ZvW,Zb,seval,Za,men]
 exact⟨hl,fun h=>by rw[h]⟩
theorem ZvX:Zo UbR Zhi (Qk 2 (some 2))=true:=by kernel_rfl
def Jp(n:Int)(l:List Int):List Int:=if (l.dropWhile fun x=>decide (x<n)).head? = some n then l else (l.takeWhile fun x=>decide (x<n))++n::(l.dropWhile fun x=>decide (x<n))
theorem Dy{n:Int}:∀{l:List Int} {j:Nat},(∀ k,k<j->g0 l k<n)->j<=l.length->(j<l.length -> ¬ g0 l j<n)->(l.takeWhile fun x=>decide (x<n))=l.take j/\(l.dropWhile fun x=>decide (x<n))=l.drop j
 | [],j,_,h2,_=>by
  have:j=0:=by simpa using h2
  subst this
  simp
 | x::r,0,_,_,h3=>by
  have:=h3 (by simp)
  have e:¬ x<n:=this
  simp [e]
 | x::r,j+1,h1,h2,h3=>by
  have e:x<n:=h1 0 (by omega)
  have ih:=Dy (l:=r) (j:=j) (n:=n) (fun k hk=>h1 (k+1) (by omega)) (by simpa using h2) (fun h=>h3 (by simpa using h))
  simp [e,ih.1,ih.2]
theorem ZiO{l:List Int}{j:Nat}:cut (rI l) 0 (j-0)=rI (l.take j):=Zid (c:=fun n:Int=>[tv n])
theorem ZiP{l:List Int}{j:Nat}:cut (rI l) j (l.length-j)=rI (l.drop j):=by
 simp only[cut,List.map_drop]
 exact UaL (by simp)
theorem Wr(l:List Int)(n:Int)(hl:l.length<=4294967290)(lvl:Nat)(S:Zc):Sem UbR Dj lvl [tI l,iI n] S (tI (Jp n l)) S:=by
 refine Zv ZhO trivial ?_
 simp only[Zeb,Uab,Zb,seval,Za,men]
 refine Ja (α:=Unit) l.length (fun j _=>[(5,iI j)]) (fun _ _=>[]) (fun j _=>∀ k,k<j->g0 l k<n) () (by simp only[Zb,seval,Za,men]) (by (simp only[Zb,seval,Za,men]) <;> rfl) (fun k hk=>absurd hk (UaE k)) ?_
 intro j _ hj hA
 simp only[Uab,Zb,seval,Za,men]
 have scr:∀ x:List Int,ScR (rI x):=fun x e he t ht=>by
  obtain⟨n,_,rfl⟩:=UaP.1 he
  simp only[UaV,List.not_mem_nil,or_false] at ht
  subst ht
  rfl
 have unr:∀ x:List Int,Zw 1 (rI x):=fun x=>ZcV (fun n:Int=>[tv n]) (fun _=>rfl) x
 have Jb:(j<l.length -> ¬ g0 l j<n)->(j<l.length->g0 l j≠n)->rI (l.take j)++[[tv n]]++rI (l.drop j)=rI (Jp n l):=fun h1 h2=>by
  obtain⟨e1,e2⟩:=Dy hA hj h1
  unfold Jp
  rw[e1,e2,if_neg]
  ·simp
  ·intro e
   rw[List.head?_drop] at e
   have hjl:=(Uac.1 e).1
   refine h2 hjl ?_
   show l.getD j 0=n
   rw[UbF,e]
   rfl
 have lt:(l.take j).length=j:=by rw[Uas];omega
 have ld:(l.drop j).length=l.length-j:=Ubq
 by_cases hja:j<l.length
 ·have ga:=JE hja
  have h1:(j:Int)<l.length:=by omega
  by_cases hlt:g0 l j<n
  ·simp only[h1,hja,ga,hlt,Uab,Zb,seval,Za,men]
   exact⟨by rw[Zh];omega,Zr () hja rfl (Wo hA hlt)⟩
  ·by_cases he:g0 l j=n
   ·have hnn:¬ n<n:=by omega
    simp only[h1,hja,ga,hlt,he,hnn,Uab,Zb,seval,Za,men]
    have e2:=(Dy hA hj fun _=>hlt).2
    have:Jp n l=l:=by
     unfold Jp
     rw[if_pos]
     rw[e2,List.head?_drop,Uaf hja]
     have:g0 l j=l[j]:=by simp [hja]
     rw[<-this,he]
    rw[this]
   ·have hf:=Jb (fun _=>hlt) (fun _=>he)
    have hlen:=congrArg List.length hf
    simp only[Uam,Uab,List.length_cons,List.length_nil,lt,ld] at hlen
    simp only[h1,hja,ga,hlt,he,Uab,ZiO,ZiP,scr,unr,hf,Uam,lt,ld,Zb,seval,Za,men]
    refine⟨fun _=>trivial,by omega,by omega,by omega,by omega,fun _=>trivial,by omega,by omega,by omega,?_⟩
    rw[Z7 (by rw[Uab];omega)]
 ·have h1:¬ (j:Int)<l.length:=by omega
  have hf:=Jb (fun h=>absurd h hja) (fun h=>absurd h hja)
  have hlen:=congrArg List.length hf
  simp only[Uam,Uab,List.length_cons,List.length_nil,lt,ld] at hlen
  simp only[h1,Uab,ZiO,ZiP,scr,unr,hf,Uam,lt,ld,Zb,seval,Za,men]
  refine⟨fun _=>trivial,by omega,by omega,by omega,by omega,fun _=>trivial,by omega,by omega,by omega,?_⟩
  rw[Z7 (by rw[Uab];omega)]
theorem ZvY{l:List Int}:ScR (rI l)=True:=eq_true fun e he t ht=>by
 obtain⟨n,_,rfl⟩:=UaP.1 he
 simp only[UaV,List.not_mem_nil,or_false] at ht
 subst ht
 rfl
theorem ZvZ{l:List Int}:Zw 1 (rI l)=True:=eq_true (ZcV (fun n:Int=>[tv n]) (fun _=>rfl) l)
theorem Zv0(l:List Int)(hl:l.length<=4294967296)(lvl:Nat)(S:Zc):Sem UbR ZdD lvl [tI l] S (.ow 1 (rI l) true) S:=by
 refine Zv ZuO trivial ?_
 simp only[ZhI,Uab,ZvY,ZvZ,Zb,seval,Za,men]
 exact hl
theorem Zv1(ls:List (List Int))(hl:ls.length<=4294967290)(hb:∀ l∈ls,l.length<=4294967290)(lvl:Nat)(S:Zc):Sem UbR Zdj lvl [.tr (.sl (ls.map Zs))] S (.ow 1 (ls.map Zs) true) S:=by
 refine Zv ZuD trivial ?_
 simp only[Zhu,Uab,Zb,seval,Za,men]
 refine Ja (α:=Unit) ls.length (fun j _=>[(3,.hd (lvl,160) [] 0 j none j),(4,iI j)]) (fun j _=>[(160,.ar 1 ((ls.take j).map Zs) true j 0)]) (fun _ _=>True) () (by simp only[Zb,seval,Za,men]) (by (simp only[Zb,seval,Za,men]) <;> rfl) trivial ?_
 intro j _ hj _
 simp only[Uab,Zb,seval,Za,men]
 refine Zl (fun hlt=>?_) (fun hge=>?_)
 ·have hja:j<ls.length:=by omega
  have ga:=ZY (c:=Zs) hja
  have hx:=hb _ (Ual hja)
  have hlm:((ls.take j).map Zs).length=j:=by rw[Uab,Uas];omega
  have hs:(ls.take (j+1)).map Zs=(ls.take j).map Zs++[[Tr.sl (rI ls[j])]]:=by
   rw[Uaj hja,UaS]
   rfl
  simp only[ga,Uab,Zb,seval,Za,men]
  refine Zi (Zv0 ls[j] (by omega)) ?_
  simp only[hlm,Uab,Zb,seval,Za,men]
  exact⟨by omega,by rw[Zh];omega,Zr () hja (by rw[hs];rfl) trivial⟩
 ·have:j=ls.length:=by omega
  subst this
  rw[Uaz]
  exact⟨rfl,rfl⟩
end Go.Fd

namespace Go.Proofs
open Go.Shelf
def Tryz.lays21_ren:Go.Shelf.Ren:=⟨fun | 21=>90 | 27=>110 | 28=>111 | 35=>118 | 39=>127 | n=>n,fun | 22=>28 | 3=>3 | 4=>4 | 0=>0 | n=>n,fun | n=>n⟩
theorem Tryz.lays21:Go.Proofs.Lays2.n21 Tryz.prog Tryz.lays21_ren:={
  mixed:=by kernel_rfl,
  f21:=Tryz.func90.trans (congrArg some (by kernel_rfl)),
  f27:=Tryz.func110.trans (congrArg some (by kernel_rfl)),
  f28:=Tryz.func111.trans (congrArg some (by kernel_rfl)),
  f35:=Tryz.func118.trans (congrArg some (by kernel_rfl)),
  f39:=Tryz.func127.trans (congrArg some (by kernel_rfl)),
  t0:=Tryz.underlying0,
  a0:=Tryz.isAgg0,
  z0:=Tryz.sizeOf0,
  v0:=Tryz.zeroValue0,
  t3:=Tryz.underlying3,
  a3:=Tryz.isAgg3,
  z3:=Tryz.sizeOf3,
  v3:=Tryz.zeroValue3,
  t4:=Tryz.underlying4,
  a4:=Tryz.isAgg4,
  z4:=Tryz.sizeOf4,
  v4:=Tryz.zeroValue4,
  t22:=Tryz.underlying28,
  a22:=Tryz.isAgg28,
  z22:=Tryz.sizeOf28,
  v22:=Tryz.zeroValue28,
  i3:=by kernel_rfl }
end Go.Proofs

namespace Go.Fd
variable [Tabs]
open Go.Sort
section
variable {P:Program} {α:Type} [Inhabited α] {enc:α->Value}
end
end Go.Fd

namespace Go.Fd
variable [Tabs]
open Go.Shelf
section
variable {P:Program} {G:Gh} {S:Zc} {w w':World}
theorem ZiQ{l:List Int}{p:Zf}{es2:Row}(hp:p≠[]):getp (rI l) p≠some es2:=fun h=>by
 cases p with
 | nil=>exact hp rfl
 | cons cd q =>
  obtain⟨c,d⟩:=cd
  obtain⟨e,x,h1,h2,_⟩:=Y2 h
  obtain⟨n,_,rfl⟩:=UaP.1 (Uae h1)
  have:=Uae h2
  simp at this
theorem Zbx{l:List Int}:Zw 1 (rI l):=ZcV (fun x=>[tv x]) (fun _=>rfl) l
theorem Zv2{lvl:Nat}{id:Zd}{l l2:List Int}{u:Bool}{hw ver b' c':Nat}{cells:Array Value}{ty:TypeId}(hok:SOk G S w)(hS:S id=some (.ar 1 (rI l) u hw ver))
  (hb:G id []=some (b',c')\/(w.heap.size<=b'/\hw<l2.length)) (hrow:w'.heap[b']? = some (.cells cells ty (0,0))) (hsz:cells.size=c') (hlen:l2.length<=c') (hhw:hw<=c') (h63:c'<=9223372036854775807)
  (hcell:∀(j:Nat) (h:j<l2.length),cells[j]? = some (.int .i64 l2[j])) (hsize:w.heap.size<=w'.heap.size)
  (hheap:∀ b2,b2<w.heap.size->(∀ c0,G id []≠some (b2,c0))->w'.heap[b2]? = w.heap[b2]?) (hos:w'.os=w.os) (htape:w'.tape=w.tape) (hout:w'.output=w.output) :
  ∃ G',SOk G' (Ze S id (.ar 1 (rI l2) u (max hw l2.length) (ver+1))) w'/\VR G' (Ze S id (.ar 1 (rI l2) u (max hw l2.length) (ver+1))) w' (.hd id [] 0 l2.length none (max hw l2.length)) (.slice (some ⟨b',0,none⟩) l2.length c') /\
   Frm ⟨G,S,w,lvl,0⟩ G' (Ze S id (.ar 1 (rI l2) u (max hw l2.length) (ver+1))) w':=by
 obtain⟨ob',hob'⟩:∃ ob',ob'=Ob.ar 1 (rI l2) u (max hw l2.length) (ver+1):=⟨_,rfl⟩
 obtain⟨G',hG'⟩:∃ G':Gh,G'=fun j=>if j=id then fun p=>if p=[] then some (b',c') else none else G j:=⟨_,rfl⟩
 have g0:G' id []=some (b',c'):=by rw[hG'];simp
 have g1:∀ i,i≠id->G' i=G i:=fun i hi=>by rw[hG'];exact if_neg hi
 have g2:∀ p b c,(getp (rI l2) p).isSome=true->G' id p=some (b,c)->p=[]/\b=b'/\c=c':=fun p b c hp hg=>by
  by_cases hp0:p=[]
  ·subst hp0;rw[g0] at hg;cases hg;exact⟨rfl,rfl,rfl⟩
  ·obtain⟨e,he⟩:=Uai.1 hp
   exact absurd he (ZiQ hp0)
 have hl:(rI l2).length=l2.length:=Uab ..
 rw[<-hob']
 have t:Trn G G' S (Ze S id ob') w w' (· = id) (fun _=>False):=by
  refine⟨g1,fun i ob hi _ hs=>⟨ob,by unfold Ze;rw[if_neg hi];exact hs,Wk.refl ob⟩,fun i ob hi hs=>⟨fun h=>h,ob,by unfold Ze at hs;rw[if_neg hi] at hs;exact hs,Wk.refl ob⟩,hsize,fun b2 h2 hn=>hheap b2 h2 fun c0 hg=>hn id _ rfl hS ⟨[],c0,.inl rfl,rfl,hg⟩,fun i ob b2 hi hs ho=>?_,fun i ob hi _ hs=>?_⟩
  ·subst hi
   unfold Ze at hs;rw[if_pos rfl] at hs;cases hs
   subst hob'
   obtain⟨p,c2,hp,hq,hg⟩:=ho
   obtain⟨rfl,rfl,rfl⟩:=g2 p b2 c2 hq hg
   rcases hb with hb | ⟨hb,_⟩
   ·exact .inl ⟨i,_,.inl rfl,hS,[],_,.inl rfl,rfl,hb⟩
   ·exact .inr hb
  ·subst hi
   rw[hS] at hs;cases hs
   refine⟨ob',by unfold Ze;rw[if_pos rfl],?_⟩
   subst hob'
   refine⟨rfl,Nat.le_max_left _ _,Nat.le_succ _,fun p st hbd hst=>?_⟩
   cases p with
   | nil =>
    have h1:st<=hw:=hbd
    have h2:st=max hw l2.length:=hst
    have h3:max hw l2.length=hw:=by have:=Nat.le_max_left hw l2.length;omega
    refine⟨by show st=hw;omega,fun es' he=>⟨?_,_,rfl,fun k' hk _=>by rw[hk rfl];exact Zbx⟩⟩
    rcases hb with hb | ⟨_,hb⟩
    ·rw[g0,hb]
    ·omega
   | cons q p =>
    have h1:st<=ver:=hbd
    have h2:st=ver+1:=hst.2
    omega
 refine⟨G',t.ok hok (fun i ob hi hs=>?_) (fun i ob j ob2 b hi hj _ _ _ _=>hi.trans hj.symm) (fun i cells hi hs=>?_),?_,t.frm (fun _ h=>h.elim) hos htape hout⟩
 ·subst hi
  unfold Ze at hs;rw[if_pos rfl] at hs;cases hs
  subst hob'
  refine⟨by rw[hl];exact Nat.le_max_right _ _,Zbx,by rw[g0];simp only[YA];omega,fun p es2 hp he=>?_,fun p p' b1 c1 c2 hp hp' k1 k2 k3 k4=>by rw[(g2 p b1 c1 k1 k3).1,(g2 p' b1 c2 k2 k4).1]⟩
  by_cases hp0:p=[]
  ·subst hp0
   cases he
   unfold Z3
   rw[g0]
   refine⟨1,cells,ty,fun _=>rfl,Zbx,hrow,by omega,by rw[hl];exact hlen,fun i e f t hi hf=>?_⟩
   rw[Uan] at hi
   obtain⟨y,hy,rfl⟩:=UaF.1 hi
   obtain⟨hil,hyy⟩:=Uac.1 hy
   have hf0:f=0/\t=tv y:=by
    cases f with
    | zero=>simp at hf;exact⟨rfl,hf.symm⟩
    | succ f=>simp at hf
   obtain⟨rfl,rfl⟩:=hf0
   refine⟨.int .i64 y,?_,rfl,rfl⟩
   rw[show i*1+0=i from by omega,hcell i hil,hyy]
  ·exact absurd he (ZiQ hp0)
 ·subst hi
  unfold Ze at hs;rw[if_pos rfl] at hs;cases hs
  cases hob'
 ·subst hob'
  exact⟨⟨_,_,rfl,hlen⟩,1,rI l2,u,_,_,by unfold Ze;rw[if_pos rfl],Uag _,fun _=>⟨_,1,_,_,rfl,fun _=>rfl,Zbx,rfl,hlen,(fun m hm=>by cases hm),(fun _ _=>by rw[g0];simp [YA]),.inr (.inr ⟨b',c',g0,by simp,by simp⟩)⟩⟩
def Ws(cur:Array Value):Nat->List Value->Array Value
 | _,[]=>cur
 | o,v::r=>Ws (cur.setIfInBounds o v) (o+1) r
theorem XP:∀(vs:List Value) (o:Nat) (cur:Array Value),(Ws cur o vs).size=cur.size
 | [],_,_=>rfl
 | v::r,o,cur=>by rw[Ws,XP r];simp
theorem Um:∀(vs:List Value) (o:Nat) (cur:Array Value) (j:Nat),o+vs.length<=cur.size->(Ws cur o vs)[j]? = if o<=j/\j<o+vs.length then vs[j-o]? else cur[j]?
 | [],o,cur,j,h=>by rw[Ws,if_neg (by simp)]
 | v::r,o,cur,j,h=>by
  simp only[List.length_cons] at h
  rw[Ws,Um r (o+1) _ j (by simp;omega)]
  by_cases h1:o+1<=j/\j<o+1+r.length
  ·rw[if_pos h1,if_pos ⟨by omega,by simp;omega⟩,show j-o=(j-(o+1))+1 by omega]
   rfl
  ·rw[if_neg h1,UaI]
   by_cases h2:o=j
   ·subst h2
    rw[if_pos rfl,if_pos (by omega),if_pos ⟨by omega,by simp⟩,Ubm]
    rfl
   ·rw[if_neg h2,if_neg]
    simp only[List.length_cons]
    omega
theorem Un{b:Nat}{ty:TypeId}:∀(vs:List Value) (o:Nat) (w:World) (cur:Array Value),w.heap[b]? = some (.cells cur ty (0,0)) ->
  (w.setCells b o vs).heap[b]? = some (.cells (Ws cur o vs) ty (0,0))/\(∀ b2,b2≠b->(w.setCells b o vs).heap[b2]? = w.heap[b2]?)/\(w.setCells b o vs).heap.size=w.heap.size/\(w.setCells b o vs).os=w.os/\(w.setCells b o vs).tape=w.tape/\(w.setCells b o vs).output=w.output
 | [],o,w,cur,h=>⟨h,fun _ _=>rfl,rfl,rfl,rfl,rfl⟩
 | v::r,o,w,cur,h=>by
  have e:=setCell_eq_setRow w b o cur ty (0,0) v h
  obtain⟨h1,h2,h3,h4,h5,h6⟩:=Un r (o+1) (w.setCell ⟨b,o,none⟩ v) (cur.setIfInBounds o v) (by rw[e];exact setRow_heap w b cur _ ty (0,0) h)
  refine⟨h1,fun b2 hb=>(h2 b2 hb).trans (by rw[e];exact setRow_other w b b2 _ hb),h3.trans (by rw[e];simp),h4.trans (by rw[e];rfl),h5.trans (by rw[e];rfl),h6.trans (by rw[e];rfl)⟩
theorem ZiR{b:Nat}{cells:Array Value}{ty:TypeId}(h:w.heap[b]? = some (.cells cells ty (0,0))):w.shape? b=some (ty,cells.size):=by
 simp [World.shape?,h]
theorem Zby{b o:Nat}{cells:Array Value}{ty:TypeId}(h:w.heap[b]? = some (.cells cells ty (0,0))):w.frozen? ⟨b,o,none⟩=false:=by
 simp [World.frozen?,h]
theorem ZiS{id:Zd}{l:List Int}{u:Bool}{hw ver:Nat}(hok:SOk G S w)(hS:S id=some (.ar 1 (rI l) u hw ver)){v:Value}(hv:YH G S id [] 0 l.length none hw v) :
  ∃ a c,v = .slice a l.length c/\l.length<=c/\hw<=c/\c<=9223372036854775807 /\
   (c=0\/∃ b cells ty,G id []=some (b,c)/\a=some ⟨b,0,none⟩/\w.heap[b]? = some (.cells cells ty (0,0))/\cells.size=c/\∀(j:Nat) (h:j<l.length),cells[j]? = some (.int .i64 l[j])):=by
 obtain⟨⟨a0,c0,hv0,hlc0⟩,k2,es2,u2,hw2,ver2,hs2,_,hrel⟩:=hv
 rw[hS] at hs2;cases hs2
 obtain⟨es3,k',a,c,hg3,hk,hun,hv1,hlc,hcap,hcap2,hor⟩:=hrel rfl
 cases hg3
 have hk1:=hk rfl
 subst hk1
 obtain⟨o1,o2,o3,o4,o5⟩:=hok.obs _ _ hS
 have hc2:c=YA (G id []):=by have:=hcap2 rfl rfl;omega
 refine⟨a,c,hv1,hlc,by omega,by omega,?_⟩
 rcases hor with hz | ⟨hz,_⟩ | ⟨b,cc,hG,ha,hoc⟩
 ·exact .inl hz
 ·exact absurd rfl hz
 ·right
  have hcc:cc=c:=by rw[hc2,hG];rfl
  subst hcc
  have hr:=o4 [] _ (.inl rfl) rfl
  unfold Z3 at hr
  rw[hG] at hr
  obtain⟨k3,cells,ty,g1,g2,g3,g4,g5,g6⟩:=hr
  have hk3:=g1 rfl
  subst hk3
  refine⟨b,cells,ty,hG,by rw[ha],g3,by omega,fun j hj=>?_⟩
  obtain⟨x,hx1,hx2⟩:=g6 j [tv l[j]] 0 (tv l[j]) (by simp [hj]) rfl
  simp only[Jh] at hx2
  obtain⟨rfl,_⟩:=hx2
  simpa using hx1
theorem ZiT{l:List Int}:∀ v∈l.map (Value.int .i64),v.oneCell'=true:=fun v hv=>by
 obtain⟨n,_,rfl⟩:=UaP.1 hv
 rfl
theorem Zep{l:List Int}{j:Nat}{v:Value}(h:(l.map (Value.int .i64))[j]? = some v):∃ hj:j<l.length,v = .int .i64 l[j]:=by
 rw[Uan] at h
 obtain⟨y,hy,rfl⟩:=UaF.1 h
 obtain⟨hj,rfl⟩:=Uac.1 hy
 exact⟨hj,rfl⟩
def VG(l:List Int)(i:Nat)(x:Int):List Int:=l.take i++x::l.drop i
theorem ZiU{l:List Int}{i:Nat}{x:Int}(h:i<=l.length):(VG l i x).length=l.length+1:=by
 simp [VG];omega
theorem Zbz{l:List Int}{i:Nat}{x:Int}(h:i<=l.length)(j:Nat):(VG l i x)[j]? = if j<i then l[j]? else if j=i then some x else l[j-1]?:=by
 have hl:(l.take i).length=i:=by rw[Uas];omega
 unfold VG
 by_cases h1:j<i
 ·rw[if_pos h1,Uaq (by omega),Uat,if_pos h1]
 ·rw[if_neg h1,Uao (by omega),hl]
  by_cases h2:j=i
  ·subst h2;simp
  ·rw[if_neg h2,show j-i=(j-1-i)+1 by omega,List.getElem?_cons_succ,UaH]
   congr 1;omega
theorem Zv3{ρ:Go.Shelf.Ren}(L:Go.Proofs.Lays2.n21 P ρ){lvl:Nat}{id id2:Zd}{l:List Int}{u u2:Bool}{hw hw2 ver ver2 i:Nat}{x:Int}(hid:id.1<lvl)(hne:id2≠id)(hS:S id=some (.ar 1 (rI l) u hw ver))(hS2:S id2=some (.ar 1 (rI [x]) u2 hw2 ver2))(hi:i<=l.length)(hl:l.length<=4294967296) :
  Sem P (ρ.f 21) lvl [.hd id [] 0 l.length none hw,iI i,.hd id2 [] 0 1 none hw2] S (.hd id [] 0 (l.length+1) none (max hw (l.length+1))) (Ze S id (.ar 1 (rI (VG l i x)) u (max hw (l.length+1)) (ver+1))):=by
 refine⟨hid,⟨_,L.f21,by kernel_rfl,by kernel_rfl⟩,fun hlow G w vs hok hv _=>?_⟩
 simp only[Zn] at hv
 obtain⟨v0,vr0,rfl,hv0,v1,vr1,rfl,hv1,v2,vr2,rfl,hv2,rfl⟩:=hv
 simp only[VR] at hv0 hv2
 have hv1:v1 = .int .i64 i:=hv1.val.1
 subst hv1
 obtain⟨a,c,rfl,hlc,hhw,h63,hor⟩:=ZiS hok hS hv0
 obtain⟨a2,c2,rfl,hlc2,_,_,hor2⟩:=ZiS (l:=[x]) hok hS2 hv2
 simp only[List.length_singleton] at hlc2
 obtain⟨vb,cells2,ty2,hG2,rfl,hh2,hsz2,hcell2⟩:=hor2.resolve_left (by omega)
 have hx0:cells2[0]? = some (.int .i64 x):=hcell2 0 (by simp)
 have hvs:∀(j:Nat) (v:Value),[Value.int .i64 x][j]? = some v->w.cell? ⟨vb,0+j,none⟩=some v:=fun j v hj=>by
  cases j with
  | zero =>
   simp only[List.getElem?_cons_zero,Uak] at hj
   subst hj
   rw[cell_of_row w vb (0+0) cells2 ty2 (0,0) hh2]
   exact hx0
  | succ j=>simp at hj
 have h1v:∀ v∈[Value.int .i64 x],v.oneCell'=true:=fun v hv=>by simp at hv;subst hv;rfl
 have hL:=ZiU (x:=x) hi
 have done:∀(b' c':Nat) (cells:Array Value) (ty:TypeId) (w':World),(G id []=some (b',c')\/(w.heap.size<=b'/\hw<l.length+1))->w'.heap[b']? = some (.cells cells ty (0,0))->cells.size=c'->l.length+1<=c'->hw<=c'->c'<=9223372036854775807 ->
   (∀ j,j<l.length+1->cells[j]? = (VG l i x)[j]?.map (Value.int .i64))->w.heap.size<=w'.heap.size->(∀ b2,b2<w.heap.size->(∀ c0,G id []≠some (b2,c0))->w'.heap[b2]? = w.heap[b2]?)->w'.os=w.os->w'.tape=w.tape->w'.output=w.output ->
   ∃ v G',Ending.returned (.slice (some ⟨b',0,none⟩) (l.length+1) c') = .returned v/\SOk G' (ZP (Ze S id (.ar 1 (rI (VG l i x)) u (max hw (l.length+1)) (ver+1))) lvl 0 (impv true lvl 0 0 (.hd id [] 0 (l.length+1) none (max hw (l.length+1)))).2) w'/\VR G' (ZP (Ze S id (.ar 1 (rI (VG l i x)) u (max hw (l.length+1)) (ver+1))) lvl 0 (impv true lvl 0 0 (.hd id [] 0 (l.length+1) none (max hw (l.length+1)))).2) w' (impv true lvl 0 0 (.hd id [] 0 (l.length+1) none (max hw (l.length+1)))).1 v /\
    (∀ id' ob,Ze S id (.ar 1 (rI (VG l i x)) u (max hw (l.length+1)) (ver+1)) id'=some ob->id'.1<lvl)/\Frm ⟨G,S,w,lvl,0⟩ G' (ZP (Ze S id (.ar 1 (rI (VG l i x)) u (max hw (l.length+1)) (ver+1))) lvl 0 (impv true lvl 0 0 (.hd id [] 0 (l.length+1) none (max hw (l.length+1)))).2) w':=by
  intro b' c' cells ty w' q1 q2 q3 q4 q5 q6 q7 q8 q9 q10 q11 q12
  obtain⟨G',r1,r2,r3⟩:=Zv2 (lvl:=lvl) (l2:=VG l i x) hok hS (by rw[hL];exact q1) q2 q3 (by rw[hL];exact q4) q5 q6 (fun j hj=>by
   rw[q7 j (by omega),Uaf hj];rfl) q8 q9 q10 q11 q12
  rw[hL] at r1 r2 r3
  refine⟨_,G',rfl,r1,r2,fun id' ob hs=>?_,r3⟩
  unfold Ze at hs
  split at hs
  ·rename_i h;rw[h];exact hid
  ·exact hlow id' ob hs
 by_cases hroom:l.length+1<=c
 ·obtain⟨b,cells,ty,hG,rfl,hh,hsz,hcell⟩:=hor.resolve_left (by omega)
  have hvb:vb≠b:=fun e=>by
   subst e
   exact hne (hok.dis _ _ _ _ vb hS2 hS ⟨[],_,.inl rfl,rfl,hG2⟩ ⟨[],_,.inl rfl,rfl,hG⟩)
  by_cases hin:i=l.length
  ·
   subst hin
   have hr:=Go.Proofs.Any2.slices_Insert_int_end_room L b 0 l.length c vb 0 1 c2 [.int .i64 x] w (by omega) hroom h63 rfl (fun j hj=>by
     rw[cell_of_row w b _ cells ty (0,0) hh,UaK (by omega)];rfl) (fun j hj=>Zby hh) hvs h1v
   refine hr.mono ?_
   rintro e w' ⟨rfl,rfl⟩
   obtain⟨s1,s2,s3,s4,s5,s6⟩:=Un [.int .i64 x] (0+l.length) w cells hh
   refine done b c _ ty _ (.inl hG) s1 (by rw[XP];exact hsz) hroom hhw h63 (fun j hj=>?_) (by omega) (fun b2 h2 hn=>s2 b2 (fun e=>hn c (by rw[e];exact hG))) s4 s5 s6
   rw[Um _ _ _ _ (by simp;omega),Zbz (Uag _)]
   by_cases hj2:j<l.length
   ·rw[if_neg (by simp;omega),if_pos hj2,hcell j hj2,Uaf hj2];rfl
   ·have:j=l.length:=by omega
    subst this
    rw[if_pos (by simp),if_neg (by omega),if_pos rfl]
    simp
  ·
   have hr:=Go.Proofs.Any2.slices_Insert_int_shift L b 0 l.length c i vb 0 1 c2 (l.map (Value.int .i64)) [.int .i64 x] w (by omega) (by omega) hroom h63 hvb (by simp) rfl (fun j v hj=>by
     obtain⟨hj1,rfl⟩:=Zep hj
     rw[cell_of_row w b _ cells ty (0,0) hh,Uap];exact hcell j hj1)
    (fun j hj=>by rw[cell_of_row w b _ cells ty (0,0) hh,UaK (by omega)];rfl) (fun j hj=>Zby hh) hvs ZiT h1v _ _ _ _ (ZiR hh2) (ZiR hh) (by omega) (Zby hh2) (Zby hh2)
   refine hr.mono ?_
   rintro e w' ⟨rfl,rfl⟩
   obtain⟨s1,s2,s3,s4,s5,s6⟩:=Un ((l.map (Value.int .i64)).drop i) (0+(i+1)) w.drew cells hh
   obtain⟨t1,t2,t3,t4,t5,t6⟩:=Un [.int .i64 x] (0+i) _ _ s1
   have hdl:((l.map (Value.int .i64)).drop i).length=l.length-i:=by simp
   refine done b c _ ty _ (.inl hG) t1 (by rw[XP,XP];exact hsz) hroom hhw h63 (fun j hj=>?_) (by rw[t3,s3];exact Uag _) (fun b2 h2 hn=>(t2 b2 (fun e=>hn c (by rw[e];exact hG))).trans (s2 b2 (fun e=>hn c (by rw[e];exact hG)))) (t4.trans s4) (t5.trans s5) (t6.trans s6)
   rw[Um _ _ _ _ (by rw[XP];simp;omega),Um _ _ _ _ (by rw[hdl];omega),Zbz hi,hdl]
   simp only[List.length_singleton,Uap]
   by_cases h1:j<i
   ·rw[if_neg (by omega),if_neg (by omega),if_pos h1,hcell j (by omega),Uaf (by omega)];rfl
   ·by_cases h2:j=i
    ·subst h2
     rw[if_pos (by omega),if_neg h1,if_pos rfl,Ubm];rfl
    ·rw[if_neg (by omega),if_pos (by omega),if_neg h1,if_neg h2,UaH,Uan]
     congr 2;omega
 ·
  have hgr:c<l.length+1:=by omega
  have hge:=grownCap_ge w (l.length+1) c (ρ.t 3)
  have h63g:=Zai (w:=w) (need:=l.length+1) (old:=c) (e:=ρ.t 3) (by omega)
  by_cases hin:i=l.length
  ·subst hin
   have hr:=Go.Proofs.Any2.slices_Insert_int_end_grow L a l.length c vb 0 1 c2 (l.map (Value.int .i64)) [.int .i64 x] w (by omega) hlc hgr (by omega) (by simp) rfl (fun ha=>by
     rcases hor with h0 | ⟨b,cells,ty,_,h0,_⟩
     ·omega
     ·rw[ha] at h0;cases h0)
    (fun a1 ha j v hj=>by
     obtain⟨hj1,rfl⟩:=Zep hj
     rcases hor with h0 | ⟨b,cells,ty,hG,h0,hh,hsz,hcell⟩
     ·omega
     ·rw[ha] at h0;cases h0
      rw[Addr.add_lit,cell_of_row w b _ cells ty (0,0) hh,Uap];exact hcell j hj1) hvs h1v
   refine hr.mono ?_
   rintro e w' ⟨rfl,rfl⟩
   refine done w.heap.size _ _ (ρ.t 3) _ (.inr ⟨Uag _,by omega⟩) (heap_alloc_new w.drew _) (by simp [size_zeroCells,Value.cells];omega) hge (by omega) h63g (fun j hj=>?_) (by simp) (fun b2 h2 _=>(Ext.alloc w.drew _).heap b2 h2) rfl rfl rfl
   rw[UaD (by simp;omega),Zbz (Uag _),Ubf]
   by_cases hj2:j<l.length
   ·rw[Uaq (by simpa using hj2),if_pos hj2,Uan]
   ·have:j=l.length:=by omega
    subst this
    rw[Uao (by simp),if_neg (by omega),if_pos rfl]
    simp
  ·obtain⟨b,cells,ty,hG,rfl,hh,hsz,hcell⟩:=hor.resolve_left (by omega)
   have hr:=Go.Proofs.Any2.slices_Insert_int_grow L b 0 l.length c i vb 0 1 c2 (l.map (Value.int .i64)) [.int .i64 x] w (by omega) (by omega) hlc hgr (by omega) (by simp) rfl (fun j v hj=>by
     obtain⟨hj1,rfl⟩:=Zep hj
     rw[cell_of_row w b _ cells ty (0,0) hh,Uap];exact hcell j hj1) hvs ZiT h1v
   refine hr.mono ?_
   rintro e w' ⟨rfl,rfl⟩
   obtain⟨cs0,hcs0⟩:∃ cs0,cs0=(((l.map (Value.int .i64)).take i).toArray++Builtin.zeroCells (Value.int .i64 0).cells (l.length+1-i)++Builtin.zeroCells (Value.int .i64 0).cells (grownCap w (l.length+1) c (ρ.t 3)-(l.length+1))):=⟨_,rfl⟩
   rw[<-hcs0]
   have hs0:cs0.size=grownCap w (l.length+1) c (ρ.t 3):=by rw[hcs0];simp [size_zeroCells,Value.cells];omega
   obtain⟨s1,s2,s3,s4,s5,s6⟩:=Un [.int .i64 x] i (w.alloc (.cells cs0 (ρ.t 3))).drew cs0 (heap_alloc_new w _)
   obtain⟨t1,t2,t3,t4,t5,t6⟩:=Un ((l.map (Value.int .i64)).drop i) (i+1) (((w.alloc (.cells cs0 (ρ.t 3))).drew.setCells w.heap.size i [.int .i64 x]).drew) _ s1
   have hdl:((l.map (Value.int .i64)).drop i).length=l.length-i:=by simp
   have e3:(w.alloc (.cells cs0 (ρ.t 3))).drew.heap.size=w.heap.size+1:=by simp [World.drew]
   refine done w.heap.size _ _ (ρ.t 3) _ (.inr ⟨Uag _,by omega⟩) t1 (by rw[XP,XP];exact hs0) hge (by omega) h63g (fun j hj=>?_) ?_ (fun b2 h2 _=>(t2 b2 (by omega)).trans ((s2 b2 (by omega)).trans ((Ext.alloc w _).heap b2 h2))) (t4.trans s4) (t5.trans s5) (t6.trans s6)
   ·rw[Um _ _ _ _ (by rw[XP,hdl];omega),Um _ _ _ _ (by simp;omega),Zbz hi,hdl]
    simp only[List.length_singleton]
    by_cases h1:j<i
    ·rw[if_neg (by omega),if_neg (by omega),if_pos h1,hcs0,UaD (by simp [size_zeroCells];omega),UaD (by simp;omega),Ubf,Uat,if_pos h1,Uan]
    ·by_cases h2:j=i
     ·subst h2
      rw[if_neg (by omega),if_pos (by omega),if_neg h1,if_pos rfl,Ubm];rfl
     ·rw[if_pos (by omega),if_neg h1,if_neg h2,UaH,Uan]
      congr 2;omega
   ·have e4:∀ W:World,W.drew.heap.size=W.heap.size:=fun _=>rfl
    rw[t3,e4,s3,e3];omega
end
end Go.Fd

namespace Go.Fd
open Go.Proofs.Tryz renaming prog->UbR
set_option maxRecDepth 20000
theorem Dz(sig:List TControl)(s s0:TSorting)(b:TBigraph)(l:Int)(h2:two sig s0 b)(q1:s.sorts=s0.sorts)(q2:s.most.length=s0.most.length)(lvl:Nat)(S:Zc):Sem UbR Za9 lvl [.ag ((ZJ s).map .tr),.ag ((Zk b).map .tr),iI l] S (.ow 1 (rI (VF s0 b l)) true) S:=by
 have hsm:=h2.big.small
 have hmany:=h2.srt.many
 refine Zv ZuU trivial ?_
 simp only[ZhP,ZJ,Zk,q1,q2,Uab,Zb,seval,Za,men]
 refine⟨by omega,?_⟩
 refine Zi (ZvR b l (by have:=hsm.nodes;omega) hsm.links) ?_
 simp only[Uab,Zb,seval,Za,men]
 refine Ja (α:=Unit) (ports b l).length (fun j _=>[(9,iI j)]) (fun j _=>[(448,.ar 1 (rI (Xe s0 b ((ports b l).take j))) true s0.most.length 0)]) (fun _ _=>True) () (by simp only[Zb,seval,Za,men]) (by (simp only[Zbn,Zb,seval,Za,men]) <;> rfl) trivial ?_
 intro j _ hj _
 simp only[Uab,Zb,seval,Za,men]
 refine Zl (fun hlt=>?_) (fun hge=>?_)
 ·have hja:j<(ports b l).length:=by omega
  obtain⟨i,m,c,q,hi,hc,e1,e2,hm,e3,hq,e4⟩:=h2.port (Ual hja)
  have gp:=ZY (c:=VE) hja
  rw[e1] at gp
  have gn:=ZY (c:=ZH) hi
  have gs:=ZY (c:=Zs) hc
  have gm:=JE hm
  have hbn:=Dx s0 b ((ports b l).take j)
  have hq2:q<(Xe s0 b ((ports b l).take j)).length:=by rw[hbn.len];exact hq
  have gq:=JE hq2
  have hg:=hbn.g (by omega) q
  have hl8:=Zeo hsm l
  rw[Uas] at hg
  simp only[gp,VE,gn,ZH,e2,gs,gm,e3,gq,hq,Int.toNat_natCast,Uah,Uab,isSc,Zb,seval,Za,men]
  refine⟨by rw[Zh];omega,by rw[Zh];omega,Zr () hja ?_ trivial⟩
  rw[Wq hq2,ZiM hja,e4]
  rfl
 ·have:j=(ports b l).length:=by omega
  subst this
  rw[Uaz]
  refine⟨(Dx s0 b (ports b l)).len.symm,?_⟩
  rfl
theorem Zv4(sig:List TControl)(s s0:TSorting)(b:TBigraph)(l:Int)(h2:two sig s0 b)(q1:s.sorts=s0.sorts)(q2:s.most.length=s0.most.length)(lvl:Nat)(S:Zc):Sem UbR Zdq lvl [.ag ((ZJ s).map .tr),.ag ((Zk b).map .tr),iI l] S (.ow 1 (rI (VF s0 b l)) true) S:=by
 have hsm:=h2.big.small
 have hmany:=h2.srt.many
 refine Zv ZuL trivial ?_
 simp only[ZhE,ZJ,Zk,q1,q2,Uab,Zb,seval,Za,men]
 refine⟨by omega,?_⟩
 refine Zi (ZvS b l (by have:=hsm.nodes;omega) hsm.links (by have:=hsm.inner;omega)) ?_
 simp only[Uab,Zb,seval,Za,men]
 refine Ja (α:=Unit) (ports b l).length (fun j _=>[(24,iI j)]) (fun j _=>[(480,.ar 1 (rI (Xe s0 b ((ports b l).take j))) true s0.most.length 0)]) (fun _ _=>True) () (by simp only[Zb,seval,Za,men]) (by (simp only[Zbn,Zb,seval,Za,men]) <;> rfl) trivial ?_
 intro j _ hj _
 simp only[Uab,Zb,seval,Za,men]
 refine Zl (fun hlt=>?_) (fun hge=>?_)
 ·have hja:j<(ports b l).length:=by omega
  obtain⟨i,m,c,q,hi,hc,e1,e2,hm,e3,hq,e4⟩:=h2.port (Ual hja)
  have gp:=ZY (c:=VE) hja
  rw[e1] at gp
  have gn:=ZY (c:=ZH) hi
  have gs:=ZY (c:=Zs) hc
  have gm:=JE hm
  have hbn:=Dx s0 b ((ports b l).take j)
  have hq2:q<(Xe s0 b ((ports b l).take j)).length:=by rw[hbn.len];exact hq
  have gq:=JE hq2
  have hg:=hbn.g (by omega) q
  have hl8:=Zeo hsm l
  rw[Uas] at hg
  simp only[gp,VE,gn,ZH,e2,gs,gm,e3,gq,hq,Int.toNat_natCast,Uah,Uab,isSc,Zb,seval,Za,men]
  refine⟨by rw[Zh];omega,by rw[Zh];omega,Zr () hja ?_ trivial⟩
  rw[Wq hq2,ZiM hja,e4]
  rfl
 ·have:j=(ports b l).length:=by omega
  subst this
  rw[Uaz]
  refine⟨(Dx s0 b (ports b l)).len.symm,?_⟩
  rfl
theorem ZiV{C:ZD}{env:List (Nat×IV)}{loc:List (Nat×Ob)}{out:Zc}{d:Option Nat}{K:St->Prop}{fid:FuncId}{imp:Bool}{lvl:Nat}{args:List IV}{r:IV}(key:Nat)(o:Ob)(h:C fid (lvl+1) args (Zy lvl loc out) r (Ze (Zy lvl loc out) (lvl,key) o))
  (hk:freshK (keyOf d) (ptO key o loc) (impv imp lvl (keyOf d) 0 r).2.length/\K ⟨lvl,ptd d (impv imp lvl (keyOf d) 0 r).1 env,addO (keyOf d) (impv imp lvl (keyOf d) 0 r).2 (ptO key o loc),out⟩):QB C fid imp lvl env loc out d K args :=
 W3 (ptO key o loc) out (fun _ _=>rfl) (by rw[Q9];exact h) hk
def DA(l:List Int):Prop:=∀ a b,a<b->b<l.length->g0 l a<g0 l b
theorem Zv5(n:Int)(lvl:Nat)(S:Zc):Sem UbR Zbh lvl [iI n] S (iB false) S:=by
 refine Zv Zvf trivial ?_
 simp only[Zh9,Zb,seval,Za,men]
 try simp
theorem Zv6(a b:Int)(lvl:Nat)(S:Zc):Sem UbR Zd3 lvl [iI a,iI b] S (iB (decide (a<b))) S:=by
 refine Zv Zve trivial ?_
 simp only[Zh8,Zb,seval,Za,men]
 refine Zi (Zef a) ?_
 simp only[Zb,seval,Za,men]
def XQ(n:Int)(l:List Int):Nat:=(l.takeWhile fun x=>decide (x<n)).length
theorem ZiW(l:List Int)(n:Int)(hl:l.length<=4294967296)(hA:DA l)(lvl:Nat)(S:Zc):Sem UbR ZdR lvl [tI l,iI n] S (.tu [iI (XQ n l),iB (dc (n∈l))]) S:=by
 refine Zv Zu8 (by simp [low,men,Za]) ?_
 simp only[Zh2,Uab,Zb,seval,Za,men]
 refine ZtQ (α:=Nat×Nat) (fun x=>x.2-x.1) (fun x=>[(7,iI x.1),(8,iI x.2)]) (fun _=>[]) (fun x=>x.1<=x.2/\x.2<=l.length/\(∀ k,k<x.1->g0 l k<n)/\(∀ k,x.2<=k->k<l.length -> ¬ g0 l k<n)) (0,l.length) (by simp only[Zb,seval,Za,men]) (by (simp only[Zb,seval,Za,men]) <;> rfl) ⟨by omega,by omega,fun k h=>absurd h (UaE k),fun k h1 h2=>by omega⟩ ?_
 intro ⟨i,j⟩ ⟨h1,h2,h3,h4⟩
 dsimp only at h1 h2 h3 h4
 simp only[Uab,Zb,seval,Za,men]
 refine Zl (fun hlt=>?_) (fun hge=>?_)
 ·have hij:i<j:=by omega
  obtain⟨m,hm⟩:∃ m:Nat,m=(i+j) / 2:=⟨_,rfl⟩
  have e1:((i:Int)+(j:Int)).fdiv (2 ^ min 1 IntKind.u64.bits)=(m:Int):=by
   rw[show min 1 IntKind.u64.bits=1 by decide,Int.fdiv_eq_ediv_of_nonneg _ (by decide)]
   omega
  have hml:m<l.length:=by omega
  have ga:=JE hml
  have hm0:((m:Nat):Int).toNat=m:=by omega
  simp only[e1,ga,hml,hm0,Uab,Zb,seval,Za,men]
  refine⟨by rw[Zh];omega,by simp only[Jq,IntKind.min,IntKind.max,IntKind.signed,IntKind.bits];omega,by rw[Zh];omega,?_⟩
  refine Zi (Zv6 (g0 l m) n) ?_
  simp only[Zb,seval,Za,men]
  refine Zl (fun hlt2=>?_) (fun hge2=>?_)
  ·refine⟨by rw[Zh];omega,(m+1,j),by dsimp only;omega,rfl,by dsimp only;omega,by dsimp only;omega,fun k hk=>?_,fun k hk1 hk2=>h4 k hk1 hk2⟩
   dsimp only at hk
   by_cases e:k=m
   ·subst e;exact hlt2
   ·have:=hA k m (by omega) (by omega)
    omega
  ·refine⟨(i,m),by dsimp only;omega,rfl,by dsimp only;omega,by dsimp only;omega,fun k hk=>h3 k hk,fun k hk1 hk2=>?_⟩
   dsimp only at hk1
   by_cases e:k=m
   ·subst e;exact hge2
   ·have:=hA m k (by omega) (by omega)
    omega
 ·have hij:i=j:=by omega
  subst hij
  have hps:XQ n l=i:=by
   unfold XQ
   rw[(Dy h3 h2 (fun h=>h4 i (Uag _) h)).1,Uas]
   omega
  have hmem:n∈l↔i<l.length/\g0 l i=n:=by
   constructor
   ·intro hn
    obtain⟨k,hk,hkn⟩:=UaU hn
    have hg:g0 l k=n:=by simp [hk,hkn]
    have hik:i<=k:=by
     by_cases hh:k<i
     ·have:=h3 k hh;omega
     ·omega
    by_cases e:k=i
    ·subst e;exact⟨hk,hg⟩
    ·have h5:=h4 i (Uag _) (by omega)
     have h6:=hA i k (by omega) hk
     omega
   ·rintro⟨h,rfl⟩
    simp [h]
  rw[hps]
  by_cases hil:i<l.length
  ·have ga:=JE hil
   have h5:(i:Int)<l.length:=by omega
   by_cases he:g0 l i=n
   ·rw[Ye (hmem.2 ⟨hil,he⟩)]
    simp only[h5,ga,hil,he,Uab,Zb,seval,Za,men]
   ·rw[ZN fun h=>he (hmem.1 h).2]
    simp only[h5,ga,hil,he,Uab,Zb,seval,Za,men]
    refine Zi (Zv5 (g0 l i)) ?_
    simp only[Zb,seval,Za,men]
  ·have h5:¬ (i:Int)<l.length:=by omega
   rw[ZN fun h=>hil (hmem.1 h).1]
   simp only[h5,Uab,Zb,seval,Za,men]
theorem ZiX{n:Int}{l:List Int}(hA:DA l)(h:n∈l):Jp n l=l:=by
 obtain⟨k,hk,hkn⟩:=UaU h
 have hg:g0 l k=n:=by simp [hk,hkn]
 unfold Jp
 rw[if_pos]
 rw[(Dy (j:=k) (fun m hm=>by have:=hA m k hm hk;omega) (by omega) (fun _=>by omega)).2,List.head?_drop,Uaf hk,hkn]
theorem Zv7{n:Int}{l:List Int}(h:n ∉ l):Jp n l=VG l (XQ n l) n:=by
 unfold Jp
 rw[if_neg]
 ·unfold VG XQ
  rw[<-List.takeWhile_append_dropWhile (p:=fun x=>decide (x<n)) (l:=l)]
  have e:=List.takeWhile_append_dropWhile (p:=fun x=>decide (x<n)) (l:=l)
  rw[e]
  have h1:l.take (l.takeWhile fun x=>decide (x<n)).length=l.takeWhile fun x=>decide (x<n):=by
   conv=>lhs;arg 2;rw[<-e]
   exact List.take_left ..
  have h2:l.drop (l.takeWhile fun x=>decide (x<n)).length=l.dropWhile fun x=>decide (x<n):=by
   conv=>lhs;arg 2;rw[<-e]
   exact List.drop_left ..
  rw[h1,h2]
 ·intro e
  have:=List.mem_of_mem_head? e
  exact h ((List.dropWhile_sublist _).subset this)
theorem Zv8{n:Int}{l:List Int}:XQ n l<=l.length:=(List.takeWhile_sublist _).length_le
theorem ZiY(l:List Int)(n:Int)(hl:l.length<=4294967290)(hA:DA l)(hm:n∈l)(lvl:Nat)(S:Zc)(id:Zd)(p:Zf)(k st hw ver:Nat)(es:Row)(u:Bool)(hid:id.1<lvl)(hS:S id=some (.ar k es u hw ver))(hg:getp es p=some (rI l))(hst:JF p st hw ver u) :
  Sem UbR Dg lvl [.hd id p 0 l.length none st,iI n] S (.hd id p 0 l.length none st) S:=by
 have hne:id.1≠lvl:=by omega
 have hst':=eq_true hst
 refine Zv ZhD hid ?_
 simp only[Zd9,ZE hne,hS,hg,hst',Zb,seval,Za,men]
 rw[show cut (rI l) 0 l.length=rI l from Z7 (by rw[Uab])]
 refine Zi (ZiW l n (by omega) hA) ?_
 rw[Ye hm]
 simp only[Yh hne,Zb,seval,Za,men]
theorem ZiZ(l:List Int)(n:Int)(hl:l.length<=4294967290)(hA:DA l)(hm:n ∉ l)(lvl:Nat)(S:Zc)(id:Zd)(p:Zf)(k st hw ver:Nat)(es:Row)(u:Bool)(hid:id.1<lvl)(hS:S id=some (.ar k es u hw ver))(hg:getp es p=some (rI l))(hst:JF p st hw ver u) :
  Sem UbR Dg lvl [.hd id p 0 l.length none st,iI n] S (.ow 1 (rI (Jp n l)) true) S:=by
 have hne:id.1≠lvl:=by omega
 have hst':=eq_true hst
 refine Zv ZhD trivial ?_
 simp only[Zd9,ZE hne,hS,hg,hst',Zb,seval,Za,men]
 rw[show cut (rI l) 0 l.length=rI l from Z7 (by rw[Uab])]
 refine Zi (ZiW l n (by omega) hA) ?_
 rw[ZN hm]
 simp only[ZE hne,hS,hg,hst',Zb,seval,Za,men]
 rw[show cut (rI l) 0 l.length=rI l from Z7 (by rw[Uab])]
 refine Zi (ZiN l (by omega)) ?_
 simp only[Zb,seval,Za,men]
 have hp:=Zv8 (n:=n) (l:=l)
 have h1:=fun S' hS1 hS2=>Zv3 (P:=UbR) Proofs.Tryz.lays21 (lvl:=lvl+1) (S:=S') (id:=(lvl,512)) (id2:=(lvl,608)) (l:=l) (u:=true) (u2:=true) (hw:=l.length) (hw2:=1) (ver:=0) (ver2:=0) (i:=XQ n l) (x:=n) (Uav _) (by simp) hS1 hS2 hp (by omega)
 refine ZiV 512 _ (h1 _ ?_ ?_) ?_
 ·rw[Z8];rfl
 ·rw[Z8];rfl
 have hL:=ZiU (l:=l) (i:=XQ n l) (x:=n) hp
 simp only[hL,Uab,Zb,seval,Za,men]
 rw[Zv7 hm]
end Go.Fd
