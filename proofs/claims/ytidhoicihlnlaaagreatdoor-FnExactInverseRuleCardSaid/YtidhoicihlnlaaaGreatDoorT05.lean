/-
  The annotated codes of the functions, printed by a program of mine (gen.py), and the check that they belong to the program.
-/
import Derived.Test.YtidhoicihlnlaaaGreatDoorT04
import Derived.KernelRfl
import Derived.Shelf.Sort.AssemblysIn
import Derived.Shelf.Strings.SlTrimAscii
import Derived.Test.YtidhoicihlnlaaaGreatDoorProg
import Derived.Sort.Row
import Derived.Sort.Grow
import Derived.Shelf.GgSortFunc.InsertionK
import Derived.Shelf.SlSortCmp.WholeK
import Derived.Shelf.Sort.Plain
import Derived.Shelf.Sort.AssemblyIn
set_option linter.all false
namespace Go.Fd
def Zap:F2 :=
 { nt:=16,res:=[.t 6 [0]],body:=(.sq (rg [oo 3 (.bt (.t 0)),om 6 (i6 0)]) (.sq (.sq (rg [qM 7 1,qF 8 3 3,qL 9 8,qB 10 .geq 7 9]) (.cd (.t 10) (.sq (rg [qM 11 1,qM 6 11]) (.rt)) (.sk))) (.sq (rg [qM 12 2,qM 13 1,qI 14 1 12 13,qL 15 14,qM 6 15]) (.rt)))) }
theorem ZeA:ZX Proofs.Tryz.prog VT Zap=true:=by kernel_rfl
def Dp:F2 :=
 { nt:=12,res:=[.t 4 [0]],body:=(.sq (rg [om 4 (i6 0)]) (.sq (.sq (rg [qM 5 0,oo 6 (.bi .lss 0 (.t 5) (i6 0))]) (.cd (.t 6) (.sq (rg [qM 7 0,qM 4 7]) (.rt)) (.sk))) (.sq (rg [qM 8 1,qM 9 0,qI 10 1 8 9,qL 11 10,qM 4 11]) (.rt)))) }
theorem Zdu:ZX Proofs.Tryz.prog VA Dp=true:=by kernel_rfl
def Wj:F2 :=
 { nt:=101,res:=[.t 4 [0]],body:=(.sq (rg [oo 2 (.bt (.t 0)),oo 3 (.bt (.t 1)),om 4 (.k (.bool false))]) (.sq (.sq (rg [qL 7 2,oo 8 (.ca .pure false (.f YD) [.t 7]),oo 9 (.nt (.t 8)),qM 10 9,og 11 10 false (.fa 0 (.t 3)),og 12 10 false (.ld none (.t 11)),og 13 10 false (.ca .pure false (.f ZK) [.t 12,i6 0,i6 4]),og 14 10 false (.nt (.t 13)),oo 15 (.pk (.t 10) (.k (.bool true)) (.t 14)),qM 16 15,og 17 16 false (.fa 1 (.t 3)),og 18 16 false (.ld none (.t 17)),og 19 16 false (.ln (.t 18)),og 20 16 false (.bi .gtr 0 (.t 19) (i6 8)),oo 21 (.pk (.t 16) (.k (.bool true)) (.t 20)),qM 22 21,og 23 22 false (.fa 2 (.t 3)),og 24 22 false (.ld none (.t 23)),og 25 22 false (.ln (.t 24)),og 26 22 false (.bi .gtr 0 (.t 25) (i6 4)),oo 27 (.pk (.t 22) (.k (.bool true)) (.t 26)),qM 28 27,og 29 28 false (.fa 3 (.t 3)),og 30 28 false (.ld none (.t 29)),og 31 28 false (.ca .pure false (.f ZK) [.t 30,i6 0,i6 8]),og 32 28 false (.nt (.t 31)),oo 33 (.pk (.t 28) (.k (.bool true)) (.t 32)),qM 34 33,og 35 34 false (.fa 4 (.t 3)),og 36 34 false (.ld none (.t 35)),og 37 34 false (.ca .pure false (.f Yv) [.t 36]),og 38 34 false (.nt (.t 37)),oo 39 (.pk (.t 34) (.k (.bool true)) (.t 38)),qM 40 39,og 41 40 false (.ld (some 6) (.t 3)),og 42 40 false (.ca .pure false (.f Jq) [.t 41]),og 43 40 false (.ca .pure false (.f Yv) [.t 42]),og 44 40 false (.nt (.t 43)),oo 45 (.pk (.t 40) (.k (.bool true)) (.t 44))]) (.cd (.t 45) (.sq (rg [om 4 (.k (.bool false))]) (.rt)) (.sk))) (.sq (.sq (rg [qF 46 1 3,qL 47 46,qN 48 47,om 49 (i6 0)]) (.bl 0 (.lp [2,3,47,48,49] [] (.sq (rg [qB 50 .lss 49 48]) (.sq (.cd (.t 50) (.sk) (.ex 0)) (.sq (.bl 1 (.sq (rg [qM 51 49,qI 52 3 47 49,qS 53 3 52,oo 6 (.al [.int .i64 0,.int .i64 0,.slice none 0 0] []),qM 5 51,on1 (.st 3 (.t 6) (.t 53))]) (.sq (.rg (some 0) [qF 54 0 6,qL 55 54,qL 56 2,qN 57 56,oo 58 (.bi .sub 0 (.t 57) (i6 1)),oo 59 (.ca .pure false (.f ZK) [.t 55,i6 0,.t 58]),oo 60 (.nt (.t 59)),qM 61 60,og 62 61 false (.ld (some 6) (.t 3)),og 63 61 false (.ld none (.t 2)),og 64 61 false (.fa 1 (.t 6)),og 65 61 false (.ld none (.t 64)),og 66 61 false (.mv (.t 5) none),og 67 61 false (.ca .pure false (.f Jf) [.t 62,.t 63,.t 65,.t 66]),og 68 61 false (.nt (.t 67)),oo 69 (.pk (.t 61) (.k (.bool true)) (.t 68)),qM 70 69,og 71 70 false (.fa 2 (.t 6)),og 72 70 false (.ld none (.t 71)),og 73 70 false (.ln (.t 72)),og 74 70 false (.ld none (.t 2)),og 75 70 false (.fa 0 (.t 6)),og 76 70 false (.ld none (.t 75)),og 77 70 false (.ia 3 (.t 74) (.t 76)),og 78 70 false (.fa 1 (.t 77)),og 79 70 false (.ld none (.t 78)),og 80 70 false (.bi .neq 0 (.t 73) (.t 79)),oo 81 (.pk (.t 70) (.k (.bool true)) (.t 80)),qM 82 81,og 83 82 false (.fa 2 (.t 6)),og 84 82 false (.ld none (.t 83)),og 85 82 false (.mf YG [.t 3]),og 86 82 false (.ca .pure false (.f ZM) [.t 84,.t 85]),oo 87 (.pk (.t 82) (.k (.bool true)) (.t 86))]) (.cd (.t 87) (.sq (rg [om 4 (.k (.bool false))]) (.rt)) (.sk)))))
 (rg [oo 88 (.bi .add 0 (.t 49) (i6 1)),qM 49 88]))))))) (.sq (rg [qF 89 2 3,qL 90 89,oo 91 (.mf YH [.t 3,.t 2]),oo 92 (.ca .pure false (.f ZM) [.t 90,.t 91]),oo 93 (.nt (.t 92)),qM 94 93,og 95 94 true (.fa 5 (.t 3)),og 96 94 true (.ld none (.t 95)),og 97 94 true (.mf YI [.t 3]),og 98 94 true (.ca .pure false (.f Z8) [.t 96,.t 97]),og 99 94 true (.nt (.t 98)),oo 100 (.pk (.t 94) (.t 99) (.k (.bool false))),qM 4 100]) (.rt))))) }
theorem Zay:ZX Proofs.Tryz.prog J7 Wj=true:=by kernel_rfl
def VC:F2 :=
 { nt:=62,res:=[.t 4 [3],.t 5 [2]],body:=(.sq (rg [oo 2 (.bt (.t 0)),om 4 (.k (.slice none 0 0)),om 5 (.k (.slice none 0 0))]) (.sq (rg [oo 14 (.bs 2 0 [] []),oo 15 (.bs 1 0 [] []),qM 6 14,qM 7 15]) (.sq (.sq (rg [qF 16 1 2,qL 17 16,qN 18 17,om 19 (i6 0)]) (.bl 0 (.lp [1,2,6,7,17,18,19] [448,480,1280,1856] (.sq (rg [qB 20 .lss 19 18]) (.sq (.cd (.t 20) (.sk) (.ex 0)) (.sq (.bl 1 (.sq (rg [qM 21 19,qI 22 3 17 19,qS 23 3 22,oo 9 (.al [.int .i64 0,.int .i64 0,.slice none 0 0] []),qM 8 21,on1 (.st 3 (.t 9) (.t 23))]) (.sq (rg [qF 24 2 9,qL 25 24,qN 26 25,om 27 (i6 0)]) (.bl 2 (.lp [1,2,6,7,8,17,18,19,25,26,27] [288,448,480,1280,1856] (.sq (rg [qB 28 .lss 27 26]) (.sq (.cd (.t 28) (.sk) (.ex 2)) (.sq (.bl 3 (.sq (rg [qM 29 27,qI 30 1 25 27,qL 31 30,qM 10 29,qM 11 31]) (.sq (rg [qM 32 11,qM 33 1,qB 34 .eql 32 33]) (.cd (.t 34) (rg [qM 35 6,qM 36 8,qM 37 10,oo 38 (.bd [.int .i64 0,.int .i64 0] [(0,1,.t 36),(1,1,.t 37)] []),oo 39 (.bs 2 1 [.int .i64 0,.int .i64 0] [(0,.t 38)]),oo 40 (.ap 2 0 (.t 35) (.t 39)),qM 6 40]) (.sk)))))
 (rg [oo 41 (.bi .add 0 (.t 27) (i6 1)),qM 27 41])))))))))
 (rg [oo 42 (.bi .add 0 (.t 19) (i6 1)),qM 19 42]))))))) (.sq (.sq (rg [qF 43 5 2,qL 44 43,qN 45 44,om 46 (i6 0)]) (.bl 4 (.lp [1,6,7,44,45,46] [448,480,1280,1856] (.sq (rg [qB 47 .lss 46 45]) (.sq (.cd (.t 47) (.sk) (.ex 4)) (.sq (.bl 5 (.sq (rg [qI 48 2 44 46,qS 49 2 48,oo 13 (.al [.string ⟨#[]⟩,.int .i64 0] []),on1 (.st 2 (.t 13) (.t 49))]) (.sq (rg [qF 50 1 13,qL 51 50,qM 52 1,qB 53 .eql 51 52]) (.cd (.t 53) (rg [qM 54 7,qF 55 0 13,qL 56 55,oo 57 (.bs 1 1 [.string ⟨#[]⟩] [(0,.t 56)]),oo 58 (.ap 1 0 (.t 54) (.t 57)),qM 7 58]) (.sk)))))
 (rg [oo 59 (.bi .add 0 (.t 46) (i6 1)),qM 46 59]))))))) (.sq (rg [qM 60 6,qM 61 7,qM 4 60,qM 5 61]) (.rt)))))) }
theorem X3:ZX Proofs.Tryz.prog Jx VC=true:=by kernel_rfl
def Ym:F2 :=
 { nt:=134,res:=[],body:=(.sq (rg [om 8 (.k (.bool true))]) (.sq (rg [om 9 (.k (.bool true))]) (.bl 0 (.lp [0,1,2,3,8,9] [] (.bl 1 (.sq (rg [qM 19 2,qM 20 1,qB 21 .sub 19 20,qM 10 21]) (.sq (.sq (rg [qM 22 10,oo 23 (.bi .leq 0 (.t 22) (i6 12))]) (.cd (.t 23) (.sq (rg [qM 24 0,qM 25 1,qM 26 2,oo 27 (.ca .any false (.f Z2) [.t 24,.t 25,.t 26])]) (.rt)) (.sk))) (.sq (.sq (rg [qM 28 3,oo 29 (.bi .eql 0 (.t 28) (i6 0))]) (.cd (.t 29) (.sq (rg [qM 30 0,qM 31 1,qM 32 2,oo 33 (.ca .pure false (.f V2) [.t 30,.t 31,.t 32])]) (.rt)) (.sk))) (.sq (.sq (rg [qM 34 8,oo 35 (.nt (.t 34))]) (.cd (.t 35) (.sq (rg [qM 36 0,qM 37 1,qM 38 2,oo 39 (.ca .pure false (.f Y6) [.t 36,.t 37,.t 38])])
 (rg [qM 40 3,oo 41 (.bi .sub 0 (.t 40) (i6 1)),qM 3 41])) (.sk))) (.sq (rg [qM 43 0,qM 44 1,qM 45 2,oo 46 (.ca .pure false (.f VB) [.t 43,.t 44,.t 45]),qM 42 46,qE 47 0 42,qE 48 1 42,qM 11 47,qM 12 48]) (.sq (.sq (rg [qM 49 12,oo 50 (.bi .eql 0 (.t 49) (i6 2))]) (.cd (.t 50) (.sq (rg [qM 51 0,qM 52 1,qM 53 2,oo 54 (.ca .pure false (.f Vc) [.t 51,.t 52,.t 53])]) (.sq (rg [qM 55 2,oo 56 (.bi .sub 0 (.t 55) (i6 1)),qM 57 11,qM 58 1,qB 59 .sub 57 58,qB 60 .sub 56 59,qM 11 60])
 (rg [om 12 (i6 1)]))) (.sk))) (.sq (.sq (rg [qM 61 8,qM 62 61,og 63 62 true (.mv (.t 9) none),oo 64 (.pk (.t 62) (.t 63) (.k (.bool false))),qM 65 64,og 66 65 true (.mv (.t 12) none),og 67 65 true (.bi .eql 0 (.t 66) (i6 1)),oo 68 (.pk (.t 65) (.t 67) (.k (.bool false)))]) (.cd (.t 68) (.sq (rg [qM 69 0,qM 70 1,qM 71 2,oo 72 (.ca .pure false (.f JT) [.t 69,.t 70,.t 71])]) (.cd (.t 72) (.rt) (.sk))) (.sk))) (.sq (.sq (.rg (some 0) [qM 73 1,oo 74 (.bi .gtr 0 (.t 73) (i6 0)),qM 75 74,og 76 75 true (.mv (.t 0) none),og 77 75 true (.mv (.t 1) none),og 78 75 true (.bi .sub 0 (.t 77) (i6 1)),og 79 75 true (.ia 1 (.t 76) (.t 78)),og 80 75 true (.ld none (.t 79)),og 81 75 true (.mv (.t 0) none),og 82 75 true (.mv (.t 11) none),og 83 75 true (.ia 1 (.t 81) (.t 82)),og 84 75 true (.ld none (.t 83)),og 85 75 true (.ca .pure false (.f YZ) [.t 80,.t 84]),og 86 75 true (.nt (.t 85)),oo 87 (.pk (.t 75) (.t 86) (.k (.bool false)))]) (.cd (.t 87) (.sq (rg [qM 88 0,qM 89 1,qM 90 2,qM 91 11,oo 92 (.ca .pure false (.f YP) [.t 88,.t 89,.t 90,.t 91]),qM 13 92]) (.sq (rg [qM 93 13,qM 1 93]) (.ex 1))) (.sk))) (.sq (rg [qM 95 0,qM 96 1,qM 97 2,qM 98 11,oo 99 (.ca .pure false (.f VM) [.t 95,.t 96,.t 97,.t 98]),qM 94 99,qE 100 0 94,qE 101 1 94,qM 14 100,qM 15 101]) (.sq (rg [qM 102 15,qM 9 102]) (.sq (rg [qM 103 14,qM 104 1,qB 105 .sub 103 104,qM 106 2,qM 107 14,qB 108 .sub 106 107,qM 16 105,qM 17 108]) (.sq (rg [qM 109 10,oo 110 (.bi .quo 0 (.t 109) (i6 8)),qM 18 110]) (.sq (rg [qM 111 16,qM 112 17,qB 113 .lss 111 112]) (.cd (.t 113) (.sq (rg [qM 114 16,qM 115 18,qB 116 .geq 114 115,qM 8 116]) (.sq (rg [qM 117 0,qM 118 1,qM 119 14,qM 120 3,oo 121 (.ca .any false (.f ZI) [.t 117,.t 118,.t 119,.t 120])])
 (rg [qM 122 14,oo 123 (.bi .add 0 (.t 122) (i6 1)),qM 1 123]))) (.sq (rg [qM 124 17,qM 125 18,qB 126 .geq 124 125,qM 8 126]) (.sq (rg [qM 127 0,qM 128 14,oo 129 (.bi .add 0 (.t 128) (i6 1)),qM 130 2,qM 131 3,oo 132 (.ca .any false (.f ZI) [.t 127,.t 129,.t 130,.t 131])])
 (rg [qM 133 14,qM 2 133])))))))))))))))))))))) }
theorem Q0:ZX Proofs.Tryz.prog ZI Ym=true:=by kernel_rfl
def WT:F2 :=
 { nt:=8,res:=[.t 2 [0]],body:=(.sq (rg [om 2 (i6 0)]) (.sq (.cd (.k (.bool false)) (.sq (rg [qM 3 0,oo 4 (.cv (.int .u32) (.t 3)),oo 5 (.ca .pure false (.f UG) [.t 4]),qM 2 5]) (.rt)) (.sk)) (.sq (rg [qM 6 0,oo 7 (.ca .pure false (.f Y7) [.t 6]),qM 2 7]) (.rt)))) }
theorem Zbt:ZX Proofs.Tryz.prog VL WT=true:=by kernel_rfl
def WU:F2 :=
 { nt:=32,res:=[.t 2 [0]],body:=(.sq (rg [om 2 (.k (.bool false))]) (.sq (.sq (rg [qM 5 0,qN 6 5,om 7 (i6 0)]) (.bl 0 (.lp [0,5,6,7] [] (.sq (rg [qB 8 .lss 7 6]) (.sq (.cd (.t 8) (.sk) (.ex 0)) (.sq (.bl 1 (.sq (rg [qM 9 7,qI 10 1 5 7,qL 11 10,qM 3 9,qM 4 11]) (.sq (rg [qM 12 4,oo 13 (.ca .pure false (.f Vy) [.t 12]),oo 14 (.nt (.t 13)),qM 15 14,og 16 15 false (.mv (.t 3) none),og 17 15 false (.bi .gtr 0 (.t 16) (i6 0)),og 18 15 false (.mv (.t 17) none),og 19 18 true (.mv (.t 4) none),og 20 18 true (.mv (.t 0) none),og 21 18 true (.mv (.t 3) none),og 22 18 true (.bi .sub 0 (.t 21) (i6 1)),og 23 18 true (.ia 1 (.t 20) (.t 22)),og 24 18 true (.ld none (.t 23)),og 25 18 true (.bi .leq 0 (.t 19) (.t 24)),og 26 15 false (.pk (.t 18) (.t 25) (.k (.bool false))),oo 27 (.pk (.t 15) (.k (.bool true)) (.t 26))]) (.cd (.t 27) (.sq (rg [om 2 (.k (.bool false))]) (.rt)) (.sk)))))
 (rg [oo 28 (.bi .add 0 (.t 7) (i6 1)),qM 7 28]))))))) (.sq (rg [qM 29 0,qN 30 29,oo 31 (.bi .leq 0 (.t 30) (i6 16)),qM 2 31]) (.rt)))) }
theorem Zbu:ZX Proofs.Tryz.prog Yv WU=true:=by kernel_rfl
def YR:F2 :=
 { nt:=21,res:=[.t 2 [2]],body:=(.sq (rg [oo 1 (.bt (.t 0)),om 2 (.k (.slice none 0 0))]) (.sq (rg [oo 6 (.bs 1 0 [] []),qM 3 6]) (.sq (.sq (rg [qF 7 5 1,qL 8 7,qN 9 8,om 10 (i6 0)]) (.bl 0 (.lp [3,8,9,10] [192,576] (.sq (rg [qB 11 .lss 10 9]) (.sq (.cd (.t 11) (.sk) (.ex 0)) (.sq (.bl 1 (.sq (rg [qI 12 2 8 10,qS 13 2 12,oo 5 (.al [.string ⟨#[]⟩,.int .i64 0] []),on1 (.st 2 (.t 5) (.t 13))])
 (rg [qM 14 3,qF 15 0 5,qL 16 15,oo 17 (.bs 1 1 [.string ⟨#[]⟩] [(0,.t 16)]),oo 18 (.ap 1 0 (.t 14) (.t 17)),qM 3 18])))
 (rg [oo 19 (.bi .add 0 (.t 10) (i6 1)),qM 10 19]))))))) (.sq (rg [qM 20 3,qM 2 20]) (.rt))))) }
theorem Xu:ZX Proofs.Tryz.prog Jq YR=true:=by kernel_rfl
def VD:F2 :=
 { nt:=32,res:=[.t 8 [0]],body:=(.sq (rg [oo 4 (.bt (.t 0)),om 8 (.k (.bool false))]) (.sq (.sq (rg [qM 9 2,oo 10 (.bi .lss 0 (.t 9) (i6 0))]) (.cd (.t 10) (.sq (rg [qM 11 2,qF 12 0 4,qL 13 12,oo 14 (.ng (.t 13)),qB 15 .geq 11 14,qM 8 15]) (.rt)) (.sk))) (.sq (rg [qM 16 2,qM 17 3,qB 18 .lss 16 17,qM 19 18,og 20 19 true (.mv (.t 1) none),og 21 19 true (.fa 1 (.t 4)),og 22 19 true (.ld none (.t 21)),og 23 19 true (.mv (.t 2) none),og 24 19 true (.ia 3 (.t 22) (.t 23)),og 25 19 true (.fa 0 (.t 24)),og 26 19 true (.ld none (.t 25)),og 27 19 true (.ia 3 (.t 20) (.t 26)),og 28 19 true (.fa 2 (.t 27)),og 29 19 true (.ld none (.t 28)),og 30 19 true (.bi .neq 0 (.t 29) (i6 2)),oo 31 (.pk (.t 19) (.t 30) (.k (.bool false))),qM 8 31]) (.rt)))) }
theorem X4:ZX Proofs.Tryz.prog Jf VD=true:=by kernel_rfl
def Xf:F2 :=
 { nt:=8,res:=[.t 3 [0]],body:=(.sq (rg [om 3 (.k (.bool false))]) (.sq (rg [qS 4 6 1,qM 5 0,oo 6 (.ca .pure false (.f Jj) [.t 4,.t 5]),oo 7 (.nt (.t 6)),qM 3 7]) (.rt))) }
theorem Dq:ZX Proofs.Tryz.prog YG Xf=true:=by kernel_rfl
def V5:F2 :=
 { nt:=14,res:=[.t 4 [0]],body:=(.sq (rg [oo 2 (.bt (.t 0)),om 4 (.k (.bool false))]) (.sq (rg [qM 5 1,qF 6 3 2,qL 7 6,qF 8 4 2,qL 9 8,qN 10 9,qB 11 .add 7 10,oo 12 (.bi .sub 0 (.t 11) (i6 1)),oo 13 (.ca .pure false (.f ZK) [.t 5,i6 0,.t 12]),qM 4 13]) (.rt))) }
theorem WV:ZX Proofs.Tryz.prog Jj V5=true:=by kernel_rfl
def Xg:F2 :=
 { nt:=13,res:=[.t 4 [0]],body:=(.sq (rg [om 4 (.k (.bool false))]) (.sq (rg [qS 5 6 1,qL 6 2,qM 7 0,qF 8 1 1,qL 9 8,qN 10 9,oo 11 (.ca .pure false (.f Jf) [.t 5,.t 6,.t 7,.t 10]),oo 12 (.nt (.t 11)),qM 4 12]) (.rt))) }
theorem Dr:ZX Proofs.Tryz.prog YH Xg=true:=by kernel_rfl
def Xh:F2 :=
 { nt:=9,res:=[.t 3 [0]],body:=(.sq (rg [oo 2 (.bt (.t 0)),om 3 (.k (.bool false))]) (.sq (rg [qS 4 6 1,qF 5 1 2,qL 6 5,oo 7 (.ca .pure false (.f Jj) [.t 4,.t 6]),oo 8 (.nt (.t 7)),qM 3 8]) (.rt))) }
theorem Ds:ZX Proofs.Tryz.prog YI Xh=true:=by kernel_rfl
def Jw:F2 :=
 { nt:=49,res:=[],body:=(.sq (rg [qM 8 1,oo 9 (.bi .add 0 (.t 8) (i6 1)),qM 6 9]) (.bl 0 (.lp [0,1,2,6] [] (.sq (.sq (rg [qM 10 6,qM 11 2,qB 12 .lss 10 11]) (.cd (.t 12) (.sk) (.ex 0))) (.sq (.bl 1 (.sq (rg [qM 15 6,qM 7 15]) (.bl 2 (.lp [0,1,2,6,7] [] (.sq (.sq (.rg (some 0) [qM 16 7,qM 17 1,qB 18 .gtr 16 17,qM 19 18,og 20 19 true (.mv (.t 0) none),og 21 19 true (.mv (.t 7) none),og 22 19 true (.ia 1 (.t 20) (.t 21)),og 23 19 true (.ld none (.t 22)),og 24 19 true (.mv (.t 0) none),og 25 19 true (.mv (.t 7) none),og 26 19 true (.bi .sub 0 (.t 25) (i6 1)),og 27 19 true (.ia 1 (.t 24) (.t 26)),og 28 19 true (.ld none (.t 27)),og 29 19 true (.ca .pure false (.f YZ) [.t 23,.t 28]),oo 30 (.pk (.t 19) (.t 29) (.k (.bool false)))]) (.cd (.t 30) (.sk) (.ex 2))) (.sq (.bl 3 (.rg (some 0) [qM 33 0,qM 34 7,qM 35 0,qM 36 7,oo 37 (.bi .sub 0 (.t 36) (i6 1)),qM 38 0,qM 39 7,oo 40 (.bi .sub 0 (.t 39) (i6 1)),qI 41 1 38 40,qL 42 41,qM 43 0,qM 44 7,qI 45 1 43 44,qL 46 45,qI 47 1 33 34,on1 (.s0 1 (.t 47) (.t 42)),qI 48 1 35 37,on1 (.st 1 (.t 48) (.t 46))]))
 (rg [qM 31 7,oo 32 (.bi .sub 0 (.t 31) (i6 1)),qM 7 32])))))))
 (rg [qM 13 6,oo 14 (.bi .add 0 (.t 13) (i6 1)),qM 6 14])))))) }
theorem VE:ZX Proofs.Tryz.prog Z2 Jw=true:=by kernel_rfl
def UC:F2 :=
 { nt:=17,res:=[.t 4 [0]],body:=(.sq (rg [om 4 (.k (.bool false))]) (.sq (rg [qM 5 0,oo 6 (.ca .pure false (.f Yw) [.t 5]),qM 7 6,og 8 7 true (.mv (.t 1) none),og 9 7 true (.ca .pure false (.f Yw) [.t 8]),og 10 7 true (.nt (.t 9)),oo 11 (.pk (.t 7) (.t 10) (.k (.bool false))),qM 12 11,og 13 12 false (.mv (.t 0) none),og 14 12 false (.mv (.t 1) none),og 15 12 false (.bi .lss 0 (.t 13) (.t 14)),oo 16 (.pk (.t 12) (.k (.bool true)) (.t 15)),qM 4 16]) (.rt))) }
theorem Zb9:ZX Proofs.Tryz.prog YZ UC=true:=by kernel_rfl
def Zx:F2 :=
 { nt:=25,res:=[.t 2 [0]],body:=(.sq (rg [om 2 (i6 0)]) (.sq (.sq (rg [qM 3 0,oo 4 (.bi .geq 0 (.t 3) (.k (.int .u64 4294967296)))]) (.cd (.t 4) (.sq (rg [qM 5 0,oo 6 (.bi .shr 0 (.t 5) (.k (.int .u64 32))),qM 0 6])
 (rg [om 2 (i6 32)])) (.sk))) (.sq (.sq (rg [qM 7 0,oo 8 (.bi .geq 0 (.t 7) (.k (.int .u64 65536)))]) (.cd (.t 8) (.sq (rg [qM 9 0,oo 10 (.bi .shr 0 (.t 9) (.k (.int .u64 16))),qM 0 10])
 (rg [qM 11 2,oo 12 (.bi .add 0 (.t 11) (i6 16)),qM 2 12])) (.sk))) (.sq (.sq (rg [qM 13 0,oo 14 (.bi .geq 0 (.t 13) (.k (.int .u64 256)))]) (.cd (.t 14) (.sq (rg [qM 15 0,oo 16 (.bi .shr 0 (.t 15) (.k (.int .u64 8))),qM 0 16])
 (rg [qM 17 2,oo 18 (.bi .add 0 (.t 17) (i6 8)),qM 2 18])) (.sk))) (.sq (rg [qM 19 2,qM 20 0,oo 21 (.cv (.int .u8) (.t 20)),oo 22 (.ix (.k (.string ⟨#[0,1,2,2,3,3,3,3,4,4,4,4,4,4,4,4,5,5,5,5,5,5,5,5,5,5,5,5,5,5,5,5,6,6,6,6,6,6,6,6,6,6,6,6,6,6,6,6,6,6,6,6,6,6,6,6,6,6,6,6,6,6,6,6,7,7,7,7,7,7,7,7,7,7,7,7,7,7,7,7,7,7,7,7,7,7,7,7,7,7,7,7,7,7,7,7,7,7,7,7,7,7,7,7,7,7,7,7,7,7,7,7,7,7,7,7,7,7,7,7,7,7,7,7,7,7,7,7,8,8,8,8,8,8,8,8,8,8,8,8,8,8,8,8,8,8,8,8,8,8,8,8,8,8,8,8,8,8,8,8,8,8,8,8,8,8,8,8,8,8,8,8,8,8,8,8,8,8,8,8,8,8,8,8,8,8,8,8,8,8,8,8,8,8,8,8,8,8,8,8,8,8,8,8,8,8,8,8,8,8,8,8,8,8,8,8,8,8,8,8,8,8,8,8,8,8,8,8,8,8,8,8,8,8,8,8,8,8,8,8,8,8,8,8,8,8,8,8,8,8,8,8,8,8,8,8]⟩)) (.t 21)),oo 23 (.cv (.int .i64) (.t 22)),qB 24 .add 19 23,qM 2 24]) (.rt)))))) }
theorem ZA:ZX Proofs.Tryz.prog Y7 Zx=true:=by kernel_rfl
end Go.Fd

/-
  The annotated codes of the functions, printed by a program of mine (gen.py), and the check that they belong to the program.
-/
namespace Go.Fd
def WW:F2 :=
 { nt:=6,res:=[.t 2 [0]],body:=(.sq (rg [om 2 (.k (.bool false))]) (.sq (rg [qM 3 0,qM 4 0,qB 5 .neq 3 4,qM 2 5]) (.rt))) }
theorem Zbv:ZX Proofs.Tryz.prog Yw WW=true:=by kernel_rfl
end Go.Fd

/-
  The annotated codes of the functions, printed by a program of mine (gen.py), and the check that they belong to the program.
-/
namespace Go.Fd
end Go.Fd

/-
  ANNOTATED CODES OF GO'S GENERIC FUNCTIONS ON SLICES, AT ANY ELEMENT (printed by generic.py out of one instance each). Own work.
-/
namespace Go.Fd
def Zjg(k:Nat)(m:Option Nat):F2 :=
 { nt:=19,res:=[.t 4 [0]],body:=(.sq (.rg none [⟨some 4,none,.mv (.k (.int .i64 0)) none⟩]) (.sq (.sq (.rg none [⟨some 6,none,.mv (.t 0) none⟩,
    ⟨some 7,none,.ln (.t 6)⟩,
    ⟨some 8,none,.mv (.k (.int .i64 0)) none⟩]) (.bl 0 (.lp [0,1,7,8] [] (.sq (.rg none [⟨some 9,none,.bi .lss 0 (.t 8) (.t 7)⟩]) (.sq (.cd (.t 9) (.sk) (.ex 0)) (.sq (.bl 1 (.sq (.rg none [⟨some 10,none,.mv (.t 8) none⟩,
      ⟨some 5,none,.mv (.t 10) none⟩]) (.sq (.rg none [⟨some 11,none,.mv (.t 1) none⟩,
      ⟨some 12,none,.mv (.t 0) none⟩,
      ⟨some 13,none,.mv (.t 5) none⟩,
      ⟨some 14,none,.ia k (.t 12) (.t 13)⟩,
      ⟨some 15,none,.ld m (.t 14)⟩,
      ⟨some 16,none,.ca .pure false (.t 11) [.t 15]⟩]) (.cd (.t 16) (.sq (.rg none [⟨some 17,none,.mv (.t 5) none⟩,
      ⟨some 4,none,.mv (.t 17) none⟩]) (.rt)) (.sk))))) (.rg none [⟨some 18,none,.bi .add 0 (.t 8) (.k (.int .i64 1))⟩,
    ⟨some 8,none,.mv (.t 18) none⟩]))))))) (.sq (.rg none [⟨some 4,none,.mv (.k (.int .i64 (-1))) none⟩]) (.rt)))) }
def Zlj(fi:FuncId):F2 :=
 { nt:=9,res:=[.t 4 [0]],body:=(.sq (.rg none [⟨some 4,none,.mv (.k (.bool false)) none⟩]) (.sq (.rg none [⟨some 5,none,.mv (.t 0) none⟩,
   ⟨some 6,none,.mv (.t 1) none⟩,
   ⟨some 7,none,.ca .pure false (.f fi) [.t 5,.t 6]⟩,
   ⟨some 8,none,.bi .geq 0 (.t 7) (.k (.int .i64 0))⟩,
   ⟨some 4,none,.mv (.t 8) none⟩]) (.rt))) }
def Zsx  : F2 :=
 { nt:=26,res:=[.t 4 [0]],body:=(.sq (.rg none [⟨some 4,none,.mv (.k (.bool false)) none⟩]) (.sq (.sq (.rg none [⟨some 6,none,.mv (.t 0) none⟩,
    ⟨some 7,none,.ln (.t 6)⟩,
    ⟨some 8,none,.mv (.t 1) none⟩,
    ⟨some 9,none,.ln (.t 8)⟩,
    ⟨some 10,none,.bi .neq 0 (.t 7) (.t 9)⟩]) (.cd (.t 10) (.sq (.rg none [⟨some 4,none,.mv (.k (.bool false)) none⟩]) (.rt)) (.sk))) (.sq (.sq (.rg none [⟨some 11,none,.mv (.t 0) none⟩,
    ⟨some 12,none,.ln (.t 11)⟩,
    ⟨some 13,none,.mv (.k (.int .i64 0)) none⟩]) (.bl 0 (.lp [0,1,12,13] [] (.sq (.rg none [⟨some 14,none,.bi .lss 0 (.t 13) (.t 12)⟩]) (.sq (.cd (.t 14) (.sk) (.ex 0)) (.sq (.bl 1 (.sq (.rg none [⟨some 15,none,.mv (.t 13) none⟩,
      ⟨some 5,none,.mv (.t 15) none⟩]) (.sq (.rg (some 0) [⟨some 16,none,.mv (.t 0) none⟩,
      ⟨some 17,none,.mv (.t 5) none⟩,
      ⟨some 18,none,.ia 1 (.t 16) (.t 17)⟩,
      ⟨some 19,none,.ld none (.t 18)⟩,
      ⟨some 20,none,.mv (.t 1) none⟩,
      ⟨some 21,none,.mv (.t 5) none⟩,
      ⟨some 22,none,.ia 1 (.t 20) (.t 21)⟩,
      ⟨some 23,none,.ld none (.t 22)⟩,
      ⟨some 24,none,.bi .neq 0 (.t 19) (.t 23)⟩]) (.cd (.t 24) (.sq (.rg none [⟨some 4,none,.mv (.k (.bool false)) none⟩]) (.rt)) (.sk))))) (.rg none [⟨some 25,none,.bi .add 0 (.t 13) (.k (.int .i64 1))⟩,
    ⟨some 13,none,.mv (.t 25) none⟩]))))))) (.sq (.rg none [⟨some 4,none,.mv (.k (.bool true)) none⟩]) (.rt))))) }
end Go.Fd

/-
  GO'S GENERIC FUNCTIONS ON SLICES, AT ANY ELEMENT. Own work.
-/
namespace Go.Fd
set_option maxRecDepth 20000
section rules
variable {L:Sto} {F:List IV->Prop} {lvl:Nat}
theorem ZeB:∀{l:List (List Tr)} {F:List IV->Prop},Ja L (l.map IV.ta) F=F (l.map IV.ta)
 | [],F=>Zkt
 | x::r,F=>by
  simp only[List.map_cons]
  rw[ZmE,ZeB]
  rfl
theorem Xi{Pd:Oid->Prop}:∀{l:List (List Tr)},Zd Pd (l.map IV.ta)=True
 | []=>rfl
 | x::r=>by
  simp only[List.map_cons,Zd,men,true_and]
  exact Xi
theorem VF{js:List Nat}{l:List (List Tr)}:Zgo lvl js (l.map IV.ta)=True:=Xi
end rules
section
variable {P:Program} {α:Type}
theorem Um{α β:Type}{c:α->β}{l:List α}{j:Nat}(h:j<l.length):(l.map c)[j]? = some (c l[j]):=by simp [h]
theorem ZhO{α:Type}{c:α->List Tr}{l:List α}{j:Nat}:cut (l.map c) 0 (j-0)=(l.take j).map c:=by
 simp only[cut,List.drop_zero,Nat.sub_zero,List.map_take]
theorem ZeC{α:Type}{l:List α}{j:Nat}(h:j<l.length):l.drop j=l[j]::l.drop (j+1):=List.drop_eq_getElem_cons h
def ixF(f:α->Bool):List α->Int->Int
 | [],_=>-1
 | x::r,j=>if f x=true then j else ixF f r (j+1)
theorem Zdv{f:α->Bool}{x:α}{r:List α}{j:Int}:ixF f (x::r) j=if f x=true then j else ixF f r (j+1):=rfl
theorem ZhP{f:α->Bool}:∀{l:List α} {j:Int},0<=j->(0<=ixF f l j↔l.any f=true)
 | [],j,_=>by simp [ixF]
 | x::r,j,h=>by
  rw[Zdv,List.any_cons]
  cases hx:f x with
  | true=>simp [h]
  | false =>
   simp only[Bool.false_eq_true,if_false,Bool.false_or]
   exact ZhP (by omega)
theorem Zjh{fid:FuncId}(hc:ZX P fid (Zjg 1 none)=true){t:α->Tr}{f:α->Bool}{fe:FuncId}{cs:List (List Tr)}(l:List α)(hl:l.length<=9223372036854775807)
  (hf:∀ x∈l,∀ lvl S,Sem P fe lvl (.tr (t x)::cs.map IV.ta) S (iB (f x)) S) (lvl:Nat) (S:Sto):Sem P fid lvl [.tr (.sl (l.map fun x=>[t x])),.fn fe (cs.map IV.ta)] S (iI (ixF f l 0)) S:=by
 refine Zb hc trivial ?_
 simp only[Zjg,List.length_map,VF,EVA,seval,Zd,men]
 refine ZU (α:=Unit) l.length (fun j _=>[(8,iI j)]) (fun _ _=>[]) (fun j _=>ixF f (l.drop j) j=ixF f l 0) () (by simp only[VF,EVA,seval,Zd,men]) (by (simp only[EVA,seval,Zd,men]) <;> rfl) rfl ?_
 intro j _ hj hA
 simp only[List.length_map,VF,EVA,seval,Zd,men]
 refine Zl (fun hlt=>?_) (fun hge=>?_)
 ·have hja:j<l.length:=by omega
  have ga:=Um (c:=fun x=>[t x]) hja
  rw[ZeC hja,Zdv] at hA
  simp only[ga,VF,ZeB,Xi,EVA,seval,Zd,men]
  refine Za (hf _ (List.getElem_mem hja)) ?_
  simp only[Xi,VF,EVA,seval,Zd,men]
  refine Zl (fun h=>?_) (fun h=>?_)
  ·rw[if_pos h] at hA
   rw[<-hA]
  ·rw[if_neg h] at hA
   exact⟨by rw[Ze];omega,Zf () hja rfl hA⟩
 ·have:j=l.length:=by omega
  subst this
  rw[List.drop_length] at hA
  rw[<-hA]
  rfl
theorem Zji{k:Nat}{fid:FuncId}(hc:ZX P fid (Zjg k (some k))=true){c:α->List Tr}(hk:∀ x,(c x).length=k){f:α->Bool}{fe:FuncId}{cs:List (List Tr)}(l:List α)(hl:l.length<=9223372036854775807)
  (hf:∀ x∈l,∀ lvl S,Sem P fe lvl (.ag ((c x).map .tr)::cs.map IV.ta) S (iB (f x)) S) (lvl:Nat) (S:Sto):Sem P fid lvl [.tr (.sl (l.map c)),.fn fe (cs.map IV.ta)] S (iI (ixF f l 0)) S:=by
 refine Zb hc trivial ?_
 simp only[Zjg,List.length_map,VF,EVA,seval,Zd,men]
 refine ZU (α:=Unit) l.length (fun j _=>[(8,iI j)]) (fun _ _=>[]) (fun j _=>ixF f (l.drop j) j=ixF f l 0) () (by simp only[VF,EVA,seval,Zd,men]) (by (simp only[EVA,seval,Zd,men]) <;> rfl) rfl ?_
 intro j _ hj hA
 simp only[List.length_map,VF,EVA,seval,Zd,men]
 refine Zl (fun hlt=>?_) (fun hge=>?_)
 ·have hja:j<l.length:=by omega
  have ga:=Um (c:=c) hja
  have hkk:=hk l[j]
  have htk:(c l[j]).take k=c l[j]:=List.take_of_length_le (by omega)
  rw[ZeC hja,Zdv] at hA
  simp only[ga,hkk,htk,VF,ZeB,Zk1,Xi,Zc9,EVA,seval,Zd,men]
  refine Za (hf _ (List.getElem_mem hja)) ?_
  simp only[Xi,Zc9,VF,EVA,seval,Zd,men]
  refine Zl (fun h=>?_) (fun h=>?_)
  ·rw[if_pos h] at hA
   rw[<-hA]
  ·rw[if_neg h] at hA
   exact⟨by rw[Ze];omega,Zf () hja rfl hA⟩
 ·have:j=l.length:=by omega
  subst this
  rw[List.drop_length] at hA
  rw[<-hA]
  rfl
theorem ZhQ{fid fi:FuncId}(hc:ZX P fid (Zlj fi)=true){es:Row}{f:α->Bool}{fe:FuncId}{cs:List (List Tr)}{l:List α}
  (hi:∀ lvl S,Sem P fi lvl [.tr (.sl es),.fn fe (cs.map IV.ta)] S (iI (ixF f l 0)) S) (lvl:Nat) (S:Sto):Sem P fid lvl [.tr (.sl es),.fn fe (cs.map IV.ta)] S (iB (l.any f)) S:=by
 refine Zb hc trivial ?_
 simp only[Zlj,ZeB,Xi,VF,EVA,seval,Zd,men]
 refine Za hi ?_
 simp only[ZeB,Xi,EVA,seval,Zd,men]
 have:=ZhP (f:=f) (l:=l) (Int.le_refl 0)
 by_cases h:l.any f=true
 ·simp [h,this.2 h]
 ·simp [h,mt this.1 h]
theorem Zdw{fid fi:FuncId}(hc:ZX P fid (Zlj fi)=true)(hi:ZX P fi (Zjg 1 none)=true){t:α->Tr}{f:α->Bool}{fe:FuncId}{cs:List (List Tr)}(l:List α)(hl:l.length<=9223372036854775807)
  (hf:∀ x∈l,∀ lvl S,Sem P fe lvl (.tr (t x)::cs.map IV.ta) S (iB (f x)) S) (lvl:Nat) (S:Sto):Sem P fid lvl [.tr (.sl (l.map fun x=>[t x])),.fn fe (cs.map IV.ta)] S (iB (l.any f)) S :=
 ZhQ hc (Zjh hi l hl hf) lvl S
theorem Zgd{k:Nat}{fid fi:FuncId}(hc:ZX P fid (Zlj fi)=true)(hi:ZX P fi (Zjg k (some k))=true){c:α->List Tr}(hk:∀ x,(c x).length=k){f:α->Bool}{fe:FuncId}{cs:List (List Tr)}(l:List α)(hl:l.length<=9223372036854775807)
  (hf:∀ x∈l,∀ lvl S,Sem P fe lvl (.ag ((c x).map .tr)::cs.map IV.ta) S (iB (f x)) S) (lvl:Nat) (S:Sto):Sem P fid lvl [.tr (.sl (l.map c)),.fn fe (cs.map IV.ta)] S (iB (l.any f)) S :=
 ZhQ hc (Zji hi hk l hl hf) lvl S
structure Cmp (t:α->Tr):Prop where
 neq:∀(x y:α) (F:IV->Prop),bi2 .neq 0 (.tr (t x)) (.tr (t y)) F=F (iB (!(@decide (x=y) (Classical.propDecidable _))))
 eql:∀(x y:α) (F:IV->Prop),bi2 .eql 0 (.tr (t x)) (.tr (t y)) F=F (iB (@decide (x=y) (Classical.propDecidable _)))
theorem Zsy:Cmp ts:=⟨fun x y F=>by rw[Zmm];congr 2;by_cases h:x=y <;> simp [h],fun x y F=>by rw[Zml];congr 2;by_cases h:x=y <;> simp [h]⟩
theorem Zlk{fid:FuncId}(hc:ZX P fid Zsx=true)[DecidableEq α]{t:α->Tr}(hT:Cmp t)(a b:List α)(ha:a.length<=9223372036854775807)(lvl:Nat)(S:Sto):Sem P fid lvl [.tr (.sl (a.map fun x=>[t x])),.tr (.sl (b.map fun x=>[t x]))] S (iB (decide (a=b))) S:=by
 refine Zb hc trivial ?_
 simp only[Zsx,List.length_map,EVA,seval,Zd,men]
 refine Zl (fun h=>?_) (fun h=>?_)
 ·have:¬ a=b:=fun e=>h (by rw[e])
  simp [this]
 have hlen:a.length=b.length:=by omega
 refine ZU (α:=Unit) a.length (fun j _=>[(13,iI j)]) (fun _ _=>[]) (fun j _=>a.take j=b.take j) () (by simp only[EVA,seval,Zd,men]) (by (simp only[EVA,seval,Zd,men]) <;> rfl) rfl ?_
 intro j _ hj hA
 simp only[List.length_map,EVA,seval,Zd,men]
 refine Zl (fun hlt=>?_) (fun hge=>?_)
 ·have hja:j<a.length:=by omega
  have hjb:j<b.length:=by omega
  have ga:=Um (c:=fun x=>[t x]) hja
  have gb:=Um (c:=fun x=>[t x]) hjb
  have hq:=hT.neq a[j] b[j]
  simp only[ga,gb,hq,EVA,seval,Zd,men]
  refine Zl (fun hne=>?_) (fun he=>?_)
  ·have:¬ a=b:=Ue hja hjb (by simpa using hne)
   simp [this]
  ·exact⟨by rw[Ze];omega,Zf () hja rfl (Xa hja hjb hA (by simpa using he))⟩
 ·have:j=a.length:=by omega
  subst this
  have:a=b:=X0 hlen hA
  simp [this]
end
end Go.Fd

/-
  WHAT HOLDS OF THE PROGRAM'S AND THE REFERENCE'S SMALL FUNCTIONS ON NUMBERS. Own work.
-/
namespace Go.Fd
set_option maxRecDepth 20000
noncomputable def dc(p:Prop):Bool:=@decide p (Classical.propDecidable p)
theorem dc_iff{p:Prop}:dc p=true↔p:=by unfold dc;simp
theorem Ju{p:Prop}(h:p):dc p=true:=dc_iff.2 h
theorem Zg{p:Prop}(h:¬ p):dc p=false:=by
 cases hh:dc p with
 | false=>rfl
 | true=>exact absurd (dc_iff.1 hh) h
theorem dc_not{p:Prop}:dc p=false ↔ ¬ p:=⟨fun h hp=>(by rw[Ju hp] at h;cases h),Zg⟩
theorem JA{p q:Prop}(h:p↔q):dc p=dc q:=by rw[propext h]
theorem JU{p:Prop}[Decidable p]:dc p=decide p:=by
 by_cases h:p
 ·rw[Ju h];simp [h]
 ·rw[Zg h];simp [h]
abbrev g0(l:List Int)(i:Nat):Int:=l.getD i 0
abbrev A3:=Int×Int×Int
abbrev g3(l:List A3)(i:Nat):A3:=l.getD i (0,0,0)
theorem YS{l:List Int}{i:Nat}(h:i<l.length):(rI l)[i]? = some [tv (g0 l i)]:=by simp [h]
def inB(n a b:Int):Bool:=decide (a<=n)&&decide (n<=b)
theorem inB_iff{n a b:Int}:inB n a b=true↔a<=n/\n<=b:=by simp [inB]
theorem inB_not{n a b:Int}:inB n a b=false ↔ ¬ (a<=n/\n<=b):=by
 rw[<-inB_iff];cases inB n a b <;> simp
theorem VU(n a b:Int)(lvl:Nat)(S:Sto):Sem Proofs.Tryz.prog ZY lvl [iI n,iI a,iI b] S (iB (inB n a b)) S:=by
 refine Zb Zfs trivial ?_
 simp only[Zbs,EVA,seval,Zd,men]
 refine Zl (fun h=>?_) (fun h=>?_) <;> simp [inB,h]
theorem Yx(n a b:Int)(lvl:Nat)(S:Sto):Sem Proofs.Tryz.prog ZK lvl [iI n,iI a,iI b] S (iB (inB n a b)) S:=by
 refine Zb Zdo trivial ?_
 simp only[Dj,EVA,seval,Zd,men]
 refine Zl (fun h=>?_) (fun h=>?_) <;> simp [inB,h]
theorem ZhR(l:List Int)(n:Int)(hl:l.length<=9223372036854775807)(lvl:Nat)(S:Sto):Sem Proofs.Tryz.prog Xs lvl [tI l,iI n] S (iB (decide (n∈l))) S:=by
 refine Zb Zez trivial ?_
 simp only[Zao,EVA,seval,Zd,men]
 refine ZT (α:=Unit) l.length (fun j _=>⟨lvl,[(0,tI l),(1,iI n),(5,iI j)],[],S⟩) (fun j _=>n ∉ l.take j) () ⟨by simp only[EVA,seval,Zd,men],by (simp only[EVA,seval,Zd,men]) <;> rfl⟩ (by simp) ?_
 intro j _ hj hA
 simp only[List.length_map,EVA,seval,Zd,men]
 refine Zl (fun hlt=>?_) (fun hge=>?_)
 ·have hja:j<l.length:=by omega
  have ga:=YS hja
  simp only[ga,EVA,seval,Zd,men]
  have hg:g0 l j=l[j]:=by simp [hja]
  refine Zl (fun he=>?_) (fun hne=>?_)
  ·have:n∈l:=by rw[<-he,hg];exact List.getElem_mem hja
   simp [this]
  ·refine⟨by rw[Ze];omega,Zf () hja rfl ?_⟩
   rw[List.take_succ_eq_append_getElem hja]
   simp only[List.mem_append,List.mem_singleton,not_or]
   exact⟨hA,fun e=>hne (by rw[hg,e])⟩
 ·have:j=l.length:=by omega
  subst this
  rw[List.take_length] at hA
  simp [hA]
def ZjR(l:List Int)(v:Int):Int:=if v∈l then (l.idxOf v:Int) else -1
theorem ZhS(l:List Int)(n:Int)(hl:l.length<=9223372036854775807)(lvl:Nat)(S:Sto):Sem Proofs.Tryz.prog JH lvl [tI l,iI n] S (iI (ZjR l n)) S:=by
 refine Zb Wx trivial ?_
 simp only[VH,List.length_map,EVA,seval,Zd,men]
 refine ZT (α:=Unit) l.length (fun j _=>⟨lvl,[(0,tI l),(1,iI n),(7,iI l.length),(8,iI j)],[],S⟩) (fun j _=>n ∉ l.take j) () ⟨by simp only[EVA,seval,Zd,men],by (simp only[EVA,seval,Zd,men]) <;> rfl⟩ (by simp) ?_
 intro j _ hj hA
 simp only[List.length_map,EVA,seval,Zd,men]
 refine Zl (fun hlt=>?_) (fun hge=>?_)
 ·have hja:j<l.length:=by omega
  have ga:=YS hja
  simp only[ga,EVA,seval,Zd,men]
  have hg:g0 l j=l[j]:=by simp [hja]
  refine Zl (fun he=>?_) (fun hne=>?_)
  ·have hm:n∈l:=by rw[he,hg];exact List.getElem_mem hja
   unfold ZjR
   rw[if_pos hm]
   have:l.idxOf n=j:=by
    have h1:l.take j++l.drop j=l:=List.take_append_drop j l
    rw[<-h1,List.idxOf_append,if_neg hA,List.drop_eq_getElem_cons hja,List.idxOf_cons]
    rw[he,hg]
    simp
    omega
   rw[this]
  ·refine⟨by rw[Ze];omega,Zf () hja rfl ?_⟩
   rw[List.take_succ_eq_append_getElem hja]
   simp only[List.mem_append,List.mem_singleton,not_or]
   exact⟨hA,fun e=>hne (by rw[hg,e])⟩
 ·have:j=l.length:=by omega
  subst this
  rw[List.take_length] at hA
  simp [ZjR,hA]
theorem ZhT(x:Int)(lvl:Nat)(S:Sto):Sem Proofs.Tryz.prog Yw lvl [iI x] S (iB false) S:=by
 refine Zb Zbv trivial ?_
 simp only[WW,EVA,seval,Zd,men]
end Go.Fd

/-
  NUMBERS OF LIBRARY FUNCTIONS IN THIS PROGRAM, as the guide's shelf lays them (printed by lay.py out of the kit's own command).
-/
namespace Go.Proofs
open Go.Shelf
def Tryz.lays160_ren:Go.Shelf.Ren:=⟨fun | 160=>154 | 232=>201 | 231=>200 | 227=>202 | 234=>204 | 233=>203 | 236=>206 | 235=>205 | 228=>247 | 271=>250 | 151=>249 | 197=>248 | 120=>275 | 152=>274 | 260=>273 | 137=>292 | 119=>293 | 224=>294 | 225=>295 | 217=>307 | 266=>320 | n=>n,fun | 9=>9 | 4=>4 | 3=>3 | 5=>5 | 117=>224 | 116=>223 | 0=>0 | 124=>227 | 21=>21 | 105=>261 | 46=>181 | 119=>295 | 139=>298 | 138=>297 | n=>n,fun | 3=>2 | 4=>3 | n=>n⟩
theorem Tryz.lays160:Go.Proofs.Lays.n160 Tryz.prog Tryz.lays160_ren:={
  mixed:=by kernel_rfl,
  f119:=Tryz.func293.trans (congrArg some (by kernel_rfl)),
  f120:=Tryz.func275.trans (congrArg some (by kernel_rfl)),
  f137:=Tryz.func292.trans (congrArg some (by kernel_rfl)),
  f151:=Tryz.func249.trans (congrArg some (by kernel_rfl)),
  f152:=Tryz.func274.trans (congrArg some (by kernel_rfl)),
  f160:=Tryz.func154.trans (congrArg some (by kernel_rfl)),
  f197:=Tryz.func248.trans (congrArg some (by kernel_rfl)),
  f217:=Tryz.func307.trans (congrArg some (by kernel_rfl)),
  f224:=Tryz.func294.trans (congrArg some (by kernel_rfl)),
  f225:=Tryz.func295.trans (congrArg some (by kernel_rfl)),
  f227:=Tryz.func202.trans (congrArg some (by kernel_rfl)),
  f228:=Tryz.func247.trans (congrArg some (by kernel_rfl)),
  f231:=Tryz.func200.trans (congrArg some (by kernel_rfl)),
  f232:=Tryz.func201.trans (congrArg some (by kernel_rfl)),
  f233:=Tryz.func203.trans (congrArg some (by kernel_rfl)),
  f234:=Tryz.func204.trans (congrArg some (by kernel_rfl)),
  f235:=Tryz.func205.trans (congrArg some (by kernel_rfl)),
  f236:=Tryz.func206.trans (congrArg some (by kernel_rfl)),
  f260:=Tryz.func273.trans (congrArg some (by kernel_rfl)),
  f266:=Tryz.func320.trans (congrArg some (by kernel_rfl)),
  f271:=Tryz.func250.trans (congrArg some (by kernel_rfl)),
  t0:=Tryz.underlying0,
  a0:=Tryz.isAgg0,
  z0:=Tryz.sizeOf0,
  v0:=Tryz.zeroValue0,
  t3:=Tryz.underlying3,
  a3:=Tryz.isAgg3,
  z3:=Tryz.sizeOf3,
  v3:=Tryz.zeroValue3,
  t4:=Tryz.underlying4,
  a4:=Tryz.isAgg4,
  z4:=Tryz.sizeOf4,
  v4:=Tryz.zeroValue4,
  t5:=Tryz.underlying5,
  a5:=Tryz.isAgg5,
  z5:=Tryz.sizeOf5,
  v5:=Tryz.zeroValue5,
  t9:=Tryz.underlying9,
  a9:=Tryz.isAgg9,
  z9:=Tryz.sizeOf9,
  v9:=Tryz.zeroValue9,
  t21:=Tryz.underlying21,
  a21:=Tryz.isAgg21,
  z21:=Tryz.sizeOf21,
  v21:=Tryz.zeroValue21,
  t46:=Tryz.underlying181,
  a46:=Tryz.isAgg181,
  z46:=Tryz.sizeOf181,
  v46:=Tryz.zeroValue181,
  t105:=Tryz.underlying261,
  a105:=Tryz.isAgg261,
  z105:=Tryz.sizeOf261,
  v105:=Tryz.zeroValue261,
  t116:=Tryz.underlying223,
  a116:=Tryz.isAgg223,
  z116:=Tryz.sizeOf223,
  t117:=Tryz.underlying224,
  a117:=Tryz.isAgg224,
  z117:=Tryz.sizeOf224,
  v117:=Tryz.zeroValue224,
  t119:=Tryz.underlying295,
  a119:=Tryz.isAgg295,
  z119:=Tryz.sizeOf295,
  t124:=Tryz.underlying227,
  a124:=Tryz.isAgg227,
  z124:=Tryz.sizeOf227,
  v124:=Tryz.zeroValue227,
  t138:=Tryz.underlying297,
  a138:=Tryz.isAgg297,
  z138:=Tryz.sizeOf297,
  v138:=Tryz.zeroValue297,
  t139:=Tryz.underlying298,
  a139:=Tryz.isAgg298,
  z139:=Tryz.sizeOf298,
  v139:=Tryz.zeroValue298,
  g3:=by kernel_rfl,
  g4:=by kernel_rfl }
end Go.Proofs

/-
  NAMES AND SIGNATURES, BOTH SIDES. Own work.
-/
namespace Go.Fd
set_option maxRecDepth 20000
def Zoe(P:Program)(f:FuncId):Bool:=match P.funcs[f]? with | some fn=>fn.body.isSome && !(fn.name == "runtime.NumGoroutine") | none=>false
theorem Zge{P:Program}{f:FuncId}(h:Zoe P f=true):W8 P f:=by
 unfold Zoe at h
 split at h
 ·rename_i fn hf
  simp only[Bool.and_eq_true,Bool.not_eq_true'] at h
  exact⟨fn,hf,h.1,h.2⟩
 ·cases h
abbrev AZ:ByteArray:=⟨#[97,98,99,100,101,102,103,104,105,106,107,108,109,110,111,112,113,114,115,116,117,118,119,120,121,122]⟩
theorem Zjj(s:ByteArray)(hs:s.size<=9223372036854775807)(lvl:Nat)(S:Sto):Sem Proofs.Tryz.prog Wi lvl [iS s,iS AZ] S (iS ⟨(Lib.trimS s.data.toList AZ.data.toList).toArray⟩) S :=
 Zfr (xs:=[.string s,.string AZ]) (Zge (by kernel_rfl)) rfl (fun w=>Go.Proofs.Any.strings_Trim_laid Proofs.Tryz.lays160 (by kernel_rfl) s AZ w hs (by decide) (Go.Proofs.ascii_of_all (by decide)))
def ZhU(s:ByteArray):Prop:=(∀ b∈s.data.toList,97<=b.toNat/\b.toNat<=122)/\1<=s.size/\s.size<=4
theorem ZeD(s:ByteArray):s.size=s.data.toList.length:=by rw[Array.length_toList];rfl
theorem ZjS(b:UInt8):b∈AZ.data.toList↔97<=b.toNat/\b.toNat<=122:=by
 have:∀ n:Fin 256,(UInt8.ofNat n.val)∈AZ.data.toList↔97<=n.val/\n.val<=122:=by decide +kernel
 have h:UInt8.ofNat b.toNat∈AZ.data.toList↔97<=b.toNat/\b.toNat<=122:=this ⟨b.toNat,b.toNat_lt⟩
 rw[show UInt8.ofNat b.toNat=b from UInt8.ofNat_toNat] at h
 exact h
theorem ZhV{p:UInt8->Bool}:∀{l:List UInt8},l.dropWhile p=[]↔∀ b∈l,p b=true
 | []=>by simp
 | x::r=>by
  simp only[List.dropWhile_cons,List.mem_cons,forall_eq_or_imp]
  cases h:p x with
  | true=>simp [ZhV (l:=r)]
  | false=>simp
theorem ZjT{p:UInt8->Bool}{b:UInt8}:∀{l:List UInt8},b∈l.takeWhile p->p b=true
 | [],h=>by simp at h
 | x::r,h=>by
  rw[List.takeWhile_cons] at h
  split at h
  ·rename_i hx
   rcases List.mem_cons.1 h with rfl | h
   ·exact hx
   ·exact ZjT h
  ·cases h
theorem Zjk{l cs:List UInt8}(h:∀ b∈l,b∈cs):l.dropWhile (cs.contains ·)=[]:=by
 rw[ZhV]
 intro b hb
 simpa using h b hb
theorem trimS_nil{l cs:List UInt8}:Lib.trimS l cs=[]↔∀ b∈l,b∈cs:=by
 unfold Lib.trimS Lib.trimLeftS Lib.trimRightS
 constructor
 ·intro h b hb
  rw[ZhV] at h
  have hrev:∀ x∈(l.reverse.dropWhile (cs.contains ·)),x∈cs:=fun x hx=>by
   have:=h x (by simpa using hx)
   simpa using this
  have hsplit:l.reverse=l.reverse.takeWhile (cs.contains ·)++l.reverse.dropWhile (cs.contains ·):=(List.takeWhile_append_dropWhile).symm
  have hb2:b∈l.reverse:=by simpa using hb
  rw[hsplit] at hb2
  rcases List.mem_append.1 hb2 with h1 | h1
  ·have:=ZjT h1
   simpa using this
  ·exact hrev b h1
 ·intro h
  rw[Zjk (l:=l.reverse) (fun b hb=>h b (by simpa using hb))]
  rfl
theorem Zcv(s:ByteArray)(hs:s.size<=9223372036854775807)(lvl:Nat)(S:Sto):Sem Proofs.Tryz.prog Vx lvl [iS s] S (iB (dc (ZhU s))) S:=by
 refine Zb Zdp trivial ?_
 simp only[Dk,EVA,seval,Zd,men]
 refine ZU (α:=Unit) s.size (fun j _=>[(3,iI j)]) (fun _ _=>[]) (fun j _=>∀ b∈s.data.toList.take j,97<=b.toNat/\b.toNat<=122) () (by simp only[EVA,seval,Zd,men]) (by (simp only[EVA,seval,Zd,men]) <;> rfl) (fun b hb=>by simp at hb) ?_
 intro j _ hj hA
 simp only[EVA,seval,Zd,men]
 refine Zl (fun hlt=>?_) (fun hge=>?_)
 ·have hja:j<s.data.toList.length:=by rw[<-ZeD];omega
  have ga:s.data.toList[j]? = some (s.data.toList[j]):=List.getElem?_eq_getElem hja
  have hno:¬ (97<=(s.data.toList[j]).toNat/\(s.data.toList[j]).toNat<=122) -> ¬ ZhU s:=fun h hn=>h (hn.1 _ (List.getElem_mem hja))
  by_cases h1:((s.data.toList[j]).toNat:Int)<97
  ·simp only[ga,h1,EVA,seval,Zd,men]
   rw[Zg (hno (by omega))]
  by_cases h2:(122:Int)<(s.data.toList[j]).toNat
  ·simp only[ga,h1,h2,EVA,seval,Zd,men]
   rw[Zg (hno (by omega))]
  ·simp only[ga,h1,h2,EVA,seval,Zd,men]
   refine⟨by rw[Ze];omega,Zf () (by omega) rfl ?_⟩
   intro b hb
   rw[List.take_succ_eq_append_getElem hja] at hb
   rcases List.mem_append.1 hb with h | h
   ·exact hA b h
   ·have:b=s.data.toList[j]:=by simpa using h
    subst this
    omega
 ·have:j=s.size:=by omega
  subst this
  rw[ZeD,List.take_length] at hA
  refine Za (VU s.size 1 4) ?_
  simp only[EVA,seval,Zd,men]
  rw[JA (q:=1<=s.size/\s.size<=4) ⟨fun h=>h.2,fun h=>⟨hA,h⟩⟩]
  by_cases h:1<=s.size/\s.size<=4
  ·rw[Ju h,inB_iff.2 (by omega)]
  ·rw[Zg h,inB_not.2 (by omega)]
theorem Zcw(s:ByteArray)(hs:s.size<=9223372036854775807)(lvl:Nat)(S:Sto):Sem Proofs.Tryz.prog Vy lvl [iS s] S (iB (dc (ZhU s))) S:=by
 refine Zb Zdq trivial ?_
 simp only[Dl,EVA,seval,Zd,men]
 refine Za (Yx s.size 1 4) ?_
 simp only[EVA,seval,Zd,men]
 cases hin:inB (s.size:Int) 1 4 with
 | false =>
  have:¬ ZhU s:=fun h=>(inB_not.1 hin) (by have:=h.2;omega)
  rw[Zg this]
  simp only[EVA,seval,Zd,men]
 | true =>
  have hin':=inB_iff.1 hin
  simp only[EVA,seval,Zd,men]
  refine Za (Zjj s hs) ?_
  simp only[EVA,seval,Zd,men]
  by_cases h:ZhU s
  ·have:Lib.trimS s.data.toList AZ.data.toList=[]:=trimS_nil.2 (fun b hb=>(ZjS b).2 (h.1 b hb))
   rw[Ju h,this]
   rfl
  ·have:¬ Lib.trimS s.data.toList AZ.data.toList=[]:=fun e=>h ⟨fun b hb=>(ZjS b).1 (trimS_nil.1 e b hb),by omega,by omega⟩
   rw[Zg h]
   have h2:¬ (⟨(Lib.trimS s.data.toList AZ.data.toList).toArray⟩:ByteArray)=⟨#[]⟩:=fun e=>this (by
    have:=congrArg (fun b:ByteArray=>b.data.toList) e
    simpa using this)
   simp [h2]
def Zll(c:TControl):Prop:=ZhU c.name/\(0<=c.ports/\c.ports<=3)/\0<=c.kind_/\c.kind_<=2
def ZhW(sig:List TControl)(i:Nat):Prop:=∀ h:i<sig.length,Zll sig[i]/\∀ k (hk:k<i),(sig[k]'(by omega)).name≠sig[i].name
def Zaz(sig:List TControl):Prop:=(∀ i,ZhW sig i)/\1<=sig.length/\sig.length<=6
theorem D9(c d:TControl)(lvl:Nat)(S:Sto):Sem Proofs.Tryz.prog Jr lvl [.ag ((Zi d).map .tr),.ta (Zi c)] S (iB (decide (d.name=c.name))) S:=by
 refine Zb Ul trivial ?_
 simp only[Ql,Zi,EVA,seval,Zd,men]
theorem ZeE:ZX Proofs.Tryz.prog ZZ (Zjg 3 (some 3))=true:=by kernel_rfl
theorem ZeF:ZX Proofs.Tryz.prog ZQ (Zlj ZZ)=true:=by kernel_rfl
theorem ZhX(sig:List TControl)(hl:sig.length<=9223372036854775807)(hb:∀ y∈sig,ZH 9223372036854775807 y)(lvl:Nat)(S:Sto):Sem Proofs.Tryz.prog Xr lvl [.tr (.sl (sig.map Zi))] S (iB (dc (Zaz sig))) S:=by
 refine Zb Zey trivial ?_
 simp only[Zan,List.length_map,EVA,seval,Zd,men]
 refine ZU (α:=Unit) sig.length (fun j _=>[(3,iI j)]) (fun _ _=>[]) (fun j _=>∀ i,i<j->ZhW sig i) () (by simp only[EVA,seval,Zd,men]) (by (simp only[EVA,seval,Zd,men]) <;> rfl) (fun i hi=>by omega) ?_
 intro j _ hj hA
 simp only[List.length_map,EVA,seval,Zd,men]
 refine Zl (fun hlt=>?_) (fun hge=>?_)
 ·have hja:j<sig.length:=by omega
  have ga:=Um (c:=Zi) hja
  have hbj:sig[j].name.size<=9223372036854775807:=hb _ (List.getElem_mem hja)
  have hno:¬ Zll sig[j] -> ¬ Zaz sig:=fun h hs=>h (hs.1 j hja).1
  simp only[ga,Zi,EVA,seval,Zd,men]
  refine Za (Zcv sig[j].name hbj) ?_
  simp only[ga,Zi,EVA,seval,Zd,men]
  cases hn:dc (ZhU sig[j].name) with
  | false =>
   simp only[EVA,seval,Zd,men]
   rw[Zg (hno fun h=>dc_not.1 hn h.1)]
  | true =>
   have hn':=dc_iff.1 hn
   simp only[ga,Zi,EVA,seval,Zd,men]
   refine Za (VU sig[j].ports 0 3) ?_
   simp only[ga,Zi,EVA,seval,Zd,men]
   cases hp:inB sig[j].ports 0 3 with
   | false =>
    simp only[EVA,seval,Zd,men]
    rw[Zg (hno fun h=>inB_not.1 hp h.2.1)]
   | true =>
    have hp':=inB_iff.1 hp
    simp only[ga,Zi,EVA,seval,Zd,men]
    refine Za (VU sig[j].kind_ 0 2) ?_
    simp only[ga,Zi,EVA,seval,Zd,men]
    cases hk:inB sig[j].kind_ 0 2 with
    | false =>
     simp only[EVA,seval,Zd,men]
     rw[Zg (hno fun h=>inB_not.1 hk h.2.2)]
    | true =>
     have hk':=inB_iff.1 hk
     simp only[EVA,seval,Zd,men]
     refine ZU (α:=Unit) j (fun k _=>[(4,iI k)]) (fun _ _=>[]) (fun k _=>∀ i (hi:i<k),k<=j->∀ hi2:i<sig.length,(sig[i]'hi2).name≠sig[j].name) () (by simp only[EVA,seval,Zd,men]) (by (simp only[EVA,seval,Zd,men]) <;> rfl) (fun i hi=>by omega) ?_
     intro k _ hkj hB
     simp only[List.length_map,EVA,seval,Zd,men]
     refine Zl (fun hlt2=>?_) (fun hge2=>?_)
     ·have hka:k<sig.length:=by omega
      have gb:=Um (c:=Zi) hka
      simp only[ga,gb,Zi,EVA,seval,Zd,men]
      refine Zl (fun he=>?_) (fun hne=>?_)
      ·rw[Zg (fun hs:Zaz sig=>(hs.1 j hja).2 k (by omega) he)]
      ·refine⟨by rw[Ze];omega,Zf () (by omega) rfl (fun i hi _ hi2=>?_)⟩
       by_cases e:i=k
       ·subst e;exact hne
       ·exact hB i (by omega) (by omega) hi2
     ·have:k=j:=by omega
      subst this
      refine⟨by rw[Ze];omega,Zf () hja rfl (fun i hi=>?_)⟩
      by_cases e:i=k
      ·subst e
       exact fun h=>⟨⟨hn',hp',hk'⟩,fun q hq=>hB q hq (Nat.le_refl _) (by omega)⟩
      ·exact hA i (by omega)
 ·have:j=sig.length:=by omega
  subst this
  refine Za (VU sig.length 1 6) ?_
  simp only[EVA,seval,Zd,men]
  have hall:∀ i,ZhW sig i:=fun i h=>hA i h h
  rw[JA (q:=1<=sig.length/\sig.length<=6) ⟨fun h=>h.2,fun h=>⟨hall,h⟩⟩]
  by_cases h:1<=sig.length/\sig.length<=6
  ·rw[Ju h,inB_iff.2 (by omega)]
  ·rw[Zg h,inB_not.2 (by omega)]
theorem Un(sig:List TControl)(hl:sig.length<=9223372036854775807)(hb:∀ y∈sig,ZH 9223372036854775807 y)(lvl:Nat)(S:Sto):Sem Proofs.Tryz.prog YD lvl [.tr (.sl (sig.map Zi))] S (iB (dc (Zaz sig))) S:=by
 refine Zb Dd trivial ?_
 simp only[Xd,List.length_map,EVA,seval,Zd,men]
 refine Za (Yx sig.length 1 6) ?_
 simp only[List.length_map,EVA,seval,Zd,men]
 refine Zl (fun h=>?_) (fun h=>?_)
 ·rw[Zg (fun hs:Zaz sig=>(inB_not.1 h) (by have:=hs.2;omega))]
 have hln:=inB_iff.1 (by simpa using h)
 refine ZU (α:=Unit) sig.length (fun j _=>[(11,iI j)]) (fun _ _=>[]) (fun j _=>∀ i,i<j->ZhW sig i) () (by simp only[EVA,seval,Zd,men]) (by (simp only[EVA,seval,Zd,men]) <;> rfl) (fun i hi=>by omega) ?_
 intro j _ hj hA
 simp only[List.length_map,EVA,seval,Zd,men]
 refine Zl (fun hlt=>?_) (fun hge=>?_)
 ·have hja:j<sig.length:=by omega
  have ga:=Um (c:=Zi) hja
  have hbj:sig[j].name.size<=9223372036854775807:=hb _ (List.getElem_mem hja)
  have hno:¬ Zll sig[j] -> ¬ Zaz sig:=fun h hs=>h (hs.1 j hja).1
  simp only[ga,Zi,EVA,seval,Zd,men]
  refine Za (Zcw sig[j].name hbj) ?_
  simp only[ga,Zi,EVA,seval,Zd,men]
  cases hn:dc (ZhU sig[j].name) with
  | false =>
   simp only[EVA,seval,Zd,men]
   rw[Zg (hno fun h=>dc_not.1 hn h.1)]
  | true =>
   have hn':=dc_iff.1 hn
   simp only[ga,Zi,EVA,seval,Zd,men]
   refine Za (Yx sig[j].ports 0 3) ?_
   simp only[ga,Zi,EVA,seval,Zd,men]
   cases hp:inB sig[j].ports 0 3 with
   | false =>
    simp only[EVA,seval,Zd,men]
    rw[Zg (hno fun h=>inB_not.1 hp h.2.1)]
   | true =>
    have hp':=inB_iff.1 hp
    simp only[ga,Zi,EVA,seval,Zd,men]
    refine Za (Yx sig[j].kind_ 0 2) ?_
    simp only[ga,Zi,EVA,seval,Zd,men]
    cases hk:inB sig[j].kind_ 0 2 with
    | false =>
     simp only[EVA,seval,Zd,men]
     rw[Zg (hno fun h=>inB_not.1 hk h.2.2)]
    | true =>
     have hk':=inB_iff.1 hk
     have hjl:j<=sig.length:=by omega
     simp only[List.length_map,hjl,EVA,seval,Zd,men]
     have hc:=Zgd (P:=Proofs.Tryz.prog) ZeF ZeE Zal (f:=fun d:TControl=>decide (d.name=sig[j].name)) (fe:=Jr) (cs:=[Zi sig[j]]) (sig.take j) (by rw[List.length_take];omega) (fun d _ lvl S=>D9 sig[j] d lvl S)
     rw[<-ZhO] at hc
     refine⟨fun h=>h.elim,Nat.zero_le _,Za hc ?_⟩
     simp only[EVA,seval,Zd,men]
     cases ha:(sig.take j).any (fun d:TControl=>decide (d.name=sig[j].name)) with
     | true =>
      simp only[EVA,seval,Zd,men]
      obtain⟨d,hd,he⟩:=List.any_eq_true.1 ha
      obtain⟨q,hq,rfl⟩:=List.getElem_of_mem hd
      rw[List.length_take] at hq
      rw[Zg (fun hs:Zaz sig=>(hs.1 j hja).2 q (by omega) (by simpa using he))]
     | false =>
      simp only[EVA,seval,Zd,men]
      refine⟨by rw[Ze];omega,Zf () hja rfl (fun i hi=>?_)⟩
      by_cases e:i=j
      ·subst e
       refine fun h=>⟨⟨hn',hp',hk'⟩,fun q hq=>?_⟩
       have:=(List.any_eq_false.1 ha) sig[q] (by
        rw[List.mem_take_iff_getElem]
        exact⟨q,by omega,rfl⟩)
       simpa using this
      ·exact hA i (by omega)
 ·have:j=sig.length:=by omega
  subst this
  have hall:∀ i,ZhW sig i:=fun i h=>hA i h h
  rw[Ju (p:=Zaz sig) ⟨hall,by omega,by omega⟩]
theorem Zbw(a b:List Int):rI (a++b)=rI a++rI b:=List.map_append
theorem ZhY:ZX Proofs.Tryz.prog J8 (Zjg 1 none)=true:=by kernel_rfl
theorem ZhZ:ZX Proofs.Tryz.prog ZM (Zlj J8)=true:=by kernel_rfl
end Go.Fd

/-
  WHAT A SIZE THAT IS LEFT SAYS OF BOUNDS (printed by lawgen.py). Own work.
-/
namespace Go.Fd
def Zm(s:Int->Int)(P:Prop):Prop:=∀ l:Int,0<=l->l<=1048576->s l<=l/\(0<=s l->P)
theorem Zh0:Zm (fun l=>l) True:=fun _ _ _=>⟨Int.le_refl _,fun _=>trivial⟩
theorem Zca{s g:Int->Int}{P Q:Prop}(hs:Zm s P)(hg:Zm g Q):Zm (fun l=>Wf (s l) g) (P/\Q):=fun l h0 h1=>by
 have a:=hs l h0 h1
 by_cases h:s l<0
 ·simp only[Wf,if_pos h]
  exact⟨by omega,fun h=>by omega⟩
 ·simp only[Wf,if_neg h]
  have b:=hg (s l) (by omega) (by omega)
  exact⟨by omega,fun h2=>⟨a.2 (by omega),b.2 h2⟩⟩
theorem Zsz(n:Nat):Zm (fun l=>szN n l) (n<=4294967296):=fun l h0 h1=>by
 simp only[szN]
 split
 ·exact⟨by omega,fun h=>by omega⟩
 ·exact⟨by omega,fun h=>by omega⟩
theorem Zh1(n:Nat):Zm (fun l=>l-n) (n<=4294967296):=fun l h0 h1=>⟨by simp only;omega,fun h=>by simp only at h;omega⟩
theorem Zta{α:Type}{f:α->Int->Int}{P:α->Prop}(hf:∀ x,Zm (f x) (P x)):∀(a:List α),Zm (fun l=>szF f a l) (∀ y∈a,P y)
 | []=>fun l _ _=>⟨Int.le_refl l,fun _ y hy=>by cases hy⟩
 | x::r=>fun l h0 h1=>by
  simp only[szF]
  have a:=hf x l h0 h1
  split
  ·exact⟨by omega,fun h=>by omega⟩
  ·have b:=Zta hf r (f x l) (by omega) (by omega)
   refine⟨by simp only at b;omega,fun h y hy=>?_⟩
   cases hy with
   | head=>exact a.2 (by omega)
   | tail _ hy=>exact b.2 h y hy
theorem ZoL{α:Type}{f:α->Int->Int}{P:α->Prop}(hf:∀ x,Zm (f x) (P x))(a:List α):Zm (fun l=>szL f a l) (a.length<=4294967296/\∀ y∈a,P y):=fun l h0 h1=>by
 simp only[szL]
 split
 ·exact⟨by omega,fun h=>by omega⟩
 ·have b:=Zta hf a (l-a.length) (by omega) (by omega)
  simp only at b
  exact⟨by omega,fun h=>⟨by omega,b.2 h⟩⟩
theorem ZeG{s:Int->Int}{P Q:Prop}(h:Zm s P)(hq:P->Q):Zm s Q:=fun l h0 h1=>⟨(h l h0 h1).1,fun h2=>hq ((h l h0 h1).2 h2)⟩
theorem Zof(x:TNode):Zm (fun l=>Wg x l) (QJ 4294967296 x):=by
 unfold Wg
 exact ZeG (Zca (Zsz _) Zh0) (fun h=>by unfold QJ;simp only[and_assoc,and_true,true_and,implies_true,forall_const] at h ⊢;try exact h)
theorem Zog(x:TWire):Zm (fun l=>Wh x l) (V1 4294967296 x):=by
 unfold Wh
 exact ZeG (Zca (Zh1 _) Zh0) (fun h=>by unfold V1;simp only[and_assoc,and_true,true_and,implies_true,forall_const] at h ⊢;try exact h)
theorem ZeH(x:TBigraph):Zm (fun l=>Yg x l) (ZG 4294967296 x):=by
 unfold Yg
 exact ZeG (Zca (ZoL (fun y=>(Zof _)) _) (Zca (Zsz _) (Zca (ZoL (fun y=>(Zh1 _)) _) (Zca (ZoL (fun y=>(Zog _)) _) Zh0)))) (fun h=>by unfold ZG;simp only[and_assoc,and_true,true_and,implies_true,forall_const] at h ⊢;try exact h)
theorem Zoh(x:TRule):Zm (fun l=>Zbp x l) (Vb 4294967296 x):=by
 unfold Zbp
 exact ZeG (Zca (ZeH _) (Zca (ZeH _) (Zca (Zsz _) Zh0))) (fun h=>by unfold Vb;simp only[and_assoc,and_true,true_and,implies_true,forall_const] at h ⊢;try exact h)
theorem Zh2(x:TControl):Zm (fun l=>Jo x l) (ZH 4294967296 x):=by
 unfold Jo
 exact ZeG (Zca (Zh1 _) Zh0) (fun h=>by unfold ZH;simp only[and_assoc,and_true,true_and,implies_true,forall_const] at h ⊢;try exact h)
theorem X5{a:Nat}(h:a<=4294967296):a<=9223372036854775807:=by omega
theorem Zjl{x:TNode}(h:QJ 4294967296 x):QJ 9223372036854775807 x:=by
 exact(X5 h)
theorem Zjm{x:TWire}(h:V1 4294967296 x):V1 9223372036854775807 x:=by
 exact(X5 h)
theorem Zbx{x:TBigraph}(h:ZG 4294967296 x):ZG 9223372036854775807 x:=by
 obtain⟨b0,b1,b2,b3,b4,b5,b6⟩:=h
 exact⟨(X5 b0),(fun y0 hy0=>(Zjl (b1 y0 hy0))),(X5 b2),(X5 b3),(fun y0 hy0=>(X5 (b4 y0 hy0))),(X5 b5),(fun y0 hy0=>(Zjm (b6 y0 hy0)))⟩
theorem Zdx{x:TRule}(h:Vb 4294967296 x):Vb 9223372036854775807 x:=by
 obtain⟨b0,b1,b2⟩:=h
 exact⟨(Zbx b0),(Zbx b1),(X5 b2)⟩
theorem Zby{x:TControl}(h:ZH 4294967296 x):ZH 9223372036854775807 x:=by
 exact(X5 h)
end Go.Fd

/-
  WHAT A VALID BIGRAPH IS, BOTH SIDES. Own work.
-/
namespace Go.Fd
set_option maxRecDepth 20000
theorem ZeI{P:Nat->Prop}{j:Nat}(h:∀ k,k<j->P k)(hj:P j):∀ k,k<j+1->P k:=fun k hk=>by
 by_cases e:k=j
 ·subst e;exact hj
 ·exact h k (by omega)
theorem Zgf{n a b:Int}:inB n a b=dc (a<=n/\n<=b):=by
 unfold inB
 rw[JU,Bool.decide_and]
theorem ZjU:∀(x y:List UInt8),(!Op.bytesLess x y)=(Op.bytesLess y x || decide (x=y))
 | [],[]=>by simp [Op.bytesLess]
 | [],_::_=>by simp [Op.bytesLess]
 | _::_,[]=>by simp [Op.bytesLess]
 | a::x,b::y=>by
  have ih:=ZjU x y
  simp only[Op.bytesLess]
  by_cases h:a=b
  ·subst h
   have e:¬ a<a:=UInt8.lt_irrefl a
   simp [e,ih]
  ·by_cases h1:a<b
   ·have h2:¬ b<a:=fun h2=>UInt8.lt_irrefl a (UInt8.lt_trans h1 h2)
    have h3:¬ b=a:=fun e=>h e.symm
    simp [h,h1,h2,h3]
   ·have h2:b<a:=by
     rcases UInt8.lt_or_lt_of_ne h with h | h
     ·exact absurd h h1
     ·exact h
    simp [h,h1,h2]
def ltS(s t:ByteArray):Prop:=Op.bytesLess s.data.toList t.data.toList=true
theorem Zlm{s t:ByteArray}:(!Op.bytesLess s.data.toList t.data.toList) = !dc (ltS s t):=by
 unfold ltS
 rw[JU,Bool.decide_eq_true]
theorem Zln{s t:ByteArray}:(Op.bytesLess t.data.toList s.data.toList || decide (t=s)) = !dc (ltS s t):=by
 rw[<-Zlm,ZjU]
 congr 1
 have:t=s↔s.data.toList=t.data.toList:=⟨fun h=>by rw[h],fun h=>by
  cases s with | mk s=>cases t with | mk t=>exact congrArg ByteArray.mk (Array.toList_inj.1 h.symm)⟩
 simp only[this]
def Zoi(l:List ByteArray)(i:Nat):Prop:=∀ h:i<l.length,ZhU l[i]/\∀ _:0<i,ltS (l[i-1]'(by omega)) l[i]
def VN(l:List ByteArray):Prop:=(∀ i,Zoi l i)/\l.length<=16
theorem Zbz(l:List ByteArray)(hl:l.length<=4294967296)(hb:∀ y∈l,y.size<=4294967296)(lvl:Nat)(S:Sto):Sem Proofs.Tryz.prog YX lvl [.tr (.sl (rS l))] S (iB (dc (VN l))) S:=by
 refine Zb Zb5 trivial ?_
 simp only[Uy,List.length_map,EVA,seval,Zd,men]
 refine ZU (α:=Unit) l.length (fun j _=>[(3,iI j)]) (fun j _=>[]) (fun j _=>∀ k,k<j->Zoi l k) () (by simp only[EVA,seval,Zd,men]) (by (simp only[EVA,seval,Zd,men]) <;> rfl) (fun k hk=>absurd hk (Nat.not_lt_zero k)) ?_
 intro j _ hj hA
 simp only[List.length_map,EVA,seval,Zd,men]
 refine Zl (fun hlt=>?_) (fun hge=>?_)
 ·have hja:j<l.length:=by omega
  have ga:=Um (c:=fun s=>[ts s]) hja
  have hno:¬ Zoi l j->dc (VN l)=false:=fun h=>Zg fun g=>h (g.1 j)
  simp only[ga,List.length_map,EVA,seval,Zd,men]
  refine Za (Zcv l[j] (by have:=hb _ (List.getElem_mem hja);omega)) ?_
  cases h1:dc (ZhU l[j])
  ·simp only[EVA,seval,Zd,men]
   rw[hno fun h=>dc_not.1 h1 (h hja).1]
  by_cases q:0<j
  ·have e1:((j:Int)-1).toNat=j-1:=by omega
   have e2:(0:Int)<=j-1:=by omega
   have q5:(0:Int)<j:=by omega
   have gb:=Um (c:=fun s=>[ts s]) (l:=l) (j:=j-1) (by omega)
   simp only[q5,e1,e2,ga,gb,List.length_map,EVA,seval,Zd,men]
   cases hc:Op.bytesLess (l[j-1]'(by omega)).data.toList l[j].data.toList
   ·simp only[EVA,seval,Zd,men]
    exact⟨by rw[Ze];omega,by rw[hno fun h=>by have:=(h hja).2 q;unfold ltS at this;rw[this] at hc;cases hc]⟩
   ·simp only[EVA,seval,Zd,men]
    exact⟨by rw[Ze];omega,by rw[Ze];omega,Zf () hja rfl (ZeI hA fun _=>⟨dc_iff.1 h1,fun _=>hc⟩)⟩
  ·have q5:¬ (0:Int)<j:=by omega
   simp only[q5,ga,List.length_map,EVA,seval,Zd,men]
   exact⟨by rw[Ze];omega,Zf () hja rfl (ZeI hA fun _=>⟨dc_iff.1 h1,fun h=>absurd h q⟩)⟩
 ·have hj1:j=l.length:=by omega
  subst hj1
  rw[JA (p:=VN l) (q:=(l.length:Int)<=16) ⟨fun g=>by have:=g.2;omega,fun g=>⟨fun i h=>hA i h h,by omega⟩⟩,JU]
theorem Zaq(l:List ByteArray)(hl:l.length<=4294967296)(hb:∀ y∈l,y.size<=4294967296)(lvl:Nat)(S:Sto):Sem Proofs.Tryz.prog Yv lvl [.tr (.sl (rS l))] S (iB (dc (VN l))) S:=by
 refine Zb Zbu trivial ?_
 simp only[WU,List.length_map,EVA,seval,Zd,men]
 refine ZU (α:=Unit) l.length (fun j _=>[(7,iI j)]) (fun j _=>[]) (fun j _=>∀ k,k<j->Zoi l k) () (by simp only[EVA,seval,Zd,men]) (by (simp only[EVA,seval,Zd,men]) <;> rfl) (fun k hk=>absurd hk (Nat.not_lt_zero k)) ?_
 intro j _ hj hA
 simp only[List.length_map,EVA,seval,Zd,men]
 refine Zl (fun hlt=>?_) (fun hge=>?_)
 ·have hja:j<l.length:=by omega
  have ga:=Um (c:=fun s=>[ts s]) hja
  have hno:¬ Zoi l j->dc (VN l)=false:=fun h=>Zg fun g=>h (g.1 j)
  simp only[ga,List.length_map,EVA,seval,Zd,men]
  refine Za (Zcw l[j] (by have:=hb _ (List.getElem_mem hja);omega)) ?_
  cases h1:dc (ZhU l[j])
  ·simp only[EVA,seval,Zd,men]
   rw[hno fun h=>dc_not.1 h1 (h hja).1]
  by_cases q:0<j
  ·have e1:((j:Int)-1).toNat=j-1:=by omega
   have e2:(0:Int)<=j-1:=by omega
   have q5:(0:Int)<j:=by omega
   have gb:=Um (c:=fun s=>[ts s]) (l:=l) (j:=j-1) (by omega)
   simp only[q5,e1,e2,ga,gb,List.length_map,EVA,seval,Zd,men]
   rw[Zln]
   cases hc:dc (ltS (l[j-1]'(by omega)) l[j])
   ·simp only[EVA,seval,Zd,men]
    exact⟨by rw[Ze];omega,by rw[hno fun h=>dc_not.1 hc ((h hja).2 q)]⟩
   ·simp only[EVA,seval,Zd,men]
    exact⟨by rw[Ze];omega,by rw[Ze];omega,Zf () hja rfl (ZeI hA fun _=>⟨dc_iff.1 h1,fun _=>dc_iff.1 hc⟩)⟩
  ·have q5:¬ (0:Int)<j:=by omega
   simp only[q5,ga,List.length_map,EVA,seval,Zd,men]
   exact⟨by rw[Ze];omega,Zf () hja rfl (ZeI hA fun _=>⟨dc_iff.1 h1,fun h=>absurd h q⟩)⟩
 ·have hj1:j=l.length:=by omega
  subst hj1
  rw[JA (p:=VN l) (q:=(l.length:Int)<=16) ⟨fun g=>by have:=g.2;omega,fun g=>⟨fun i h=>hA i h h,by omega⟩⟩,JU]
def Xj(b:TBigraph)(l:Int):Prop:=0<=l/\l<=b.edges+b.outer.length-1
theorem Zcx(b:TBigraph)(l:Int)(he:0<=b.edges/\b.edges<=8)(ho:b.outer.length<=4294967296)(lvl:Nat)(S:Sto):Sem Proofs.Tryz.prog Vz lvl [.ag ((Zc b).map .tr),iI l] S (iB (dc (Xj b l))) S:=by
 refine Zb Zds trivial ?_
 simp only[Dn,Zc,List.length_map,EVA,seval,Zd,men]
 refine⟨by rw[Ze];omega,by rw[Ze];omega,?_⟩
 refine Za (VU l 0 (b.edges+b.outer.length-1)) ?_
 simp only[EVA,seval,Zd,men]
 rw[Zgf]
 rfl
theorem Zcy(b:TBigraph)(l:Int)(he:0<=b.edges/\b.edges<=8)(ho:b.outer.length<=4294967296)(lvl:Nat)(S:Sto):Sem Proofs.Tryz.prog Jj lvl [.ag ((Zc b).map .tr),iI l] S (iB (dc (Xj b l))) S:=by
 refine Zb WV trivial ?_
 simp only[V5,Zc,List.length_map,EVA,seval,Zd,men]
 refine⟨by rw[Ze];omega,by rw[Ze];omega,?_⟩
 refine Za (Yx l 0 (b.edges+b.outer.length-1)) ?_
 simp only[EVA,seval,Zd,men]
 rw[Zgf]
 rfl
def ZeJ(sig:List TControl)(c:Int):Int:=((sig[c.toNat]?).map TControl.kind_).getD 0
def UH(sig:List TControl)(c:Int):Int:=((sig[c.toNat]?).map TControl.ports).getD 0
def Zh3(b:TBigraph)(p:Int):Int:=((b.nodes[p.toNat]?).map TNode.control).getD 0
def Uo(sig:List TControl)(b:TBigraph)(p Zax:Int):Prop:=(p<0/\-b.roots<=p)\/(0<=p/\p<Zax/\¬ ZeJ sig (Zh3 b p)=2)
def ZeK(sig:List TControl)(b:TBigraph)(n:Nat):Prop:=∀ i,i<n->∀ h:i<b.nodes.length,0<=b.nodes[i].control/\b.nodes[i].control<=(sig.length:Int)-1
theorem ZbA(sig:List TControl)(b:TBigraph)(p:Int)(k:Nat)(hp:Qz .i64 p)(hr:0<=b.roots/\b.roots<=4)(hk:k<=b.nodes.length)(hc:ZeK sig b k)(lvl:Nat)(S:Sto):Sem Proofs.Tryz.prog YY lvl [.tr (.sl (sig.map Zi)),.ag ((Zc b).map .tr),iI p,iI k] S (iB (dc (Uo sig b p k))) S:=by
 rw[Ze] at hp
 refine Zb Zb7 trivial ?_
 simp only[UA,Zc,List.length_map,EVA,seval,Zd,men]
 refine Zl (fun hneg=>?_) (fun hpos=>?_)
 ·refine⟨by rw[Ze];omega,by rw[Ze];omega,?_⟩
  refine Za (VU (-1-p) 0 (b.roots-1)) ?_
  simp only[EVA,seval,Zd,men]
  have hiff:(0 <= -1-p/\-1-p<=b.roots-1)↔Uo sig b p k:=⟨fun h=>.inl (by omega),fun h=>by rcases h with h | h <;> omega⟩
  rw[Zgf,JA hiff]
 ·refine Zl (fun hb=>?_) (fun hb=>?_)
  ·obtain⟨q,rfl⟩:∃ q:Nat,p=q:=⟨p.toNat,by omega⟩
   have hq:q<b.nodes.length:=by omega
   have ga:=Um (c:=Zy) hq
   obtain⟨m1,m2⟩:=hc q (by omega) hq
   obtain⟨m,hm⟩:∃ m:Nat,b.nodes[q].control=m:=⟨b.nodes[q].control.toNat,by omega⟩
   have hms:m<sig.length:=by omega
   have gs:=Um (c:=Zi) hms
   simp only[hb,ga,gs,Zy,Zi,hm,Int.toNat_natCast,Int.natCast_nonneg,List.length_map,EVA,seval,Zd,men]
   have e:ZeJ sig (Zh3 b q)=sig[m].kind_:=by simp [ZeJ,Zh3,hq,hm,hms]
   have hiff:Uo sig b q k ↔ ¬ sig[m].kind_=2:=by
    constructor
    ·intro h
     rcases h with h | h
     ·omega
     ·rw[<-e];exact h.2.2
    ·intro h
     exact .inr ⟨by omega,hb,by rw[e];exact h⟩
   rw[JA hiff,JU]
  ·rw[Zg fun h:Uo sig b p k=>by rcases h with h | h <;> omega]
theorem Zar(sig:List TControl)(b:TBigraph)(p:Int)(k:Nat)(hr:0<=b.roots/\b.roots<=4)(hk:k<=b.nodes.length)(hc:ZeK sig b k)(lvl:Nat)(S:Sto):Sem Proofs.Tryz.prog Jf lvl [.ag ((Zc b).map .tr),.tr (.sl (sig.map Zi)),iI p,iI k] S (iB (dc (Uo sig b p k))) S:=by
 refine Zb X4 trivial ?_
 simp only[VD,Zc,List.length_map,EVA,seval,Zd,men]
 refine Zl (fun hneg=>?_) (fun hpos=>?_)
 ·refine⟨by rw[Ze];omega,?_⟩
  have hiff:Uo sig b p k ↔ -b.roots<=p:=⟨fun h=>by rcases h with h | h <;> omega,fun h=>.inl (by omega)⟩
  rw[JA hiff,JU]
 ·refine Zl (fun hb=>?_) (fun hb=>?_)
  ·obtain⟨q,rfl⟩:∃ q:Nat,p=q:=⟨p.toNat,by omega⟩
   have hq:q<b.nodes.length:=by omega
   have ga:=Um (c:=Zy) hq
   obtain⟨m1,m2⟩:=hc q (by omega) hq
   obtain⟨m,hm⟩:∃ m:Nat,b.nodes[q].control=m:=⟨b.nodes[q].control.toNat,by omega⟩
   have hms:m<sig.length:=by omega
   have gs:=Um (c:=Zi) hms
   simp only[hb,ga,gs,Zy,Zi,hm,Int.toNat_natCast,Int.natCast_nonneg,List.length_map,EVA,seval,Zd,men]
   have e:ZeJ sig (Zh3 b q)=sig[m].kind_:=by simp [ZeJ,Zh3,hq,hm,hms]
   have hiff:Uo sig b q k ↔ ¬ sig[m].kind_=2:=by
    constructor
    ·intro h
     rcases h with h | h
     ·omega
     ·rw[<-e];exact h.2.2
    ·intro h
     exact .inr ⟨by omega,hb,by rw[e];exact h⟩
   rw[JA hiff,JU]
  ·rw[Zg fun h:Uo sig b p k=>by rcases h with h | h <;> omega]
structure nodeOK (sig:List TControl) (b:TBigraph) (x:TNode) (i:Nat):Prop where
 ctl:0<=x.control/\x.control<=(sig.length:Int)-1
 par:Uo sig b x.parent i
 ports:(x.links.length:Int)=UH sig x.control
 links:∀ l∈x.links,Xj b l
theorem Zgy(sig:List TControl)(b:TBigraph)(i:Nat)(hi:i<b.nodes.length)(hn:sig.length<=4294967296)(hl:b.nodes[i].links.length<=4294967296)(hp:Qz .i64 b.nodes[i].parent)(hr:0<=b.roots/\b.roots<=4)(he:0<=b.edges/\b.edges<=8)(ho:b.outer.length<=4294967296)(hc:ZeK sig b i)(lvl:Nat)(S:Sto):Sem Proofs.Tryz.prog QU lvl [.tr (.sl (sig.map Zi)),.ag ((Zc b).map .tr),iI i] S (iB (dc (nodeOK sig b b.nodes[i] i))) S:=by
 refine Zb Zdr trivial ?_
 have ga:=Um (c:=Zy) hi
 simp only[Dm,Zc,List.length_map,ga,Zy,EVA,seval,Zd,men]
 refine⟨by rw[Ze];omega,?_⟩
 refine Za (VU b.nodes[i].control 0 ((sig.length:Int)-1)) ?_
 cases h1:inB b.nodes[i].control 0 ((sig.length:Int)-1)
 ·simp only[EVA,seval,Zd,men]
  rw[Zg fun h:nodeOK sig b b.nodes[i] i=>inB_not.1 h1 h.ctl]
 have r1:=inB_iff.1 h1
 simp only[Zc,List.length_map,Zy,EVA,seval,Zd,men]
 refine Za (ZbA sig b b.nodes[i].parent i hp hr (by omega) hc) ?_
 cases h2:dc (Uo sig b b.nodes[i].parent i)
 ·simp only[EVA,seval,Zd,men]
  rw[Zg fun h:nodeOK sig b b.nodes[i] i=>dc_not.1 h2 h.par]
 obtain⟨m,hm⟩:∃ m:Nat,b.nodes[i].control=m:=⟨b.nodes[i].control.toNat,by omega⟩
 have hms:m<sig.length:=by omega
 have gs:=Um (c:=Zi) hms
 have e:UH sig b.nodes[i].control=sig[m].ports:=by simp [UH,hm,hms]
 simp only[hm,gs,Zi,Zc,List.length_map,Zy,EVA,seval,Zd,men]
 refine Zl (fun hne=>?_) (fun heq=>?_)
 ·rw[Zg fun h:nodeOK sig b b.nodes[i] i=>by have:=h.ports;rw[e] at this;exact hne this]
 refine ZU (α:=Unit) b.nodes[i].links.length (fun j _=>[(8,iI j)]) (fun j _=>[]) (fun j _=>∀ k,k<j->Xj b (g0 b.nodes[i].links k)) () (by simp only[EVA,seval,Zd,men]) (by (simp only[EVA,seval,Zd,men]) <;> rfl) (fun k hk=>absurd hk (Nat.not_lt_zero k)) ?_
 intro j _ hj hA
 simp only[List.length_map,EVA,seval,Zd,men]
 refine Zl (fun hlt=>?_) (fun hge=>?_)
 ·have hja:j<b.nodes[i].links.length:=by omega
  have gl:=YS hja
  simp only[gl,List.length_map,EVA,seval,Zd,men]
  refine Za (Zcx b (g0 b.nodes[i].links j) he ho) ?_
  cases hc:dc (Xj b (g0 b.nodes[i].links j))
  ·simp only[EVA,seval,Zd,men]
   rw[Zg fun h:nodeOK sig b b.nodes[i] i=>dc_not.1 hc (h.links _ (by simp [hja]))]
  ·simp only[EVA,seval,Zd,men]
   exact⟨by rw[Ze];omega,Zf () hja rfl (ZeI hA (dc_iff.1 hc))⟩
 ·have hj1:j=b.nodes[i].links.length:=by omega
  subst hj1
  have:nodeOK sig b b.nodes[i] i:=⟨r1,dc_iff.1 h2,by rw[e];omega,fun l hl=>by
   obtain⟨k,hk,rfl⟩:=List.getElem_of_mem hl
   have:=hA k hk
   simpa [hk] using this⟩
  rw[Ju this]
def inn(b:TBigraph):List ByteArray:=b.inner.map TWire.name
theorem Zgg(a b:List ByteArray):rS (a++b)=rS a++rS b:=List.map_append
theorem Zft(b:TBigraph)(hn:b.inner.length<=4294967296)(lvl:Nat)(S:Sto):Sem Proofs.Tryz.prog Qh lvl [.ag ((Zc b).map .tr)] S (.ow 1 (rS (inn b)) true) S:=by
 refine Zb Zb6 trivial ?_
 simp only[Uz,List.length_map,Zc,EVA,seval,Zd,men]
 refine ZU (α:=Unit) b.inner.length (fun j _=>[(3,.hd (lvl,160) [] 0 j none j),(4,iI j)]) (fun j _=>[(160,.ar 1 (rS ((inn b).take j)) true j 0)]) (fun _ _=>True) () (by simp only[EVA,seval,Zd,men]) (by (simp only[EVA,seval,Zd,men]) <;> rfl) trivial ?_
 intro j _ hj _
 have hil:(inn b).length=b.inner.length:=by simp [inn]
 simp only[List.length_map,EVA,seval,Zd,men]
 refine Zl (fun hlt=>?_) (fun hge=>?_)
 ·have hja:j<b.inner.length:=by omega
  have ga:=Um (c:=ZF) hja
  have hlN:(rS ((inn b).take j)).length=j:=by rw[List.length_map,List.length_take];omega
  simp only[ga,ZF,hlN,List.length_map,EVA,seval,Zd,men]
  have hstep:rS ((inn b).take j)++[[ts b.inner[j].name]]=rS ((inn b).take (j+1)):=by
   rw[List.take_succ_eq_append_getElem (by omega),Zgg]
   simp [inn]
  refine⟨by omega,by rw[Ze];omega,Zf () hja ?_ trivial⟩
  rw[<-hstep]
  rfl
 ·have:j=b.inner.length:=by omega
  subst this
  rw[List.take_of_length_le (by omega)]
  exact⟨hil.symm,rfl⟩
end Go.Fd

/-
  A VALID BIGRAPH: THE WHOLE, BOTH SIDES. Own work.
-/
namespace Go.Fd
set_option maxRecDepth 20000
theorem Zcb(b:TBigraph)(hn:b.inner.length<=4294967296)(lvl:Nat)(S:Sto):Sem Proofs.Tryz.prog Jq lvl [.ag ((Zc b).map .tr)] S (.ow 1 (rS (inn b)) true) S:=by
 refine Zb Xu trivial ?_
 simp only[YR,List.length_map,Zc,EVA,seval,Zd,men]
 refine ZU (α:=Unit) b.inner.length (fun j _=>[(3,.hd (lvl,192) [] 0 j none j),(10,iI j)]) (fun j _=>[(192,.ar 1 (rS ((inn b).take j)) true j 0)]) (fun _ _=>True) () (by simp only[EVA,seval,Zd,men]) (by (simp only[EVA,seval,Zd,men]) <;> rfl) trivial ?_
 intro j _ hj _
 have hil:(inn b).length=b.inner.length:=by simp [inn]
 simp only[List.length_map,EVA,seval,Zd,men]
 refine Zl (fun hlt=>?_) (fun hge=>?_)
 ·have hja:j<b.inner.length:=by omega
  have ga:=Um (c:=ZF) hja
  have hlN:(rS ((inn b).take j)).length=j:=by rw[List.length_map,List.length_take];omega
  simp only[ga,ZF,hlN,List.length_map,EVA,seval,Zd,men]
  have hstep:rS ((inn b).take j)++[[ts b.inner[j].name]]=rS ((inn b).take (j+1)):=by
   rw[List.take_succ_eq_append_getElem (by omega),Zgg]
   simp [inn]
  refine⟨by omega,by rw[Ze];omega,Zf () hja ?_ trivial⟩
  rw[<-hstep]
  rfl
 ·have:j=b.inner.length:=by omega
  subst this
  rw[List.take_of_length_le (by omega)]
  exact⟨hil.symm,rfl⟩
def Zgh(sig:List TControl)(b:TBigraph)(i:Nat):Prop:=∀ h:i<b.nodes.length,nodeOK sig b b.nodes[i] i
structure bigOK (sig:List TControl) (b:TBigraph):Prop where
 sg:Zaz sig
 roots:0<=b.roots/\b.roots<=4
 nodesL:b.nodes.length<=8
 sitesL:b.sites.length<=4
 edges:0<=b.edges/\b.edges<=8
 outer:VN b.outer
 inn:VN (inn b)
 nodes:∀ i,Zgh sig b i
 sites:∀ p∈b.sites,Uo sig b p b.nodes.length
 inner:∀ w∈b.inner,Xj b w.link
theorem Zdy{sig:List TControl}{b:TBigraph}{j:Nat}(h:∀ k,k<j->Zgh sig b k):ZeK sig b j:=fun i hi hl=>(h i hi hl).ctl
theorem Zdz{b:TBigraph}:(inn b).length=b.inner.length:=by simp [inn]
theorem Zh4{b:TBigraph}{n:Nat}(h:∀ y∈b.inner,V1 n y):∀ y∈inn b,y.size<=n:=fun y hy=>by
 obtain⟨w,hw,rfl⟩:=List.mem_map.1 hy
 exact h w hw
theorem Zcz(sig:List TControl)(b:TBigraph)(hn:sig.length<=4294967296)(hbs:∀ y∈sig,ZH 4294967296 y)(hb:ZG 4294967296 b)(hf:WO b)(lvl:Nat)(S:Sto):Sem Proofs.Tryz.prog Vs lvl [.tr (.sl (sig.map Zi)),.ag ((Zc b).map .tr)] S (iB (dc (bigOK sig b))) S:=by
 obtain⟨b1,b2,b3,b4,b5,b6,b7⟩:=hb
 obtain⟨f1,f2,f3,f4,f5⟩:=hf
 refine Zb Zdk trivial ?_
 simp only[De,List.length_map,Zc,EVA,seval,Zd,men]
 refine Za (ZhX sig (by omega) (fun y hy=>Zby (hbs y hy))) ?_
 cases h1:dc (Zaz sig)
 ·simp only[EVA,seval,Zd,men]
  rw[Zg fun h:bigOK sig b=>dc_not.1 h1 h.sg]
 simp only[List.length_map,Zc,EVA,seval,Zd,men]
 refine Za (VU b.roots 0 4) ?_
 cases h2:inB b.roots 0 4
 ·simp only[EVA,seval,Zd,men]
  rw[Zg fun h:bigOK sig b=>inB_not.1 h2 h.roots]
 by_cases h3:(8:Int)<b.nodes.length
 ·simp only[h3,List.length_map,Zc,EVA,seval,Zd,men]
  rw[Zg fun h:bigOK sig b=>by have:=h.nodesL;omega]
 by_cases h4:(4:Int)<b.sites.length
 ·simp only[h3,h4,List.length_map,Zc,EVA,seval,Zd,men]
  rw[Zg fun h:bigOK sig b=>by have:=h.sitesL;omega]
 simp only[h3,h4,List.length_map,Zc,EVA,seval,Zd,men]
 refine Za (VU b.edges 0 8) ?_
 cases h5:inB b.edges 0 8
 ·simp only[EVA,seval,Zd,men]
  rw[Zg fun h:bigOK sig b=>inB_not.1 h5 h.edges]
 have r2:=inB_iff.1 h2
 have r5:=inB_iff.1 h5
 simp only[List.length_map,Zc,EVA,seval,Zd,men]
 refine Za (Zbz b.outer (by assumption) (by assumption)) ?_
 cases h6:dc (VN b.outer)
 ·simp only[EVA,seval,Zd,men]
  rw[Zg fun h:bigOK sig b=>dc_not.1 h6 h.outer]
 by_cases h7:(16:Int)<b.inner.length
 ·simp only[h7,List.length_map,Zc,EVA,seval,Zd,men]
  rw[Zg fun h:bigOK sig b=>by have:=h.inn.2;rw[Zdz] at this;omega]
 simp only[h7,List.length_map,Zc,EVA,seval,Zd,men]
 refine Za (Zft b (by omega)) ?_
 simp only[List.length_map,Zc,EVA,seval,Zd,men]
 refine Za (Zbz (inn b) (by rw[Zdz];omega) (Zh4 (by assumption))) ?_
 cases h8:dc (VN (inn b))
 ·simp only[EVA,seval,Zd,men]
  rw[Zg fun h:bigOK sig b=>dc_not.1 h8 h.inn]
 simp only[List.length_map,Zc,EVA,seval,Zd,men]
 have ho:=(dc_iff.1 h6).2
 refine ZU (α:=Unit) b.nodes.length (fun j _=>[(5,iI j)]) (fun j _=>[]) (fun j _=>∀ k,k<j->Zgh sig b k) () (by simp only[EVA,seval,Zd,men]) (by (simp only[EVA,seval,Zd,men]) <;> rfl) (fun k hk=>absurd hk (Nat.not_lt_zero k)) ?_
 intro j _ hj hA
 simp only[List.length_map,Zc,EVA,seval,Zd,men]
 refine Zl (fun hlt=>?_) (fun hge=>?_)
 ·have hja:j<b.nodes.length:=by omega
  have hm:=List.getElem_mem hja
  refine Za (Zgy sig b j hja hn (by first | exact(b2 _ hm) | exact(b3 _ hm)) (by first | exact(f1 _ hm).2.1 | exact(f2 _ hm).2.1) r2 r5 (by omega) (Zdy hA)) ?_
  cases hc:dc (nodeOK sig b b.nodes[j] j)
  ·simp only[EVA,seval,Zd,men]
   rw[Zg fun h:bigOK sig b=>dc_not.1 hc (h.nodes j hja)]
  ·simp only[EVA,seval,Zd,men]
   exact⟨by rw[Ze];omega,Zf () hja rfl (ZeI hA fun _=>dc_iff.1 hc)⟩
 have hj1:j=b.nodes.length:=by omega
 subst hj1
 refine ZU (α:=Unit) b.sites.length (fun j _=>[(6,iI j)]) (fun j _=>[]) (fun j _=>∀ k,k<j->Uo sig b (g0 b.sites k) b.nodes.length) () (by simp only[EVA,seval,Zd,men]) (by (simp only[EVA,seval,Zd,men]) <;> rfl) (fun k hk=>absurd hk (Nat.not_lt_zero k)) ?_
 intro j _ hj hB
 simp only[List.length_map,Zc,EVA,seval,Zd,men]
 refine Zl (fun hlt=>?_) (fun hge=>?_)
 ·have hja:j<b.sites.length:=by omega
  have ga:=YS hja
  have hg:g0 b.sites j∈b.sites:=by simp [hja]
  simp only[ga,List.length_map,Zc,EVA,seval,Zd,men]
  refine Za (ZbA sig b (g0 b.sites j) b.nodes.length (by first | exact f3 _ hg | exact f2 _ hg | exact f4 _ hg) r2 (Nat.le_refl _) (Zdy hA)) ?_
  cases hc:dc (Uo sig b (g0 b.sites j) b.nodes.length)
  ·simp only[EVA,seval,Zd,men]
   rw[Zg fun h:bigOK sig b=>dc_not.1 hc (h.sites _ hg)]
  ·simp only[EVA,seval,Zd,men]
   exact⟨by rw[Ze];omega,Zf () hja rfl (ZeI hB (dc_iff.1 hc))⟩
 have hj1:j=b.sites.length:=by omega
 subst hj1
 refine ZU (α:=Unit) b.inner.length (fun j _=>[(7,iI j)]) (fun j _=>[]) (fun j _=>∀ k,k<j->∀ h:k<b.inner.length,Xj b b.inner[k].link) () (by simp only[EVA,seval,Zd,men]) (by (simp only[EVA,seval,Zd,men]) <;> rfl) (fun k hk=>absurd hk (Nat.not_lt_zero k)) ?_
 intro j _ hj hC
 simp only[List.length_map,Zc,EVA,seval,Zd,men]
 refine Zl (fun hlt=>?_) (fun hge=>?_)
 ·have hja:j<b.inner.length:=by omega
  have ga:=Um (c:=ZF) hja
  simp only[ga,ZF,List.length_map,Zc,EVA,seval,Zd,men]
  refine Za (Zcx b b.inner[j].link r5 (by omega)) ?_
  cases hc:dc (Xj b b.inner[j].link)
  ·simp only[EVA,seval,Zd,men]
   rw[Zg fun h:bigOK sig b=>dc_not.1 hc (h.inner _ (List.getElem_mem hja))]
  ·simp only[EVA,seval,Zd,men]
   exact⟨by rw[Ze];omega,Zf () hja rfl (ZeI hC fun _=>dc_iff.1 hc)⟩
 have hj1:j=b.inner.length:=by omega
 subst hj1
 have:bigOK sig b:=⟨dc_iff.1 h1,r2,by omega,by omega,r5,dc_iff.1 h6,dc_iff.1 h8,fun i h=>hA i h h,fun p hp=>by
  obtain⟨k,hk,rfl⟩:=List.getElem_of_mem hp
  have:=hB k hk
  simpa [hk] using this,fun w hw=>by
  obtain⟨k,hk,rfl⟩:=List.getElem_of_mem hw
  exact hC k hk hk⟩
 rw[Ju this]
theorem ZbB(l:Int)(b:TBigraph)(he:0<=b.edges/\b.edges<=8)(ho:b.outer.length<=4294967296)(lvl:Nat)(S:Sto):Sem Proofs.Tryz.prog YG lvl [iI l,.ta (Zc b)] S (iB (!dc (Xj b l))) S:=by
 refine Zb Dq trivial ?_
 simp only[Xf,Zc,EVA,seval,Zd,men]
 refine Za (Zcy b l he ho) ?_
 simp only[EVA,seval,Zd,men]
theorem ZbC(p:Int)(sig:List TControl)(b:TBigraph)(hr:0<=b.roots/\b.roots<=4)(hc:ZeK sig b b.nodes.length)(lvl:Nat)(S:Sto):Sem Proofs.Tryz.prog YH lvl [iI p,.ta (Zc b),.ta [Tr.sl (sig.map Zi)]] S (iB (!dc (Uo sig b p b.nodes.length))) S:=by
 refine Zb Dr trivial ?_
 simp only[Xg,Zc,List.length_map,EVA,seval,Zd,men]
 refine Za (Zar sig b p b.nodes.length hr (Nat.le_refl _) hc) ?_
 simp only[EVA,seval,Zd,men]
theorem ZbD(w:TWire)(b:TBigraph)(he:0<=b.edges/\b.edges<=8)(ho:b.outer.length<=4294967296)(lvl:Nat)(S:Sto):Sem Proofs.Tryz.prog YI lvl [.ag ((ZF w).map .tr),.ta (Zc b)] S (iB (!dc (Xj b w.link))) S:=by
 refine Zb Ds trivial ?_
 simp only[Xh,Zc,ZF,EVA,seval,Zd,men]
 refine Za (Zcy b w.link he ho) ?_
 simp only[EVA,seval,Zd,men]
theorem Zoj:ZX Proofs.Tryz.prog Jd (Zjg 2 (some 2))=true:=by kernel_rfl
theorem Zok:ZX Proofs.Tryz.prog Z8 (Zlj Jd)=true:=by kernel_rfl
theorem any_no{α:Type}{l:List α}{p:α->Prop}:(l.any fun n=>!dc (p n))=false↔∀ n∈l,p n:=by
 simp only[List.any_eq_false,Bool.not_eq_true',Bool.not_eq_false,dc_iff]
theorem Xk(sig:List TControl)(b:TBigraph)(hn:sig.length<=4294967296)(hbs:∀ y∈sig,ZH 4294967296 y)(hb:ZG 4294967296 b)(lvl:Nat)(S:Sto):Sem Proofs.Tryz.prog J7 lvl [.tr (.sl (sig.map Zi)),.ag ((Zc b).map .tr)] S (iB (dc (bigOK sig b))) S:=by
 obtain⟨b1,b2,b3,b4,b5,b6,b7⟩:=hb
 refine Zb Zay trivial ?_
 simp only[Wj,List.length_map,Zc,EVA,seval,Zd,men]
 refine Za (Un sig (by omega) (fun y hy=>Zby (hbs y hy))) ?_
 cases h1:dc (Zaz sig)
 ·simp only[EVA,seval,Zd,men]
  rw[Zg fun h:bigOK sig b=>dc_not.1 h1 h.sg]
 simp only[List.length_map,Zc,EVA,seval,Zd,men]
 refine Za (Yx b.roots 0 4) ?_
 cases h2:inB b.roots 0 4
 ·simp only[EVA,seval,Zd,men]
  rw[Zg fun h:bigOK sig b=>inB_not.1 h2 h.roots]
 by_cases h3:(8:Int)<b.nodes.length
 ·simp only[h3,List.length_map,Zc,EVA,seval,Zd,men]
  rw[Zg fun h:bigOK sig b=>by have:=h.nodesL;omega]
 by_cases h4:(4:Int)<b.sites.length
 ·simp only[h3,h4,List.length_map,Zc,EVA,seval,Zd,men]
  rw[Zg fun h:bigOK sig b=>by have:=h.sitesL;omega]
 simp only[h3,h4,List.length_map,Zc,EVA,seval,Zd,men]
 refine Za (Yx b.edges 0 8) ?_
 cases h5:inB b.edges 0 8
 ·simp only[EVA,seval,Zd,men]
  rw[Zg fun h:bigOK sig b=>inB_not.1 h5 h.edges]
 have r2:=inB_iff.1 h2
 have r5:=inB_iff.1 h5
 simp only[List.length_map,Zc,EVA,seval,Zd,men]
 refine Za (Zaq b.outer (by assumption) (by assumption)) ?_
 cases h6:dc (VN b.outer)
 ·simp only[EVA,seval,Zd,men]
  rw[Zg fun h:bigOK sig b=>dc_not.1 h6 h.outer]
 simp only[List.length_map,Zc,EVA,seval,Zd,men]
 refine Za (Zcb b (by omega)) ?_
 simp only[List.length_map,Zc,EVA,seval,Zd,men]
 refine Za (Zaq (inn b) (by rw[Zdz];omega) (Zh4 (by assumption))) ?_
 cases h8:dc (VN (inn b))
 ·simp only[EVA,seval,Zd,men]
  rw[Zg fun h:bigOK sig b=>dc_not.1 h8 h.inn]
 simp only[List.length_map,Zc,EVA,seval,Zd,men]
 have ho:=(dc_iff.1 h6).2
 refine ZU (α:=Unit) b.nodes.length (fun j _=>[(49,iI j)]) (fun j _=>[]) (fun j _=>∀ k,k<j->Zgh sig b k) () (by simp only[EVA,seval,Zd,men]) (by (simp only[EVA,seval,Zd,men]) <;> rfl) (fun k hk=>absurd hk (Nat.not_lt_zero k)) ?_
 intro j _ hj hA
 simp only[List.length_map,Zc,EVA,seval,Zd,men]
 refine Zl (fun hlt=>?_) (fun hge=>?_)
 ·have hja:j<b.nodes.length:=by omega
  have hm:=List.getElem_mem hja
  have ga:=Um (c:=Zy) hja
  have hll:b.nodes[j].links.length<=4294967296:=by first | exact(b2 _ hm) | exact(b3 _ hm)
  have hno:¬ nodeOK sig b b.nodes[j] j->dc (bigOK sig b)=false:=fun h=>Zg fun g=>h (g.nodes j hja)
  simp only[ga,Zy,List.length_map,Zc,EVA,seval,Zd,men]
  refine⟨by rw[Ze];omega,?_⟩
  refine Za (Yx b.nodes[j].control 0 ((sig.length:Int)-1)) ?_
  cases p1:inB b.nodes[j].control 0 ((sig.length:Int)-1)
  ·simp only[EVA,seval,Zd,men]
   rw[hno fun h=>inB_not.1 p1 h.ctl]
  have q1:=inB_iff.1 p1
  simp only[Zy,List.length_map,Zc,EVA,seval,Zd,men]
  refine Za (Zar sig b b.nodes[j].parent j r2 (by omega) (Zdy hA)) ?_
  cases p2:dc (Uo sig b b.nodes[j].parent j)
  ·simp only[EVA,seval,Zd,men]
   rw[hno fun h=>dc_not.1 p2 h.par]
  obtain⟨m,hmm⟩:∃ m:Nat,b.nodes[j].control=m:=⟨b.nodes[j].control.toNat,by omega⟩
  have hms:m<sig.length:=by omega
  have gs:=Um (c:=Zi) hms
  have e:UH sig b.nodes[j].control=sig[m].ports:=by simp [UH,hmm,hms]
  by_cases p3:(b.nodes[j].links.length:Int)=sig[m].ports
  case neg =>
   simp only[p3,hmm,gs,Int.toNat_natCast,Int.natCast_nonneg,Zi,Zy,List.length_map,Zc,EVA,seval,Zd,men]
   rw[hno fun h=>p3 (by rw[<-e];exact h.ports)]
  simp only[p3,hmm,gs,Int.toNat_natCast,Int.natCast_nonneg,Zi,Zy,List.length_map,Zc,EVA,seval,Zd,men]
  refine Za (Zdw (t:=tv) (cs:=[Zc b]) ZhZ ZhY b.nodes[j].links (by omega) (fun x _ lvl S=>ZbB x b r5 (by omega) lvl S)) ?_
  cases p4:b.nodes[j].links.any fun l=>!dc (Xj b l)
  ·simp only[EVA,seval,Zd,men]
   exact⟨by rw[Ze];omega,Zf () hja rfl (ZeI hA fun _=>⟨q1,dc_iff.1 p2,by rw[e];exact p3,any_no.1 p4⟩)⟩
  ·simp only[EVA,seval,Zd,men]
   rw[hno fun h=>by rw[any_no.2 h.links] at p4;cases p4]
 have hj1:j=b.nodes.length:=by omega
 subst hj1
 refine Za (Zdw (t:=tv) (cs:=[Zc b,[Tr.sl (sig.map Zi)]]) ZhZ ZhY b.sites (by omega) (fun x _ lvl S=>ZbC x sig b r2 (Zdy hA) lvl S)) ?_
 cases h9:b.sites.any fun p=>!dc (Uo sig b p b.nodes.length)
 case true =>
  simp only[EVA,seval,Zd,men]
  rw[Zg fun h:bigOK sig b=>by rw[any_no.2 h.sites] at h9;cases h9]
 simp only[List.length_map,Zc,EVA,seval,Zd,men]
 refine Za (Zgd (cs:=[Zc b]) Zok Zoj (fun x=>rfl) b.inner (by omega) (fun x _ lvl S=>ZbD x b r5 (by omega) lvl S)) ?_
 cases h10:b.inner.any fun w=>!dc (Xj b w.link)
 case true =>
  simp only[EVA,seval,Zd,men]
  rw[Zg fun h:bigOK sig b=>by rw[(any_no (p:=fun w:TWire=>Xj b w.link)).2 h.inner] at h10;cases h10]
 simp only[EVA,seval,Zd,men]
 have:bigOK sig b:=⟨dc_iff.1 h1,r2,by omega,by omega,r5,dc_iff.1 h6,dc_iff.1 h8,fun i h=>hA i h h,any_no.1 h9,any_no.1 h10⟩
 rw[Ju this]
end Go.Fd

/-
  CHILDREN, POINTS, REDEXES, BOTH SIDES. Own work.
-/
namespace Go.Fd
set_option maxRecDepth 20000
def ZgV(f:Nat->Prop)[DecidablePred f]:Nat->List Int
 | 0=>[]
 | j+1=>if f j then ZgV f j++[(j:Int)] else ZgV f j
theorem ZbE{f:Nat->Prop}[DecidablePred f]:∀{j:Nat},(ZgV f j).length<=j
 | 0=>Nat.le_refl 0
 | j+1=>by
  unfold ZgV
  have:=ZbE (f:=f) (j:=j)
  split
  ·rw[List.length_append,List.length_singleton];omega
  ·omega
theorem ZaT{f:Nat->Prop}[DecidablePred f]{j:Nat}(h:f j):ZgV f (j+1)=ZgV f j++[(j:Int)]:=by rw[ZgV,if_pos h]
theorem ZdA{f:Nat->Prop}[DecidablePred f]{j:Nat}(h:¬ f j):ZgV f (j+1)=ZgV f j:=by rw[ZgV,if_neg h]
def Zlo(b:TBigraph)(j:Nat):Int:=((b.nodes[j]?).map TNode.parent).getD 0
theorem ZaU{b:TBigraph}{j:Nat}(h:j<b.nodes.length):Zlo b j=b.nodes[j].parent:=by simp [Zlo,h]
abbrev UI(b:TBigraph)(p:Int):Nat->List Int:=ZgV fun j=>Zlo b j=p
abbrev Q1(b:TBigraph)(p:Int):Nat->List Int:=ZgV fun j=>g0 b.sites j=p
def ZgW(b:TBigraph)(p:Int):List Int:=UI b p b.nodes.length
def Dt(b:TBigraph)(p:Int):List Int:=Q1 b p b.sites.length
theorem Zgz(b:TBigraph)(p:Int)(hl:b.nodes.length<=4294967296)(lvl:Nat)(S:Sto):Sem Proofs.Tryz.prog QO lvl [.ag ((Zc b).map .tr),iI p] S (.ow 1 (rI (ZgW b p)) true) S:=by
 refine Zb Zdl trivial ?_
 simp only[Dg,Zc,List.length_map,EVA,seval,Zd,men]
 refine ZU (α:=Unit) b.nodes.length (fun j _=>[(5,.hd (lvl,224) [] 0 (UI b p j).length none (UI b p j).length),(6,iI j)]) (fun j _=>[(224,.ar 1 (rI (UI b p j)) true (UI b p j).length 0)]) (fun _ _=>True) () (by simp only[EVA,seval,Zd,men]) (by (simp only[EVA,seval,Zd,men]) <;> rfl) trivial ?_
 intro j _ hj _
 simp only[List.length_map,EVA,seval,Zd,men]
 refine Zl (fun hlt=>?_) (fun hge=>?_)
 ·have hja:j<b.nodes.length:=by omega
  have ga:=Um (c:=Zy) hja
  have hle:(UI b p j).length<=j:=ZbE
  simp only[ga,Zy,List.length_map,EVA,seval,Zd,men]
  refine Zl (fun he=>?_) (fun hne=>?_)
  ·refine⟨by omega,by rw[Ze];omega,Zf () hja ?_ trivial⟩
   rw[UI,ZaT (by rw[ZaU hja];exact he),List.length_append,Zbw]
   rfl
  ·refine⟨by rw[Ze];omega,Zf () hja ?_ trivial⟩
   rw[UI,ZdA (by rw[ZaU hja];exact hne)]
   rfl
 ·have:j=b.nodes.length:=by omega
  subst this
  rfl
theorem ZbF(b:TBigraph)(p:Int)(hl:b.sites.length<=4294967296)(lvl:Nat)(S:Sto):Sem Proofs.Tryz.prog YW lvl [.ag ((Zc b).map .tr),iI p] S (.ow 1 (rI (Dt b p)) true) S:=by
 refine Zb Zb4 trivial ?_
 simp only[Ux,Zc,List.length_map,EVA,seval,Zd,men]
 refine ZU (α:=Unit) b.sites.length (fun j _=>[(5,.hd (lvl,224) [] 0 (Q1 b p j).length none (Q1 b p j).length),(6,iI j)]) (fun j _=>[(224,.ar 1 (rI (Q1 b p j)) true (Q1 b p j).length 0)]) (fun _ _=>True) () (by simp only[EVA,seval,Zd,men]) (by (simp only[EVA,seval,Zd,men]) <;> rfl) trivial ?_
 intro j _ hj _
 simp only[List.length_map,EVA,seval,Zd,men]
 refine Zl (fun hlt=>?_) (fun hge=>?_)
 ·have hja:j<b.sites.length:=by omega
  have ga:=YS hja
  have hle:(Q1 b p j).length<=j:=ZbE
  simp only[ga,List.length_map,EVA,seval,Zd,men]
  refine Zl (fun he=>?_) (fun hne=>?_)
  ·refine⟨by omega,by rw[Ze];omega,Zf () hja ?_ trivial⟩
   rw[Q1,ZaT (f:=fun j=>g0 b.sites j=p) he,List.length_append,Zbw]
   rfl
  ·refine⟨by rw[Ze];omega,Zf () hja ?_ trivial⟩
   rw[Q1,ZdA (f:=fun j=>g0 b.sites j=p) hne]
   rfl
 ·have:j=b.sites.length:=by omega
  subst this
  rfl
theorem Zcc(b:TBigraph)(p:Int)(hn:b.nodes.length<=4294967296)(hl:b.sites.length<=4294967296)(lvl:Nat)(S:Sto):Sem Proofs.Tryz.prog Jp lvl [.ag ((Zc b).map .tr),iI p] S (.tu [.ow 1 (rI (ZgW b p)) true,.ow 1 (rI (Dt b p)) true]) S:=by
 refine Zb Xt ⟨trivial,trivial,trivial⟩ ?_
 simp only[YQ,Zc,List.length_map,EVA,seval,Zd,men]
 refine ZU (α:=Unit) b.nodes.length (fun j _=>[(6,.hd (lvl,384) [] 0 (UI b p j).length none (UI b p j).length),(17,iI j)]) (fun j _=>[(384,.ar 1 (rI (UI b p j)) true (UI b p j).length 0)]) (fun _ _=>True) () (by simp only[EVA,seval,Zd,men]) (by (simp only[EVA,seval,Zd,men]) <;> rfl) trivial ?_
 intro j _ hj _
 simp only[List.length_map,EVA,seval,Zd,men]
 refine Zl (fun hlt=>?_) (fun hge=>?_)
 ·have hja:j<b.nodes.length:=by omega
  have ga:=Um (c:=Zy) hja
  have hle:(UI b p j).length<=j:=ZbE
  simp only[ga,Zy,List.length_map,EVA,seval,Zd,men]
  refine Zl (fun he=>?_) (fun hne=>?_)
  ·refine⟨by omega,by rw[Ze];omega,Zf () hja ?_ trivial⟩
   rw[UI,ZaT (by rw[ZaU hja];exact he),List.length_append,Zbw]
   rfl
  ·refine⟨by rw[Ze];omega,Zf () hja ?_ trivial⟩
   rw[UI,ZdA (by rw[ZaU hja];exact hne)]
   rfl
 have:j=b.nodes.length:=by omega
 subst this
 refine ZU (α:=Unit) b.sites.length (fun j _=>[(7,.hd (lvl,416) [] 0 (Q1 b p j).length none (Q1 b p j).length),(34,iI j)]) (fun j _=>[(416,.ar 1 (rI (Q1 b p j)) true (Q1 b p j).length 0)]) (fun _ _=>True) () (by simp only[EVA,seval,Zd,men]) (by (simp only[EVA,seval,Zd,men]) <;> rfl) trivial ?_
 intro j _ hj _
 simp only[List.length_map,EVA,seval,Zd,men]
 refine Zl (fun hlt=>?_) (fun hge=>?_)
 ·have hja:j<b.sites.length:=by omega
  have ga:=YS hja
  have hle:(Q1 b p j).length<=j:=ZbE
  simp only[ga,List.length_map,EVA,seval,Zd,men]
  refine Zl (fun he=>?_) (fun hne=>?_)
  ·refine⟨by omega,by rw[Ze];omega,Zf () hja ?_ trivial⟩
   rw[Q1,ZaT (f:=fun j=>g0 b.sites j=p) he,List.length_append,Zbw]
   rfl
  ·refine⟨by rw[Ze];omega,Zf () hja ?_ trivial⟩
   rw[Q1,ZdA (f:=fun j=>g0 b.sites j=p) hne]
   rfl
 ·have:j=b.sites.length:=by omega
  subst this
  rfl
def cP2(x:Int×Int):List Tr:=[tv x.1,tv x.2]
def Zcd(l:Int)(i:Nat)(ls:List Int):Nat->List (Int×Int)
 | 0=>[]
 | k+1=>if g0 ls k=l then Zcd l i ls k++[((i:Int),(k:Int))] else Zcd l i ls k
theorem ZdB{l:Int}{i:Nat}{ls:List Int}:∀{k:Nat},(Zcd l i ls k).length<=k
 | 0=>Nat.le_refl 0
 | k+1=>by
  unfold Zcd
  have:=ZdB (l:=l) (i:=i) (ls:=ls) (k:=k)
  split
  ·rw[List.length_append,List.length_singleton];omega
  ·omega
theorem Zgi{l:Int}{i:Nat}{ls:List Int}{k:Nat}(h:g0 ls k=l):Zcd l i ls (k+1)=Zcd l i ls k++[((i:Int),(k:Int))]:=by rw[Zcd,if_pos h]
theorem Zh5{l:Int}{i:Nat}{ls:List Int}{k:Nat}(h:¬ g0 ls k=l):Zcd l i ls (k+1)=Zcd l i ls k:=by rw[Zcd,if_neg h]
def Zaa(b:TBigraph)(j:Nat):List Int:=((b.nodes[j]?).map TNode.links).getD []
theorem Zab{b:TBigraph}{j:Nat}(h:j<b.nodes.length):Zaa b j=b.nodes[j].links:=by simp [Zaa,h]
def Ya(b:TBigraph)(l:Int):Nat->List (Int×Int)
 | 0=>[]
 | i+1=>Ya b l i++Zcd l i (Zaa b i) (Zaa b i).length
def ports(b:TBigraph)(l:Int):List (Int×Int):=Ya b l b.nodes.length
theorem Du{b:TBigraph}{l:Int}(h:∀ x∈b.nodes,x.links.length<=1000):∀{j:Nat},j<=b.nodes.length->(Ya b l j).length<=j*1000
 | 0,_=>Nat.zero_le _
 | j+1,hj=>by
  have ih:=Du h (l:=l) (j:=j) (by omega)
  have h1:=ZdB (l:=l) (i:=j) (ls:=Zaa b j) (k:=(Zaa b j).length)
  have h2:=h _ (List.getElem_mem (show j<b.nodes.length by omega))
  rw[Ya,List.length_append]
  rw[Zab (by omega)] at h1 ⊢
  omega
def Zol(b:TBigraph)(j:Nat):Int:=((b.inner[j]?).map TWire.link).getD 0
def ZoM(b:TBigraph)(j:Nat):ByteArray:=((b.inner[j]?).map TWire.name).getD ⟨#[]⟩
theorem ZdC{b:TBigraph}{j:Nat}(h:j<b.inner.length):Zol b j=b.inner[j].link:=by simp [Zol,h]
theorem Zh6{b:TBigraph}{j:Nat}(h:j<b.inner.length):ZoM b j=b.inner[j].name:=by simp [ZoM,h]
def X6(b:TBigraph)(l:Int):Nat->List ByteArray
 | 0=>[]
 | j+1=>if Zol b j=l then X6 b l j++[ZoM b j] else X6 b l j
theorem ZaV{b:TBigraph}{l:Int}:∀{j:Nat},(X6 b l j).length<=j
 | 0=>Nat.le_refl 0
 | j+1=>by
  unfold X6
  have:=ZaV (b:=b) (l:=l) (j:=j)
  split
  ·rw[List.length_append,List.length_singleton];omega
  ·omega
theorem ZeL{b:TBigraph}{l:Int}{j:Nat}(h:Zol b j=l):X6 b l (j+1)=X6 b l j++[ZoM b j]:=by rw[X6,if_pos h]
theorem Zgj{b:TBigraph}{l:Int}{j:Nat}(h:¬ Zol b j=l):X6 b l (j+1)=X6 b l j:=by rw[X6,if_neg h]
def ZlC(b:TBigraph)(l:Int):List ByteArray:=X6 b l b.inner.length
theorem Zh7(a b:List (Int×Int)):(a++b).map cP2=a.map cP2++b.map cP2:=List.map_append
theorem Zfu(b:TBigraph)(l:Int)(hn:b.nodes.length<=1000)(hk:∀ x∈b.nodes,x.links.length<=1000)(lvl:Nat)(S:Sto):Sem Proofs.Tryz.prog Qi lvl [.ag ((Zc b).map .tr),iI l] S (.ow 2 ((ports b l).map cP2) true) S:=by
 refine Zb Zb8 trivial ?_
 simp only[UB,Zc,List.length_map,EVA,seval,Zd,men]
 refine ZU (α:=Unit) b.nodes.length (fun j _=>[(5,.hd (lvl,256) [] 0 (Ya b l j).length none (Ya b l j).length),(6,iI j)]) (fun j _=>[(256,.ar 2 ((Ya b l j).map cP2) true (Ya b l j).length 0)]) (fun _ _=>True) () (by simp only[EVA,seval,Zd,men]) (by (simp only[EVA,seval,Zd,men]) <;> rfl) trivial ?_
 intro j _ hj _
 simp only[List.length_map,EVA,seval,Zd,men]
 refine Zl (fun hlt=>?_) (fun hge=>?_)
 ·have hja:j<b.nodes.length:=by omega
  have ga:=Um (c:=Zy) hja
  have hle:=Du hk (l:=l) hj
  have hlk:=hk _ (List.getElem_mem hja)
  refine ZU (α:=Unit) b.nodes[j].links.length (fun k _=>[(5,.hd (lvl,256) [] 0 (Ya b l j++Zcd l j b.nodes[j].links k).length none (Ya b l j++Zcd l j b.nodes[j].links k).length),(7,iI k)]) (fun k _=>[(256,.ar 2 ((Ya b l j++Zcd l j b.nodes[j].links k).map cP2) true (Ya b l j++Zcd l j b.nodes[j].links k).length 0)]) (fun _ _=>True) () (by simp only[EVA,seval,Zd,men]) (by (simp only[Zcd,List.append_nil,EVA,seval,Zd,men]) <;> rfl) trivial ?_
  intro k _ hkk _
  simp only[ga,Zy,List.length_map,EVA,seval,Zd,men]
  refine Zl (fun hlt2=>?_) (fun hge2=>?_)
  ·have hka:k<b.nodes[j].links.length:=by omega
   have gl:=YS hka
   have hr:=ZdB (l:=l) (i:=j) (ls:=b.nodes[j].links) (k:=k)
   simp only[ga,gl,Zy,List.length_map,EVA,seval,Zd,men]
   refine Zl (fun he=>?_) (fun hne=>?_)
   ·refine⟨by rw[List.length_append];omega,by rw[Ze];omega,Zf () hka ?_ trivial⟩
    rw[Zgi he,<-List.append_assoc,List.length_append (bs:=[_]),Zh7 (Ya b l j++_)]
    rfl
   ·refine⟨by rw[Ze];omega,Zf () hka ?_ trivial⟩
    rw[Zh5 hne]
    rfl
  ·have:k=b.nodes[j].links.length:=by omega
   subst this
   refine⟨by rw[Ze];omega,Zf () hja ?_ trivial⟩
   rw[Ya,Zab hja]
   rfl
 ·have:j=b.nodes.length:=by omega
  subst this
  rfl
theorem ZgA(b:TBigraph)(l:Int)(hn:b.inner.length<=4294967296)(lvl:Nat)(S:Sto):Sem Proofs.Tryz.prog QV lvl [.ag ((Zc b).map .tr),iI l] S (.ow 1 (rS (ZlC b l)) true) S:=by
 refine Zb Zdt trivial ?_
 simp only[Do,Zc,List.length_map,EVA,seval,Zd,men]
 refine ZU (α:=Unit) b.inner.length (fun j _=>[(5,.hd (lvl,224) [] 0 (X6 b l j).length none (X6 b l j).length),(6,iI j)]) (fun j _=>[(224,.ar 1 (rS (X6 b l j)) true (X6 b l j).length 0)]) (fun _ _=>True) () (by simp only[EVA,seval,Zd,men]) (by (simp only[EVA,seval,Zd,men]) <;> rfl) trivial ?_
 intro j _ hj _
 simp only[List.length_map,EVA,seval,Zd,men]
 refine Zl (fun hlt=>?_) (fun hge=>?_)
 ·have hja:j<b.inner.length:=by omega
  have ga:=Um (c:=ZF) hja
  have hle:=ZaV (b:=b) (l:=l) (j:=j)
  simp only[ga,ZF,List.length_map,EVA,seval,Zd,men]
  refine Zl (fun he=>?_) (fun hne=>?_)
  ·refine⟨by omega,by rw[Ze];omega,Zf () hja ?_ trivial⟩
   rw[ZeL (by rw[ZdC hja];exact he),List.length_append,Zgg,Zh6 hja]
   rfl
  ·refine⟨by rw[Ze];omega,Zf () hja ?_ trivial⟩
   rw[Zgj (by rw[ZdC hja];exact hne)]
   rfl
 ·have:j=b.inner.length:=by omega
  subst this
  rfl
theorem ZeM(b:TBigraph)(l:Int)(hn:b.nodes.length<=1000)(hk:∀ x∈b.nodes,x.links.length<=1000)(hi:b.inner.length<=4294967296)(lvl:Nat)(S:Sto):Sem Proofs.Tryz.prog Jx lvl [.ag ((Zc b).map .tr),iI l] S (.tu [.ow 2 ((ports b l).map cP2) true,.ow 1 (rS (ZlC b l)) true]) S:=by
 refine Zb X3 ⟨trivial,trivial,trivial⟩ ?_
 simp only[VC,Zc,List.length_map,EVA,seval,Zd,men]
 refine ZU (α:=Unit) b.nodes.length (fun j _=>[(6,.hd (lvl,448) [] 0 (Ya b l j).length none (Ya b l j).length),(19,iI j)]) (fun j _=>[(448,.ar 2 ((Ya b l j).map cP2) true (Ya b l j).length 0)]) (fun _ _=>True) () (by simp only[EVA,seval,Zd,men]) (by (simp only[EVA,seval,Zd,men]) <;> rfl) trivial ?_
 intro j _ hj _
 simp only[List.length_map,EVA,seval,Zd,men]
 refine Zl (fun hlt=>?_) (fun hge=>?_)
 ·have hja:j<b.nodes.length:=by omega
  have ga:=Um (c:=Zy) hja
  have hle:=Du hk (l:=l) hj
  have hlk:=hk _ (List.getElem_mem hja)
  simp only[ga,Zy,List.length_map,EVA,seval,Zd,men]
  refine ZU (α:=Unit) b.nodes[j].links.length (fun k _=>[(6,.hd (lvl,448) [] 0 (Ya b l j++Zcd l j b.nodes[j].links k).length none (Ya b l j++Zcd l j b.nodes[j].links k).length),(27,iI k)]) (fun k _=>[(448,.ar 2 ((Ya b l j++Zcd l j b.nodes[j].links k).map cP2) true (Ya b l j++Zcd l j b.nodes[j].links k).length 0)]) (fun _ _=>True) () (by simp only[EVA,seval,Zd,men]) (by (simp only[Zcd,List.append_nil,EVA,seval,Zd,men]) <;> rfl) trivial ?_
  intro k _ hkk _
  simp only[ga,Zy,List.length_map,EVA,seval,Zd,men]
  refine Zl (fun hlt2=>?_) (fun hge2=>?_)
  ·have hka:k<b.nodes[j].links.length:=by omega
   have gl:=YS hka
   have hr:=ZdB (l:=l) (i:=j) (ls:=b.nodes[j].links) (k:=k)
   simp only[ga,gl,Zy,List.length_map,EVA,seval,Zd,men]
   refine Zl (fun he=>?_) (fun hne=>?_)
   ·refine⟨by rw[List.length_append];omega,by rw[Ze];omega,Zf () hka ?_ trivial⟩
    rw[Zgi he,<-List.append_assoc,List.length_append (bs:=[_]),Zh7 (Ya b l j++_)]
    rfl
   ·refine⟨by rw[Ze];omega,Zf () hka ?_ trivial⟩
    rw[Zh5 hne]
    rfl
  ·have:k=b.nodes[j].links.length:=by omega
   subst this
   refine⟨by rw[Ze];omega,Zf () hja ?_ trivial⟩
   rw[Ya,Zab hja]
   rfl
 have:j=b.nodes.length:=by omega
 subst this
 refine ZU (α:=Unit) b.inner.length (fun j _=>[(7,.hd (lvl,480) [] 0 (X6 b l j).length none (X6 b l j).length),(46,iI j)]) (fun j _=>[(480,.ar 1 (rS (X6 b l j)) true (X6 b l j).length 0)]) (fun _ _=>True) () (by simp only[EVA,seval,Zd,men]) (by (simp only[EVA,seval,Zd,men]) <;> rfl) trivial ?_
 intro j _ hj _
 simp only[List.length_map,EVA,seval,Zd,men]
 refine Zl (fun hlt=>?_) (fun hge=>?_)
 ·have hja:j<b.inner.length:=by omega
  have ga:=Um (c:=ZF) hja
  have hle:=ZaV (b:=b) (l:=l) (j:=j)
  simp only[ga,ZF,List.length_map,EVA,seval,Zd,men]
  refine Zl (fun he=>?_) (fun hne=>?_)
  ·refine⟨by omega,by rw[Ze];omega,Zf () hja ?_ trivial⟩
   rw[ZeL (by rw[ZdC hja];exact he),List.length_append,Zgg,Zh6 hja]
   rfl
  ·refine⟨by rw[Ze];omega,Zf () hja ?_ trivial⟩
   rw[Zgj (by rw[ZdC hja];exact hne)]
   rfl
 ·have:j=b.inner.length:=by omega
  subst this
  rfl
end Go.Fd

/-
  REDEXES, BOTH SIDES. Own work.
-/
namespace Go.Fd
set_option maxRecDepth 20000
def idle(b:TBigraph)(l:Int):Prop:=(ports b l).length=0/\(ZlC b l).length=0
structure small (b:TBigraph):Prop where
 nodes:b.nodes.length<=8
 links:∀ x∈b.nodes,x.links.length<=1000
 sites:b.sites.length<=4
 outer:b.outer.length<=16
 inner:b.inner.length<=16
 roots:0<=b.roots/\b.roots<=4
 edges:0<=b.edges/\b.edges<=8
theorem ZgB{sig:List TControl}(h:Zaz sig)(c:Int):UH sig c<=3:=by
 unfold UH
 cases e:sig[c.toNat]? with
 | none=>decide
 | some x =>
  obtain⟨hl,rfl⟩:=List.getElem?_eq_some_iff.1 e
  exact((h.1 _ hl).1).2.1.2
theorem bigOK.small{sig:List TControl}{b:TBigraph}(h:bigOK sig b):small b :=
 ⟨h.nodesL,fun x hx=>by
  obtain⟨k,hk,rfl⟩:=List.getElem_of_mem hx
  have h1:=(h.nodes k hk).ports
  have h2:=ZgB h.sg b.nodes[k].control
  omega,h.sitesL,h.outer.2,by have:=h.inn.2;rw[Zdz] at this;exact this,h.roots,h.edges⟩
theorem ZgC(b:TBigraph)(l:Int)(hs:small b)(lvl:Nat)(S:Sto):Sem Proofs.Tryz.prog QP lvl [.ag ((Zc b).map .tr),iI l] S (iB (dc (idle b l))) S:=by
 have s1:=hs.nodes
 have s2:=hs.inner
 refine Zb Zdm trivial ?_
 simp only[Dh,Zc,List.length_map,EVA,seval,Zd,men]
 refine Za (Zfu b l (by omega) hs.links) ?_
 by_cases h1:(ports b l).length=0
 ·have h1':((ports b l).length:Int)=0:=by omega
  simp only[h1,h1',Zc,List.length_map,EVA,seval,Zd,men]
  refine Za (ZgA b l (by omega)) ?_
  simp only[List.length_map,EVA,seval,Zd,men]
  have hiff:idle b l↔((ZlC b l).length:Int)=0:=⟨fun h=>by have:=h.2;omega,fun h=>⟨h1,by omega⟩⟩
  rw[JA hiff,JU]
 ·have h1':¬ ((ports b l).length:Int)=0:=by omega
  simp only[h1',Zc,List.length_map,EVA,seval,Zd,men]
  rw[Zg fun h:idle b l=>h1 h.1]
theorem ZgD(b:TBigraph)(l:Int)(hs:small b)(lvl:Nat)(S:Sto):Sem Proofs.Tryz.prog JO lvl [.ag ((Zc b).map .tr),iI l] S (iB (dc (idle b l))) S:=by
 have s1:=hs.nodes
 have s2:=hs.inner
 have e1:(ports b l).length<=b.nodes.length*1000:=Du hs.links (Nat.le_refl _)
 have e2:(ZlC b l).length<=b.inner.length:=ZaV
 refine Zb WR trivial ?_
 simp only[V3,Zc,List.length_map,EVA,seval,Zd,men]
 refine Za (ZeM b l (by omega) hs.links (by omega)) ?_
 simp only[List.length_map,EVA,seval,Zd,men]
 refine⟨by rw[Ze];omega,?_⟩
 have hiff:idle b l↔((ports b l).length:Int)+(ZlC b l).length=0:=⟨fun h=>by have:=h.1;have:=h.2;omega,fun h=>⟨by omega,by omega⟩⟩
 rw[JA hiff,JU]
structure solid (b:TBigraph):Prop where
 inner:b.inner.length=0
 roots:¬ b.roots=0
 root:∀ r:Nat,(r:Int)<b.roots -> ¬ (ZgW b (-1-r)).length=0/\(Dt b (-1-r)).length=0
 node:∀ i:Nat,i<b.nodes.length->(Dt b i).length<=1
 link:∀ l:Nat,(l:Int)<b.edges+b.outer.length -> ¬ idle b l
theorem ZbG(b:TBigraph)(hs:small b)(lvl:Nat)(S:Sto):Sem Proofs.Tryz.prog YU lvl [.ag ((Zc b).map .tr)] S (iB (dc (solid b))) S:=by
 have s1:=hs.nodes
 have s2:=hs.inner
 have s3:=hs.sites
 have s4:=hs.outer
 obtain⟨r1,r2⟩:=hs.roots
 obtain⟨e1,e2⟩:=hs.edges
 refine Zb Zb0 trivial ?_
 simp only[Ut,Zc,List.length_map,EVA,seval,Zd,men]
 by_cases h1:(0:Int)<b.inner.length
 ·simp only[h1,List.length_map,EVA,seval,Zd,men]
  rw[Zg fun h:solid b=>by have:=h.inner;omega]
 by_cases h2:b.roots=0
 ·simp only[h1,h2,List.length_map,EVA,seval,Zd,men]
  rw[Zg fun h:solid b=>h.roots h2]
 simp only[h1,h2,List.length_map,EVA,seval,Zd,men]
 refine ZU (α:=Unit) b.roots.toNat (fun j _=>[(3,iI j)]) (fun j _=>[]) (fun j _=>∀ r,r<j -> ¬ (ZgW b (-1-(r:Nat))).length=0/\(Dt b (-1-(r:Nat))).length=0) () (by simp only[EVA,seval,Zd,men]) (by (simp only[EVA,seval,Zd,men]) <;> rfl) (fun k hk=>absurd hk (Nat.not_lt_zero k)) ?_
 intro j _ hj hA
 simp only[List.length_map,EVA,seval,Zd,men]
 refine Zl (fun hlt=>?_) (fun hge=>?_)
 ·have hja:j<b.roots.toNat:=by omega
  refine⟨by rw[Ze];omega,?_⟩
  refine Za (Zgz b (-1-(j:Nat)) (by omega)) ?_
  by_cases p1:(ZgW b (-1-(j:Nat))).length=0
  ·have p1':((ZgW b (-1-(j:Nat))).length:Int)=0:=by omega
   simp only[p1,p1',List.length_map,EVA,seval,Zd,men]
   rw[Zg fun h:solid b=>(h.root j (by omega)).1 p1]
  have p1':¬ ((ZgW b (-1-(j:Nat))).length:Int)=0:=by omega
  simp only[p1',List.length_map,EVA,seval,Zd,men]
  refine⟨by rw[Ze];omega,?_⟩
  refine Za (ZbF b (-1-(j:Nat)) (by omega)) ?_
  simp only[List.length_map,EVA,seval,Zd,men]
  refine Zl (fun p2=>?_) (fun p2=>?_)
  ·rw[Zg fun h:solid b=>by have:=(h.root j (by omega)).2;omega]
  ·exact⟨by rw[Ze];omega,Zf () hja rfl (ZeI hA ⟨p1,by omega⟩)⟩
 have hj1:j=b.roots.toNat:=by omega
 subst hj1
 refine ZU (α:=Unit) b.nodes.length (fun j _=>[(4,iI j)]) (fun j _=>[]) (fun j _=>∀ i,i<j->(Dt b (i:Nat)).length<=1) () (by simp only[EVA,seval,Zd,men]) (by (simp only[EVA,seval,Zd,men]) <;> rfl) (fun k hk=>absurd hk (Nat.not_lt_zero k)) ?_
 intro j _ hj hB
 simp only[List.length_map,EVA,seval,Zd,men]
 refine Zl (fun hlt=>?_) (fun hge=>?_)
 ·have hja:j<b.nodes.length:=by omega
  refine Za (ZbF b (j:Nat) (by omega)) ?_
  simp only[List.length_map,EVA,seval,Zd,men]
  refine Zl (fun p2=>?_) (fun p2=>?_)
  ·rw[Zg fun h:solid b=>by have:=h.node j hja;omega]
  ·exact⟨by rw[Ze];omega,Zf () hja rfl (ZeI hB (by omega))⟩
 have hj1:j=b.nodes.length:=by omega
 subst hj1
 refine ZU (α:=Unit) (b.edges+b.outer.length).toNat (fun j _=>[(5,iI j)]) (fun j _=>[]) (fun j _=>∀ i,i<j -> ¬ idle b (i:Nat)) () (by simp only[EVA,seval,Zd,men]) (by (simp only[EVA,seval,Zd,men]) <;> rfl) (fun k hk=>absurd hk (Nat.not_lt_zero k)) ?_
 intro j _ hj hC
 simp only[List.length_map,EVA,seval,Zd,men]
 refine⟨by rw[Ze];omega,?_⟩
 refine Zl (fun hlt=>?_) (fun hge=>?_)
 ·have hja:j<(b.edges+b.outer.length).toNat:=by omega
  refine Za (ZgC b (j:Nat) hs) ?_
  cases hc:dc (idle b (j:Nat))
  ·simp only[EVA,seval,Zd,men]
   exact⟨by rw[Ze];omega,Zf () hja rfl (ZeI hC (dc_not.1 hc))⟩
  ·simp only[EVA,seval,Zd,men]
   rw[Zg fun h:solid b=>h.link j (by omega) (dc_iff.1 hc)]
 have hj1:j=(b.edges+b.outer.length).toNat:=by omega
 subst hj1
 have:solid b:=⟨by omega,h2,fun r hr=>hA r (by omega),hB,fun l hl=>hC l (by omega)⟩
 rw[Ju this]
theorem Wl(b:TBigraph)(hs:small b)(lvl:Nat)(S:Sto):Sem Proofs.Tryz.prog YV lvl [.ag ((Zc b).map .tr)] S (iB (dc (solid b))) S:=by
 have s1:=hs.nodes
 have s2:=hs.inner
 have s3:=hs.sites
 have s4:=hs.outer
 obtain⟨r1,r2⟩:=hs.roots
 obtain⟨e1,e2⟩:=hs.edges
 refine Zb Zb1 trivial ?_
 simp only[Uu,Zc,List.length_map,EVA,seval,Zd,men]
 by_cases h1:(0:Int)<b.inner.length
 ·simp only[h1,List.length_map,EVA,seval,Zd,men]
  rw[Zg fun h:solid b=>by have:=h.inner;omega]
 by_cases h2:b.roots=0
 ·simp only[h1,h2,List.length_map,EVA,seval,Zd,men]
  rw[Zg fun h:solid b=>h.roots h2]
 simp only[h1,h2,List.length_map,EVA,seval,Zd,men]
 refine⟨by rw[Ze];omega,?_⟩
 refine ZU (α:=Unit) (b.roots+b.nodes.length).toNat (fun j _=>[(3,iI (-b.roots+j))]) (fun j _=>[]) (fun j _=>∀ r,r<j->((-b.roots+(r:Nat)<0 -> ¬ (ZgW b (-b.roots+(r:Nat))).length=0/\(Dt b (-b.roots+(r:Nat))).length=0)/\(Dt b (-b.roots+(r:Nat))).length<=1)) () (by simp only[EVA,seval,Zd,men]) (by (simp only[Int.natCast_zero,Int.cast_ofNat_Int,Int.add_zero,EVA,seval,Zd,men]) <;> rfl) (fun k hk=>absurd hk (Nat.not_lt_zero k)) ?_
 intro j _ hj hA
 simp only[List.length_map,EVA,seval,Zd,men]
 refine Zl (fun hlt=>?_) (fun hge=>?_)
 ·have hja:j<(b.roots+b.nodes.length).toNat:=by omega
  refine Za (Zcc b (-b.roots+(j:Nat)) (by omega) (by omega)) ?_
  have hno:(solid b->False)->dc (solid b)=false:=fun h=>Zg h
  have hroot:solid b -> -b.roots+(j:Int)<0 -> ¬ (ZgW b (-b.roots+(j:Nat))).length=0/\(Dt b (-b.roots+(j:Nat))).length=0:=fun h hn=>by
   have:=h.root (b.roots-1-j).toNat (by omega)
   have e:(-1-((b.roots-1-j).toNat:Int)) = -b.roots+j:=by omega
   rw[e] at this
   exact this
  have hnode:solid b -> ¬ -b.roots+(j:Int)<0->(Dt b (-b.roots+(j:Nat))).length<=1:=fun h hn=>by
   have:=h.node (-b.roots+j).toNat (by omega)
   have e:(((-b.roots+j).toNat:Nat):Int) = -b.roots+j:=by omega
   rw[e] at this
   exact this
  have hnext:(-b.roots+(j:Int))+1 = -b.roots+((j+1:Nat):Int):=by omega
  by_cases q:-b.roots+(j:Int)<0
  ·by_cases k0:(ZgW b (-b.roots+(j:Nat))).length=0
   ·have k0':((ZgW b (-b.roots+(j:Nat))).length:Int)=0:=by omega
    simp only[q,k0,k0',List.length_map,EVA,seval,Zd,men]
    rw[hno fun h=>(hroot h q).1 k0]
   have k0':¬ ((ZgW b (-b.roots+(j:Nat))).length:Int)=0:=by omega
   by_cases k1:(Dt b (-b.roots+(j:Nat))).length=0
   ·have k1a:¬ (0:Int)<((Dt b (-b.roots+(j:Nat))).length:Int):=by omega
    have k1b:¬ (1:Int)<((Dt b (-b.roots+(j:Nat))).length:Int):=by omega
    simp only[q,k0',k1a,k1b,List.length_map,EVA,seval,Zd,men]
    refine⟨by rw[Ze];omega,?_⟩
    rw[hnext]
    exact Zf () hja rfl (ZeI hA ⟨fun _=>⟨k0,k1⟩,by omega⟩)
   ·have k1a:(0:Int)<((Dt b (-b.roots+(j:Nat))).length:Int):=by omega
    simp only[q,k0',k1a,List.length_map,EVA,seval,Zd,men]
    rw[hno fun h=>k1 (hroot h q).2]
  ·simp only[q,List.length_map,EVA,seval,Zd,men]
   refine Zl (fun k2=>?_) (fun k2=>?_)
   ·rw[hno fun h=>by have:=hnode h q;omega]
   ·refine⟨by rw[Ze];omega,?_⟩
    rw[hnext]
    exact Zf () hja rfl (ZeI hA ⟨fun h=>absurd h q,by omega⟩)
 have hj1:j=(b.roots+b.nodes.length).toNat:=by omega
 subst hj1
 refine⟨by rw[Ze];omega,?_⟩
 refine ZU (α:=Unit) (b.edges+b.outer.length).toNat (fun j _=>[(55,iI j)]) (fun j _=>[]) (fun j _=>∀ i,i<j -> ¬ idle b (i:Nat)) () (by simp only[EVA,seval,Zd,men]) (by (simp only[EVA,seval,Zd,men]) <;> rfl) (fun k hk=>absurd hk (Nat.not_lt_zero k)) ?_
 intro j _ hj hC
 simp only[List.length_map,EVA,seval,Zd,men]
 refine Zl (fun hlt=>?_) (fun hge=>?_)
 ·have hja:j<(b.edges+b.outer.length).toNat:=by omega
  refine Za (ZgD b (j:Nat) hs) ?_
  cases hc:dc (idle b (j:Nat))
  ·simp only[EVA,seval,Zd,men]
   exact⟨by rw[Ze];omega,Zf () hja rfl (ZeI hC (dc_not.1 hc))⟩
  ·simp only[EVA,seval,Zd,men]
   rw[Zg fun h:solid b=>h.link j (by omega) (dc_iff.1 hc)]
 have hj1:j=(b.edges+b.outer.length).toNat:=by omega
 subst hj1
 have:solid b:=⟨by omega,h2,fun r hr=>by
  have:=(hA (b.roots-1-r).toNat (by omega)).1
  have e:-b.roots+((b.roots-1-r).toNat:Int) = -1-r:=by omega
  rw[e] at this
  exact this (by omega),fun i hi=>by
  have:=(hA (b.roots+i).toNat (by omega)).2
  have e:-b.roots+((b.roots+i).toNat:Int)=i:=by omega
  rw[e] at this
  exact this,fun l hl=>hC l (by omega)⟩
 rw[Ju this]
end Go.Fd

/-
  RULES, BOTH SIDES. Own work.
-/
namespace Go.Fd
set_option maxRecDepth 20000
theorem Zfv(sig:List TControl)(b:TBigraph)(hn:sig.length<=4294967296)(hbs:∀ y∈sig,ZH 4294967296 y)(hb:ZG 4294967296 b)(hf:WO b)(lvl:Nat)(S:Sto):Sem Proofs.Tryz.prog Qc lvl [.tr (.sl (sig.map Zi)),.ag ((Zc b).map .tr)] S (iB (dc (bigOK sig b/\solid b))) S:=by
 refine Zb Zb3 trivial ?_
 simp only[Uw,List.length_map,Zc,EVA,seval,Zd,men]
 refine Za (Zcz sig b hn hbs hb hf) ?_
 cases h1:dc (bigOK sig b)
 ·simp only[EVA,seval,Zd,men]
  rw[Zg fun g:bigOK sig b/\solid b=>dc_not.1 h1 g.1]
 simp only[List.length_map,Zc,EVA,seval,Zd,men]
 have g1:=dc_iff.1 h1
 refine Za (ZbG b g1.small) ?_
 simp only[EVA,seval,Zd,men]
 rw[JA (p:=bigOK sig b/\solid b) ⟨fun g=>g.2,fun g=>⟨g1,g⟩⟩]
theorem ZbH(a b:List ByteArray)(ha:a.length<=4294967296)(hb:b.length<=4294967296)(lvl:Nat)(S:Sto):Sem Proofs.Tryz.prog YE lvl [.tr (.sl (rS a)),.tr (.sl (rS b))] S (iB (dc (a=b))) S:=by
 refine Zb Df trivial ?_
 simp only[Xe,List.length_map,EVA,seval,Zd,men]
 refine ZU (α:=Unit) (min a.length b.length) (fun j _=>[(5,iI j)]) (fun j _=>[]) (fun j _=>∀ k,k<j->∀(h1:k<a.length) (h2:k<b.length),a[k]=b[k]) () (by simp only[EVA,seval,Zd,men]) (by (simp only[EVA,seval,Zd,men]) <;> rfl) (fun k hk=>absurd hk (Nat.not_lt_zero k)) ?_
 intro j _ hj hA
 simp only[List.length_map,EVA,seval,Zd,men]
 by_cases hlt:j<min a.length b.length
 ·have hja:j<a.length:=by omega
  have hjb:j<b.length:=by omega
  have q1:(j:Int)<a.length:=by omega
  have q2:(j:Int)<b.length:=by omega
  have ga:=Um (c:=fun s=>[ts s]) hja
  have gb:=Um (c:=fun s=>[ts s]) hjb
  simp only[q1,q2,ga,gb,List.length_map,EVA,seval,Zd,men]
  by_cases hc:a[j]=b[j]
  ·simp only[hc,EVA,seval,Zd,men]
   exact⟨by rw[Ze];omega,Zf () hlt rfl (ZeI hA fun _ _=>hc)⟩
  ·simp only[hc,EVA,seval,Zd,men]
   have:¬ a=b:=fun h=>hc (by subst h;rfl)
   rw[Zg this]
 ·have fin:((a.length:Int)=b.length)↔a=b:=⟨fun h=>List.ext_getElem (by omega) fun k h1 h2=>hA k (by omega) h1 h2,fun h=>by rw[h]⟩
  by_cases q1:(j:Int)<a.length
  ·have q2:¬ (j:Int)<b.length:=by omega
   simp only[q1,q2,List.length_map,EVA,seval,Zd,men]
   rw[<-JU,JA fin]
  ·simp only[q1,List.length_map,EVA,seval,Zd,men]
   rw[<-JU,JA fin]
def ZeN(r:TRule)(k:Int):Prop:=0<=k/\k<=(r.redex.sites.length:Int)-1
structure ruleOK (sig:List TControl) (r:TRule):Prop where
 red:bigOK sig r.redex
 sol:solid r.redex
 rea:bigOK sig r.reactum
 inn:r.reactum.inner.length=0
 roots:r.redex.roots=r.reactum.roots
 outer:r.redex.outer=r.reactum.outer
 copies:∀ k∈r.copies,ZeN r k
 len:r.copies.length=r.reactum.sites.length
def ZaW(r:TRule):Prop:=(∀ k∈r.copies,ZeN r k)/\r.copies.length=r.reactum.sites.length
theorem ZeO(r:TRule)(hb:Vb 4294967296 r)(lvl:Nat)(S:Sto):Sem Proofs.Tryz.prog VJ lvl [.ag ((ZP r).map .tr)] S (iB (dc (ZaW r))) S:=by
 obtain⟨⟨a1,a2,a3,a4,a5,a6,a7⟩,⟨b1,b2,b3,b4,b5,b6,b7⟩,b8⟩:=hb
 refine Zb Zbq trivial ?_
 simp only[WP,ZP,List.length_map,EVA,seval,Zd,men]
 refine ZU (α:=Unit) r.copies.length (fun j _=>[(3,iI j)]) (fun j _=>[]) (fun j _=>∀ k,k<j->ZeN r (g0 r.copies k)) () (by simp only[EVA,seval,Zd,men]) (by (simp only[EVA,seval,Zd,men]) <;> rfl) (fun k hk=>absurd hk (Nat.not_lt_zero k)) ?_
 intro j _ hj hA
 simp only[List.length_map,EVA,seval,Zd,men]
 refine Zl (fun hlt=>?_) (fun hge=>?_)
 ·have hja:j<r.copies.length:=by omega
  have ga:=YS hja
  simp only[ga,List.length_map,EVA,seval,Zd,men]
  refine⟨by rw[Ze];omega,?_⟩
  refine Za (VU (g0 r.copies j) 0 ((r.redex.sites.length:Int)-1)) ?_
  cases hc:inB (g0 r.copies j) 0 ((r.redex.sites.length:Int)-1)
  ·simp only[EVA,seval,Zd,men]
   rw[Zg fun h:ZaW r=>inB_not.1 hc (h.1 _ (by simp [hja]))]
  ·simp only[EVA,seval,Zd,men]
   exact⟨by rw[Ze];omega,Zf () hja rfl (ZeI hA (inB_iff.1 hc))⟩
 ·have hj1:j=r.copies.length:=by omega
  subst hj1
  have hiff:ZaW r↔(r.copies.length:Int)=r.reactum.sites.length:=⟨fun h=>by have:=h.2;omega,fun h=>⟨fun n hn=>by
   obtain⟨k,hk,rfl⟩:=List.getElem_of_mem hn
   have:=hA k hk
   simpa [hk] using this,by omega⟩⟩
  rw[JA hiff,JU]
theorem ZgE(sig:List TControl)(r:TRule)(hn:sig.length<=4294967296)(hbs:∀ y∈sig,ZH 4294967296 y)(hb:Vb 4294967296 r)(hf:Zcu r)(lvl:Nat)(S:Sto):Sem Proofs.Tryz.prog QL lvl [.tr (.sl (sig.map Zi)),.ag ((ZP r).map .tr)] S (iB (dc (ruleOK sig r))) S:=by
 have hb0:=hb
 obtain⟨d1,d2,d3⟩:=hb
 obtain⟨f1,f2,f3⟩:=hf
 refine Zb Zdh trivial ?_
 simp only[Da,ZP,List.length_map,EVA,seval,Zd,men]
 refine Za (Zfv sig r.redex hn hbs d1 f1) ?_
 cases h1:dc (bigOK sig r.redex/\solid r.redex)
 ·simp only[EVA,seval,Zd,men]
  rw[Zg fun h:ruleOK sig r=>dc_not.1 h1 ⟨h.red,h.sol⟩]
 simp only[ZP,List.length_map,EVA,seval,Zd,men]
 refine Za (Zcz sig r.reactum hn hbs d2 f2) ?_
 cases h2:dc (bigOK sig r.reactum)
 ·simp only[EVA,seval,Zd,men]
  rw[Zg fun h:ruleOK sig r=>dc_not.1 h2 h.rea]
 have g1:=dc_iff.1 h1
 have g2:=dc_iff.1 h2
 by_cases h3:(r.reactum.inner.length:Int)=0
 case neg =>
  simp only[h3,ZP,List.length_map,EVA,seval,Zd,men]
  rw[Zg fun h:ruleOK sig r=>by have:=h.inn;omega]
 by_cases h4:r.redex.roots=r.reactum.roots
 case neg =>
  simp only[h3,h4,ZP,List.length_map,EVA,seval,Zd,men]
  rw[Zg fun h:ruleOK sig r=>h4 h.roots]
 have h4':(r.redex.roots=r.reactum.roots)=True:=eq_true h4
 simp only[h3,h4',ZP,List.length_map,EVA,seval,Zd,men]
 have o1:=g1.1.outer.2
 have o2:=g2.outer.2
 refine Za (ZbH r.redex.outer r.reactum.outer (by omega) (by omega)) ?_
 cases h5:dc (r.redex.outer=r.reactum.outer)
 ·simp only[EVA,seval,Zd,men]
  rw[Zg fun h:ruleOK sig r=>dc_not.1 h5 h.outer]
 simp only[ZP,List.length_map,EVA,seval,Zd,men]
 refine Za (ZeO r hb0) ?_
 simp only[EVA,seval,Zd,men]
 rw[JA (p:=ruleOK sig r) (q:=ZaW r) ⟨fun h=>⟨h.copies,h.len⟩,fun h=>⟨g1.1,g1.2,g2,by omega,h4,dc_iff.1 h5,h.1,h.2⟩⟩]
theorem ZgF(sig:List TControl)(a b:TBigraph)(hn:sig.length<=4294967296)(hbs:∀ y∈sig,ZH 4294967296 y)(ha:ZG 4294967296 a)(hb:ZG 4294967296 b)(lvl:Nat)(S:Sto):Sem Proofs.Tryz.prog QQ lvl [.tr (.sl (sig.map Zi)),.ag ((Zc a).map .tr),.ag ((Zc b).map .tr)] S (iB (dc (bigOK sig a/\bigOK sig b))) S:=by
 refine Zb Zdn trivial ?_
 simp only[Di,Zc,List.length_map,EVA,seval,Zd,men]
 refine Za (Xk sig a hn hbs ha) ?_
 cases h1:dc (bigOK sig a)
 ·simp only[EVA,seval,Zd,men]
  rw[Zg fun h:bigOK sig a/\bigOK sig b=>dc_not.1 h1 h.1]
 simp only[Zc,List.length_map,EVA,seval,Zd,men]
 refine Za (Xk sig b hn hbs hb) ?_
 simp only[EVA,seval,Zd,men]
 rw[JA (p:=bigOK sig a/\bigOK sig b) (q:=bigOK sig b) ⟨fun h=>h.2,fun h=>⟨dc_iff.1 h1,h⟩⟩]
theorem ZeP(k:Int)(r:TRule)(hb:r.redex.sites.length<=4294967296)(lvl:Nat)(S:Sto):Sem Proofs.Tryz.prog VK lvl [iI k,.ta (ZP r)] S (iB (!dc (ZeN r k))) S:=by
 refine Zb Zbr trivial ?_
 simp only[WQ,ZP,List.length_map,EVA,seval,Zd,men]
 refine⟨by rw[Ze];omega,?_⟩
 refine Za (Yx k 0 ((r.redex.sites.length:Int)-1)) ?_
 simp only[EVA,seval,Zd,men]
 rw[Zgf]
 rfl
theorem Zom:ZX Proofs.Tryz.prog JJ Zsx=true:=by kernel_rfl
theorem ZbI(sig:List TControl)(r:TRule)(hn:sig.length<=4294967296)(hbs:∀ y∈sig,ZH 4294967296 y)(hb:Vb 4294967296 r)(_hf:Zcu r)(lvl:Nat)(S:Sto):Sem Proofs.Tryz.prog QN lvl [.tr (.sl (sig.map Zi)),.ag ((ZP r).map .tr)] S (iB (dc (ruleOK sig r))) S:=by
 obtain⟨d1,d2,d3⟩:=hb
 refine Zb Zdj trivial ?_
 simp only[Dc,ZP,List.length_map,EVA,seval,Zd,men]
 refine Za (ZgF sig r.redex r.reactum hn hbs d1 d2) ?_
 cases h1:dc (bigOK sig r.redex/\bigOK sig r.reactum)
 ·simp only[EVA,seval,Zd,men]
  rw[Zg fun h:ruleOK sig r=>dc_not.1 h1 ⟨h.red,h.rea⟩]
 have g1:=dc_iff.1 h1
 simp only[ZP,List.length_map,EVA,seval,Zd,men]
 refine Za (Wl r.redex g1.1.small) ?_
 cases h2:dc (solid r.redex)
 ·simp only[EVA,seval,Zd,men]
  rw[Zg fun h:ruleOK sig r=>dc_not.1 h2 h.sol]
 by_cases h3:(0:Int)<r.reactum.inner.length
 ·simp only[h3,ZP,List.length_map,EVA,seval,Zd,men]
  rw[Zg fun h:ruleOK sig r=>by have:=h.inn;omega]
 by_cases h4:r.redex.roots=r.reactum.roots
 case neg =>
  simp only[h3,h4,ZP,List.length_map,EVA,seval,Zd,men]
  rw[Zg fun h:ruleOK sig r=>h4 h.roots]
 have h4':(r.redex.roots=r.reactum.roots)=True:=eq_true h4
 simp only[h3,h4',ZP,List.length_map,EVA,seval,Zd,men]
 have o1:=g1.1.outer.2
 have o2:=g1.2.outer.2
 refine Za (Zlk Zom Zsy r.redex.outer r.reactum.outer (by omega)) ?_
 by_cases h5:r.redex.outer=r.reactum.outer
 case neg =>
  simp only[h5,ZP,List.length_map,EVA,seval,Zd,men]
  rw[Zg fun h:ruleOK sig r=>h5 h.outer]
 have h5':(r.redex.outer=r.reactum.outer)=True:=eq_true h5
 by_cases h6:r.copies.length=r.reactum.sites.length
 case neg =>
  have h6':¬ (r.copies.length:Int)=r.reactum.sites.length:=by omega
  simp only[h5',h6',ZP,List.length_map,EVA,seval,Zd,men]
  rw[Zg fun h:ruleOK sig r=>h6 h.len]
 have h6':((r.copies.length:Int)=r.reactum.sites.length)=True:=eq_true (by omega)
 simp only[h5',h6',ZP,List.length_map,EVA,seval,Zd,men]
 refine Za (Zdw (t:=tv) (cs:=[ZP r]) ZhZ ZhY r.copies (by omega) (fun x _ lvl S=>ZeP x r d1.2.2.1 lvl S)) ?_
 cases h7:r.copies.any fun k=>!dc (ZeN r k)
 ·simp only[EVA,seval,Zd,men]
  have:ruleOK sig r:=⟨g1.1,dc_iff.1 h2,g1.2,by omega,h4,h5,any_no.1 h7,h6⟩
  rw[Ju this]
 ·simp only[EVA,seval,Zd,men]
  rw[Zg fun h:ruleOK sig r=>by rw[any_no.2 h.copies] at h7;cases h7]
end Go.Fd

/-
  FOUNDATION 55: a function of the library that orders a row of scalars in place, by the guide's contract. Own work.
-/
namespace Go.Fd
variable [Tabs]
open Go.Sort
section
variable {P:Program} {α:Type} [Inhabited α] {enc:α->Value}
abbrev ZjV(enc:α->Value)(l:List α):Row:=l.map fun x=>[.v (enc x)]
theorem Dv{l:List α}{p:Pth}{es2:Row}(hp:p≠[]):getp (ZjV enc l) p≠some es2:=fun h=>by
 cases p with
 | nil=>exact hp rfl
 | cons cd q =>
  obtain⟨c,d⟩:=cd
  obtain⟨e,x,h1,h2,_⟩:=Jl h
  obtain⟨n,_,rfl⟩:=List.mem_map.1 (List.mem_of_getElem? h1)
  have:=List.mem_of_getElem? h2
  simp at this
theorem Zfw{l:List α}:UnR 1 (ZjV enc l):=Zda (fun x=>[.v (enc x)]) (fun _=>rfl) l
theorem ZdD{d:Array α}{off:Nat}{c:Array Value}:(putCells enc off d c).size=c.size:=by simp [putCells]
theorem ZeQ{d:List α}{c:Array Value}{i:Nat}(h:i<d.length)(hc:i<c.size):(putCells enc 0 d.toArray c)[i]? = some (enc d[i]):=by
 simp [putCells,hc,h]
theorem ZeR{f:FuncId}{lvl:Nat}{S:Sto}{id:Oid}{xs ys:List α}{u:Bool}{hw ver:Nat}(hc:W8 P f)(hid:id.1<lvl)(hS:S id=some (.ar 1 (ZjV enc xs) u hw ver))
  (hsc:∀ x:α,WA (enc x)=true) (hl:ys.length=xs.length)
  (h0:xs=[]->∀(a:Option Addr) (cap:Nat) (w:World),Calls P f #[.slice a 0 cap] w fun e w' => e = .returned (.tuple #[])/\∃ n,w'=Sort.ahead w n)
  (h1:xs≠[]->∀(b cap:Nat) (w:World),Holds enc w b 0 xs.toArray->b<w.heap.size->Calls P f #[.slice (some ⟨b,0,none⟩) xs.length cap] w fun e w' => e = .returned (.tuple #[])/\∃ n os,w'=grow (putRow enc (Sort.ahead w n) b 0 ys.toArray) os) :
  Sem P f lvl [.hd id [] 0 xs.length none hw] S (.tu []) (ZB S id (.ar 1 (ZjV enc ys) u hw ver)):=by
 refine⟨trivial,hc,fun hlow G w vs hok hv _=>?_⟩
 simp only[VRs] at hv
 obtain⟨v,vr,rfl,hv,rfl⟩:=hv
 simp only[VR] at hv
 obtain⟨⟨a0,c0,hv0,hlc0⟩,k2,es2,u2,hw2,ver2,hs2,_,hrel⟩:=hv
 rw[hS] at hs2;cases hs2
 obtain⟨es3,k',a,c,hg3,hk,hun,rfl,hlc,hcap,hcap2,hor⟩:=hrel rfl
 cases hg3
 have hk1:=hk rfl
 subst hk1
 by_cases hx:xs=[]
 ·subst hx
  have hy:ys=[]:=List.length_eq_zero_iff.1 (by simpa using hl)
  subst hy
  rw[U6 hS]
  refine(h0 rfl a c w).mono ?_
  rintro e w' ⟨rfl,n,rfl⟩
  have e:Ext w (Sort.ahead w n):=⟨Nat.le_refl _,fun _ _=>rfl,rfl,rfl,rfl⟩
  exact⟨_,G,rfl,hok.ext e,by simp [impv,impvs,VR,VRs],hlow,Frm.of_ext e⟩
 ·have hpos:0<xs.length:=List.length_pos_iff.2 hx
  rcases hor with hz | ⟨hz,_⟩ | ⟨b,cc,hG,rfl,hoc⟩
  ·omega
  ·exact absurd rfl hz
  ·obtain⟨o1,o2,o3,o4,o5⟩:=hok.obs _ _ hS
   have hr:=o4 [] _ (.inl rfl) rfl
   unfold Qj at hr
   rw[hG] at hr
   obtain⟨k3,cells,ty,g1,g2,g3,g4,g5,g6⟩:=hr
   have hk3:=g1 rfl
   subst hk3
   have hbs:b<w.heap.size:=by
    rcases Nat.lt_or_ge b w.heap.size with h | h
    ·exact h
    ·rw[Array.getElem?_eq_none h] at g3;cases g3
   have hH:Holds enc w b 0 xs.toArray:=fun j hj=>by
    have hj:j<xs.length:=by simpa using hj
    obtain⟨x,hx1,hx2⟩:=g6 j [.v (enc xs[j])] 0 (.v (enc xs[j])) (by simp [hj]) rfl
    simp only[JB] at hx2
    obtain⟨rfl,_⟩:=hx2
    refine⟨?_,by simp [World.frozen?,g3]⟩
    have:(xs.toArray)[j]! = xs[j]:=by simp [hj]
    rw[this,cell_of_row w b (0+j) cells ty (0,0) g3]
    simpa using hx1
   refine(h1 hx b c w hH hbs).mono ?_
   rintro e w' ⟨rfl,n,os,rfl⟩
   have hsz:w.heap.size<=(grow (putRow enc (Sort.ahead w n) b 0 ys.toArray) os).heap.size:=by simp [grow,putRow,mapBlock,Sort.ahead]
   have hheap:∀ b2,b2<w.heap.size->b2≠b->(grow (putRow enc (Sort.ahead w n) b 0 ys.toArray) os).heap[b2]? = w.heap[b2]?:=fun b2 h2 hne=>by
    simp only[grow,putRow,mapBlock,Sort.ahead]
    rw[Array.getElem?_append_left (by simpa using h2),Array.getElem?_modify,if_neg (fun e=>hne e.symm)]
   have hrow:(grow (putRow enc (Sort.ahead w n) b 0 ys.toArray) os).heap[b]? = some (.cells (putCells enc 0 ys.toArray cells) ty (0,0)):=by
    simp only[grow,putRow,mapBlock,Sort.ahead]
    rw[Array.getElem?_append_left (by simpa using hbs),Array.getElem?_modify,if_pos rfl,g3]
    rfl
   have hown:∀ ob b2,ob=(.ar 1 (ZjV enc ys) u hw ver:Ob)->Yc G id ob b2->b2=b:=fun ob b2 ho h=>by
    subst ho
    obtain⟨p,c2,hp,hq,hg⟩:=h
    by_cases hp0:p=[]
    ·subst hp0
     rw[hG] at hg
     cases hg
     rfl
    ·obtain⟨e2,he2⟩:=Option.isSome_iff_exists.1 hq
     exact absurd he2 (Dv hp0)
   have hbown:Yc G id (.ar 1 (ZjV enc xs) u hw ver) b:=⟨[],cc,.inl rfl,rfl,hG⟩
   have t:Trn G G S (ZB S id (.ar 1 (ZjV enc ys) u hw ver)) w (grow (putRow enc (Sort.ahead w n) b 0 ys.toArray) os) (· = id) (fun _=>False):=by
    refine⟨fun _ _=>rfl,fun i ob hi _ hs=>⟨ob,by unfold ZB;rw[if_neg hi];exact hs,Wk.refl ob⟩,fun i ob hi hs=>⟨fun h=>h,ob,by unfold ZB at hs;rw[if_neg hi] at hs;exact hs,Wk.refl ob⟩,hsz,fun b2 h2 hn=>hheap b2 h2 fun e=>hn id _ rfl hS (e ▸ hbown),fun i ob b2 hi hs ho=>?_,fun i ob hi _ hs=>?_⟩
    ·subst hi
     unfold ZB at hs;rw[if_pos rfl] at hs;cases hs
     have:=hown _ b2 rfl ho
     subst this
     exact .inl ⟨i,_,.inl rfl,hS,hbown⟩
    ·subst hi
     rw[hS] at hs;cases hs
     refine⟨.ar 1 (ZjV enc ys) u hw ver,by unfold ZB;rw[if_pos rfl],rfl,Nat.le_refl _,Nat.le_refl _,fun p st _ hst=>⟨hst,fun es' he=>?_⟩⟩
     by_cases hp0:p=[]
     ·subst hp0
      exact⟨rfl,_,rfl,fun k' hkk _=>by rw[hkk rfl];exact Zfw⟩
     ·exact absurd he (Dv hp0)
   refine⟨_,G,rfl,t.ok hok (fun i ob hi hs=>?_) (fun i ob j ob' b hi hj _ _ _ _=>hi.trans hj.symm) (fun i cells hi hs=>?_),by simp [impv,impvs,VR,VRs],fun i ob hs=>?_,t.frm (fun _ h=>h.elim) rfl rfl rfl⟩
   ·subst hi
    simp only[impv,impvs,Y1,ZB,if_true] at hs;cases hs
    refine⟨by rw[List.length_map] at *;omega,Zfw,o3,fun p es2 hp he=>?_,fun p p' b1 c1 c2 hp hp' g1 g2 g3 g4=>?_⟩
    ·by_cases hp0:p=[]
     ·subst hp0
      cases he
      unfold Qj
      rw[hG]
      refine⟨1,_,ty,fun _=>rfl,Zfw,hrow,by rw[ZdD];exact g4,by rw[List.length_map] at *;omega,fun i e f t hi hf=>?_⟩
      rw[List.getElem?_map] at hi
      obtain⟨y,hy,rfl⟩:=Option.map_eq_some_iff.1 hi
      obtain⟨hil,hyy⟩:=List.getElem?_eq_some_iff.1 hy
      have hf0:f=0/\t = .v (enc y):=by
       cases f with
       | zero=>simp at hf;exact⟨rfl,hf.symm⟩
       | succ f=>simp at hf
      obtain⟨rfl,rfl⟩:=hf0
      refine⟨enc y,?_,rfl,hsc y⟩
      rw[List.length_map] at g5
      rw[show i*1+0=i from by omega,ZeQ hil (by omega),hyy]
     ·exact absurd he (Dv hp0)
    ·by_cases hp0:p=[]
     ·by_cases hp1:p'=[]
      ·rw[hp0,hp1]
      ·obtain⟨e2,he2⟩:=Option.isSome_iff_exists.1 g2
       exact absurd he2 (Dv hp1)
     ·obtain⟨e2,he2⟩:=Option.isSome_iff_exists.1 g1
      exact absurd he2 (Dv hp0)
   ·subst hi
    simp only[impv,impvs,Y1,ZB,if_true] at hs;cases hs
   ·simp only[ZB] at hs
    split at hs
    ·rename_i h;rw[h];exact hid
    ·exact hlow i ob hs
end
end Go.Fd

/-
  FOUNDATION 56: a function of the library that orders a row of structs by another function, in place, by the guide's contract. Own work.
-/
namespace Go.Fd
variable [Tabs]
open Go.Sort Go.Proofs Go.RowKit
section
variable {P:Program} {α:Type} [Inhabited α] {enc:α->List Value} {k:Nat}
end
end Go.Fd

/-
  NUMBERS OF LIBRARY FUNCTIONS IN THIS PROGRAM, as the guide's shelf lays them (printed by lay.py out of the kit's own command).
-/
namespace Go.Proofs
open Go.Shelf
end Go.Proofs

/-
  LISTS IN ORDER, OF ANY KIND: SORTED, EACH ONCE; CALLS THAT CHANGE ONE OBJECT. Own work.
-/
namespace Go.Fd
set_option maxRecDepth 20000
theorem Zlp{C:Zj}{env:List (Nat×IV)}{loc:List (Nat×Ob)}{out:Sto}{d:Option Nat}{K:St->Prop}{fid:FuncId}{imp:Bool}{lvl:Nat}{args:List IV}{r:IV}(key:Nat)(o:Ob)(h:C fid (lvl+1) args (ZD lvl loc out) r (ZB (ZD lvl loc out) (lvl,key) o))
  (hk:freshK (keyOf d) (ptO key o loc) (impv imp lvl (keyOf d) 0 r).2.length/\K ⟨lvl,ptd d (impv imp lvl (keyOf d) 0 r).1 env,addO (keyOf d) (impv imp lvl (keyOf d) 0 r).2 (ptO key o loc),out⟩):kcy C fid imp lvl env loc out d K args :=
 VZ (ptO key o loc) out (fun _ _=>rfl) (by rw[Yf];exact h) hk
section
variable {α:Type} {e0:α} {lt:α->α->Prop}
end
structure Ords {α:Type} (lt:α->α->Prop):Prop where
 irr:∀ a,¬ lt a a
 tr:∀ a b c,lt a b->lt b c->lt a c
 tri:∀ a b,lt a b\/a=b\/lt b a
theorem Ords.asym{α:Type}{lt:α->α->Prop}(O:Ords lt)(a b:α)(h:lt a b):¬ lt b a:=fun g=>O.irr a (O.tr _ _ _ h g)
section
variable {α:Type} {e0:α} {lt:α->α->Prop}
theorem ZdE(O:Ords lt):∀{x y:List α},x.Pairwise (fun a b=>¬ lt b a)->y.Pairwise (fun a b=>¬ lt b a)->x.Perm y->x=y
 | [],y,_,_,h=>by rw[List.nil_perm.1 h]
 | a::r,[],_,_,h=>by have:=h.length_eq;simp at this
 | a::r,b::s,hx,hy,h=>by
  rw[List.pairwise_cons] at hx hy
  have e:a=b:=by
   rcases List.mem_cons.1 (h.mem_iff.1 (List.mem_cons_self (a:=a) (l:=r))) with e | h1
   ·exact e
   ·rcases List.mem_cons.1 (h.mem_iff.2 (List.mem_cons_self (a:=b) (l:=s))) with e | h2
    ·exact e.symm
    ·rcases O.tri a b with g | g | g
     ·exact absurd g (hy.1 a h1)
     ·exact g
     ·exact absurd g (hx.1 b h2)
  subst e
  congr 1
  exact ZdE O hx.2 hy.2 h.cons_inv
noncomputable def ZjW(lt:α->α->Prop)(l:List α):List α:=l.mergeSort fun a b=>@decide (¬ lt b a) (Classical.propDecidable _)
theorem srtG_perm{l:List α}:(ZjW lt l).Perm l:=List.mergeSort_perm ..
theorem Zfx(O:Ords lt){l:List α}:(ZjW lt l).Pairwise (fun a b=>¬ lt b a):=by
 classical
 have h:=List.pairwise_mergeSort (le:=fun a b=>@decide (¬ lt b a) (Classical.propDecidable _)) (fun a b c h1 h2=>by
  simp only[decide_eq_true_eq] at *
  intro g
  rcases O.tri a b with k | k | k
  ·exact h2 (O.tr _ _ _ g k)
  ·subst k;exact h2 g
  ·exact h1 k) (fun a b=>by
  simp only[Bool.or_eq_true,decide_eq_true_eq]
  by_cases g:lt b a
  ·exact .inr (O.asym _ _ g)
  ·exact .inl g) l
 exact h.imp (fun h=>by simpa using h)
end
end Go.Fd

/-
  SORTING A FEW STRINGS: slices.Sort, slices.Compact ON ANOTHER'S ROW. Own work.
-/
namespace Go.Fd
set_option maxRecDepth 20000
theorem Zh8{v:Int}(h0:0<=v)(h:v<=12):∃ r:Int,∀(lvl:Nat) (S:Sto),Sem Proofs.Tryz.prog Y7 lvl [.tr (.v (.int .u64 v))] S (iI r) S:=by
 have:v=0\/v=1\/v=2\/v=3\/v=4\/v=5\/v=6\/v=7\/v=8\/v=9\/v=10\/v=11\/v=12:=by omega
 rcases this with rfl | rfl | rfl | rfl | rfl | rfl | rfl | rfl | rfl | rfl | rfl | rfl | rfl
 ·refine⟨0,fun lvl S=>Zb ZA trivial ?_⟩
  simp only[Zx,EVA,seval,Zd,men]
  simp [Qz,IntKind.min,IntKind.max,IntKind.signed,IntKind.bits]
 ·refine⟨1,fun lvl S=>Zb ZA trivial ?_⟩
  simp only[Zx,EVA,seval,Zd,men]
  simp [Qz,IntKind.min,IntKind.max,IntKind.signed,IntKind.bits]
 ·refine⟨2,fun lvl S=>Zb ZA trivial ?_⟩
  simp only[Zx,EVA,seval,Zd,men]
  simp [Qz,IntKind.min,IntKind.max,IntKind.signed,IntKind.bits]
 ·refine⟨2,fun lvl S=>Zb ZA trivial ?_⟩
  simp only[Zx,EVA,seval,Zd,men]
  simp [Qz,IntKind.min,IntKind.max,IntKind.signed,IntKind.bits]
 ·refine⟨3,fun lvl S=>Zb ZA trivial ?_⟩
  simp only[Zx,EVA,seval,Zd,men]
  simp [Qz,IntKind.min,IntKind.max,IntKind.signed,IntKind.bits]
 ·refine⟨3,fun lvl S=>Zb ZA trivial ?_⟩
  simp only[Zx,EVA,seval,Zd,men]
  simp [Qz,IntKind.min,IntKind.max,IntKind.signed,IntKind.bits]
 ·refine⟨3,fun lvl S=>Zb ZA trivial ?_⟩
  simp only[Zx,EVA,seval,Zd,men]
  simp [Qz,IntKind.min,IntKind.max,IntKind.signed,IntKind.bits]
 ·refine⟨3,fun lvl S=>Zb ZA trivial ?_⟩
  simp only[Zx,EVA,seval,Zd,men]
  simp [Qz,IntKind.min,IntKind.max,IntKind.signed,IntKind.bits]
 ·refine⟨4,fun lvl S=>Zb ZA trivial ?_⟩
  simp only[Zx,EVA,seval,Zd,men]
  simp [Qz,IntKind.min,IntKind.max,IntKind.signed,IntKind.bits]
 ·refine⟨4,fun lvl S=>Zb ZA trivial ?_⟩
  simp only[Zx,EVA,seval,Zd,men]
  simp [Qz,IntKind.min,IntKind.max,IntKind.signed,IntKind.bits]
 ·refine⟨4,fun lvl S=>Zb ZA trivial ?_⟩
  simp only[Zx,EVA,seval,Zd,men]
  simp [Qz,IntKind.min,IntKind.max,IntKind.signed,IntKind.bits]
 ·refine⟨4,fun lvl S=>Zb ZA trivial ?_⟩
  simp only[Zx,EVA,seval,Zd,men]
  simp [Qz,IntKind.min,IntKind.max,IntKind.signed,IntKind.bits]
 ·refine⟨4,fun lvl S=>Zb ZA trivial ?_⟩
  simp only[Zx,EVA,seval,Zd,men]
  simp [Qz,IntKind.min,IntKind.max,IntKind.signed,IntKind.bits]
theorem Zlq{v:Int}(h0:0<=v)(h:v<=12):∃ r:Int,∀(lvl:Nat) (S:Sto),Sem Proofs.Tryz.prog VL lvl [.tr (.v (.int .u64 v))] S (iI r) S:=by
 obtain⟨r,hr⟩:=Zh8 h0 h
 refine⟨r,fun lvl S=>Zb Zbt trivial ?_⟩
 simp only[WT,EVA,seval,Zd,men]
 refine Za hr ?_
 simp only[EVA,seval,Zd,men]
end Go.Fd

/-
  SORTING STRINGS, ANY NUMBER OF THEM, BY THE GUIDE'S CONTRACT. Own work.
-/
namespace Go.Fd
set_option maxRecDepth 20000
end Go.Fd

/-
  SORTINGS, BOTH SIDES: VALID, FREE, FINER. Own work.
-/
namespace Go.Fd
set_option maxRecDepth 20000
def Q4(n:Nat):List Int:=(List.range n).map fun i:Nat=>(i:Int)
theorem Yy{n:Nat}:(Q4 n).length=n:=by simp [Q4]
theorem Zh9{es:Row}{n:Nat}(h:es.length=n):cut es 0 n=es:=by
 simp only[cut,List.drop_zero]
 exact List.take_of_length_le (by omega)
end Go.Fd

/-
  LINKS THAT ARE TURNED: WHAT COMPOSITION COMPUTES, IN PLAIN TERMS. Own work.
-/
namespace Go.Fd
set_option maxRecDepth 20000
end Go.Fd

/-
  LINKS THAT ARE TURNED, THE PROGRAM'S SIDE. Own work.
-/
namespace Go.Fd
set_option maxRecDepth 20000
theorem Ztb{l:List ByteArray}:ScR (rS l)=True:=eq_true fun e he t ht=>by
 obtain⟨n,_,rfl⟩:=List.mem_map.1 he
 simp only[List.mem_cons,List.not_mem_nil,or_false] at ht
 subst ht
 rfl
theorem Ztc{l:List ByteArray}:UnR 1 (rS l)=True:=eq_true (Zda (fun n:ByteArray=>[ts n]) (fun _=>rfl) l)
theorem ZsA{l:List Int}:ScR (rI l)=True:=eq_true fun e he t ht=>by
 obtain⟨n,_,rfl⟩:=List.mem_map.1 he
 simp only[List.mem_cons,List.not_mem_nil,or_false] at ht
 subst ht
 rfl
theorem ZsB{l:List Int}:UnR 1 (rI l)=True:=eq_true (Zda (fun n:Int=>[tv n]) (fun _=>rfl) l)
theorem Zur{l:List TWire}:ScR (l.map ZF)=True:=eq_true fun e he t ht=>by
 obtain⟨n,_,rfl⟩:=List.mem_map.1 he
 simp only[ZF,List.mem_cons,List.not_mem_nil,or_false] at ht
 rcases ht with rfl | rfl <;> rfl
theorem Zus{l:List TWire}:UnR 2 (l.map ZF)=True:=eq_true (Zda ZF (fun _=>rfl) l)
theorem UJ(l:List Int)(hl:l.length<=4294967296)(lvl:Nat)(S:Sto):Sem Proofs.Tryz.prog Z4 lvl [tI l] S (.ow 1 (rI l) true) S:=by
 refine Zb Wy trivial ?_
 simp only[VI,List.length_map,ZsA,ZsB,EVA,seval,Zd,men]
 exact⟨hl,fun h=>by rw[h]⟩
theorem ZgG(l:List ByteArray)(hl:l.length<=4294967296)(lvl:Nat)(S:Sto):Sem Proofs.Tryz.prog Jg lvl [.tr (.sl (rS l))] S (.ow 1 (rS l) true) S:=by
 refine Zb Qs trivial ?_
 simp only[J9,List.length_map,Ztb,Ztc,EVA,seval,Zd,men]
 exact⟨hl,fun h=>by rw[h]⟩
theorem ZgH(l:List TWire)(hl:l.length<=4294967296)(lvl:Nat)(S:Sto):Sem Proofs.Tryz.prog ZW lvl [.tr (.sl (l.map ZF))] S (.ow 2 (l.map ZF) true) S:=by
 refine Zb Vd trivial ?_
 simp only[Js,List.length_map,Zur,Zus,EVA,seval,Zd,men]
 exact⟨hl,fun h=>by rw[h]⟩
theorem UD(b:TBigraph)(hb:ZG 4294967290 b)(lvl:Nat)(S:Sto):Sem Proofs.Tryz.prog JN lvl [.ag ((Zc b).map .tr)] S (Zw b) S:=by
 obtain⟨b1,b2,b3,b4,b5,b6,b7⟩:=hb
 refine Zb D7 (by simp [Zw,low,men,Zd]) ?_
 simp only[XJ,Zc,EVA,seval,Zd,men]
 refine Za (UJ b.sites (by omega)) ?_
 simp only[List.length_map,EVA,seval,Zd,men]
 refine Za (ZgG b.outer (by omega)) ?_
 simp only[List.length_map,EVA,seval,Zd,men]
 refine Za (ZgH b.inner (by omega)) ?_
 simp only[List.length_map,EVA,seval,Zd,men]
 refine ZU (α:=Unit) b.nodes.length (fun j _=>[(23,iI j)]) (fun j _=>[(96,.bx [iI b.roots,.hd (lvl,608) [] 0 j none j,.hd (lvl,320) [] 0 b.sites.length none b.sites.length,iI b.edges,.hd (lvl,480) [] 0 b.outer.length none b.outer.length,.hd (lvl,576) [] 0 b.inner.length none b.inner.length]),(608,.ar 3 ((b.nodes.take j).map Zy) true j 0)]) (fun _ _=>True) () (by simp only[EVA,seval,Zd,men]) (by (simp only[EVA,seval,Zd,men]) <;> rfl) trivial ?_
 intro j _ hj _
 simp only[List.length_map,EVA,seval,Zd,men]
 refine Zl (fun hlt=>?_) (fun hge=>?_)
 ·have hja:j<b.nodes.length:=by omega
  have ga:=Um (c:=Zy) hja
  have k2:b.nodes[j].links.length<=4294967290:=b2 _ (List.getElem_mem hja)
  have hl1:((b.nodes.take j).map Zy).length=j:=by rw[List.length_map,List.length_take];omega
  have st1:(b.nodes.take j).map Zy++[[Tr.v (Value.int .i64 b.nodes[j].control),Tr.v (Value.int .i64 b.nodes[j].parent),Tr.sl (rI b.nodes[j].links)]]=(b.nodes.take (j+1)).map Zy:=by
   rw[List.take_succ_eq_append_getElem hja,List.map_append]
   rfl
  simp only[ga,hja,Zy,EVA,seval,Zd,men]
  refine Za (UJ b.nodes[j].links (by omega)) ?_
  have hl2:(List.map (fun x=>[Tr.v (Value.int .i64 x.control),Tr.v (Value.int .i64 x.parent),Tr.sl (rI x.links)]) (b.nodes.take j)).length=j:=by rw[List.length_map,List.length_take];omega
  simp only[hl1,st1,Zy,EVA,seval,Zd,men]
  exact⟨by omega,by rw[Ze];omega,Zf () hja rfl trivial⟩
 ·have:j=b.nodes.length:=by omega
  subst this
  rw[List.take_length]
  exact⟨rfl,rfl⟩
end Go.Fd

/-
  LINKS THAT ARE TURNED, THE REFERENCE'S SIDE. Own work.
-/
namespace Go.Fd
set_option maxRecDepth 20000
end Go.Fd

/-
  A LINK IS TURNED: relinked AND ITS CLOSURE. Own work.
-/
namespace Go.Fd
set_option maxRecDepth 20000
theorem Zon{y:List Int}{j:Nat}{v:Int}(h:j<y.length):Yo (rI y) [] j 0 (.v (.int .i64 v))=rI (y.set j v):=by
 simp only[Yo]
 rw[YS h]
 exact(List.map_set (f:=fun n:Int=>[tv n]) (l:=y) (i:=j) (a:=v)).symm
end Go.Fd

/-
  A NAME BECOMES AN EDGE, AN EDGE A NAME: THE PROGRAM'S SIDE. Own work.
-/
namespace Go.Fd
set_option maxRecDepth 20000
end Go.Fd

/-
  A NAME BECOMES AN EDGE: BOTH SIDES. Own work.
-/
namespace Go.Fd
set_option maxRecDepth 20000
def Yn:TBigraph:=⟨0,[],[],0,[],[]⟩
theorem ZcA{l:List ByteArray}(h:VN l){s:ByteArray}(hs:s∈l):s.size<=4:=by
 obtain⟨i,hi,rfl⟩:=List.getElem_of_mem hs
 exact(h.1 i hi).1.2.2
end Go.Fd

/-
  A NAME BECOMES AN EDGE: BOTH ANSWERS. Own work.
-/
namespace Go.Fd
set_option maxRecDepth 20000
theorem Zfy{a c:Nat}{b:TBigraph}(h:a<=c)(hb:ZG a b):ZG c b:=by
 obtain⟨b1,b2,b3,b4,b5,b6,b7⟩:=hb
 exact⟨by omega,fun y hy=>Nat.le_trans (b2 y hy) h,by omega,by omega,fun y hy=>Nat.le_trans (b5 y hy) h,by omega,fun y hy=>Nat.le_trans (b7 y hy) h⟩
theorem ZdF{sig:List TControl}{b:TBigraph}(h:bigOK sig b):ZG 1000 b:=by
 have hs:=h.small
 have s1:=hs.nodes;have s2:=hs.sites;have s3:=hs.inner;have s4:=hs.outer
 refine⟨by omega,fun y hy=>hs.links y hy,by omega,by omega,fun y hy=>?_,by omega,fun w hw=>?_⟩
 ·have:=ZcA h.outer hy;omega
 ·have hn:w.name∈inn b:=List.mem_map.2 ⟨w,hw,rfl⟩
  have:=ZcA h.inn hn
  simp only[V1]
  omega
end Go.Fd

/-
  TWO NAMES BECOME ONE: THE PROGRAM'S SIDE; A COPY BY NUMBERING ANEW. Own work.
-/
namespace Go.Fd
set_option maxRecDepth 20000
theorem ZdG{n k:Nat}(h:k<n):g0 (Q4 n) k=k:=by
 show (Q4 n).getD k 0=_
 rw[List.getD_eq_getElem?_getD,Q4,List.getElem?_map,List.getElem?_range h]
 simp
theorem Dw(p:Int)(n:Nat)(h:p<n)(lvl:Nat)(S:Sto):Sem Proofs.Tryz.prog VA lvl [iI p,tI (Q4 n)] S (iI p) S:=by
 refine Zb Zdu trivial ?_
 simp only[Dp,EVA,seval,Zd,men]
 refine Zl (fun hlt=>?_) (fun hge=>?_)
 ·trivial
 ·obtain⟨k,rfl⟩:∃ k:Nat,p=k:=⟨p.toNat,by omega⟩
  have hk:k<(Q4 n).length:=by rw[Yy];omega
  have ga:=YS hk
  rw[ZdG (by omega)] at ga
  simp only[ga,EVA,seval,Zd,men]
  try rfl
theorem Zas(b:TBigraph)(l:Int)(n:Nat)(hn:b.edges=n)(h:0<=l)(lvl:Nat)(S:Sto):Sem Proofs.Tryz.prog VT lvl [.ag ((Zc b).map .tr),iI l,tI (Q4 n)] S (iI l) S:=by
 refine Zb ZeA trivial ?_
 simp only[Zap,Zc,hn,EVA,seval,Zd,men]
 refine Zl (fun hlt=>?_) (fun hge=>?_)
 ·trivial
 ·obtain⟨k,rfl⟩:∃ k:Nat,l=k:=⟨l.toNat,by omega⟩
  have hk:k<(Q4 n).length:=by rw[Yy];omega
  have ga:=YS hk
  rw[ZdG (by omega)] at ga
  simp only[ga,EVA,seval,Zd,men]
  try rfl
def UK(l:List TNode)(j:Nat):Row:=(l.take j).map Zy++List.replicate (l.length-j) [tv 0,tv 0,Tr.sl []]
theorem Zlr{l:List TNode}:List.replicate l.length [tv 0,tv 0,Tr.sl []]=UK l 0:=by simp [UK]
theorem Zls{l:List TNode}:UK l l.length=l.map Zy:=by simp [UK]
theorem Zia{l:List TNode}{j:Nat}(h:j<=l.length):(UK l j).length=l.length:=by simp [UK];omega
theorem Zib{l:List TNode}{j:Nat}(h:j<l.length):(UK l j)[j]? = some [tv 0,tv 0,Tr.sl []]:=by
 have:(((l.take j).map Zy)).length=j:=by rw[List.length_map,List.length_take];omega
 rw[UK,List.getElem?_append_right (by omega),this,List.getElem?_replicate]
 rw[if_pos (by omega)]
theorem Zic{l:List TNode}{j:Nat}(h:j<l.length):(UK l j).set j (Zy l[j])=UK l (j+1):=by
 have e:(((l.take j).map Zy)).length=j:=by rw[List.length_map,List.length_take];omega
 rw[UK,List.set_append_right _ _ (by omega),e,Nat.sub_self]
 rw[show l.length-j=(l.length-(j+1))+1 by omega,List.replicate_succ,List.set_cons_zero,UK,List.take_succ_eq_append_getElem h,List.map_append,List.append_assoc]
 rfl
theorem Zfz{R:Row}{j k:Nat}{e:List Tr}{t:Tr}(h:R[j]? = some e):Yo R [] j k t=R.set j (e.set k t):=by
 simp only[Yo,h]
theorem ZdH{R:Row}{j:Nat}{e:List Tr}(h:j<R.length):(R.set j e)[j]? = some e:=List.getElem?_set_self h
theorem Zac(b:TBigraph)(n E:Nat)(hn:b.nodes.length=n)(hE:b.edges=E)(hbd:ZG 4294967290 b)(hE2:E<=4294967290)(hp:∀ x∈b.nodes,x.parent<n/\∀ l∈x.links,0<=l)(hs:∀ p∈b.sites,p<n)(hw:∀ w∈b.inner,0<=w.link)(lvl:Nat)(S:Sto):Sem Proofs.Tryz.prog Y5 lvl [.ag ((Zc b).map .tr),tI (Q4 n),tI (Q4 E)] S (Zw b) S:=by
 refine Zb D8 (by simp [Zw,low,men,Zd]) ?_
 simp only[XK,Zc,Ztb,Ztc,Nat.zero_max,List.length_map,EVA,seval,Zd,men]
 obtain⟨b1,b2,b3,b4,b5,b6,b7⟩:=hbd
 refine⟨by omega,by omega,?_⟩
 refine ZU (α:=Unit) b.nodes.length (fun j _=>[(8,iI j)]) (fun j _=>[(576,.ar 3 (UK b.nodes j) true b.nodes.length j)]) (fun _ _=>True) () (by simp only[EVA,seval,Zd,men]) (by (simp only[Zlr,EVA,seval,Zd,men]) <;> rfl) trivial ?_
 intro j _ hj _
 simp only[List.length_map,EVA,seval,Zd,men]
 refine Zl (fun hlt=>?_) (fun hge=>?_)
 ·have hja:j<b.nodes.length:=by omega
  have ga:=Um (c:=Zy) hja
  have hkl:b.nodes[j].links.length<=4294967290:=b2 _ (List.getElem_mem hja)
  obtain⟨p1,p2⟩:=hp _ (List.getElem_mem hja)
  refine ZU (α:=Unit) b.nodes[j].links.length (fun k _=>[(9,.hd (lvl,1056) [] 0 k none k),(10,iI k)]) (fun k _=>[(1056,.ar 1 (rI (b.nodes[j].links.take k)) true k 0)]) (fun _ _=>True) () (by simp only[EVA,seval,Zd,men]) (by (simp only[EVA,seval,Zd,men]) <;> rfl) trivial ?_
  intro k _ hk _
  simp only[ga,Zy,List.length_map,EVA,seval,Zd,men]
  refine Zl (fun hlt2=>?_) (fun hge2=>?_)
  ·have hka:k<b.nodes[j].links.length:=by omega
   have gl:=YS hka
   have e0:g0 b.nodes[j].links k=b.nodes[j].links[k]:=by simp [hka]
   have hq:=p2 _ (List.getElem_mem hka)
   rw[<-e0] at hq
   have hl3:(b.nodes[j].links.take k).length=k:=by rw[List.length_take];omega
   have hs:rI (b.nodes[j].links.take k)++[[tv (g0 b.nodes[j].links k)]]=rI (b.nodes[j].links.take (k+1)):=by
    rw[List.take_succ_eq_append_getElem hka,Zbw,<-e0]
    rfl
   simp only[ga,Zy,gl,hka,hl3,hs,List.length_map,EVA,seval,Zd,men]
   have q:=Zas b (g0 b.nodes[j].links k) E hE hq
   simp only[Zc,List.map_cons,List.map_nil] at q
   refine Za q ?_
   simp only[ga,Zy,gl,hka,hl3,hs,List.length_map,EVA,seval,Zd,men]
   exact⟨by omega,by rw[Ze];omega,Zf () hka rfl trivial⟩
  ·have:k=b.nodes[j].links.length:=by omega
   subst this
   rw[List.take_length]
   rw[<-hn] at p1
   have hj2:(Q4 n).length=n:=Yy
   have gu:=YS (l:=Q4 n) (i:=j) (by omega)
   rw[ZdG (by omega)] at gu
   have q:=Dw b.nodes[j].parent n (by omega)
   have g1:=Zib hja
   have hfl:=Zia (Nat.le_of_lt hja)
   have hst:=Zic hja
   simp only[ga,Zy,gu,g1,hja,List.length_map,EVA,seval,Zd,men]
   refine Za q ?_
   have t1:=Zfz (k:=0) (t:=Tr.v (.int .i64 b.nodes[j].control)) g1
   simp only[List.set_cons_zero] at t1
   have t2:=Zfz (k:=1) (t:=Tr.v (.int .i64 b.nodes[j].parent)) (ZdH (e:=[Tr.v (.int .i64 b.nodes[j].control),tv 0,Tr.sl []]) (by rw[hfl];exact hja))
   simp only[List.set_cons_zero,List.set_cons_succ,List.set_set] at t2
   have t3:=Zfz (k:=2) (t:=Tr.sl (rI b.nodes[j].links)) (ZdH (e:=[Tr.v (.int .i64 b.nodes[j].control),Tr.v (.int .i64 b.nodes[j].parent),Tr.sl []]) (by rw[hfl];exact hja))
   simp only[List.set_cons_zero,List.set_cons_succ,List.set_set] at t3
   have hst':(UK b.nodes j).set j [Tr.v (.int .i64 b.nodes[j].control),Tr.v (.int .i64 b.nodes[j].parent),Tr.sl (rI b.nodes[j].links)]=UK b.nodes (j+1):=hst
   rw[hst'] at t3
   have g2:=ZdH (e:=[Tr.v (.int .i64 b.nodes[j].control),tv 0,Tr.sl []]) (by rw[hfl];exact hja)
   have g3:=ZdH (e:=[Tr.v (.int .i64 b.nodes[j].control),Tr.v (.int .i64 b.nodes[j].parent),Tr.sl []]) (by rw[hfl];exact hja)
   simp only[ga,Zy,gu,g1,g2,g3,t1,t2,t3,hja,List.length_map,EVA,seval,Zd,men]
   exact⟨by rw[Ze];omega,Zf () hja rfl trivial⟩
 ·have:j=b.nodes.length:=by omega
  subst this
  rw[Zls]
  refine ZU (α:=Unit) b.sites.length (fun j _=>[(11,iI j)]) (fun j _=>[(224,.bx [iI b.roots,.hd (lvl,576) [] 0 b.nodes.length none b.nodes.length,.hd (lvl,800) [] 0 j none j,iI b.edges,.hd (lvl,672) [] 0 b.outer.length none b.outer.length,.hd (lvl,801) [] 0 0 none 0]),(800,.ar 1 (rI (b.sites.take j)) true j 0)]) (fun _ _=>True) () (by simp only[EVA,seval,Zd,men]) (by (simp only[EVA,seval,Zd,men]) <;> rfl) trivial ?_
  intro j _ hj _
  simp only[List.length_map,EVA,seval,Zd,men]
  refine Zl (fun hlt=>?_) (fun hge=>?_)
  ·have hja:j<b.sites.length:=by omega
   have ga:=YS hja
   have e0:g0 b.sites j=b.sites[j]:=by simp [hja]
   have hq:=hs _ (List.getElem_mem hja)
   rw[<-e0] at hq
   have hl3:(b.sites.take j).length=j:=by rw[List.length_take];omega
   have hs:rI (b.sites.take j)++[[tv (g0 b.sites j)]]=rI (b.sites.take (j+1)):=by
    rw[List.take_succ_eq_append_getElem hja,Zbw,<-e0]
    rfl
   simp only[ga,hja,hl3,hs,List.length_map,EVA,seval,Zd,men]
   refine Za (Dw (g0 b.sites j) n hq) ?_
   simp only[ga,hja,hl3,hs,List.length_map,EVA,seval,Zd,men]
   exact⟨by omega,by rw[Ze];omega,Zf () hja rfl trivial⟩
  ·have:j=b.sites.length:=by omega
   subst this
   rw[List.take_length]
   refine ZU (α:=Unit) b.inner.length (fun j _=>[(12,iI j)]) (fun j _=>[(224,.bx [iI b.roots,.hd (lvl,576) [] 0 b.nodes.length none b.nodes.length,.hd (lvl,800) [] 0 b.sites.length none b.sites.length,iI b.edges,.hd (lvl,672) [] 0 b.outer.length none b.outer.length,.hd (lvl,801) [] 0 j none j]),(801,.ar 2 ((b.inner.take j).map ZF) true j 0)]) (fun _ _=>True) () (by simp only[EVA,seval,Zd,men]) (by (simp only[EVA,seval,Zd,men]) <;> rfl) trivial ?_
   intro j _ hj _
   simp only[List.length_map,EVA,seval,Zd,men]
   refine Zl (fun hlt=>?_) (fun hge=>?_)
   ·have hja:j<b.inner.length:=by omega
    have ga:=Um (c:=ZF) hja
    have hq:=hw _ (List.getElem_mem hja)
    have hl3:(b.inner.take j).length=j:=by rw[List.length_take];omega
    have hs:(b.inner.take j).map ZF++[[ts b.inner[j].name,tv b.inner[j].link]]=(b.inner.take (j+1)).map ZF:=by
     rw[List.take_succ_eq_append_getElem hja,List.map_append]
     rfl
    simp only[ga,ZF,hja,hl3,hs,List.length_map,EVA,seval,Zd,men]
    have q:=Zas b b.inner[j].link E hE hq
    simp only[Zc,List.map_cons,List.map_nil] at q
    refine Za q ?_
    simp only[ga,ZF,hja,hl3,hs,List.length_map,EVA,seval,Zd,men]
    exact⟨by omega,by rw[Ze];omega,Zf () hja rfl trivial⟩
   ·have:j=b.inner.length:=by omega
    subst this
    rw[List.take_length]
    exact⟨rfl,rfl⟩
theorem Zid(b:TBigraph)(E:Nat)(hE:b.edges=E)(hbd:ZG 4294967290 b)(hE2:E<=4294967290)(hp:∀ x∈b.nodes,x.parent<b.nodes.length/\∀ l∈x.links,0<=l)(hs:∀ p∈b.sites,p<b.nodes.length)(hw:∀ w∈b.inner,0<=w.link)(lvl:Nat)(S:Sto):Sem Proofs.Tryz.prog YO lvl [.ag ((Zc b).map .tr)] S (Zw b) S:=by
 refine Zb Zex (by simp [Zw,low,men,Zd]) ?_
 simp only[Zam,Zc,List.length_map,EVA,seval,Zd,men]
 have b1:=hbd.1
 refine ZU (α:=Unit) b.nodes.length (fun j _=>[(3,.hd (lvl,224) [] 0 j none j),(5,iI j)]) (fun j _=>[(224,.ar 1 (rI (Q4 j)) true j 0)]) (fun _ _=>True) () (by simp only[EVA,seval,Zd,men]) (by (simp only[EVA,seval,Zd,men]) <;> rfl) trivial ?_
 intro j _ hj _
 simp only[List.length_map,EVA,seval,Zd,men]
 refine Zl (fun hlt=>?_) (fun hge=>?_)
 ·have hja:j<b.nodes.length:=by omega
  have hl:(Q4 j).length=j:=Yy
  have hs:rI (Q4 j)++[[tv (j:Int)]]=rI (Q4 (j+1)):=by simp [Q4,rI,List.range_succ]
  simp only[hja,hl,hs,List.length_map,EVA,seval,Zd,men]
  exact⟨by omega,by rw[Ze];omega,Zf () hja rfl trivial⟩
 ·have:j=b.nodes.length:=by omega
  subst this
  refine ZU (α:=Unit) E (fun j _=>[(4,.hd (lvl,256) [] 0 j none j),(6,iI j)]) (fun j _=>[(256,.ar 1 (rI (Q4 j)) true j 0)]) (fun _ _=>True) () (by simp only[EVA,seval,Zd,men]) (by (simp only[EVA,seval,Zd,men]) <;> rfl) trivial ?_
  intro j _ hj _
  simp only[hE,List.length_map,EVA,seval,Zd,men]
  refine Zl (fun hlt=>?_) (fun hge=>?_)
  ·have hja:j<E:=by omega
   have hl:(Q4 j).length=j:=Yy
   have hs:rI (Q4 j)++[[tv (j:Int)]]=rI (Q4 (j+1)):=by simp [Q4,rI,List.range_succ]
   simp only[hja,hl,hs,List.length_map,EVA,seval,Zd,men]
   exact⟨by omega,by rw[Ze];omega,Zf () hja rfl trivial⟩
  ·have:j=E:=by omega
   subst this
   have l1:(Q4 b.nodes.length).length=b.nodes.length:=Yy
   have l2:(Q4 j).length=j:=Yy
   have q:=Zac b b.nodes.length j rfl hE hbd hE2 hp hs hw
   simp only[Zc,List.map_cons,List.map_nil,hE] at q
   rw[show cut (rI (Q4 b.nodes.length)) 0 b.nodes.length=rI (Q4 b.nodes.length) from Zh9 (by rw[List.length_map,l1]),show cut (rI (Q4 j)) 0 j=rI (Q4 j) from Zh9 (by rw[List.length_map,l2])]
   refine⟨by omega,by omega,Za q ?_⟩
   simp only[Zw,hE,List.length_map,EVA,seval,Zd,men]
   try rfl
theorem Zie{sig:List TControl}{b:TBigraph}(h:bigOK sig b){x:TNode}(hx:x∈b.nodes):x.parent<b.nodes.length/\∀ l∈x.links,0<=l/\l<b.edges+b.outer.length:=by
 obtain⟨k,hk,rfl⟩:=List.getElem_of_mem hx
 have q:=h.nodes k hk
 refine⟨?_,fun l hl=>?_⟩
 ·rcases q.par with p | p <;> omega
 ·have:=q.links l hl
  unfold Xj at this
  omega
theorem Zjn{sig:List TControl}{b:TBigraph}(h:bigOK sig b){p:Int}(hp:p∈b.sites):p<b.nodes.length:=by
 rcases h.sites p hp with q | q <;> omega
theorem ZcB(sig:List TControl)(b:TBigraph)(h:bigOK sig b)(lvl:Nat)(S:Sto):Sem Proofs.Tryz.prog YO lvl [.ag ((Zc b).map .tr)] S (Zw b) S:=by
 have he:=h.edges
 exact Zid b b.edges.toNat (by omega) (Zfy (by omega) (ZdF h)) (by omega) (fun x hx=>⟨(Zie h hx).1,fun l hl=>((Zie h hx).2 l hl).1⟩) (fun p hp=>Zjn h hp) (fun w hw=>(h.inner w hw).1) lvl S
end Go.Fd

/-
  NAMES IN ORDER, AND THEIR LINKS, AS THE REFERENCE HAS THEM. Own work.
-/
namespace Go.Fd
set_option maxRecDepth 20000
end Go.Fd

/-
  OpenName: BOTH ANSWERS OF THE REFERENCE. Own work.
-/
namespace Go.Fd
end Go.Fd

/-
  ONE BIGRAPH UNDER ANOTHER: WHAT COMPOSITION COMPUTES, IN PLAIN TERMS. Own work.
-/
namespace Go.Fd
set_option maxRecDepth 20000
end Go.Fd

/-
  ONE BIGRAPH UNDER ANOTHER, THE REFERENCE'S SIDE. Own work.
-/
namespace Go.Fd
set_option maxRecDepth 20000
def sm(n:Int):Prop:=-1000<=n/\n<=1000
end Go.Fd

/-
  ONE BIGRAPH UNDER ANOTHER, THE PROGRAM'S SIDE: joined. Own work.
-/
namespace Go.Fd
set_option maxRecDepth 20000
end Go.Fd

/-
  A BIGRAPH AFTER ANOTHER: BOTH SIDES. Own work.
-/
namespace Go.Fd
set_option maxRecDepth 20000
end Go.Fd

/-
  A BIGRAPH NESTED IN ANOTHER: BOTH SIDES. Own work.
-/
namespace Go.Fd
set_option maxRecDepth 20000
end Go.Fd

/-
  BIGRAPHS SIDE BY SIDE: IN PLAIN TERMS, AND THE REFERENCE'S SIDE. Own work.
-/
namespace Go.Fd
set_option maxRecDepth 20000
end Go.Fd

/-
  SORTING WIRES BY NAME: THE LIBRARY'S CONTRACT AT THIS PROGRAM. Own work.
-/
namespace Go.Proofs
open Go.Shelf Go.RowKit Go.Lib Go.Sort
instance:Inhabited Go.Fd.TWire:=⟨⟨⟨#[]⟩,0⟩⟩
end Go.Proofs
namespace Go.Fd
open Go.Sort Go.Proofs
end Go.Fd

/-
  BIGRAPHS SIDE BY SIDE, THE PROGRAM'S SIDE. Own work.
-/
namespace Go.Fd
set_option maxRecDepth 20000
end Go.Fd

/-
  BIGRAPHS SIDE BY SIDE: THE REFERENCE'S ANSWERS; JUXTAPOSITION (printed by mkpar.py). Own work.
-/
namespace Go.Fd
set_option maxRecDepth 20000
end Go.Fd

/-
  THE MERGED PRODUCT, IN PLAIN TERMS. Own work.
-/
namespace Go.Fd
set_option maxRecDepth 20000
end Go.Fd

/-
  SMALL WORDS FOR MARKS. Own work.
-/
namespace Go.Fd
theorem ZN{S:Sto}{id i:Oid}{ob:Ob}(h:i≠id):ZB S id ob i=S i:=if_neg h
theorem X7{lvl:Nat}{loc:List (Nat×Ob)}{out:Sto}{id:Oid}(h:id.1≠lvl):ZD lvl loc out id=out id:=if_neg h
theorem ZjX{α:Type}{m:α->Int->α}{n:α->Nat}:∀{a:List α} {k:Int} {j:Nat} (h:j<a.length),(mL m n a k)[j]? = some (m a[j] (kJ n a k j))
 | [],_,_,h=>by cases h
 | x::r,k,0,_=>by simp [mL,kJ,nL]
 | x::r,k,j+1,h=>by
  simp only[mL,List.getElem?_cons_succ,List.getElem_cons_succ]
  rw[ZjX (by simpa using h)]
  simp only[kJ,List.take_succ_cons,nL]
  congr 2
  omega
theorem Zgk{α:Type}{c:α->List Tr}{m:α->Int->α}{n:α->Nat}{a:List α}{k:Int}{j:Nat}(h:j<a.length):((mL m n a k).map c)[j]? = some (c (m a[j] (kJ n a k j))):=by
 rw[List.getElem?_map,ZjX h];rfl
theorem JV{α:Type}{c:α->List Tr}{m:α->Int->α}{n:α->Nat}{a:List α}{k:Int}:cut ((mL m n a k).map c) 0 a.length=(mL m n a k).map c:=by
 simp only[cut,List.drop_zero]
 exact List.take_of_length_le (by rw[List.length_map,Zv];exact Nat.le_refl _)
theorem Z9{α:Type}{c:α->List Tr}{a:List α}:cut (a.map c) 0 a.length=a.map c:=by
 simp only[cut,List.drop_zero]
 exact List.take_of_length_le (by rw[List.length_map];exact Nat.le_refl _)
end Go.Fd

/-
  THE MERGED PRODUCT, BOTH SIDES. Own work.
-/
namespace Go.Fd
set_option maxRecDepth 20000
end Go.Fd

/-
  EACH NUMBER ONCE. Own work.
-/
namespace Go.Fd
set_option maxRecDepth 20000
def WX(n:Nat)(l:List Int):Prop:=l.length=n/\∀ i:Nat,i<n->(i:Int)∈l
theorem ZgI:Ords (fun a b:Int=>a<b):=⟨fun a=>Int.lt_irrefl a,fun a b c=>Int.lt_trans,fun a b=>Int.lt_trichotomy a b⟩
theorem upto_mem{n:Nat}{x:Int}:x∈Q4 n↔0<=x/\x<n:=by
 unfold Q4
 rw[List.mem_map]
 constructor
 ·rintro⟨i,hi,rfl⟩
  have:=List.mem_range.1 hi
  omega
 ·rintro⟨h1,h2⟩
  exact⟨x.toNat,List.mem_range.2 (by omega),by omega⟩
theorem upto_pw{n:Nat}:(Q4 n).Pairwise (fun a b=>a<b):=by
 unfold Q4
 rw[List.pairwise_map]
 exact List.pairwise_lt_range.imp fun h=>by omega
theorem ZcC{n:Nat}:(Q4 n).Nodup:=upto_pw.imp fun h e=>by omega
theorem Zgl:∀{x y:List Int},x.Nodup->(∀ c∈x,c∈y)->x.length<=y.length/\(y.length<=x.length->x.Perm y)
 | [],y,_,_=>⟨Nat.zero_le _,fun h=>by rw[List.length_eq_zero_iff.1 (Nat.le_zero.1 h)]⟩
 | a::r,y,hd,hs=>by
  have hc:=List.nodup_cons.1 hd
  have ha:a∈y:=hs a (by simp)
  have hp:=List.perm_cons_erase ha
  obtain⟨h1,h2⟩:=Zgl (x:=r) (y:=y.erase a) hc.2 fun c hcr=>(List.mem_erase_of_ne (fun e=>hc.1 (by rw[<-e];exact hcr))).2 (hs c (by simp [hcr]))
  have hl:=hp.length_eq
  simp only[List.length_cons] at hl ⊢
  exact⟨by omega,fun h=>((h2 (by omega)).cons a).trans hp.symm⟩
theorem ordOK_perm{n:Nat}{l:List Int}:WX n l↔l.Perm (Q4 n):=by
 constructor
 ·rintro⟨h1,h2⟩
  refine((Zgl (x:=Q4 n) (y:=l) ZcC fun x hx=>?_).2 (by rw[h1,Yy];exact Nat.le_refl _)).symm
  have:=upto_mem.1 hx
  have h3:=h2 x.toNat (by omega)
  rwa [show ((x.toNat:Nat):Int)=x by omega] at h3
 ·intro h
  refine⟨by rw[h.length_eq,Yy],fun i hi=>h.mem_iff.2 (upto_mem.2 (by omega))⟩
theorem Zif{n:Nat}{l:List Int}:WX n l↔ZjW (fun a b:Int=>a<b) l=Q4 n:=by
 rw[ordOK_perm]
 constructor
 ·intro h
  exact ZdE ZgI (Zfx ZgI) (upto_pw.imp fun h=>by omega) (srtG_perm.trans h)
 ·intro h
  rw[<-h]
  exact srtG_perm.symm
theorem ZeS{n:Nat}{l:List Int}(h:WX n l){x:Int}(hx:x∈l):0<=x/\x<n:=upto_mem.1 ((ordOK_perm.1 h).mem_iff.1 hx)
theorem ZfA{n:Nat}{l:List Int}(h:WX n l):l.Nodup:=(ordOK_perm.1 h).nodup_iff.2 ZcC
end Go.Fd

/-
  TERMS, IN PLAIN TERMS. Own work.
-/
namespace Go.Fd
set_option maxRecDepth 20000
end Go.Fd

/-
  ONE MORE NAME, BOTH SIDES. Own work.
-/
namespace Go.Fd
set_option maxRecDepth 20000
end Go.Fd

/-
  STEPS OF TERMS: WHICH ARE RIGHT, BOTH SIDES. Own work.
-/
namespace Go.Fd
set_option maxRecDepth 20000
end Go.Fd

/-
  A NODE AROUND A BIGRAPH, THE PROGRAM'S SIDE. Own work.
-/
namespace Go.Fd
set_option maxRecDepth 20000
end Go.Fd

/-
  WHAT STEPS MAKE, THE PROGRAM'S SIDE: made, stacked. Own work.
-/
namespace Go.Fd
set_option maxRecDepth 20000
end Go.Fd

/-
  THE STACK, THE PROGRAM'S SIDE. Own work.
-/
namespace Go.Fd
set_option maxRecDepth 20000
end Go.Fd

/-
  SORTING A FEW NUMBERS: slices.Sort. Own work.
-/
namespace Go.Fd
set_option maxRecDepth 20000
theorem Zjo(a b:Int)(lvl:Nat)(S:Sto):Sem Proofs.Tryz.prog YZ lvl [iI a,iI b] S (iB (decide (a<b))) S:=by
 refine Zb Zb9 trivial ?_
 simp only[UC,EVA,seval,Zd,men]
 refine Za (ZhT a) ?_
 simp only[EVA,seval,Zd,men]
def Zjp(x:List Int)(i:Nat):Prop:=∀ p q,p<q->q<i->g0 x p<=g0 x q
def Zig(x:List Int)(i j:Nat):Prop:=(∀ p q,p<q->q<=i->p≠j->q≠j->g0 x p<=g0 x q)/\∀ q,j<q->q<=i->g0 x j<=g0 x q
def swp(x:List Int)(j:Nat):List Int:=(x.set j (g0 x (j-1))).set (j-1) (g0 x j)
theorem Zih{y:List Int}{a b:Nat}{v:Int}(h:a<y.length):g0 (y.set a v) b=if a=b then v else g0 y b:=by
 show (y.set a v).getD b 0=if a=b then v else y.getD b 0
 rw[List.getD_eq_getElem?_getD,List.getElem?_set,List.getD_eq_getElem?_getD]
 by_cases e:a=b
 ·rw[if_pos e,if_pos e,if_pos (by omega)];rfl
 ·rw[if_neg e,if_neg e]
theorem ZgJ{y:List Int}{i:Nat}(h:Zig y i 0):Zjp y (i+1):=fun p q h1 h2=>by
 by_cases e:p=0
 ·subst e;exact h.2 q h1 (by omega)
 ·exact h.1 p q h1 (by omega) e (by omega)
theorem ZgK{y:List Int}{i j:Nat}(h:Zig y i j)(hj:0<j)(hji:j<=i)(hle:g0 y (j-1)<=g0 y j):Zjp y (i+1):=fun p q h1 h2=>by
 by_cases e:p=j
 ·subst e;exact h.2 q h1 (by omega)
 ·by_cases e2:q=j
  ·subst e2
   by_cases e3:p=q-1
   ·subst e3;exact hle
   ·exact Int.le_trans (h.1 p (q-1) (by omega) (by omega) e (by omega)) hle
  ·exact h.1 p q h1 (by omega) e e2
theorem Zii{y:List Int}{i j:Nat}(h:Zig y i j)(hj:0<j)(hji:j<=i)(hi:i<y.length)(hlt:g0 y j<g0 y (j-1)):Zig (swp y j) i (j-1):=by
 have e:∀ b,g0 (swp y j) b=if j-1=b then g0 y j else if j=b then g0 y (j-1) else g0 y b:=fun b=>by
  unfold swp
  rw[Zih (by rw[List.length_set];omega),Zih (by omega)]
 refine⟨fun p q h1 h2 h3 h4=>?_,fun q h1 h2=>?_⟩
 ·rw[e p,e q,if_neg (show ¬ j-1=p from fun g=>h3 g.symm),if_neg (show ¬ j-1=q from fun g=>h4 g.symm)]
  by_cases ep:j=p
  ·rw[if_pos ep,if_neg (show ¬ j=q by omega)]
   exact h.1 (j-1) q (by omega) h2 (by omega) (by omega)
  ·rw[if_neg ep]
   by_cases eq:j=q
   ·rw[if_pos eq]
    exact h.1 p (j-1) (by omega) (by omega) (by omega) (by omega)
   ·rw[if_neg eq]
    exact h.1 p q h1 h2 (fun g=>ep g.symm) (fun g=>eq g.symm)
 ·rw[e (j-1),e q,if_pos rfl,if_neg (show ¬ j-1=q by omega)]
  by_cases eq:j=q
  ·rw[if_pos eq];omega
  ·rw[if_neg eq]
   exact h.2 q (by omega) h2
theorem Zjq{y:List Int}{j:Nat}(hj:0<j)(hi:j<y.length):(swp y j).Perm y:=by
 have h:=@List.set_set_perm _ y j (j-1) hi (by omega)
 have e1:g0 y j=y[j]:=by simp [g0,hi]
 have e2:g0 y (j-1)=y[j-1]'(by omega):=by
  show y.getD (j-1) 0=_
  rw[List.getD_eq_getElem?_getD,List.getElem?_eq_getElem (by omega)]
  rfl
 unfold swp
 rw[e1,e2]
 exact h
theorem Zoo{y:List Int}{j:Nat}{v:Int}(h:j<y.length):Yo (rI y) [] j 0 (.v (.int .i64 v))=rI (y.set j v):=by
 simp only[Yo]
 rw[YS h]
 exact(List.map_set (f:=fun n:Int=>[tv n]) (l:=y) (i:=j) (a:=v)).symm
theorem Zjr(l:List Int)(hl:l.length<=12)(lvl:Nat)(S:Sto)(id:Oid)(u:Bool)(hw ver:Nat)(hid:id.1<lvl)(hS:S id=some (.ar 1 (rI l) u hw ver))(srt:List Int)(hsrt:∀ x:List Int,x.Perm l->Zjp x l.length->x=srt) :
  Sem Proofs.Tryz.prog Z2 lvl [.hd id [] 0 l.length none hw,iI 0,iI l.length] S (.tu []) (ZB S id (.ar 1 (rI srt) u hw ver)):=by
 have hne:id.1≠lvl:=by omega
 refine Zb VE trivial ?_
 simp only[Jw,EVA,seval,Zd,men]
 refine⟨by rw[Ze];omega,?_⟩
 refine ZT (α:=List Int) l.length (fun k x=>⟨lvl,[(0,.hd id [] 0 l.length none hw),(1,iI 0),(2,iI l.length),(6,iI ((k+1:Nat):Int))],[],ZB S id (.ar 1 (rI x) u hw ver)⟩) (fun k x=>x.Perm l/\Zjp x (k+1)) l ⟨by simp only[Zs hne,EVA,seval,Zd,men],by (simp only[U6 hS,EVA,seval,Zd,men]) <;> rfl⟩ ⟨List.Perm.refl _,fun p q h1 h2=>by omega⟩ ?_
 intro k x hk ⟨hA1,hA2⟩
 have hxl:x.length=l.length:=hA1.length_eq
 simp only[EVA,seval,Zd,men]
 refine Zl (fun hlt=>?_) (fun hge=>?_)
 ·have hk1:k+1<l.length:=by omega
  refine ZT (α:=List Int) (k+1) (fun m y=>⟨lvl,[(0,.hd id [] 0 l.length none hw),(1,iI 0),(2,iI l.length),(6,iI ((k+1:Nat):Int)),(7,iI ((k+1-m:Nat):Int))],[],ZB S id (.ar 1 (rI y) u hw ver)⟩) (fun m y=>y.Perm l/\Zig y (k+1) (k+1-m)) x ⟨by simp only[Zs hne,EVA,seval,Zd,men],by (simp only[EVA,seval,Zd,men]) <;> rfl⟩ ⟨hA1,fun p q h1 h2 h3 h4=>hA2 p q h1 (by omega),fun q h1 h2=>by omega⟩ ?_
  intro m y hm ⟨hB1,hB2⟩
  have hyl:y.length=l.length:=hB1.length_eq
  generalize hj:k+1-m=j at hB2 ⊢
  by_cases hj0:j=0
  ·subst hj0
   simp only[EVA,seval,Zd,men]
   exact⟨by rw[Ze];omega,fun h=>absurd h hne,Zf y (by omega) rfl ⟨hB1,ZgJ hB2⟩⟩
  ·have g1:(0:Int)<j:=by omega
   have e1:((j:Int)-1)=((j-1:Nat):Int):=by omega
   have gj:=YS (l:=y) (i:=j) (by omega)
   have gj1:=YS (l:=y) (i:=j-1) (by omega)
   have l1:j<l.length:=by omega
   have l2:j-1<l.length:=by omega
   simp only[g1,Y2 hne,We,e1,gj,gj1,l1,l2,Nat.zero_add,EVA,seval,Zd,men]
   refine⟨by rw[Ze];omega,Za (Zjo (g0 y j) (g0 y (j-1))) ?_⟩
   by_cases hlt2:g0 y j<g0 y (j-1)
   ·have s1:=Zoo (y:=y) (j:=j) (v:=g0 y (j-1)) (by omega)
    have s2:=Zoo (y:=y.set j (g0 y (j-1))) (j:=j-1) (v:=g0 y j) (by rw[List.length_set];omega)
    have gj2:=YS (l:=y.set j (g0 y (j-1))) (i:=j-1) (by rw[List.length_set];omega)
    simp only[hlt2,g1,Y2 hne,VQ hne,JY,We,Zs hne,e1,gj,gj1,gj2,s1,s2,l1,l2,Nat.zero_add,EVA,seval,Zd,men]
    subst hj
    refine⟨by rw[Ze];omega,by rw[Ze];omega,by rw[Ze];omega,Zf (swp y (k+1-m)) (by omega) (by rw[show k+1-(m+1)=k+1-m-1 from by omega];rfl) ⟨(Zjq (by omega) (by omega)).trans hB1,?_⟩⟩
    rw[show k+1-(m+1)=k+1-m-1 from by omega]
    exact Zii hB2 (by omega) (by omega) (by omega) hlt2
   ·simp only[hlt2,EVA,seval,Zd,men]
    exact⟨by rw[Ze];omega,fun h=>absurd h hne,Zf y (by omega) rfl ⟨hB1,ZgK hB2 (by omega) (by omega) (by omega)⟩⟩
 ·have:k+1=l.length\/k=l.length:=by omega
  have hup:Zjp x l.length:=fun p q h1 h2=>hA2 p q h1 (by omega)
  have hx:=hsrt x hA1 hup
  rw[hx]
theorem Zjs(l:List Int)(hl:l.length<=12)(r:Int)(lvl:Nat)(S:Sto)(id:Oid)(u:Bool)(hw ver:Nat)(hid:id.1<lvl)(hS:S id=some (.ar 1 (rI l) u hw ver))(srt:List Int)(hsrt:∀ x:List Int,x.Perm l->Zjp x l.length->x=srt) :
  Sem Proofs.Tryz.prog ZI lvl [.hd id [] 0 l.length none hw,iI 0,iI l.length,iI r] S (.tu []) (ZB S id (.ar 1 (rI srt) u hw ver)):=by
 have hne:id.1≠lvl:=by omega
 refine Zb Q0 trivial ?_
 simp only[Ym,EVA,seval,Zd,men]
 refine ZT (α:=Unit) 0 (fun _ _=>⟨lvl,[(0,.hd id [] 0 l.length none hw),(1,iI 0),(2,iI l.length),(3,iI r),(8,iB true),(9,iB true)],[],S⟩) (fun _ _=>True) () ⟨by simp only[Zs hne,EVA,seval,Zd,men],by (simp only[EVA,seval,Zd,men]) <;> rfl⟩ trivial ?_
 intro _ _ _ _
 have h12:(l.length:Int)-0<=12:=by omega
 simp only[h12,EVA,seval,Zd,men]
 refine⟨by rw[Ze];omega,?_⟩
 simp only[ZbT]
 refine VZ [] (ZB S id (.ar 1 (rI srt) u hw ver)) (fun i hi=>by unfold ZB;rw[if_neg (fun e=>hne (by rw[<-e];exact hi))]) (by
  rw[Yt hne]
  exact Zjr l hl (lvl+1) (ZD lvl [] S) id u hw ver (by omega) (by rw[Y2 hne];exact hS) srt hsrt) ?_
 simp only[Zs hne,EVA,seval,Zd,men]
theorem Zij(l:List Int)(hl:l.length<=12)(lvl:Nat)(S:Sto)(id:Oid)(u:Bool)(hw ver:Nat)(hid:id.1<lvl)(hS:S id=some (.ar 1 (rI l) u hw ver))(srt:List Int)(hsrt:∀ x:List Int,x.Perm l->Zjp x l.length->x=srt) :
  Sem Proofs.Tryz.prog Z7 lvl [.hd id [] 0 l.length none hw] S (.tu []) (ZB S id (.ar 1 (rI srt) u hw ver)):=by
 have hne:id.1≠lvl:=by omega
 obtain⟨r,hr⟩:=Zlq (v:=(l.length:Int)) (by omega) (by omega)
 refine Zb WS trivial ?_
 simp only[V4,EVA,seval,Zd,men]
 refine⟨⟨by show (0:Int)<=l.length;omega,by show (l.length:Int)<=18446744073709551615;omega⟩,Za hr ?_⟩
 simp only[EVA,seval,Zd,men]
 refine VZ [] (ZB S id (.ar 1 (rI srt) u hw ver)) (fun i hi=>by unfold ZB;rw[if_neg (fun e=>hne (by rw[<-e];exact hi))]) (by
  rw[Yt hne]
  exact Zjs l hl r (lvl+1) (ZD lvl [] S) id u hw ver (by omega) (by rw[Y2 hne];exact hS) srt hsrt) ?_
 simp only[Zs hne,EVA,seval,Zd,men]
end Go.Fd

/-
  THE VALUE OF A TERM, THE PROGRAM'S SIDE. Own work.
-/
namespace Go.Fd
set_option maxRecDepth 20000
theorem Zlt{x:List Int}(h:Zjp x x.length):x.Pairwise (fun a b=>a<=b):=by
 rw[List.pairwise_iff_getElem]
 intro i j hi hj hij
 have:=h i j hij hj
 rwa [show g0 x i=x[i] by simp [hi],show g0 x j=x[j] by simp [hj]] at this
theorem Zop{l x:List Int}(hp:x.Perm l)(h:Zjp x l.length):x=ZjW (fun a b:Int=>a<b) l:=by
 rw[<-hp.length_eq] at h
 exact ZdE ZgI ((Zlt h).imp fun h=>by omega) (Zfx ZgI) (hp.trans srtG_perm.symm)
theorem Zoq{n i:Nat}(h:i<n):(Q4 n)[i]? = some (i:Int):=by
 unfold Q4
 simp [h]
theorem ZsC{l:List Int}{j:Nat}(h:j<l.length):(rI l)[j]? = some [tv l[j]]:=by
 show (l.map _)[j]? = _
 rw[List.getElem?_map,List.getElem?_eq_getElem h]
 rfl
end Go.Fd

/-
  WHICH STEPS ARE RIGHT, THE REFERENCE'S SIDE. Own work.
-/
namespace Go.Fd
set_option maxRecDepth 20000
end Go.Fd

/-
  WHAT STEPS MAKE, THE REFERENCE'S SIDE. Own work.
-/
namespace Go.Fd
set_option maxRecDepth 20000
end Go.Fd

/-
  WHAT STEPS MAKE OF TWO, AND OF ONE AND A NAME, THE REFERENCE'S SIDE. Own work.
-/
namespace Go.Fd
set_option maxRecDepth 20000
end Go.Fd

/-
  A STEP ON A STACK, THE REFERENCE'S SIDE. Own work.
-/
namespace Go.Fd
set_option maxRecDepth 20000
end Go.Fd

/-
  ALL STEPS, THE REFERENCE'S SIDE. Own work.
-/
namespace Go.Fd
set_option maxRecDepth 20000
end Go.Fd

/-
  NUMBERS OF LIBRARY FUNCTIONS IN THIS PROGRAM, as the guide's shelf lays them (printed by lay.py out of the kit's own command).
-/
namespace Go.Proofs
open Go.Shelf
def Tryz.lays189_ren:Go.Shelf.Ren:=⟨fun | 189=>99 | 125=>146 | 257=>145 | 128=>191 | 129=>192 | 294=>182 | 295=>183 | 296=>184 | 297=>185 | 298=>186 | 299=>187 | 216=>188 | 300=>189 | 301=>190 | 328=>228 | 329=>229 | 330=>230 | 331=>231 | 332=>232 | 215=>233 | 343=>272 | n=>n,fun | 28=>35 | 3=>3 | 46=>181 | 0=>0 | 51=>216 | 53=>218 | 4=>4 | 183=>208 | 182=>207 | 131=>213 | 5=>5 | 9=>9 | 218=>243 | 222=>247 | 228=>278 | 229=>279 | n=>n,fun | n=>n⟩
theorem Tryz.lays189:Go.Proofs.Lays.n189 Tryz.prog Tryz.lays189_ren:={
  mixed:=by kernel_rfl,
  f125:=Tryz.func146.trans (congrArg some (by kernel_rfl)),
  f128:=Tryz.func191.trans (congrArg some (by kernel_rfl)),
  f129:=Tryz.func192.trans (congrArg some (by kernel_rfl)),
  f189:=Tryz.func99.trans (congrArg some (by kernel_rfl)),
  f215:=Tryz.func233.trans (congrArg some (by kernel_rfl)),
  f216:=Tryz.func188.trans (congrArg some (by kernel_rfl)),
  f257:=Tryz.func145.trans (congrArg some (by kernel_rfl)),
  f294:=Tryz.func182.trans (congrArg some (by kernel_rfl)),
  f295:=Tryz.func183.trans (congrArg some (by kernel_rfl)),
  f296:=Tryz.func184.trans (congrArg some (by kernel_rfl)),
  f297:=Tryz.func185.trans (congrArg some (by kernel_rfl)),
  f298:=Tryz.func186.trans (congrArg some (by kernel_rfl)),
  f299:=Tryz.func187.trans (congrArg some (by kernel_rfl)),
  f300:=Tryz.func189.trans (congrArg some (by kernel_rfl)),
  f301:=Tryz.func190.trans (congrArg some (by kernel_rfl)),
  f328:=Tryz.func228.trans (congrArg some (by kernel_rfl)),
  f329:=Tryz.func229.trans (congrArg some (by kernel_rfl)),
  f330:=Tryz.func230.trans (congrArg some (by kernel_rfl)),
  f331:=Tryz.func231.trans (congrArg some (by kernel_rfl)),
  f332:=Tryz.func232.trans (congrArg some (by kernel_rfl)),
  f343:=Tryz.func272.trans (congrArg some (by kernel_rfl)),
  t0:=Tryz.underlying0,
  a0:=Tryz.isAgg0,
  z0:=Tryz.sizeOf0,
  v0:=Tryz.zeroValue0,
  t3:=Tryz.underlying3,
  a3:=Tryz.isAgg3,
  z3:=Tryz.sizeOf3,
  v3:=Tryz.zeroValue3,
  t4:=Tryz.underlying4,
  a4:=Tryz.isAgg4,
  z4:=Tryz.sizeOf4,
  v4:=Tryz.zeroValue4,
  t5:=Tryz.underlying5,
  a5:=Tryz.isAgg5,
  z5:=Tryz.sizeOf5,
  v5:=Tryz.zeroValue5,
  t9:=Tryz.underlying9,
  a9:=Tryz.isAgg9,
  z9:=Tryz.sizeOf9,
  v9:=Tryz.zeroValue9,
  t28:=Tryz.underlying35,
  a28:=Tryz.isAgg35,
  z28:=Tryz.sizeOf35,
  v28:=Tryz.zeroValue35,
  t46:=Tryz.underlying181,
  a46:=Tryz.isAgg181,
  z46:=Tryz.sizeOf181,
  v46:=Tryz.zeroValue181,
  t51:=Tryz.underlying216,
  a51:=Tryz.isAgg216,
  z51:=Tryz.sizeOf216,
  v51:=Tryz.zeroValue216,
  t53:=Tryz.underlying218,
  a53:=Tryz.isAgg218,
  z53:=Tryz.sizeOf218,
  v53:=Tryz.zeroValue218,
  t131:=Tryz.underlying213,
  a131:=Tryz.isAgg213,
  z131:=Tryz.sizeOf213,
  v131:=Tryz.zeroValue213,
  t182:=Tryz.underlying207,
  a182:=Tryz.isAgg207,
  z182:=Tryz.sizeOf207,
  v182:=Tryz.zeroValue207,
  t183:=Tryz.underlying208,
  a183:=Tryz.isAgg208,
  z183:=Tryz.sizeOf208,
  v183:=Tryz.zeroValue208,
  t218:=Tryz.underlying243,
  a218:=Tryz.isAgg243,
  z218:=Tryz.sizeOf243,
  v218:=Tryz.zeroValue243,
  t222:=Tryz.underlying247,
  a222:=Tryz.isAgg247,
  z222:=Tryz.sizeOf247,
  v222:=Tryz.zeroValue247,
  t228:=Tryz.underlying278,
  a228:=Tryz.isAgg278,
  z228:=Tryz.sizeOf278,
  v228:=Tryz.zeroValue278,
  t229:=Tryz.underlying279,
  a229:=Tryz.isAgg279,
  z229:=Tryz.sizeOf279,
  v229:=Tryz.zeroValue279 }
end Go.Proofs

/-
  SORTING NUMBERS, ANY NUMBER OF THEM; WHAT IS AN ORDER, BOTH SIDES. Own work.
-/
namespace Go.Fd
set_option maxRecDepth 20000
theorem Zor(l:List Int):l.mergeSort (fun x y=>decide (x<=y))=ZjW (fun a b:Int=>a<b) l:=by
 refine ZdE ZgI ?_ (Zfx ZgI) ((List.mergeSort_perm l _).trans srtG_perm.symm)
 have h:=List.pairwise_mergeSort (le:=fun x y:Int=>decide (x<=y)) (fun a b c h1 h2=>by simp only[decide_eq_true_eq] at *;omega) (fun a b=>by simp only[Bool.or_eq_true,decide_eq_true_eq];omega) l
 refine h.imp fun {x y} h=>?_
 simp only[decide_eq_true_eq] at h
 omega
theorem ZdI(l:List Int)(hl:l.length<=4294967296)(lvl:Nat)(S:Sto)(id:Oid)(u:Bool)(hw ver:Nat)(hid:id.1<lvl)(hS:S id=some (.ar 1 (rI l) u hw ver)) :
  Sem Proofs.Tryz.prog Z7 lvl [.hd id [] 0 l.length none hw] S (.tu []) (ZB S id (.ar 1 (rI (ZjW (fun a b:Int=>a<b) l)) u hw ver)):=by
 by_cases hs:l.length<=12
 ·exact Zij l hs lvl S id u hw ver hid hS _ fun x hp hu=>Zop hp hu
 ·have h:=ZeR (P:=Proofs.Tryz.prog) (f:=Z7) (lvl:=lvl) (S:=S) (id:=id) (xs:=l) (ys:=ZjW (fun a b:Int=>a<b) l) (enc:=Value.int .i64) (u:=u) (hw:=hw) (ver:=ver) (Zge (by kernel_rfl)) hid hS (fun _=>rfl) srtG_perm.length_eq
   (fun h=>absurd (congrArg List.length h) (by show ¬ l.length=0;omega))
   (fun _ b cap w hH hb=>by
    have:=Go.Proofs.Any.slices_Sort_int Proofs.Tryz.lays189 b 0 cap l w hH hb (by omega)
    rw[Zor] at this
    exact this)
  exact h
theorem ZeT(n:Nat)(l:List Int)(hl:l.length<=4294967296)(lvl:Nat)(S:Sto):Sem Proofs.Tryz.prog V9 lvl [iI n,.tr (.sl (rI l))] S (iB (dc (WX n l))) S:=by
 obtain⟨r,hr⟩:∃ r,r=ZjW (fun a b:Int=>a<b) l:=⟨_,rfl⟩
 have hrl:r.length=l.length:=by rw[hr];exact srtG_perm.length_eq
 refine Zb Zb2 trivial ?_
 simp only[Uv,EVA,seval,Zd,men]
 refine Za (UJ l (by omega)) ?_
 simp only[List.length_map,EVA,seval]
 have s1:=fun S' hS=>ZdI l hl (lvl+1) S' (lvl,288) true l.length 0 (Nat.lt_succ_self _) hS
 rw[<-hr] at s1
 have hord:WX l.length l↔r=Q4 l.length:=by rw[hr];exact Zif
 refine Zlp 288 _ (s1 _ ?_) ?_
 ·rw[JR];rfl
 simp only[EVA,seval]
 refine ZU (α:=Unit) l.length (fun j _=>[(14,iI j)]) (fun _ _=>[]) (fun j _=>∀ i:Nat,i<j->r[i]? = some (i:Int)) () (by simp only[EVA,seval]) (by (simp only[EVA,seval]) <;> rfl) (fun i hi=>absurd hi (Nat.not_lt_zero i)) ?_
 intro j _ hj hA
 simp only[List.length_map,EVA,seval]
 refine Zl (fun hlt=>?_) (fun hge=>?_)
 ·have hja:j<l.length:=by omega
  have hjr:j<r.length:=by omega
  have ga:=ZsC hjr
  simp only[ga,hja,EVA,seval]
  refine Zl (fun hq=>?_) (fun hq=>?_)
  ·have hno:¬ WX n l:=fun g=>by
    have hnl:=g.1
    rw[<-hnl] at g
    have e:=hord.1 g
    have e2:r[j]? = some (j:Int):=by rw[e];exact Zoq hja
    rw[List.getElem?_eq_getElem hjr] at e2
    have e3:=Option.some.inj e2
    omega
   rw[Zg hno]
  ·exact⟨by rw[Ze];omega,Zf () hja rfl (fun i hi=>by
    rcases Nat.lt_or_eq_of_le (Nat.le_of_lt_succ hi) with h | h
    ·exact hA i h
    ·subst h
     rw[List.getElem?_eq_getElem hjr]
     congr 1
     omega)⟩
 ·have:j=l.length:=by omega
  subst this
  have hyes:WX l.length l:=hord.2 (List.ext_getElem? fun i=>by
   by_cases hi:i<l.length
   ·rw[hA i hi,Zoq hi]
   ·rw[List.getElem?_eq_none (by omega),List.getElem?_eq_none (by rw[Yy];omega)])
  by_cases hn:l.length=n
  ·have e:((l.length:Int)=n)=True:=eq_true (by omega)
   subst hn
   rw[Ju hyes]
   simp only[EVA,seval]
  ·have e:((l.length:Int)=n)=False:=eq_false (by omega)
   rw[Zg fun g:WX n l=>hn g.1]
   simp only[e,EVA,seval]
theorem ZfB(l:List Int)(n:Nat)(hl:l.length<=4294967296)(hn:n<=4294967296)(lvl:Nat)(S:Sto):Sem Proofs.Tryz.prog QM lvl [.tr (.sl (rI l)),iI n] S (iB (dc (WX n l))) S:=by
 refine Zb Zdi trivial ?_
 simp only[Db,EVA,seval]
 refine ZU (α:=Unit) n (fun j _=>[(5,iI j)]) (fun _ _=>[]) (fun j _=>∀ i:Nat,i<j->(i:Int)∈l) () (by simp only[EVA,seval]) (by (simp only[EVA,seval]) <;> rfl) (fun i hi=>absurd hi (Nat.not_lt_zero i)) ?_
 intro j _ hj hA
 simp only[List.length_map,EVA,seval,Zd,men]
 refine Zl (fun hlt=>?_) (fun hge=>?_)
 ·have hja:j<n:=by omega
  refine Za (ZhR l j (by omega)) ?_
  by_cases hm:(j:Int)∈l
  ·simp only[hm,EVA,seval]
   exact⟨by rw[Ze];omega,Zf () hja rfl (fun i hi=>by
    rcases Nat.lt_or_eq_of_le (Nat.le_of_lt_succ hi) with h | h
    ·exact hA i h
    ·subst h;exact hm)⟩
  ·rw[Zg fun g:WX n l=>hm (g.2 j hja)]
   simp only[hm,EVA,seval]
 ·have:j=n:=by omega
  subst this
  by_cases hn:l.length=j
  ·have e:((l.length:Int)=j)=True:=eq_true (by omega)
   rw[Ju (show WX j l from ⟨hn,hA⟩)]
   simp only[e,EVA,seval]
  ·have e:((l.length:Int)=j)=False:=eq_false (by omega)
   rw[Zg fun g:WX j l=>hn g.1]
   simp only[e,EVA,seval]
end Go.Fd

/-
  THE INVERSE OF A RULE, BOTH SIDES. Own work.
-/
namespace Go.Fd
set_option maxRecDepth 20000
def Ze2(l:List Int):Nat->List Int
 | 0=>List.replicate l.length 0
 | j+1=>(Ze2 l j).set (g0 l j).toNat (j:Int)
theorem Xl{l:List Int}:∀{j:Nat},(Ze2 l j).length=l.length
 | 0=>List.length_replicate
 | j+1=>by rw[Ze2,List.length_set];exact Xl
theorem Zgm{l:List Int}(hd:l.Nodup)(hm:∀ x∈l,0<=x/\x<l.length):∀{j:Nat},j<=l.length->∀ i,i<j->g0 (Ze2 l j) (g0 l i).toNat=i
 | 0,_,i,h=>by omega
 | j+1,hj,i,h=>by
  have mem:∀ k,k<l.length->g0 l k∈l:=fun k hk=>by simp [hk]
  have hr:=hm _ (mem j (by omega))
  have hi:=hm _ (mem i (by omega))
  rw[Ze2,Zih (by rw[Xl];omega)]
  by_cases e:i=j
  ·subst e
   rw[if_pos rfl]
  ·rw[if_neg fun q=>?_]
   ·exact Zgm hd hm (by omega) i (by omega)
   ·have e2:g0 l i=g0 l j:=by omega
    have hi2:i<l.length:=by omega
    have hj2:j<l.length:=by omega
    rw[show g0 l i=l[i] by simp [hi2],show g0 l j=l[j] by simp [hj2]] at e2
    exact e ((List.getElem_inj hd).1 e2)
def ZfC(r:TRule):List Int:=(Q4 r.redex.sites.length).map fun k=>ZjR r.copies k
theorem Zos{l:List Int}{n:Nat}(h:WX n l):Ze2 l l.length=(Q4 n).map fun k=>ZjR l k:=by
 have hn:=h.1
 have hd:=ZfA h
 refine List.ext_getElem (by rw[Xl,List.length_map,Yy,hn]) fun k h1 h2=>?_
 rw[Xl] at h1
 have hk:(k:Int)∈l:=h.2 k (by omega)
 obtain⟨i,hi,hik⟩:=List.getElem_of_mem hk
 have q:=Zgm hd (fun x hx=>by have:=ZeS h hx;omega) (Nat.le_refl _) i hi
 rw[show g0 l i=l[i] by simp [hi],hik,Int.toNat_natCast] at q
 have e1:(Ze2 l l.length)[k]'(by rw[Xl];exact h1)=g0 (Ze2 l l.length) k:=by simp [Xl,h1]
 rw[e1,q,List.getElem_map]
 have e2:(Q4 n)[k]'(by rw[Yy];omega)=(k:Int):=by simp [Q4]
 rw[e2]
 unfold ZjR
 rw[if_pos hk,<-hik,List.Nodup.idxOf_getElem hd]
structure invOK (sig:List TControl) (r:TRule):Prop where
 rule:ruleOK sig r
 sol:solid r.reactum
 ord:WX r.redex.sites.length r.copies
def Ztd(r:TRule):TRule:=⟨r.reactum,r.redex,ZfC r⟩
def JW:TRule:=⟨Yn,Yn,[]⟩
open Classical in
noncomputable def Zh(sig:List TControl)(r:TRule):TRule:=if invOK sig r then Ztd r else JW
noncomputable def VV(sig:List TControl)(r:TRule):Bool:=dc (invOK sig r)
end Go.Fd

/-
  InverseRule: BOTH SIDES. Own work.
-/
namespace Go.Fd
set_option maxRecDepth 20000
theorem ZjY{sig:List TControl}{b:TBigraph}(h:bigOK sig b):ZG 4294967290 b:=Zfy (by omega) (ZdF h)
theorem ZaX{r:TRule}:(ZfC r).length=r.redex.sites.length:=by unfold ZfC;rw[List.length_map,Yy]
theorem Zjt{r:TRule}{j:Nat}(h:j<r.redex.sites.length):(ZfC r)[j]'(by rw[ZaX];exact h)=ZjR r.copies j:=by
 simp [ZfC,Q4]
theorem Qm(sig:List TControl)(r:TRule)(hn:sig.length<=4294967296)(hbs:∀ y∈sig,ZH 4294967296 y)(hb:Vb 4294967296 r)(hf:Zcu r)(lvl:Nat)(S:Sto):Sem Proofs.Tryz.prog Jy lvl [.tr (.sl (sig.map Zi)),.ag ((ZP r).map .tr)] S (.tu [JS (Zh sig r),iB (VV sig r)]) S:=by
 refine Zb U9 (by simp [JS,low,men,Zd]) ?_
 have q1:=ZbI sig r hn hbs hb hf
 simp only[ZP,List.map_cons,List.map_nil] at q1
 unfold Zh VV
 simp only[Xc,ZP,zfill,zobs,Z5,Z6,List.set_cons_zero,List.set_cons_succ,List.map_cons,List.map_nil,EVA,seval,Zd,men]
 refine Za q1 ?_
 by_cases h1:ruleOK sig r
 rotate_left
 ·have hno:¬ invOK sig r:=fun g=>h1 g.rule
  rw[Zg h1,if_neg hno,Zg hno]
  simp only[JS,JW,Yn,zfill,zobs,Z5,Z6,List.set_cons_zero,List.set_cons_succ,List.map_cons,List.map_nil,EVA,seval,Zd,men]
  try rfl
 rw[Ju h1]
 have q2:=Wl r.reactum h1.rea.small
 simp only[Zc,List.map_cons,List.map_nil] at q2
 simp only[Zc,EVA,seval,Zd,men]
 refine Za q2 ?_
 by_cases h2:solid r.reactum
 rotate_left
 ·have hno:¬ invOK sig r:=fun g=>h2 g.sol
  rw[Zg h2,if_neg hno,Zg hno]
  simp only[JS,JW,Yn,zfill,zobs,Z5,Z6,List.set_cons_zero,List.set_cons_succ,List.map_cons,List.map_nil,EVA,seval,Zd,men]
  try rfl
 rw[Ju h2]
 have hcl:=h1.len
 have hs1:=h1.red.sitesL
 have hs2:=h1.rea.sitesL
 simp only[Zc,List.length_map,EVA,seval,Zd,men]
 refine Za (ZeT r.redex.sites.length r.copies (by omega)) ?_
 by_cases h3:WX r.redex.sites.length r.copies
 rotate_left
 ·have hno:¬ invOK sig r:=fun g=>h3 g.ord
  rw[Zg h3,if_neg hno,Zg hno]
  simp only[JS,JW,Yn,zfill,zobs,Z5,Z6,List.set_cons_zero,List.set_cons_succ,List.map_cons,List.map_nil,EVA,seval,Zd,men]
  try rfl
 have hyes:invOK sig r:=⟨h1,h2,h3⟩
 rw[Ju h3,if_pos hyes,Ju hyes]
 have o1:=UD r.reactum (ZjY h1.rea)
 have o2:=UD r.redex (ZjY h1.red)
 simp only[Zc,List.map_cons,List.map_nil] at o1 o2
 simp only[Zc,List.length_map,EVA,seval,Zd,men]
 refine Za o1 ?_
 simp only[Zw,Zc,List.length_map,EVA,seval,Zd,men]
 refine Za o2 ?_
 simp only[Zw,Zc,zfill,zobs,Z5,Z6,List.set_cons_zero,List.set_cons_succ,List.length_map,EVA,seval,Zd,men]
 have hcn:=ZaX (r:=r)
 refine ZU (α:=Unit) r.redex.sites.length (fun j _=>[(40,iI j)]) (fun j _=>[(192,.bx [iI r.reactum.roots,.hd (lvl,992) [] 0 r.reactum.nodes.length none r.reactum.nodes.length,.hd (lvl,993) [] 0 r.reactum.sites.length none r.reactum.sites.length,iI r.reactum.edges,.hd (lvl,994) [] 0 r.reactum.outer.length none r.reactum.outer.length,.hd (lvl,995) [] 0 r.reactum.inner.length none r.reactum.inner.length,iI r.redex.roots,.hd (lvl,1088) [] 0 r.redex.nodes.length none r.redex.nodes.length,.hd (lvl,1089) [] 0 r.redex.sites.length none r.redex.sites.length,iI r.redex.edges,.hd (lvl,1090) [] 0 r.redex.outer.length none r.redex.outer.length,.hd (lvl,1091) [] 0 r.redex.inner.length none r.redex.inner.length,.hd (lvl,1120) [] 0 j none j]),(1120,.ar 1 (rI ((ZfC r).take j)) true j 0)]) (fun _ _=>True) () (by simp only[EVA,seval,Zd,men]) (by (simp only[EVA,seval,Zd,men]) <;> rfl) trivial ?_
 intro j _ hj _
 simp only[List.length_map,EVA,seval,Zd,men]
 refine Zl (fun hlt=>?_) (fun hge=>?_)
 ·have hja:j<r.redex.sites.length:=by omega
  have hmx:max j (j+1)=j+1:=by omega
  have htl:((ZfC r).take j).length=j:=by rw[List.length_take];omega
  have hs:rI ((ZfC r).take j)++[[Tr.v (Value.int IntKind.i64 (ZjR r.copies j))]]=rI ((ZfC r).take (j+1)):=by
   rw[List.take_succ_eq_append_getElem (by omega),Zbw,Zjt hja]
   rfl
  refine Za (ZhS r.copies j (by omega)) ?_
  simp only[htl,hmx,hs,List.set_cons_zero,List.set_cons_succ,List.length_map,EVA,seval,Zd,men]
  exact⟨by omega,by rw[Ze];omega,Zf () hja rfl trivial⟩
 ·have hj1:j=r.redex.sites.length:=by omega
  subst hj1
  rw[show (ZfC r).take r.redex.sites.length=ZfC r from List.take_of_length_le (by omega)]
  simp only[JS,Ztd,hcn,List.length_map,EVA,seval,Zd,men]
  try rfl
theorem Up(sig:List TControl)(r:TRule)(hn:sig.length<=4294967296)(hbs:∀ y∈sig,ZH 4294967296 y)(hb:Vb 4294967296 r)(hf:Zcu r)(lvl:Nat)(S:Sto):Sem Proofs.Tryz.prog YB lvl [.tr (.sl (sig.map Zi)),.ag ((ZP r).map .tr)] S (.tu [JS (Zh sig r),iB (VV sig r)]) S:=by
 refine Zb U8 (by simp [JS,low,men,Zd]) ?_
 have q1:=ZgE sig r hn hbs hb hf
 simp only[ZP,List.map_cons,List.map_nil] at q1
 unfold Zh VV
 simp only[Xb,ZP,zfill,zobs,Z5,Z6,List.set_cons_zero,List.set_cons_succ,List.map_cons,List.map_nil,EVA,seval,Zd,men]
 refine Za q1 ?_
 by_cases h1:ruleOK sig r
 rotate_left
 ·have hno:¬ invOK sig r:=fun g=>h1 g.rule
  rw[Zg h1,if_neg hno,Zg hno]
  simp only[JS,JW,Yn,zfill,zobs,Z5,Z6,List.set_cons_zero,List.set_cons_succ,List.map_cons,List.map_nil,EVA,seval,Zd,men]
  try rfl
 rw[Ju h1]
 have q2:=ZbG r.reactum h1.rea.small
 simp only[Zc,List.map_cons,List.map_nil] at q2
 simp only[Zc,EVA,seval,Zd,men]
 refine Za q2 ?_
 by_cases h2:solid r.reactum
 rotate_left
 ·have hno:¬ invOK sig r:=fun g=>h2 g.sol
  rw[Zg h2,if_neg hno,Zg hno]
  simp only[JS,JW,Yn,zfill,zobs,Z5,Z6,List.set_cons_zero,List.set_cons_succ,List.map_cons,List.map_nil,EVA,seval,Zd,men]
  try rfl
 rw[Ju h2]
 have hcl:=h1.len
 have hs1:=h1.red.sitesL
 have hs2:=h1.rea.sitesL
 simp only[Zc,List.length_map,EVA,seval,Zd,men]
 refine Za (ZfB r.copies r.redex.sites.length (by omega) (by omega)) ?_
 by_cases h3:WX r.redex.sites.length r.copies
 rotate_left
 ·have hno:¬ invOK sig r:=fun g=>h3 g.ord
  rw[Zg h3,if_neg hno,Zg hno]
  simp only[JS,JW,Yn,zfill,zobs,Z5,Z6,List.set_cons_zero,List.set_cons_succ,List.map_cons,List.map_nil,EVA,seval,Zd,men]
  try rfl
 have hyes:invOK sig r:=⟨h1,h2,h3⟩
 rw[Ju h3,if_pos hyes,Ju hyes]
 have o1:=ZcB sig r.reactum h1.rea
 have o2:=ZcB sig r.redex h1.red
 simp only[Zc,List.map_cons,List.map_nil] at o1 o2
 have hz:List.replicate r.copies.length [tv 0]=rI (Ze2 r.copies 0):=by simp [Ze2]
 simp only[hz,Int.toNat_natCast,List.length_map,EVA,seval,Zd,men]
 refine⟨by omega,?_⟩
 refine ZU (α:=Unit) r.copies.length (fun j _=>[(7,iI j)]) (fun j _=>[(1024,.ar 1 (rI (Ze2 r.copies j)) true r.copies.length 0)]) (fun _ _=>True) () (by simp only[EVA,seval,Zd,men]) (by (simp only[EVA,seval,Zd,men]) <;> rfl) trivial ?_
 intro j _ hj _
 simp only[List.length_map,EVA,seval,Zd,men]
 refine Zl (fun hlt=>?_) (fun hge=>?_)
 ·have hja:j<r.copies.length:=by omega
  have ga:=YS hja
  have hm:=ZeS h3 (show g0 r.copies j∈r.copies by simp [hja])
  have hcl2:=h3.1
  obtain⟨k,hk⟩:∃ k:Nat,g0 r.copies j=k:=⟨(g0 r.copies j).toNat,by omega⟩
  have hkl:k<(Ze2 r.copies j).length:=by rw[Xl];omega
  have gk:=YS hkl
  have hst:Yo (rI (Ze2 r.copies j)) [] k 0 (.v (.int .i64 (j:Int)))=rI (Ze2 r.copies (j+1)):=by
   rw[Zon hkl,Ze2,hk,Int.toNat_natCast]
  rw[hk] at ga
  have hkn:k<r.copies.length:=by omega
  simp only[ga,hja,gk,hst,hkn,Xl,Nat.zero_add,Int.toNat_natCast,isSc,List.length_map,EVA,seval,Zd,men]
  exact⟨by rw[Ze];omega,Zf () hja rfl trivial⟩
 ·have hj1:j=r.copies.length:=by omega
  subst hj1
  rw[show rI (Ze2 r.copies r.copies.length)=rI (ZfC r) by rw[Zos h3];rfl]
  refine Za o1 ?_
  simp only[Zw,Zc,List.length_map,EVA,seval,Zd,men]
  refine Za o2 ?_
  simp only[Zw,Zc,zfill,zobs,Z5,Z6,List.set_cons_zero,List.set_cons_succ,List.length_map,EVA,seval,Zd,men]
  exact⟨by rw[ZaX,h3.1],rfl⟩
end Go.Fd
