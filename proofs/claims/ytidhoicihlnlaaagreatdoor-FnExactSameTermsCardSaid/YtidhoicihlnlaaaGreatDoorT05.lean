/-
  The annotated codes of the functions, printed by a program of mine (gen.py), and the check that they belong to the program.
-/
import Derived.Test.YtidhoicihlnlaaaGreatDoorT04
import Derived.KernelRfl
import Derived.Shelf.Sort.AssemblysIn
import Derived.Shelf.Strings.SlTrimAscii
import Derived.Test.YtidhoicihlnlaaaGreatDoorProg
set_option linter.all false
namespace Go.Fd
def ZeZ:F2 :=
 { nt:=16,res:=[.t 6 [0]],body:=(.sq (rg [oo 3 (.bt (.t 0)),om 6 (i6 0)]) (.sq (.sq (rg [qM 7 1,qF 8 3 3,qL 9 8,qB 10 .geq 7 9]) (.cd (.t 10) (.sq (rg [qM 11 1,qM 6 11]) (.rt)) (.sk))) (.sq (rg [qM 12 2,qM 13 1,qI 14 1 12 13,qL 15 14,qM 6 15]) (.rt)))) }
theorem Zkg:ZE Proofs.Tryz.prog Wn ZeZ=true:=by kernel_rfl
def W7:F2 :=
 { nt:=12,res:=[.t 4 [0]],body:=(.sq (rg [om 4 (i6 0)]) (.sq (.sq (rg [qM 5 0,oo 6 (.bi .lss 0 (.t 5) (i6 0))]) (.cd (.t 6) (.sq (rg [qM 7 0,qM 4 7]) (.rt)) (.sk))) (.sq (rg [qM 8 1,qM 9 0,qI 10 1 8 9,qL 11 10,qM 4 11]) (.rt)))) }
theorem Zdc:ZE Proofs.Tryz.prog Yj W7=true:=by kernel_rfl
def ZaF:F2 :=
 { nt:=101,res:=[.t 4 [0]],body:=(.sq (rg [oo 2 (.bt (.t 0)),oo 3 (.bt (.t 1)),om 4 (.k (.bool false))]) (.sq (.sq (rg [qL 7 2,oo 8 (.ca .pure false (.f JX) [.t 7]),oo 9 (.nt (.t 8)),qM 10 9,og 11 10 false (.fa 0 (.t 3)),og 12 10 false (.ld none (.t 11)),og 13 10 false (.ca .pure false (.f ZT) [.t 12,i6 0,i6 4]),og 14 10 false (.nt (.t 13)),oo 15 (.pk (.t 10) (.k (.bool true)) (.t 14)),qM 16 15,og 17 16 false (.fa 1 (.t 3)),og 18 16 false (.ld none (.t 17)),og 19 16 false (.ln (.t 18)),og 20 16 false (.bi .gtr 0 (.t 19) (i6 8)),oo 21 (.pk (.t 16) (.k (.bool true)) (.t 20)),qM 22 21,og 23 22 false (.fa 2 (.t 3)),og 24 22 false (.ld none (.t 23)),og 25 22 false (.ln (.t 24)),og 26 22 false (.bi .gtr 0 (.t 25) (i6 4)),oo 27 (.pk (.t 22) (.k (.bool true)) (.t 26)),qM 28 27,og 29 28 false (.fa 3 (.t 3)),og 30 28 false (.ld none (.t 29)),og 31 28 false (.ca .pure false (.f ZT) [.t 30,i6 0,i6 8]),og 32 28 false (.nt (.t 31)),oo 33 (.pk (.t 28) (.k (.bool true)) (.t 32)),qM 34 33,og 35 34 false (.fa 4 (.t 3)),og 36 34 false (.ld none (.t 35)),og 37 34 false (.ca .pure false (.f V5) [.t 36]),og 38 34 false (.nt (.t 37)),oo 39 (.pk (.t 34) (.k (.bool true)) (.t 38)),qM 40 39,og 41 40 false (.ld (some 6) (.t 3)),og 42 40 false (.ca .pure false (.f ZH) [.t 41]),og 43 40 false (.ca .pure false (.f V5) [.t 42]),og 44 40 false (.nt (.t 43)),oo 45 (.pk (.t 40) (.k (.bool true)) (.t 44))]) (.cd (.t 45) (.sq (rg [om 4 (.k (.bool false))]) (.rt)) (.sk))) (.sq (.sq (rg [qF 46 1 3,qL 47 46,qN 48 47,om 49 (i6 0)]) (.bl 0 (.lp [2,3,47,48,49] [] (.sq (rg [qB 50 .lss 49 48]) (.sq (.cd (.t 50) (.sk) (.ex 0)) (.sq (.bl 1 (.sq (rg [qM 51 49,qI 52 3 47 49,qS 53 3 52,oo 6 (.al [.int .i64 0,.int .i64 0,.slice none 0 0] []),qM 5 51,on1 (.st 3 (.t 6) (.t 53))]) (.sq (.rg (some 0) [qF 54 0 6,qL 55 54,qL 56 2,qN 57 56,oo 58 (.bi .sub 0 (.t 57) (i6 1)),oo 59 (.ca .pure false (.f ZT) [.t 55,i6 0,.t 58]),oo 60 (.nt (.t 59)),qM 61 60,og 62 61 false (.ld (some 6) (.t 3)),og 63 61 false (.ld none (.t 2)),og 64 61 false (.fa 1 (.t 6)),og 65 61 false (.ld none (.t 64)),og 66 61 false (.mv (.t 5) none),og 67 61 false (.ca .pure false (.f JK) [.t 62,.t 63,.t 65,.t 66]),og 68 61 false (.nt (.t 67)),oo 69 (.pk (.t 61) (.k (.bool true)) (.t 68)),qM 70 69,og 71 70 false (.fa 2 (.t 6)),og 72 70 false (.ld none (.t 71)),og 73 70 false (.ln (.t 72)),og 74 70 false (.ld none (.t 2)),og 75 70 false (.fa 0 (.t 6)),og 76 70 false (.ld none (.t 75)),og 77 70 false (.ia 3 (.t 74) (.t 76)),og 78 70 false (.fa 1 (.t 77)),og 79 70 false (.ld none (.t 78)),og 80 70 false (.bi .neq 0 (.t 73) (.t 79)),oo 81 (.pk (.t 70) (.k (.bool true)) (.t 80)),qM 82 81,og 83 82 false (.fa 2 (.t 6)),og 84 82 false (.ld none (.t 83)),og 85 82 false (.mf Qf [.t 3]),og 86 82 false (.ca .pure false (.f JG) [.t 84,.t 85]),oo 87 (.pk (.t 82) (.k (.bool true)) (.t 86))]) (.cd (.t 87) (.sq (rg [om 4 (.k (.bool false))]) (.rt)) (.sk)))))
 (rg [oo 88 (.bi .add 0 (.t 49) (i6 1)),qM 49 88]))))))) (.sq (rg [qF 89 2 3,qL 90 89,oo 91 (.mf Qg [.t 3,.t 2]),oo 92 (.ca .pure false (.f JG) [.t 90,.t 91]),oo 93 (.nt (.t 92)),qM 94 93,og 95 94 true (.fa 5 (.t 3)),og 96 94 true (.ld none (.t 95)),og 97 94 true (.mf Qh [.t 3]),og 98 94 true (.ca .pure false (.f Jw) [.t 96,.t 97]),og 99 94 true (.nt (.t 98)),oo 100 (.pk (.t 94) (.t 99) (.k (.bool false))),qM 4 100]) (.rt))))) }
theorem Zfh:ZE Proofs.Tryz.prog Z5 ZaF=true:=by kernel_rfl
def XO:F2 :=
 { nt:=62,res:=[.t 4 [3],.t 5 [2]],body:=(.sq (rg [oo 2 (.bt (.t 0)),om 4 (.k (.slice none 0 0)),om 5 (.k (.slice none 0 0))]) (.sq (rg [oo 14 (.bs 2 0 [] []),oo 15 (.bs 1 0 [] []),qM 6 14,qM 7 15]) (.sq (.sq (rg [qF 16 1 2,qL 17 16,qN 18 17,om 19 (i6 0)]) (.bl 0 (.lp [1,2,6,7,17,18,19] [448,480,1280,1856] (.sq (rg [qB 20 .lss 19 18]) (.sq (.cd (.t 20) (.sk) (.ex 0)) (.sq (.bl 1 (.sq (rg [qM 21 19,qI 22 3 17 19,qS 23 3 22,oo 9 (.al [.int .i64 0,.int .i64 0,.slice none 0 0] []),qM 8 21,on1 (.st 3 (.t 9) (.t 23))]) (.sq (rg [qF 24 2 9,qL 25 24,qN 26 25,om 27 (i6 0)]) (.bl 2 (.lp [1,2,6,7,8,17,18,19,25,26,27] [288,448,480,1280,1856] (.sq (rg [qB 28 .lss 27 26]) (.sq (.cd (.t 28) (.sk) (.ex 2)) (.sq (.bl 3 (.sq (rg [qM 29 27,qI 30 1 25 27,qL 31 30,qM 10 29,qM 11 31]) (.sq (rg [qM 32 11,qM 33 1,qB 34 .eql 32 33]) (.cd (.t 34) (rg [qM 35 6,qM 36 8,qM 37 10,oo 38 (.bd [.int .i64 0,.int .i64 0] [(0,1,.t 36),(1,1,.t 37)] []),oo 39 (.bs 2 1 [.int .i64 0,.int .i64 0] [(0,.t 38)]),oo 40 (.ap 2 0 (.t 35) (.t 39)),qM 6 40]) (.sk)))))
 (rg [oo 41 (.bi .add 0 (.t 27) (i6 1)),qM 27 41])))))))))
 (rg [oo 42 (.bi .add 0 (.t 19) (i6 1)),qM 19 42]))))))) (.sq (.sq (rg [qF 43 5 2,qL 44 43,qN 45 44,om 46 (i6 0)]) (.bl 4 (.lp [1,6,7,44,45,46] [448,480,1280,1856] (.sq (rg [qB 47 .lss 46 45]) (.sq (.cd (.t 47) (.sk) (.ex 4)) (.sq (.bl 5 (.sq (rg [qI 48 2 44 46,qS 49 2 48,oo 13 (.al [.string ⟨#[]⟩,.int .i64 0] []),on1 (.st 2 (.t 13) (.t 49))]) (.sq (rg [qF 50 1 13,qL 51 50,qM 52 1,qB 53 .eql 51 52]) (.cd (.t 53) (rg [qM 54 7,qF 55 0 13,qL 56 55,oo 57 (.bs 1 1 [.string ⟨#[]⟩] [(0,.t 56)]),oo 58 (.ap 1 0 (.t 54) (.t 57)),qM 7 58]) (.sk)))))
 (rg [oo 59 (.bi .add 0 (.t 46) (i6 1)),qM 46 59]))))))) (.sq (rg [qM 60 6,qM 61 7,qM 4 60,qM 5 61]) (.rt)))))) }
theorem Zaj:ZE Proofs.Tryz.prog YJ XO=true:=by kernel_rfl
def VQ:F2 :=
 { nt:=134,res:=[],body:=(.sq (rg [om 8 (.k (.bool true))]) (.sq (rg [om 9 (.k (.bool true))]) (.bl 0 (.lp [0,1,2,3,8,9] [] (.bl 1 (.sq (rg [qM 19 2,qM 20 1,qB 21 .sub 19 20,qM 10 21]) (.sq (.sq (rg [qM 22 10,oo 23 (.bi .leq 0 (.t 22) (i6 12))]) (.cd (.t 23) (.sq (rg [qM 24 0,qM 25 1,qM 26 2,oo 27 (.ca .any false (.f Jk) [.t 24,.t 25,.t 26])]) (.rt)) (.sk))) (.sq (.sq (rg [qM 28 3,oo 29 (.bi .eql 0 (.t 28) (i6 0))]) (.cd (.t 29) (.sq (rg [qM 30 0,qM 31 1,qM 32 2,oo 33 (.ca .pure false (.f Wu) [.t 30,.t 31,.t 32])]) (.rt)) (.sk))) (.sq (.sq (rg [qM 34 8,oo 35 (.nt (.t 34))]) (.cd (.t 35) (.sq (rg [qM 36 0,qM 37 1,qM 38 2,oo 39 (.ca .pure false (.f QZ) [.t 36,.t 37,.t 38])])
 (rg [qM 40 3,oo 41 (.bi .sub 0 (.t 40) (i6 1)),qM 3 41])) (.sk))) (.sq (rg [qM 43 0,qM 44 1,qM 45 2,oo 46 (.ca .pure false (.f XH) [.t 43,.t 44,.t 45]),qM 42 46,qE 47 0 42,qE 48 1 42,qM 11 47,qM 12 48]) (.sq (.sq (rg [qM 49 12,oo 50 (.bi .eql 0 (.t 49) (i6 2))]) (.cd (.t 50) (.sq (rg [qM 51 0,qM 52 1,qM 53 2,oo 54 (.ca .pure false (.f Xe) [.t 51,.t 52,.t 53])]) (.sq (rg [qM 55 2,oo 56 (.bi .sub 0 (.t 55) (i6 1)),qM 57 11,qM 58 1,qB 59 .sub 57 58,qB 60 .sub 56 59,qM 11 60])
 (rg [om 12 (i6 1)]))) (.sk))) (.sq (.sq (rg [qM 61 8,qM 62 61,og 63 62 true (.mv (.t 9) none),oo 64 (.pk (.t 62) (.t 63) (.k (.bool false))),qM 65 64,og 66 65 true (.mv (.t 12) none),og 67 65 true (.bi .eql 0 (.t 66) (i6 1)),oo 68 (.pk (.t 65) (.t 67) (.k (.bool false)))]) (.cd (.t 68) (.sq (rg [qM 69 0,qM 70 1,qM 71 2,oo 72 (.ca .pure false (.f Vo) [.t 69,.t 70,.t 71])]) (.cd (.t 72) (.rt) (.sk))) (.sk))) (.sq (.sq (.rg (some 0) [qM 73 1,oo 74 (.bi .gtr 0 (.t 73) (i6 0)),qM 75 74,og 76 75 true (.mv (.t 0) none),og 77 75 true (.mv (.t 1) none),og 78 75 true (.bi .sub 0 (.t 77) (i6 1)),og 79 75 true (.ia 1 (.t 76) (.t 78)),og 80 75 true (.ld none (.t 79)),og 81 75 true (.mv (.t 0) none),og 82 75 true (.mv (.t 11) none),og 83 75 true (.ia 1 (.t 81) (.t 82)),og 84 75 true (.ld none (.t 83)),og 85 75 true (.ca .pure false (.f QL) [.t 80,.t 84]),og 86 75 true (.nt (.t 85)),oo 87 (.pk (.t 75) (.t 86) (.k (.bool false)))]) (.cd (.t 87) (.sq (rg [qM 88 0,qM 89 1,qM 90 2,qM 91 11,oo 92 (.ca .pure false (.f Qv) [.t 88,.t 89,.t 90,.t 91]),qM 13 92]) (.sq (rg [qM 93 13,qM 1 93]) (.ex 1))) (.sk))) (.sq (rg [qM 95 0,qM 96 1,qM 97 2,qM 98 11,oo 99 (.ca .pure false (.f Wb) [.t 95,.t 96,.t 97,.t 98]),qM 94 99,qE 100 0 94,qE 101 1 94,qM 14 100,qM 15 101]) (.sq (rg [qM 102 15,qM 9 102]) (.sq (rg [qM 103 14,qM 104 1,qB 105 .sub 103 104,qM 106 2,qM 107 14,qB 108 .sub 106 107,qM 16 105,qM 17 108]) (.sq (rg [qM 109 10,oo 110 (.bi .quo 0 (.t 109) (i6 8)),qM 18 110]) (.sq (rg [qM 111 16,qM 112 17,qB 113 .lss 111 112]) (.cd (.t 113) (.sq (rg [qM 114 16,qM 115 18,qB 116 .geq 114 115,qM 8 116]) (.sq (rg [qM 117 0,qM 118 1,qM 119 14,qM 120 3,oo 121 (.ca .any false (.f ZW) [.t 117,.t 118,.t 119,.t 120])])
 (rg [qM 122 14,oo 123 (.bi .add 0 (.t 122) (i6 1)),qM 1 123]))) (.sq (rg [qM 124 17,qM 125 18,qB 126 .geq 124 125,qM 8 126]) (.sq (rg [qM 127 0,qM 128 14,oo 129 (.bi .add 0 (.t 128) (i6 1)),qM 130 2,qM 131 3,oo 132 (.ca .any false (.f ZW) [.t 127,.t 129,.t 130,.t 131])])
 (rg [qM 133 14,qM 2 133])))))))))))))))))))))) }
theorem UC:ZE Proofs.Tryz.prog ZW VQ=true:=by kernel_rfl
def Zbb:F2 :=
 { nt:=8,res:=[.t 2 [0]],body:=(.sq (rg [om 2 (i6 0)]) (.sq (.cd (.k (.bool false)) (.sq (rg [qM 3 0,oo 4 (.cv (.int .u32) (.t 3)),oo 5 (.ca .pure false (.f Zcy) [.t 4]),qM 2 5]) (.rt)) (.sk)) (.sq (rg [qM 6 0,oo 7 (.ca .pure false (.f Q0) [.t 6]),qM 2 7]) (.rt)))) }
theorem Zgc:ZE Proofs.Tryz.prog YX Zbb=true:=by kernel_rfl
def Zce:F2 :=
 { nt:=16,res:=[.t 2 [0]],body:=(.sq (rg [om 2 (.k (.bool false))]) (.sq (.sq (rg [om 3 (i6 0)]) (.bl 0 (.lp [0,3] [] (.sq (.sq (rg [qM 4 3,qM 5 0,qN 6 5,qB 7 .lss 4 6]) (.cd (.t 7) (.sk) (.ex 0))) (.sq (.bl 1 (.sq (rg [qM 10 0,qM 11 3,qI 12 1 10 11,qL 13 12,oo 14 (.ca .pure false (.f VK) [.t 13]),oo 15 (.nt (.t 14))]) (.cd (.t 15) (.sq (rg [om 2 (.k (.bool false))]) (.rt)) (.sk))))
 (rg [qM 8 3,oo 9 (.bi .add 0 (.t 8) (i6 1)),qM 3 9])))))) (.sq (rg [om 2 (.k (.bool true))]) (.rt)))) }
theorem Zg4:ZE Proofs.Tryz.prog QK Zce=true:=by kernel_rfl
def W8:F2 :=
 { nt:=19,res:=[.c 2 (some 7) [0,0,0,0,0,0,0]],body:=(.sq (rg [oo 1 (.bt (.t 0)),oo 2 (.al [.int .i64 0,.slice none 0 0,.slice none 0 0,.int .i64 0,.slice none 0 0,.slice none 0 0,.slice none 0 0] [])]) (.sq (.sq (rg [qF 3 0 1,qL 4 3]) (.bl 0 (.sq (rg [oo 6 (.bi .eql 0 (.t 4) (i6 0)),qM 5 6]) (.cd (.t 5) (.sq (rg [oo 7 (.bd [.int .i64 0,.slice none 0 0,.slice none 0 0,.int .i64 0,.slice none 0 0,.slice none 0 0] [] []),oo 8 (.bd [.int .i64 0,.slice none 0 0,.slice none 0 0,.int .i64 0,.slice none 0 0,.slice none 0 0,.slice none 0 0] [(0,6,.t 7)] []),on1 (.st 7 (.t 2) (.t 8))]) (.rt)) (.sq (rg [oo 10 (.bi .eql 0 (.t 4) (i6 1)),qM 9 10]) (.cd (.t 9) (.sq (rg [oo 11 (.bd [.int .i64 0,.slice none 0 0,.slice none 0 0,.int .i64 0,.slice none 0 0,.slice none 0 0] [(0,1,i6 1)] []),oo 12 (.bd [.int .i64 0,.slice none 0 0,.slice none 0 0,.int .i64 0,.slice none 0 0,.slice none 0 0,.slice none 0 0] [(0,6,.t 11)] []),on1 (.st 7 (.t 2) (.t 12))]) (.rt)) (.sk))))))) (.sq (rg [oo 13 (.bs 1 1 [.int .i64 0] [(0,i6 (-1))]),oo 14 (.bd [.int .i64 0,.slice none 0 0,.slice none 0 0,.int .i64 0,.slice none 0 0,.slice none 0 0] [(0,1,i6 1),(2,1,.t 13)] []),qF 15 2 1,qL 16 15,oo 17 (.bs 1 1 [.int .i64 0] [(0,.t 16)]),oo 18 (.bd [.int .i64 0,.slice none 0 0,.slice none 0 0,.int .i64 0,.slice none 0 0,.slice none 0 0,.slice none 0 0] [(0,6,.t 14),(6,1,.t 17)] []),on1 (.st 7 (.t 2) (.t 18))]) (.rt)))) }
theorem ZiQ:ZE Proofs.Tryz.prog Ur W8=true:=by kernel_rfl
def Zdd:F2 :=
 { nt:=63,res:=[.c 6 (some 7) [0,0,0,0,0,0,0],.t 7 [0]],body:=(.sq (rg [oo 4 (.bt (.t 1)),oo 5 (.bt (.t 2)),oo 6 (.al [.int .i64 0,.slice none 0 0,.slice none 0 0,.int .i64 0,.slice none 0 0,.slice none 0 0,.slice none 0 0] []),om 7 (.k (.bool false))]) (.sq (.sq (rg [qF 10 0 5,qF 11 0 10,qL 12 11,oo 13 (.bi .neq 0 (.t 12) (i6 1)),qM 14 13,og 15 14 false (.mv (.t 0) none),og 16 14 false (.fa 1 (.t 4)),og 17 14 false (.ld none (.t 16)),og 18 14 false (.ia 3 (.t 15) (.t 17)),og 19 14 false (.fa 2 (.t 18)),og 20 14 false (.ld none (.t 19)),og 21 14 false (.bi .eql 0 (.t 20) (i6 2)),og 22 14 false (.mv (.t 21) none),og 23 22 true (.fa 0 (.t 5)),og 24 22 true (.fa 1 (.t 23)),og 25 22 true (.ld none (.t 24)),og 26 22 true (.ln (.t 25)),og 27 22 true (.fa 0 (.t 5)),og 28 22 true (.fa 2 (.t 27)),og 29 22 true (.ld none (.t 28)),og 30 22 true (.ln (.t 29)),og 31 22 true (.bi .add 0 (.t 26) (.t 30)),og 32 22 true (.bi .gtr 0 (.t 31) (i6 0)),og 33 14 false (.pk (.t 22) (.t 32) (.k (.bool false))),oo 34 (.pk (.t 14) (.k (.bool true)) (.t 33))]) (.cd (.t 34) (.sq (rg [oo 35 (.bd [.int .i64 0,.slice none 0 0,.slice none 0 0,.int .i64 0,.slice none 0 0,.slice none 0 0,.slice none 0 0] [] []),on1 (.st 7 (.t 6) (.t 35)),om 7 (.k (.bool false))]) (.rt)) (.sk))) (.sq (rg [qF 36 3 4,qL 37 36,oo 38 (.ca .pure true (.f Yb) [.t 37]),oo 39 (.bd [.int .i64 0,.slice none 0 0,.slice none 0 0,.int .i64 0,.slice none 0 0,.slice none 0 0] [(0,1,i6 1),(4,1,.t 38)] []),oo 8 (.al [.int .i64 0,.slice none 0 0,.slice none 0 0,.int .i64 0,.slice none 0 0,.slice none 0 0] []),on1 (.st 6 (.t 8) (.t 39))]) (.sq (.rg (some 0) [qF 40 1 4,qL 41 40,qF 42 3 4,qL 43 42,qF 44 4 8,qL 45 44,oo 46 (.ca .pure true (.f JQ) [.t 43,i6 0,.t 45]),oo 47 (.bd [.int .i64 0,.int .i64 0,.slice none 0 0] [(0,1,.t 41),(1,1,i6 (-1)),(2,1,.t 46)] []),oo 48 (.bw 3 1 [.int .i64 0,.int .i64 0,.slice none 0 0] [(0,.t 47)]),qF 49 1 8,on1 (.st 1 (.t 49) (.t 48))]) (.sq (rg [oo 50 (.bs 1 1 [.int .i64 0] [(0,i6 0)]),qF 51 2 8,on1 (.st 1 (.t 51) (.t 50))]) (.sq (rg [oo 52 (.lz 6 (.t 8)),qF 53 0 5,qS 54 6 53,oo 55 (.ca .pure false (.f Ux) [.t 52,.t 54]),oo 9 (.al [.int .i64 0,.slice none 0 0,.slice none 0 0,.int .i64 0,.slice none 0 0,.slice none 0 0] []),on1 (.st 6 (.t 9) (.t 55))]) (.sq (.rg (some 0) [qS 56 6 9,qF 57 6 5,qL 58 57,oo 59 (.bd [.int .i64 0,.slice none 0 0,.slice none 0 0,.int .i64 0,.slice none 0 0,.slice none 0 0,.slice none 0 0] [(0,6,.t 56),(6,1,.t 58)] []),qM 60 0,qS 61 6 9,oo 62 (.ca .pure false (.f Yh) [.t 60,.t 61]),on1 (.st 7 (.t 6) (.t 59)),qM 7 62]) (.rt)))))))) }
theorem ZiR:ZE Proofs.Tryz.prog Us Zdd=true:=by kernel_rfl
def Qz:F2 :=
 { nt:=47,res:=[.c 6 (some 7) [0,0,0,0,0,0,0],.t 7 [0]],body:=(.sq (rg [oo 4 (.bt (.t 1)),oo 5 (.bt (.t 2)),oo 6 (.al [.int .i64 0,.slice none 0 0,.slice none 0 0,.int .i64 0,.slice none 0 0,.slice none 0 0,.slice none 0 0] []),om 7 (.k (.bool false))]) (.sq (.sq (rg [qF 12 0 4,qL 13 12,oo 14 (.bi .eql 0 (.t 13) (i6 6))]) (.cd (.t 14) (.sq (.rg (some 0) [qM 16 0,qF 17 0 5,qS 18 6 17,qF 19 3 4,qL 20 19,oo 21 (.ia 1 (.t 20) (i6 0)),qL 22 21,oo 23 (.ca .pure false (.f JP) [.t 16,.t 18,.t 22]),qM 15 23,qE 24 0 15,qE 25 1 15,oo 8 (.al [.int .i64 0,.slice none 0 0,.slice none 0 0,.int .i64 0,.slice none 0 0,.slice none 0 0] []),on1 (.s0 6 (.t 8) (.t 24)),qM 9 25]) (.sq (rg [qS 26 6 8,qF 27 6 5,qL 28 27,oo 29 (.bd [.int .i64 0,.slice none 0 0,.slice none 0 0,.int .i64 0,.slice none 0 0,.slice none 0 0,.slice none 0 0] [(0,6,.t 26),(6,1,.t 28)] []),qM 30 9,on1 (.st 7 (.t 6) (.t 29)),qM 7 30]) (.rt))) (.sk))) (.sq (.rg (some 0) [qM 32 0,qF 33 0 5,qS 34 6 33,qF 35 3 4,qL 36 35,oo 37 (.ia 1 (.t 36) (i6 0)),qL 38 37,oo 39 (.ca .pure false (.f WO) [.t 32,.t 34,.t 38]),qM 31 39,qE 40 0 31,qE 41 1 31,oo 10 (.al [.int .i64 0,.slice none 0 0,.slice none 0 0,.int .i64 0,.slice none 0 0,.slice none 0 0] []),on1 (.s0 6 (.t 10) (.t 40)),qM 11 41]) (.sq (rg [qS 42 6 10,qF 43 6 5,qL 44 43,oo 45 (.bd [.int .i64 0,.slice none 0 0,.slice none 0 0,.int .i64 0,.slice none 0 0,.slice none 0 0,.slice none 0 0] [(0,6,.t 42),(6,1,.t 44)] []),qM 46 11,on1 (.st 7 (.t 6) (.t 45)),qM 7 46]) (.rt))))) }
theorem Wp:ZE Proofs.Tryz.prog WL Qz=true:=by kernel_rfl
def Zde:F2 :=
 { nt:=34,res:=[.c 8 (some 7) [0,0,0,0,0,0,0],.t 9 [0]],body:=(.sq (rg [oo 5 (.bt (.t 1)),oo 6 (.bt (.t 2)),oo 7 (.bt (.t 3)),oo 8 (.al [.int .i64 0,.slice none 0 0,.slice none 0 0,.int .i64 0,.slice none 0 0,.slice none 0 0,.slice none 0 0] []),om 9 (.k (.bool false))]) (.sq (rg [qF 11 0 6,qS 12 6 11,qF 13 0 7,qS 14 6 13,oo 15 (.ca .pure false (.f Uy) [.t 12,.t 14]),oo 10 (.al [.int .i64 0,.slice none 0 0,.slice none 0 0,.int .i64 0,.slice none 0 0,.slice none 0 0] []),on1 (.st 6 (.t 10) (.t 15))]) (.sq (.sq (rg [qM 16 0,qS 17 6 10,oo 18 (.ca .pure false (.f Yh) [.t 16,.t 17]),oo 19 (.nt (.t 18))]) (.cd (.t 19) (.sq (rg [oo 20 (.bd [.int .i64 0,.slice none 0 0,.slice none 0 0,.int .i64 0,.slice none 0 0,.slice none 0 0,.slice none 0 0] [] []),on1 (.st 7 (.t 8) (.t 20)),om 9 (.k (.bool false))]) (.rt)) (.sk))) (.sq (.sq (rg [qF 21 0 5,qL 22 21,oo 23 (.bi .eql 0 (.t 22) (i6 4))]) (.cd (.t 23) (rg [qS 24 6 10,oo 25 (.ca .pure false (.f Dh) [.t 24]),on1 (.st 6 (.t 10) (.t 25))]) (.sk))) (.sq (.rg (some 0) [oo 26 (.lb (some 6) (.t 10)),qF 27 6 6,qL 28 27,oo 29 (.ca .pure true (.f YH) [.t 28]),qF 30 6 7,qL 31 30,oo 32 (.a0 1 (.t 29) (.t 31)),oo 33 (.bd [.int .i64 0,.slice none 0 0,.slice none 0 0,.int .i64 0,.slice none 0 0,.slice none 0 0,.slice none 0 0] [(0,6,.t 26),(6,1,.t 32)] []),on1 (.st 7 (.t 8) (.t 33)),om 9 (.k (.bool true))]) (.rt)))))) }
theorem ZiS:ZE Proofs.Tryz.prog Ut Zde=true:=by kernel_rfl
def Zbc:F2 :=
 { nt:=6,res:=[.t 2 [0]],body:=(.sq (rg [om 2 (.k (.bool false))]) (.sq (rg [qM 3 0,oo 4 (.ca .pure false (.f Yi) [.t 3]),oo 5 (.nt (.t 4)),qM 2 5]) (.rt))) }
theorem Zgd:ZE Proofs.Tryz.prog V4 Zbc=true:=by kernel_rfl
def XP:F2 :=
 { nt:=32,res:=[.t 8 [0]],body:=(.sq (rg [oo 4 (.bt (.t 0)),om 8 (.k (.bool false))]) (.sq (rg [qM 9 1,qM 10 9,og 11 10 false (.fa 1 (.t 4)),og 12 10 false (.ld none (.t 11)),og 13 10 false (.bi .eql 0 (.t 12) (i6 0)),oo 14 (.pk (.t 10) (.k (.bool true)) (.t 13)),qM 15 14,og 16 15 true (.mv (.t 2) none),og 17 15 true (.mv (.t 16) none),og 18 17 false (.fa 2 (.t 4)),og 19 17 false (.ld none (.t 18)),og 20 17 false (.bi .eql 0 (.t 19) (i6 0)),og 21 15 true (.pk (.t 17) (.k (.bool true)) (.t 20)),oo 22 (.pk (.t 15) (.t 21) (.k (.bool false))),qM 23 22,og 24 23 true (.mv (.t 3) none),og 25 23 true (.mv (.t 24) none),og 26 25 false (.fa 3 (.t 4)),og 27 25 false (.ld none (.t 26)),og 28 25 false (.ln (.t 27)),og 29 25 false (.bi .eql 0 (.t 28) (i6 0)),og 30 23 true (.pk (.t 25) (.k (.bool true)) (.t 29)),oo 31 (.pk (.t 23) (.t 30) (.k (.bool false))),qM 8 31]) (.rt))) }
theorem Zak:ZE Proofs.Tryz.prog ZO XP=true:=by kernel_rfl
def Zdf:F2 :=
 { nt:=62,res:=[.c 6 (some 6) [0,4,2,0,2,3],.t 7 [0]],body:=(.sq (rg [oo 4 (.bt (.t 1)),oo 5 (.bt (.t 2)),oo 6 (.al [.int .i64 0,.slice none 0 0,.slice none 0 0,.int .i64 0,.slice none 0 0,.slice none 0 0] []),om 7 (.k (.bool false))]) (.sq (.sq (rg [qF 12 0 5,qL 13 12,oo 14 (.bi .neq 0 (.t 13) (i6 1))]) (.cd (.t 14) (.sq (rg [oo 15 (.bd [.int .i64 0,.slice none 0 0,.slice none 0 0,.int .i64 0,.slice none 0 0,.slice none 0 0] [] []),on1 (.st 6 (.t 6) (.t 15)),om 7 (.k (.bool false))]) (.rt)) (.sk))) (.sq (.sq (rg [qM 16 0,qF 17 1 4,qL 18 17,qI 19 3 16 18,qF 20 2 19,qL 21 20,oo 22 (.bi .neq 0 (.t 21) (i6 2))]) (.cd (.t 22) (.sq (rg [qM 24 0,qF 25 1 4,qL 26 25,qF 27 3 4,qL 28 27,oo 29 (.ca .pure true (.f Di) [.t 24,.t 26,.t 28]),qM 23 29,qE 30 0 23,qE 31 1 23,oo 8 (.al [.int .i64 0,.slice none 0 0,.slice none 0 0,.int .i64 0,.slice none 0 0,.slice none 0 0] []),on1 (.st 6 (.t 8) (.t 30)),qM 9 31]) (.sq (rg [qM 32 0,qS 33 6 8,qS 34 6 5,oo 35 (.ca .pure true (.f VL) [.t 32,.t 33,.t 34]),qE 36 0 35,qE 37 1 35,on1 (.st 6 (.t 6) (.t 36)),qM 7 37]) (.rt))) (.sk))) (.sq (.sq (rg [qF 38 1 5,qL 39 38,qN 40 39,qF 41 2 5,qL 42 41,qN 43 42,qB 44 .add 40 43,oo 45 (.bi .gtr 0 (.t 44) (i6 0))]) (.cd (.t 45) (.sq (rg [oo 46 (.bd [.int .i64 0,.slice none 0 0,.slice none 0 0,.int .i64 0,.slice none 0 0,.slice none 0 0] [] []),on1 (.st 6 (.t 6) (.t 46)),om 7 (.k (.bool false))]) (.rt)) (.sk))) (.sq (rg [qM 48 0,qF 49 1 4,qL 50 49,qF 51 3 4,qL 52 51,oo 53 (.ca .pure true (.f Uz) [.t 48,.t 50,.t 52]),qM 47 53,qE 54 0 47,qE 55 1 47,oo 10 (.al [.int .i64 0,.slice none 0 0,.slice none 0 0,.int .i64 0,.slice none 0 0,.slice none 0 0] []),on1 (.st 6 (.t 10) (.t 54)),qM 11 55]) (.sq (rg [qM 56 0,qS 57 6 10,qS 58 6 5,oo 59 (.ca .pure true (.f Yw) [.t 56,.t 57,.t 58]),qE 60 0 59,qE 61 1 59,on1 (.st 6 (.t 6) (.t 60)),qM 7 61]) (.rt))))))) }
theorem ZiT:ZE Proofs.Tryz.prog Uu Zdf=true:=by kernel_rfl
def UD:F2 :=
 { nt:=22,res:=[.c 6 (some 6) [0,4,2,0,2,3],.t 7 [0]],body:=(.sq (rg [oo 4 (.bt (.t 1)),oo 5 (.bt (.t 2)),oo 6 (.al [.int .i64 0,.slice none 0 0,.slice none 0 0,.int .i64 0,.slice none 0 0,.slice none 0 0] []),om 7 (.k (.bool false))]) (.sq (rg [qM 11 0,qS 12 6 4,qS 13 6 5,oo 14 (.ca .pure true (.f JO) [.t 11,.t 12,.t 13]),qM 10 14,qE 15 0 10,qE 16 1 10,oo 8 (.al [.int .i64 0,.slice none 0 0,.slice none 0 0,.int .i64 0,.slice none 0 0,.slice none 0 0] []),on1 (.st 6 (.t 8) (.t 15)),qM 9 16]) (.sq (.sq (rg [qM 17 9,oo 18 (.nt (.t 17))]) (.cd (.t 18) (.sq (rg [oo 19 (.bd [.int .i64 0,.slice none 0 0,.slice none 0 0,.int .i64 0,.slice none 0 0,.slice none 0 0] [] []),on1 (.st 6 (.t 6) (.t 19)),om 7 (.k (.bool false))]) (.rt)) (.sk))) (.sq (rg [qS 20 6 8,oo 21 (.ca .pure true (.f J0) [.t 20]),on1 (.st 6 (.t 6) (.t 21)),om 7 (.k (.bool true))]) (.rt))))) }
theorem Zcz:ZE Proofs.Tryz.prog Yw UD=true:=by kernel_rfl
def X6:F2 :=
 { nt:=33,res:=[.c 6 (some 6) [0,4,2,0,2,3],.t 7 [0]],body:=(.sq (rg [oo 4 (.bt (.t 1)),oo 5 (.bt (.t 2)),oo 6 (.al [.int .i64 0,.slice none 0 0,.slice none 0 0,.int .i64 0,.slice none 0 0,.slice none 0 0] []),om 7 (.k (.bool false))]) (.sq (.sq (.rg (some 0) [qM 8 0,qS 9 6 4,oo 10 (.ca .pure false (.f Z5) [.t 8,.t 9]),oo 11 (.nt (.t 10)),qM 12 11,og 13 12 false (.mv (.t 0) none),og 14 12 false (.ld (some 6) (.t 5)),og 15 12 false (.ca .pure false (.f Z5) [.t 13,.t 14]),og 16 12 false (.nt (.t 15)),oo 17 (.pk (.t 12) (.k (.bool true)) (.t 16)),qM 18 17,og 19 18 false (.ld (some 6) (.t 4)),og 20 18 false (.ca .pure false (.f ZH) [.t 19]),og 21 18 false (.ld (some 6) (.t 5)),og 22 18 false (.ca .pure false (.f ZH) [.t 21]),og 23 18 false (.ca .pure false (.f Q1) [.t 20,.t 22]),oo 24 (.pk (.t 18) (.k (.bool true)) (.t 23))]) (.cd (.t 24) (.sq (rg [oo 25 (.bd [.int .i64 0,.slice none 0 0,.slice none 0 0,.int .i64 0,.slice none 0 0,.slice none 0 0] [] []),on1 (.st 6 (.t 6) (.t 25)),om 7 (.k (.bool false))]) (.rt)) (.sk))) (.sq (rg [qM 26 0,qS 27 6 4,qS 28 6 5,oo 29 (.ca .pure false (.f Wc) [.t 27,.t 28]),oo 30 (.ca .pure true (.f Vv) [.t 26,.t 29]),qE 31 0 30,qE 32 1 30,on1 (.st 6 (.t 6) (.t 31)),qM 7 32]) (.rt)))) }
theorem ZaS:ZE Proofs.Tryz.prog JO X6=true:=by kernel_rfl
def ZaG:F2 :=
 { nt:=27,res:=[.c 6 (some 6) [0,4,2,0,2,3],.t 7 [0]],body:=(.sq (rg [oo 4 (.bt (.t 1)),oo 6 (.al [.int .i64 0,.slice none 0 0,.slice none 0 0,.int .i64 0,.slice none 0 0,.slice none 0 0] []),om 7 (.k (.bool false))]) (.sq (.sq (rg [qM 8 0,qS 9 6 4,oo 10 (.ca .pure false (.f Z5) [.t 8,.t 9]),oo 11 (.nt (.t 10)),qM 12 11,og 13 12 false (.fa 4 (.t 4)),og 14 12 false (.ld none (.t 13)),og 15 12 false (.mv (.t 2) none),og 16 12 false (.ca .pure false (.f ZL) [.t 14,.t 15]),og 17 12 false (.nt (.t 16)),oo 18 (.pk (.t 12) (.k (.bool true)) (.t 17))]) (.cd (.t 18) (.sq (rg [oo 19 (.bd [.int .i64 0,.slice none 0 0,.slice none 0 0,.int .i64 0,.slice none 0 0,.slice none 0 0] [] []),on1 (.st 6 (.t 6) (.t 19)),om 7 (.k (.bool false))]) (.rt)) (.sk))) (.sq (rg [qM 20 0,qS 21 6 4,qM 22 2,oo 23 (.ca .pure false (.f Yk) [.t 21,.t 22]),oo 24 (.ca .pure true (.f Vv) [.t 20,.t 23]),qE 25 0 24,qE 26 1 24,on1 (.st 6 (.t 6) (.t 25)),qM 7 26]) (.rt)))) }
theorem Zfi:ZE Proofs.Tryz.prog XF ZaG=true:=by kernel_rfl
def Zcf:F2 :=
 { nt:=38,res:=[.c 6 (some 6) [0,4,2,0,2,3],.t 7 [0]],body:=(.sq (rg [oo 4 (.bt (.t 1)),oo 6 (.al [.int .i64 0,.slice none 0 0,.slice none 0 0,.int .i64 0,.slice none 0 0,.slice none 0 0] []),om 7 (.k (.bool false))]) (.sq (.sq (rg [qM 8 0,qS 9 6 4,oo 10 (.ca .pure false (.f Z5) [.t 8,.t 9]),oo 11 (.nt (.t 10)),qM 12 11,og 13 12 false (.mv (.t 2) none),og 14 12 false (.ca .pure false (.f Yi) [.t 13]),og 15 12 false (.nt (.t 14)),oo 16 (.pk (.t 12) (.k (.bool true)) (.t 15)),qM 17 16,og 18 17 false (.fa 4 (.t 4)),og 19 17 false (.ld none (.t 18)),og 20 17 false (.mv (.t 2) none),og 21 17 false (.ca .pure false (.f ZL) [.t 19,.t 20]),oo 22 (.pk (.t 17) (.k (.bool true)) (.t 21))]) (.cd (.t 22) (.sq (rg [oo 23 (.bd [.int .i64 0,.slice none 0 0,.slice none 0 0,.int .i64 0,.slice none 0 0,.slice none 0 0] [] []),on1 (.st 6 (.t 6) (.t 23)),om 7 (.k (.bool false))]) (.rt)) (.sk))) (.sq (.rg (some 0) [qM 24 0,oo 25 (.lt (some 6) (.t 4)),qF 26 3 4,oo 27 (.lt none (.t 26)),qF 28 4 4,qL 29 28,oo 30 (.ca .pure true (.f ZJ) [.t 29]),qM 31 2,oo 32 (.bs 1 1 [.string ⟨#[]⟩] [(0,.t 31)]),oo 33 (.a0 1 (.t 30) (.t 32)),oo 34 (.ca .pure false (.f Zx) [.t 25,.t 27,.t 33,.f W5]),oo 35 (.ca .pure true (.f Vv) [.t 24,.t 34]),qE 36 0 35,qE 37 1 35,on1 (.st 6 (.t 6) (.t 36)),qM 7 37]) (.rt)))) }
theorem Zg5:ZE Proofs.Tryz.prog WM Zcf=true:=by kernel_rfl
def Zal:F2 :=
 { nt:=18,res:=[.c 2 (some 7) [0,0,0,0,0,0,0]],body:=(.sq (rg [oo 1 (.bt (.t 0)),oo 2 (.al [.int .i64 0,.slice none 0 0,.slice none 0 0,.int .i64 0,.slice none 0 0,.slice none 0 0,.slice none 0 0] [])]) (.sq (.sq (rg [qF 3 0 1,qL 4 3]) (.bl 0 (.sq (rg [oo 6 (.bi .eql 0 (.t 4) (i6 1)),qM 5 6]) (.cd (.t 5) (.sq (rg [oo 7 (.bd [.int .i64 0,.slice none 0 0,.slice none 0 0,.int .i64 0,.slice none 0 0,.slice none 0 0] [(0,1,i6 1)] []),oo 8 (.bd [.int .i64 0,.slice none 0 0,.slice none 0 0,.int .i64 0,.slice none 0 0,.slice none 0 0,.slice none 0 0] [(0,6,.t 7)] []),on1 (.st 7 (.t 2) (.t 8))]) (.rt)) (.sq (rg [oo 10 (.bi .eql 0 (.t 4) (i6 2)),qM 9 10]) (.cd (.t 9) (.sq (rg [oo 11 (.bs 1 1 [.int .i64 0] [(0,i6 (-1))]),oo 12 (.bd [.int .i64 0,.slice none 0 0,.slice none 0 0,.int .i64 0,.slice none 0 0,.slice none 0 0] [(0,1,i6 1),(2,1,.t 11)] []),qF 13 2 1,qL 14 13,oo 15 (.bs 1 1 [.int .i64 0] [(0,.t 14)]),oo 16 (.bd [.int .i64 0,.slice none 0 0,.slice none 0 0,.int .i64 0,.slice none 0 0,.slice none 0 0,.slice none 0 0] [(0,6,.t 12),(6,1,.t 15)] []),on1 (.st 7 (.t 2) (.t 16))]) (.rt)) (.sk))))))) (.sq (rg [oo 17 (.bd [.int .i64 0,.slice none 0 0,.slice none 0 0,.int .i64 0,.slice none 0 0,.slice none 0 0,.slice none 0 0] [] []),on1 (.st 7 (.t 2) (.t 17))]) (.rt)))) }
theorem Zlz:ZE Proofs.Tryz.prog Zaf Zal=true:=by kernel_rfl
def Zdg:F2 :=
 { nt:=70,res:=[.t 8 [0],.t 9 [0]],body:=(.sq (rg [oo 4 (.bt (.t 0)),oo 5 (.bt (.t 1)),om 8 (.k (.slice none 0 0)),om 9 (.k (.bool false))]) (.sq (.sq (rg [om 10 (i6 0)]) (.bl 0 (.lp [2,3,4,5,10] [] (.sq (.sq (rg [qM 14 10,qF 15 2 4,qL 16 15,qN 17 16,qB 18 .lss 14 17]) (.cd (.t 18) (.sk) (.ex 0))) (.sq (.bl 1 (.sq (.rg (some 0) [qF 21 2 4,qL 22 21,qM 23 10,qI 24 1 22 23,qL 25 24,qM 26 2,oo 27 (.ca .pure false (.f Yj) [.t 25,.t 26]),qF 28 2 5,qL 29 28,qM 30 10,qI 31 1 29 30,qL 32 31,qB 33 .neq 27 32]) (.cd (.t 33) (.sq (rg [qM 34 3,qM 8 34,om 9 (.k (.bool false))]) (.rt)) (.sk))))
 (rg [qM 19 10,oo 20 (.bi .add 0 (.t 19) (i6 1)),qM 10 20])))))) (.sq (rg [oo 35 (.bs 1 0 [] []),oo 36 (.bs 1 0 [] []),qM 11 35,qM 12 36]) (.sq (.sq (rg [om 13 (i6 0)]) (.bl 2 (.lp [3,4,5,11,12,13] [1120,1152,1664,1952] (.sq (.sq (rg [qM 37 13,qF 38 5 4,qL 39 38,qN 40 39,qB 41 .lss 37 40]) (.cd (.t 41) (.sk) (.ex 2))) (.sq (.bl 3 (.sq (rg [qM 44 11,qF 45 5 4,qL 46 45,qM 47 13,qI 48 2 46 47,qF 49 1 48,qL 50 49,oo 51 (.bs 1 1 [.int .i64 0] [(0,.t 50)]),oo 52 (.ap 1 0 (.t 44) (.t 51)),qM 11 52])
 (rg [qM 53 12,qF 54 5 5,qL 55 54,qM 56 13,qI 57 2 55 56,qF 58 1 57,qL 59 58,oo 60 (.bs 1 1 [.int .i64 0] [(0,.t 59)]),oo 61 (.ap 1 0 (.t 53) (.t 60)),qM 12 61])))
 (rg [qM 42 13,oo 43 (.bi .add 0 (.t 42) (i6 1)),qM 13 43])))))) (.sq (rg [qS 62 6 4,qS 63 6 5,qM 64 3,oo 65 (.fz (.t 11)),oo 66 (.fz (.t 12)),oo 67 (.ca .pure false (.f XG) [.t 62,.t 63,.t 64,.t 65,.t 66]),qE 68 0 67,qE 69 1 67,qM 8 68,qM 9 69]) (.rt)))))) }
theorem ZiU:ZE Proofs.Tryz.prog Uv Zdg=true:=by kernel_rfl
def Zdh:F2 :=
 { nt:=42,res:=[.t 8 [0]],body:=(.sq (rg [oo 4 (.bt (.t 0)),oo 5 (.bt (.t 1)),om 8 (.k (.bool false))]) (.sq (.rg (some 0) [qF 11 1 4,qL 12 11,qM 13 2,qN 14 13,qI 15 3 12 14,qS 16 3 15,qF 17 1 5,oo 18 (.lt none (.t 17)),qM 19 3,oo 20 (.it 3 (.t 18) (.t 19)),oo 21 (.lt (some 3) (.t 20)),oo 9 (.al [.int .i64 0,.int .i64 0,.slice none 0 0] []),oo 10 (.al [.int .i64 0,.int .i64 0,.slice none 0 0] []),on1 (.s0 3 (.t 9) (.t 16)),on1 (.st 3 (.t 10) (.t 21))]) (.sq (.rg (some 0) [qM 22 2,qM 23 3,oo 24 (.ca .pure false (.f Qu) [.t 22,.t 23]),oo 25 (.nt (.t 24)),qM 26 25,og 27 26 true (.fa 0 (.t 9)),og 28 26 true (.ld none (.t 27)),og 29 26 true (.fa 0 (.t 10)),og 30 26 true (.ld none (.t 29)),og 31 26 true (.bi .eql 0 (.t 28) (.t 30)),oo 32 (.pk (.t 26) (.t 31) (.k (.bool false))),qM 33 32,og 34 33 true (.fa 1 (.t 9)),og 35 33 true (.ld none (.t 34)),og 36 33 true (.mv (.t 2) none),og 37 33 true (.ca .pure false (.f Yj) [.t 35,.t 36]),og 38 33 true (.fa 1 (.t 10)),og 39 33 true (.ld none (.t 38)),og 40 33 true (.bi .eql 0 (.t 37) (.t 39)),oo 41 (.pk (.t 33) (.t 40) (.k (.bool false))),qM 8 41]) (.rt)))) }
theorem ZiV:ZE Proofs.Tryz.prog Uw Zdh=true:=by kernel_rfl
def Zdi:F2 :=
 { nt:=41,res:=[.t 10 [0],.t 11 [0]],body:=(.sq (rg [oo 5 (.bt (.t 0)),oo 6 (.bt (.t 1)),om 10 (.k (.slice none 0 0)),om 11 (.k (.bool false))]) (.sq (.sq (rg [om 12 (i6 0)]) (.bl 0 (.lp [2,3,4,5,6,12] [] (.sq (.sq (rg [qM 15 12,qM 16 3,qN 17 16,qB 18 .lss 15 17]) (.cd (.t 18) (.sk) (.ex 0))) (.sq (.bl 1 (.sq (.rg (some 0) [qS 22 6 5,qS 23 6 6,qM 24 2,qM 25 3,qM 26 12,qI 27 1 25 26,qL 28 27,qM 29 4,qM 30 12,qI 31 1 29 30,qL 32 31,oo 33 (.ca .pure false (.f Dj) [.t 22,.t 23,.t 24,.t 28,.t 32]),qM 21 33,qE 34 0 21,qE 35 1 21,qM 13 34,qM 14 35]) (.sq (.sq (rg [qM 36 14,oo 37 (.nt (.t 36))]) (.cd (.t 37) (.sq (rg [qM 38 2,qM 10 38,om 11 (.k (.bool false))]) (.rt)) (.sk)))
 (rg [qM 39 13,qM 2 39]))))
 (rg [qM 19 12,oo 20 (.bi .add 0 (.t 19) (i6 1)),qM 12 20])))))) (.sq (rg [qM 40 2,qM 10 40,om 11 (.k (.bool true))]) (.rt)))) }
theorem ZiW:ZE Proofs.Tryz.prog XG Zdi=true:=by kernel_rfl
def Dm:F2 :=
 { nt:=173,res:=[.t 6 [2],.t 7 [0]],body:=(.sq (rg [oo 3 (.bt (.t 0)),oo 4 (.bt (.t 1)),oo 5 (.bt (.t 2)),om 6 (.k (.slice none 0 0)),om 7 (.k (.bool false))]) (.sq (.sq (.rg (some 0) [qF 20 0 3,qL 21 20,qF 22 0 4,qL 23 22,qB 24 .neq 21 23,qM 25 24,og 26 25 false (.fa 4 (.t 3)),og 27 25 false (.ld none (.t 26)),og 28 25 false (.fa 4 (.t 4)),og 29 25 false (.ld none (.t 28)),og 30 25 false (.ca .pure false (.f Jf) [.t 27,.t 29]),og 31 25 false (.nt (.t 30)),oo 32 (.pk (.t 25) (.k (.bool true)) (.t 31)),qM 33 32,og 34 33 false (.ld (some 6) (.t 3)),og 35 33 false (.ca .pure false (.f ZH) [.t 34]),og 36 33 false (.ld (some 6) (.t 4)),og 37 33 false (.ca .pure false (.f ZH) [.t 36]),og 38 33 false (.ca .pure false (.f Jf) [.t 35,.t 37]),og 39 33 false (.nt (.t 38)),oo 40 (.pk (.t 33) (.k (.bool true)) (.t 39)),qM 41 40,og 42 41 false (.fa 3 (.t 3)),og 43 41 false (.ld none (.t 42)),og 44 41 false (.fa 3 (.t 4)),og 45 41 false (.ld none (.t 44)),og 46 41 false (.bi .neq 0 (.t 43) (.t 45)),oo 47 (.pk (.t 41) (.k (.bool true)) (.t 46)),qM 48 47,og 49 48 false (.fa 2 (.t 3)),og 50 48 false (.ld none (.t 49)),og 51 48 false (.ln (.t 50)),og 52 48 false (.fa 2 (.t 4)),og 53 48 false (.ld none (.t 52)),og 54 48 false (.ln (.t 53)),og 55 48 false (.bi .neq 0 (.t 51) (.t 54)),oo 56 (.pk (.t 48) (.k (.bool true)) (.t 55)),qM 57 56,og 58 57 false (.fa 1 (.t 3)),og 59 57 false (.ld none (.t 58)),og 60 57 false (.ln (.t 59)),og 61 57 false (.fa 1 (.t 4)),og 62 57 false (.ld none (.t 61)),og 63 57 false (.ln (.t 62)),og 64 57 false (.bi .neq 0 (.t 60) (.t 63)),oo 65 (.pk (.t 57) (.k (.bool true)) (.t 64)),qM 66 65,og 67 66 false (.fa 1 (.t 3)),og 68 66 false (.ld none (.t 67)),og 69 66 false (.ln (.t 68)),og 70 66 false (.ld none (.t 5)),og 71 66 false (.ca .pure false (.f Vl) [.t 69,.t 70]),og 72 66 false (.nt (.t 71)),oo 73 (.pk (.t 66) (.k (.bool true)) (.t 72))]) (.cd (.t 73) (.sq (rg [om 6 (.k (.slice none 0 0)),om 7 (.k (.bool false))]) (.rt)) (.sk))) (.sq (rg [oo 74 (.bs 1 1 [.int .i64 0] [(0,i6 (-1))]),qF 75 3 3,qL 76 75,oo 77 (.ca .pure true (.f YK) [.t 74,.t 76]),oo 8 (.al [.slice none 0 0] []),on1 (.st 1 (.t 8) (.t 77))]) (.sq (rg [oo 78 (.mf XI [.t 3,.t 4,.t 8]),qM 9 78]) (.sq (rg [oo 79 (.mf XJ [.t 5]),qM 10 79]) (.sq (.sq (rg [qF 80 1 3,qL 81 80,qN 82 81,om 83 (i6 0)]) (.bl 0 (.lp [3,4,5,8,9,10,81,82,83] [256,2464] (.sq (rg [qB 84 .lss 83 82]) (.sq (.cd (.t 84) (.sk) (.ex 0)) (.sq (.bl 1 (.sq (rg [qM 85 83,qI 86 3 81 83,qS 87 3 86,oo 12 (.al [.int .i64 0,.int .i64 0,.slice none 0 0] []),qM 11 85,on1 (.st 3 (.t 12) (.t 87))]) (.sq (.rg (some 0) [qF 88 1 4,qL 89 88,qL 90 5,qM 91 11,qI 92 1 90 91,qL 93 92,qI 94 3 89 93,qS 95 3 94,oo 13 (.al [.int .i64 0,.int .i64 0,.slice none 0 0] []),on1 (.st 3 (.t 13) (.t 95))]) (.sq (.sq (.rg (some 0) [qF 96 0 12,qL 97 96,qF 98 0 13,qL 99 98,qB 100 .neq 97 99,qM 101 100,og 102 101 false (.mv (.t 10) none),og 103 101 false (.fa 1 (.t 12)),og 104 101 false (.ld none (.t 103)),og 105 101 false (.ca .pure false (.t 102) [.t 104]),og 106 101 false (.fa 1 (.t 13)),og 107 101 false (.ld none (.t 106)),og 108 101 false (.bi .neq 0 (.t 105) (.t 107)),oo 109 (.pk (.t 101) (.k (.bool true)) (.t 108))]) (.cd (.t 109) (.sq (rg [om 6 (.k (.slice none 0 0)),om 7 (.k (.bool false))]) (.rt)) (.sk))) (.sq (rg [qF 110 2 12,qL 111 110,qN 112 111,om 113 (i6 0)]) (.bl 2 (.lp [3,4,5,8,9,10,13,81,82,83,111,112,113] [256,384,416,2464] (.sq (rg [qB 114 .lss 113 112]) (.sq (.cd (.t 114) (.sk) (.ex 2)) (.sq (.bl 3 (.sq (rg [qM 115 113,qI 116 1 111 113,qL 117 116,qM 14 115,qM 15 117]) (.sq (rg [qM 118 9,qM 119 15,qF 120 2 13,qL 121 120,qM 122 14,qI 123 1 121 122,qL 124 123,oo 125 (.ca .any false (.t 118) [.t 119,.t 124]),oo 126 (.nt (.t 125))]) (.cd (.t 126) (.sq (rg [om 6 (.k (.slice none 0 0)),om 7 (.k (.bool false))]) (.rt)) (.sk)))))
 (rg [oo 127 (.bi .add 0 (.t 113) (i6 1)),qM 113 127])))))))))))
 (rg [oo 128 (.bi .add 0 (.t 83) (i6 1)),qM 83 128]))))))) (.sq (.sq (rg [qF 129 2 3,qL 130 129,qN 131 130,om 132 (i6 0)]) (.bl 4 (.lp [3,4,8,9,10,130,131,132] [256,2464] (.sq (rg [qB 133 .lss 132 131]) (.sq (.cd (.t 133) (.sk) (.ex 4)) (.sq (.bl 5 (.sq (rg [qM 134 132,qI 135 1 130 132,qL 136 135,qM 16 134,qM 17 136]) (.sq (.rg (some 0) [qM 137 10,qM 138 17,oo 139 (.ca .pure false (.t 137) [.t 138]),qF 140 2 4,qL 141 140,qM 142 16,qI 143 1 141 142,qL 144 143,qB 145 .neq 139 144]) (.cd (.t 145) (.sq (rg [om 6 (.k (.slice none 0 0)),om 7 (.k (.bool false))]) (.rt)) (.sk)))))
 (rg [oo 146 (.bi .add 0 (.t 132) (i6 1)),qM 132 146]))))))) (.sq (.sq (rg [qF 147 5 3,qL 148 147,qN 149 148,om 150 (i6 0)]) (.bl 6 (.lp [3,4,8,9,148,149,150] [256,2464] (.sq (rg [qB 151 .lss 150 149]) (.sq (.cd (.t 151) (.sk) (.ex 6)) (.sq (.bl 7 (.sq (rg [qM 152 150,qI 153 2 148 150,qS 154 2 153,oo 19 (.al [.string ⟨#[]⟩,.int .i64 0] []),qM 18 152,on1 (.st 2 (.t 19) (.t 154))]) (.sq (.rg (some 0) [qM 155 9,qF 156 1 19,qL 157 156,qF 158 5 4,qL 159 158,qM 160 18,qI 161 2 159 160,qF 162 1 161,qL 163 162,oo 164 (.ca .any false (.t 155) [.t 157,.t 163]),oo 165 (.nt (.t 164))]) (.cd (.t 165) (.sq (rg [om 6 (.k (.slice none 0 0)),om 7 (.k (.bool false))]) (.rt)) (.sk)))))
 (rg [oo 166 (.bi .add 0 (.t 150) (i6 1)),qM 150 166]))))))) (.sq (rg [qS 167 6 3,qS 168 6 4,qL 169 8,oo 170 (.ca .any false (.f XK) [.t 167,.t 168,.t 169]),qE 171 0 170,qE 172 1 170,qM 6 171,qM 7 172]) (.rt)))))))))) }
theorem Zg6:ZE Proofs.Tryz.prog WN Dm=true:=by kernel_rfl
def QA:F2 :=
 { nt:=9,res:=[.t 4 [0]],body:=(.sq (rg [om 4 (.k (.bool false))]) (.sq (rg [qM 5 0,qM 6 1,oo 7 (.ca .pure false (.f YW) [.t 5,.t 6]),oo 8 (.bi .geq 0 (.t 7) (i6 0)),qM 4 8]) (.rt))) }
theorem Dn:ZE Proofs.Tryz.prog Z6 QA=true:=by kernel_rfl
def Wx:F2 :=
 { nt:=9,res:=[.k 2],body:=(.sq (rg [om 2 (.k (.slice none 0 0))]) (.sq (rg [qM 3 0,qM 4 0,qN 5 4,qM 6 0,qN 7 6,oo 8 (.sx 1 (.t 3) none (some (.t 5)) (some (.t 7))),qM 2 8]) (.rt))) }
theorem Zbd:ZE Proofs.Tryz.prog Vc Wx=true:=by kernel_rfl
def Zbe:F2 :=
 { nt:=32,res:=[.t 2 [0]],body:=(.sq (rg [om 2 (.k (.bool false))]) (.sq (.sq (rg [qM 5 0,qN 6 5,om 7 (i6 0)]) (.bl 0 (.lp [0,5,6,7] [] (.sq (rg [qB 8 .lss 7 6]) (.sq (.cd (.t 8) (.sk) (.ex 0)) (.sq (.bl 1 (.sq (rg [qM 9 7,qI 10 1 5 7,qL 11 10,qM 3 9,qM 4 11]) (.sq (rg [qM 12 4,oo 13 (.ca .pure false (.f Yi) [.t 12]),oo 14 (.nt (.t 13)),qM 15 14,og 16 15 false (.mv (.t 3) none),og 17 15 false (.bi .gtr 0 (.t 16) (i6 0)),og 18 15 false (.mv (.t 17) none),og 19 18 true (.mv (.t 4) none),og 20 18 true (.mv (.t 0) none),og 21 18 true (.mv (.t 3) none),og 22 18 true (.bi .sub 0 (.t 21) (i6 1)),og 23 18 true (.ia 1 (.t 20) (.t 22)),og 24 18 true (.ld none (.t 23)),og 25 18 true (.bi .leq 0 (.t 19) (.t 24)),og 26 15 false (.pk (.t 18) (.t 25) (.k (.bool false))),oo 27 (.pk (.t 15) (.k (.bool true)) (.t 26))]) (.cd (.t 27) (.sq (rg [om 2 (.k (.bool false))]) (.rt)) (.sk)))))
 (rg [oo 28 (.bi .add 0 (.t 7) (i6 1)),qM 7 28]))))))) (.sq (rg [qM 29 0,qN 30 29,oo 31 (.bi .leq 0 (.t 30) (i6 16)),qM 2 31]) (.rt)))) }
theorem Zge:ZE Proofs.Tryz.prog V5 Zbe=true:=by kernel_rfl
def QB:F2 :=
 { nt:=21,res:=[.t 2 [2]],body:=(.sq (rg [oo 1 (.bt (.t 0)),om 2 (.k (.slice none 0 0))]) (.sq (rg [oo 6 (.bs 1 0 [] []),qM 3 6]) (.sq (.sq (rg [qF 7 5 1,qL 8 7,qN 9 8,om 10 (i6 0)]) (.bl 0 (.lp [3,8,9,10] [192,576] (.sq (rg [qB 11 .lss 10 9]) (.sq (.cd (.t 11) (.sk) (.ex 0)) (.sq (.bl 1 (.sq (rg [qI 12 2 8 10,qS 13 2 12,oo 5 (.al [.string ⟨#[]⟩,.int .i64 0] []),on1 (.st 2 (.t 5) (.t 13))])
 (rg [qM 14 3,qF 15 0 5,qL 16 15,oo 17 (.bs 1 1 [.string ⟨#[]⟩] [(0,.t 16)]),oo 18 (.ap 1 0 (.t 14) (.t 17)),qM 3 18])))
 (rg [oo 19 (.bi .add 0 (.t 10) (i6 1)),qM 10 19]))))))) (.sq (rg [qM 20 3,qM 2 20]) (.rt))))) }
theorem Do:ZE Proofs.Tryz.prog ZH QB=true:=by kernel_rfl
def XQ:F2 :=
 { nt:=32,res:=[.t 8 [0]],body:=(.sq (rg [oo 4 (.bt (.t 0)),om 8 (.k (.bool false))]) (.sq (.sq (rg [qM 9 2,oo 10 (.bi .lss 0 (.t 9) (i6 0))]) (.cd (.t 10) (.sq (rg [qM 11 2,qF 12 0 4,qL 13 12,oo 14 (.ng (.t 13)),qB 15 .geq 11 14,qM 8 15]) (.rt)) (.sk))) (.sq (rg [qM 16 2,qM 17 3,qB 18 .lss 16 17,qM 19 18,og 20 19 true (.mv (.t 1) none),og 21 19 true (.fa 1 (.t 4)),og 22 19 true (.ld none (.t 21)),og 23 19 true (.mv (.t 2) none),og 24 19 true (.ia 3 (.t 22) (.t 23)),og 25 19 true (.fa 0 (.t 24)),og 26 19 true (.ld none (.t 25)),og 27 19 true (.ia 3 (.t 20) (.t 26)),og 28 19 true (.fa 2 (.t 27)),og 29 19 true (.ld none (.t 28)),og 30 19 true (.bi .neq 0 (.t 29) (i6 2)),oo 31 (.pk (.t 19) (.t 30) (.k (.bool false))),qM 8 31]) (.rt)))) }
theorem Zam:ZE Proofs.Tryz.prog JK XQ=true:=by kernel_rfl
def U2:F2 :=
 { nt:=8,res:=[.t 3 [0]],body:=(.sq (rg [om 3 (.k (.bool false))]) (.sq (rg [qS 4 6 1,qM 5 0,oo 6 (.ca .pure false (.f JZ) [.t 4,.t 5]),oo 7 (.nt (.t 6)),qM 3 7]) (.rt))) }
theorem Zdj:ZE Proofs.Tryz.prog Qf U2=true:=by kernel_rfl
def Wy:F2 :=
 { nt:=14,res:=[.t 4 [0]],body:=(.sq (rg [oo 2 (.bt (.t 0)),om 4 (.k (.bool false))]) (.sq (rg [qM 5 1,qF 6 3 2,qL 7 6,qF 8 4 2,qL 9 8,qN 10 9,qB 11 .add 7 10,oo 12 (.bi .sub 0 (.t 11) (i6 1)),oo 13 (.ca .pure false (.f ZT) [.t 5,i6 0,.t 12]),qM 4 13]) (.rt))) }
theorem Zbf:ZE Proofs.Tryz.prog JZ Wy=true:=by kernel_rfl
def U3:F2 :=
 { nt:=13,res:=[.t 4 [0]],body:=(.sq (rg [om 4 (.k (.bool false))]) (.sq (rg [qS 5 6 1,qL 6 2,qM 7 0,qF 8 1 1,qL 9 8,qN 10 9,oo 11 (.ca .pure false (.f JK) [.t 5,.t 6,.t 7,.t 10]),oo 12 (.nt (.t 11)),qM 4 12]) (.rt))) }
theorem Zdk:ZE Proofs.Tryz.prog Qg U3=true:=by kernel_rfl
def U4:F2 :=
 { nt:=9,res:=[.t 3 [0]],body:=(.sq (rg [oo 2 (.bt (.t 0)),om 3 (.k (.bool false))]) (.sq (rg [qS 4 6 1,qF 5 1 2,qL 6 5,oo 7 (.ca .pure false (.f JZ) [.t 4,.t 6]),oo 8 (.nt (.t 7)),qM 3 8]) (.rt))) }
theorem Zdl:ZE Proofs.Tryz.prog Qh U4=true:=by kernel_rfl
def YA:F2 :=
 { nt:=49,res:=[],body:=(.sq (rg [qM 8 1,oo 9 (.bi .add 0 (.t 8) (i6 1)),qM 6 9]) (.bl 0 (.lp [0,1,2,6] [] (.sq (.sq (rg [qM 10 6,qM 11 2,qB 12 .lss 10 11]) (.cd (.t 12) (.sk) (.ex 0))) (.sq (.bl 1 (.sq (rg [qM 15 6,qM 7 15]) (.bl 2 (.lp [0,1,2,6,7] [] (.sq (.sq (.rg (some 0) [qM 16 7,qM 17 1,qB 18 .gtr 16 17,qM 19 18,og 20 19 true (.mv (.t 0) none),og 21 19 true (.mv (.t 7) none),og 22 19 true (.ia 1 (.t 20) (.t 21)),og 23 19 true (.ld none (.t 22)),og 24 19 true (.mv (.t 0) none),og 25 19 true (.mv (.t 7) none),og 26 19 true (.bi .sub 0 (.t 25) (i6 1)),og 27 19 true (.ia 1 (.t 24) (.t 26)),og 28 19 true (.ld none (.t 27)),og 29 19 true (.ca .pure false (.f QL) [.t 23,.t 28]),oo 30 (.pk (.t 19) (.t 29) (.k (.bool false)))]) (.cd (.t 30) (.sk) (.ex 2))) (.sq (.bl 3 (.rg (some 0) [qM 33 0,qM 34 7,qM 35 0,qM 36 7,oo 37 (.bi .sub 0 (.t 36) (i6 1)),qM 38 0,qM 39 7,oo 40 (.bi .sub 0 (.t 39) (i6 1)),qI 41 1 38 40,qL 42 41,qM 43 0,qM 44 7,qI 45 1 43 44,qL 46 45,qI 47 1 33 34,on1 (.s0 1 (.t 47) (.t 42)),qI 48 1 35 37,on1 (.st 1 (.t 48) (.t 46))]))
 (rg [qM 31 7,oo 32 (.bi .sub 0 (.t 31) (i6 1)),qM 7 32])))))))
 (rg [qM 13 6,oo 14 (.bi .add 0 (.t 13) (i6 1)),qM 6 14])))))) }
theorem XR:ZE Proofs.Tryz.prog Jk YA=true:=by kernel_rfl
def Zcg:F2 :=
 { nt:=17,res:=[.t 4 [0]],body:=(.sq (rg [om 4 (.k (.bool false))]) (.sq (rg [qM 5 0,oo 6 (.ca .pure false (.f V6) [.t 5]),qM 7 6,og 8 7 true (.mv (.t 1) none),og 9 7 true (.ca .pure false (.f V6) [.t 8]),og 10 7 true (.nt (.t 9)),oo 11 (.pk (.t 7) (.t 10) (.k (.bool false))),qM 12 11,og 13 12 false (.mv (.t 0) none),og 14 12 false (.mv (.t 1) none),og 15 12 false (.bi .lss 0 (.t 13) (.t 14)),oo 16 (.pk (.t 12) (.k (.bool true)) (.t 15)),qM 4 16]) (.rt))) }
theorem Zg7:ZE Proofs.Tryz.prog QL Zcg=true:=by kernel_rfl
def ZA:F2 :=
 { nt:=25,res:=[.t 2 [0]],body:=(.sq (rg [om 2 (i6 0)]) (.sq (.sq (rg [qM 3 0,oo 4 (.bi .geq 0 (.t 3) (.k (.int .u64 4294967296)))]) (.cd (.t 4) (.sq (rg [qM 5 0,oo 6 (.bi .shr 0 (.t 5) (.k (.int .u64 32))),qM 0 6])
 (rg [om 2 (i6 32)])) (.sk))) (.sq (.sq (rg [qM 7 0,oo 8 (.bi .geq 0 (.t 7) (.k (.int .u64 65536)))]) (.cd (.t 8) (.sq (rg [qM 9 0,oo 10 (.bi .shr 0 (.t 9) (.k (.int .u64 16))),qM 0 10])
 (rg [qM 11 2,oo 12 (.bi .add 0 (.t 11) (i6 16)),qM 2 12])) (.sk))) (.sq (.sq (rg [qM 13 0,oo 14 (.bi .geq 0 (.t 13) (.k (.int .u64 256)))]) (.cd (.t 14) (.sq (rg [qM 15 0,oo 16 (.bi .shr 0 (.t 15) (.k (.int .u64 8))),qM 0 16])
 (rg [qM 17 2,oo 18 (.bi .add 0 (.t 17) (i6 8)),qM 2 18])) (.sk))) (.sq (rg [qM 19 2,qM 20 0,oo 21 (.cv (.int .u8) (.t 20)),oo 22 (.ix (.k (.string ⟨#[0,1,2,2,3,3,3,3,4,4,4,4,4,4,4,4,5,5,5,5,5,5,5,5,5,5,5,5,5,5,5,5,6,6,6,6,6,6,6,6,6,6,6,6,6,6,6,6,6,6,6,6,6,6,6,6,6,6,6,6,6,6,6,6,7,7,7,7,7,7,7,7,7,7,7,7,7,7,7,7,7,7,7,7,7,7,7,7,7,7,7,7,7,7,7,7,7,7,7,7,7,7,7,7,7,7,7,7,7,7,7,7,7,7,7,7,7,7,7,7,7,7,7,7,7,7,7,7,8,8,8,8,8,8,8,8,8,8,8,8,8,8,8,8,8,8,8,8,8,8,8,8,8,8,8,8,8,8,8,8,8,8,8,8,8,8,8,8,8,8,8,8,8,8,8,8,8,8,8,8,8,8,8,8,8,8,8,8,8,8,8,8,8,8,8,8,8,8,8,8,8,8,8,8,8,8,8,8,8,8,8,8,8,8,8,8,8,8,8,8,8,8,8,8,8,8,8,8,8,8,8,8,8,8,8,8,8,8,8,8,8,8,8,8,8,8,8,8,8,8,8,8,8,8,8,8]⟩)) (.t 21)),oo 23 (.cv (.int .i64) (.t 22)),qB 24 .add 19 23,qM 2 24]) (.rt)))))) }
theorem ZF:ZE Proofs.Tryz.prog Q0 ZA=true:=by kernel_rfl
def Zbg:F2 :=
 { nt:=61,res:=[.t 2 [2]],body:=(.sq (rg [om 2 (.k (.slice none 0 0))]) (.sq (rg [oo 6 (.bs 1 0 [] []),oo 3 (.rk (.t 6))]) (.sq (.sq (rg [om 4 (i6 0)]) (.bl 0 (.lp [0,3,4] [96] (.sq (.sq (rg [qM 7 4,qM 8 0,qN 9 8,qB 10 .lss 7 9]) (.cd (.t 10) (.sk) (.ex 0))) (.sq (.bl 1 (.sq (rg [om 5 (i6 0)]) (.sq (.bl 2 (.lp [0,3,4,5] [96] (.sq (.sq (.rg (some 0) [qM 13 5,qM 14 3,qN 15 14,qB 16 .lss 13 15,qM 17 16,og 18 17 true (.mv (.t 3) none),og 19 17 true (.mv (.t 5) none),og 20 17 true (.ia 1 (.t 18) (.t 19)),og 21 17 true (.ld none (.t 20)),og 22 17 true (.mv (.t 0) none),og 23 17 true (.mv (.t 4) none),og 24 17 true (.ia 1 (.t 22) (.t 23)),og 25 17 true (.ld none (.t 24)),og 26 17 true (.bi .lss 0 (.t 21) (.t 25)),oo 27 (.pk (.t 17) (.t 26) (.k (.bool false)))]) (.cd (.t 27) (.sk) (.ex 2))) (.bl 3 (rg [qM 28 5,oo 29 (.bi .add 0 (.t 28) (i6 1)),qM 5 29]))))) (.sq (.rg (some 0) [qM 30 5,qM 31 3,qN 32 31,qB 33 .eql 30 32,qM 34 33,og 35 34 false (.mv (.t 3) none),og 36 34 false (.mv (.t 5) none),og 37 34 false (.ia 1 (.t 35) (.t 36)),og 38 34 false (.ld none (.t 37)),og 39 34 false (.mv (.t 0) none),og 40 34 false (.mv (.t 4) none),og 41 34 false (.ia 1 (.t 39) (.t 40)),og 42 34 false (.ld none (.t 41)),og 43 34 false (.bi .neq 0 (.t 38) (.t 42)),oo 44 (.pk (.t 34) (.k (.bool true)) (.t 43))]) (.cd (.t 44) (.rg (some 0) [oo 45 (.bs 1 0 [] []),qM 46 3,qM 47 5,oo 48 (.sx 1 (.t 46) none (some (.t 47)) none),oo 49 (.a0 1 (.t 45) (.t 48)),qM 50 0,qM 51 4,oo 52 (.it 1 (.t 50) (.t 51)),oo 53 (.lt none (.t 52)),oo 54 (.bs 1 1 [.string ⟨#[]⟩] [(0,.t 53)]),oo 55 (.a0 1 (.t 49) (.t 54)),qM 56 3,qM 57 5,oo 58 (.sw 1 (.t 56) (some (.t 57)) none none),oo 59 (.ap 1 0 (.t 55) (.t 58)),oo 3 (.rk (.t 59))]) (.sk))))))
 (rg [qM 11 4,oo 12 (.bi .add 0 (.t 11) (i6 1)),qM 4 12])))))) (.sq (rg [qM 60 3,qM 2 60]) (.rt))))) }
theorem Zgf:ZE Proofs.Tryz.prog Yb Zbg=true:=by kernel_rfl
def Zch:F2 :=
 { nt:=28,res:=[.t 6 [2]],body:=(.sq (rg [om 6 (.k (.slice none 0 0))]) (.sq (rg [oo 9 (.bs 1 0 [] []),qM 7 9]) (.sq (.sq (rg [om 8 (i6 0)]) (.bl 0 (.lp [0,1,2,7,8] [288,832] (.sq (.sq (rg [qM 10 8,qM 11 0,qN 12 11,qB 13 .lss 10 12]) (.cd (.t 13) (.sk) (.ex 0))) (.sq (.bl 1 (rg [qM 16 7,qM 17 1,qM 18 2,qM 19 0,qM 20 8,qI 21 1 19 20,qL 22 21,oo 23 (.ca .pure false (.f Yx) [.t 18,.t 22]),qB 24 .add 17 23,oo 25 (.bs 1 1 [.int .i64 0] [(0,.t 24)]),oo 26 (.ap 1 0 (.t 16) (.t 25)),qM 7 26]))
 (rg [qM 14 8,oo 15 (.bi .add 0 (.t 14) (i6 1)),qM 8 15])))))) (.sq (rg [qM 27 7,qM 6 27]) (.rt))))) }
theorem Zg8:ZE Proofs.Tryz.prog JQ Zch=true:=by kernel_rfl
def Zdm:F2 :=
 { nt:=34,res:=[.c 4 (some 6) [0,4,2,0,2,3]],body:=(.sq (rg [oo 2 (.bt (.t 0)),oo 3 (.bt (.t 1)),oo 4 (.al [.int .i64 0,.slice none 0 0,.slice none 0 0,.int .i64 0,.slice none 0 0,.slice none 0 0] [])]) (.sq (.rg (some 0) [oo 7 (.bs 1 0 [] []),qF 8 4 2,qL 9 8,oo 10 (.a0 1 (.t 7) (.t 9)),qF 11 4 3,oo 12 (.lt none (.t 11)),oo 13 (.a0 1 (.t 10) (.t 12)),oo 14 (.ca .pure false (.f Yb) [.t 13]),qF 15 3 2,oo 16 (.lt none (.t 15)),qF 17 3 3,oo 18 (.lt none (.t 17)),qB 19 .add 16 18,qM 5 14,qM 6 19]) (.sq (.rg (some 0) [qS 20 6 2,qS 21 6 3,qM 22 5,qF 23 4 2,qL 24 23,qM 25 6,qM 26 5,oo 27 (.ca .pure false (.f JQ) [.t 24,.t 25,.t 26]),qF 28 4 3,qL 29 28,qM 30 6,qM 31 5,oo 32 (.ca .pure false (.f JQ) [.t 29,.t 30,.t 31]),oo 33 (.ca .pure true (.f WP) [.t 20,.t 21,.t 22,.t 27,.t 32]),on1 (.st 6 (.t 4) (.t 33))]) (.rt)))) }
theorem ZiX:ZE Proofs.Tryz.prog Ux Zdm=true:=by kernel_rfl
def WT:F2 :=
 { nt:=72,res:=[.c 6 (some 6) [0,4,2,0,2,3],.t 7 [0]],body:=(.sq (rg [oo 4 (.bt (.t 1)),oo 6 (.al [.int .i64 0,.slice none 0 0,.slice none 0 0,.int .i64 0,.slice none 0 0,.slice none 0 0] []),om 7 (.k (.bool false))]) (.sq (rg [qF 12 4 4,qL 13 12,qM 14 2,oo 15 (.ca .pure false (.f Yx) [.t 13,.t 14]),qM 8 15]) (.sq (.sq (rg [qM 16 0,qS 17 6 4,oo 18 (.ca .pure false (.f Yh) [.t 16,.t 17]),oo 19 (.nt (.t 18)),qM 20 19,og 21 20 false (.mv (.t 8) none),og 22 20 false (.bi .lss 0 (.t 21) (i6 0)),oo 23 (.pk (.t 20) (.k (.bool true)) (.t 22))]) (.cd (.t 23) (.sq (rg [oo 24 (.bd [.int .i64 0,.slice none 0 0,.slice none 0 0,.int .i64 0,.slice none 0 0,.slice none 0 0] [] []),on1 (.st 6 (.t 6) (.t 24)),om 7 (.k (.bool false))]) (.rt)) (.sk))) (.sq (.rg (some 0) [qF 25 4 4,qL 26 25,qM 27 2,oo 28 (.ca .pure false (.f UA) [.t 26,.t 27]),qF 29 3 4,qL 30 29,oo 31 (.ca .pure true (.f JR) [i6 0,.t 30]),qM 9 28,qM 10 31]) (.sq (.sq (rg [om 11 (i6 0)]) (.bl 0 (.lp [0,4,6,8,9,10,11] [192,992,1472,1920,2208,2209,2210,2211] (.sq (.sq (rg [qM 32 11,qF 33 4 4,qL 34 33,qN 35 34,qB 36 .lss 32 35]) (.cd (.t 36) (.sk) (.ex 0))) (.sq (.bl 1 (.sq (rg [qM 39 11,qM 40 8,qB 41 .eql 39 40]) (.cd (.t 41) (rg [qM 42 10,qF 43 3 4,qL 44 43,oo 45 (.bs 1 1 [.int .i64 0] [(0,.t 44)]),oo 46 (.ap 1 0 (.t 42) (.t 45)),qM 10 46]) (.rg (some 0) [qM 47 10,qF 48 3 4,qL 49 48,oo 50 (.bi .add 0 (.t 49) (i6 1)),qM 51 9,qF 52 4 4,qL 53 52,qM 54 11,qI 55 1 53 54,qL 56 55,oo 57 (.ca .pure false (.f Yx) [.t 51,.t 56]),qB 58 .add 50 57,oo 59 (.bs 1 1 [.int .i64 0] [(0,.t 58)]),oo 60 (.ap 1 0 (.t 47) (.t 59)),qM 10 60]))))
 (rg [qM 37 11,oo 38 (.bi .add 0 (.t 37) (i6 1)),qM 11 38])))))) (.sq (rg [qM 61 0,qS 62 6 4,qM 63 10,qF 64 3 4,qL 65 64,oo 66 (.bi .add 0 (.t 65) (i6 1)),qM 67 9,oo 68 (.ca .pure false (.f Wd) [.t 62,.t 63,.t 66,.t 67]),oo 69 (.ca .pure true (.f VM) [.t 61,.t 68]),qE 70 0 69,qE 71 1 69,on1 (.st 6 (.t 6) (.t 70)),qM 7 71]) (.rt))))))) }
theorem ZaH:ZE Proofs.Tryz.prog JP WT=true:=by kernel_rfl
def Zci:F2 :=
 { nt:=38,res:=[.c 6 (some 6) [0,4,2,0,2,3],.t 7 [0]],body:=(.sq (rg [oo 4 (.bt (.t 1)),oo 6 (.al [.int .i64 0,.slice none 0 0,.slice none 0 0,.int .i64 0,.slice none 0 0,.slice none 0 0] []),om 7 (.k (.bool false))]) (.sq (.sq (rg [qM 9 0,qS 10 6 4,oo 11 (.ca .pure false (.f Yh) [.t 9,.t 10]),oo 12 (.nt (.t 11)),qM 13 12,og 14 13 false (.fa 4 (.t 4)),og 15 13 false (.ld none (.t 14)),og 16 13 false (.mv (.t 2) none),og 17 13 false (.ca .pure false (.f Yx) [.t 15,.t 16]),og 18 13 false (.bi .geq 0 (.t 17) (i6 0)),oo 19 (.pk (.t 13) (.k (.bool true)) (.t 18))]) (.cd (.t 19) (.sq (rg [oo 20 (.bd [.int .i64 0,.slice none 0 0,.slice none 0 0,.int .i64 0,.slice none 0 0,.slice none 0 0] [] []),on1 (.st 6 (.t 6) (.t 20)),om 7 (.k (.bool false))]) (.rt)) (.sk))) (.sq (rg [oo 21 (.bs 1 0 [] []),qF 22 4 4,qL 23 22,oo 24 (.ap 1 0 (.t 21) (.t 23)),qM 25 2,oo 26 (.bs 1 1 [.string ⟨#[]⟩] [(0,.t 25)]),oo 27 (.ap 1 0 (.t 24) (.t 26)),oo 28 (.ca .pure false (.f Yb) [.t 27]),qM 8 28]) (.sq (rg [qM 29 0,qS 30 6 4,qF 31 4 4,qL 32 31,qM 33 8,oo 34 (.ca .pure false (.f QM) [.t 30,.t 32,.t 33]),oo 35 (.ca .pure true (.f VM) [.t 29,.t 34]),qE 36 0 35,qE 37 1 35,on1 (.st 6 (.t 6) (.t 36)),qM 7 37]) (.rt))))) }
theorem Zg9:ZE Proofs.Tryz.prog WO Zci=true:=by kernel_rfl
def Zdn:F2 :=
 { nt:=89,res:=[.c 4 (some 6) [0,4,2,0,2,3]],body:=(.sq (rg [oo 2 (.bt (.t 0)),oo 3 (.bt (.t 1)),oo 4 (.al [.int .i64 0,.slice none 0 0,.slice none 0 0,.int .i64 0,.slice none 0 0,.slice none 0 0] [])]) (.sq (.rg (some 0) [oo 11 (.bs 1 0 [] []),qF 12 4 2,qL 13 12,oo 14 (.a0 1 (.t 11) (.t 13)),qF 15 4 3,oo 16 (.lt none (.t 15)),oo 17 (.a0 1 (.t 14) (.t 16)),oo 18 (.ca .pure true (.f Yb) [.t 17]),qF 19 3 2,oo 20 (.lt none (.t 19)),qF 21 3 3,oo 22 (.lt none (.t 21)),qB 23 .add 20 22,qM 5 18,qM 6 23]) (.sq (.rg (some 0) [qF 24 3 2,qL 25 24,oo 26 (.ca .pure true (.f JR) [i6 0,.t 25]),qF 27 4 2,qL 28 27,qM 29 6,qM 30 5,oo 31 (.ca .pure false (.f JQ) [.t 28,.t 29,.t 30]),oo 32 (.ap 1 0 (.t 26) (.t 31)),qM 7 32]) (.sq (.rg (some 0) [qF 33 3 2,qL 34 33,qF 35 3 3,qL 36 35,oo 37 (.ca .pure true (.f JR) [.t 34,.t 36]),qF 38 4 3,qL 39 38,qM 40 6,qM 41 5,oo 42 (.ca .pure false (.f JQ) [.t 39,.t 40,.t 41]),oo 43 (.ap 1 0 (.t 37) (.t 42)),qM 8 43]) (.sq (.rg (some 0) [qF 44 0 2,qL 45 44,oo 46 (.ca .pure false (.f Yq) [i6 0,.t 45]),qF 47 0 2,qL 48 47,qF 49 0 3,qL 50 49,oo 51 (.ca .pure false (.f Yq) [.t 48,.t 50]),qM 9 46,qM 10 51]) (.sq (.rg (some 0) [qF 52 0 2,oo 53 (.lt none (.t 52)),qF 54 0 3,oo 55 (.lt none (.t 54)),qB 56 .add 53 55,qS 57 6 2,qM 58 9,qM 59 7,oo 60 (.ca .pure true (.f JS) [.t 57,i6 0,.t 58,.t 59]),qS 61 6 3,qF 62 1 2,qL 63 62,qN 64 63,qM 65 10,qM 66 8,oo 67 (.ca .pure false (.f JS) [.t 61,.t 64,.t 65,.t 66]),oo 68 (.a1 3 (.t 60) (.t 67)),oo 69 (.lt (some 6) (.t 2)),qM 70 9,oo 71 (.ca .pure true (.f JC) [.t 69,i6 0,.t 70]),oo 72 (.lt (some 6) (.t 3)),qF 73 1 2,oo 74 (.lt none (.t 73)),qN 75 74,qM 76 10,oo 77 (.ca .pure false (.f JC) [.t 72,.t 75,.t 76]),oo 78 (.a0 1 (.t 71) (.t 77)),qM 79 6,qM 80 5,oo 81 (.lt (some 6) (.t 2)),qM 82 7,oo 83 (.ca .pure false (.f Yr) [.t 81,.t 82]),oo 84 (.lt (some 6) (.t 3)),qM 85 8,oo 86 (.ca .pure false (.f Yr) [.t 84,.t 85]),oo 87 (.ca .pure true (.f WQ) [.t 83,.t 86]),oo 88 (.bd [.int .i64 0,.slice none 0 0,.slice none 0 0,.int .i64 0,.slice none 0 0,.slice none 0 0] [(0,1,.t 56),(1,1,.t 68),(2,1,.t 78),(3,1,.t 79),(4,1,.t 80),(5,1,.t 87)] []),on1 (.st 6 (.t 4) (.t 88))]) (.rt))))))) }
theorem ZiY:ZE Proofs.Tryz.prog Uy Zdn=true:=by kernel_rfl
def Ze0:F2 :=
 { nt:=45,res:=[.c 2 (some 6) [0,4,2,0,2,3]],body:=(.sq (rg [oo 1 (.bt (.t 0)),oo 2 (.al [.int .i64 0,.slice none 0 0,.slice none 0 0,.int .i64 0,.slice none 0 0,.slice none 0 0] [])]) (.sq (rg [qS 7 6 1,oo 8 (.ca .pure true (.f Vu) [.t 7]),oo 9 (.bs 1 0 [] []),oo 3 (.al [.int .i64 0,.slice none 0 0,.slice none 0 0,.int .i64 0,.slice none 0 0,.slice none 0 0] []),on1 (.st 6 (.t 3) (.t 8)),qM 4 9]) (.sq (.sq (rg [om 5 (i6 0)]) (.bl 0 (.lp [1,2,3,4,5] [64,96,256,257,258,259,288,576,1344] (.sq (.sq (rg [qM 10 5,qF 11 0 1,qL 12 11,qB 13 .lss 10 12]) (.cd (.t 13) (.sk) (.ex 0))) (.sq (.bl 1 (rg [qM 16 4,oo 17 (.bs 1 1 [.int .i64 0] [(0,i6 (-1))]),oo 18 (.ap 1 0 (.t 16) (.t 17)),qM 4 18]))
 (rg [qM 14 5,oo 15 (.bi .add 0 (.t 14) (i6 1)),qM 5 15])))))) (.sq (rg [qF 19 0 3,on1 (.st 1 (.t 19) (i6 1))]) (.sq (.sq (rg [om 6 (i6 0)]) (.bl 2 (.lp [1,2,3,4,6] [64,96,256,257,258,259,288,576,1344] (.sq (.sq (rg [qM 20 6,qF 21 1 3,qL 22 21,qN 23 22,qB 24 .lss 20 23]) (.cd (.t 24) (.sk) (.ex 2))) (.sq (.bl 3 (.rg (some 0) [qF 27 1 3,qL 28 27,qM 29 6,qF 30 1 3,qL 31 30,qM 32 6,qI 33 3 31 32,qF 34 1 33,qL 35 34,qM 36 4,oo 37 (.ca .pure false (.f YY) [.t 35,i6 0,.t 36]),qI 38 3 28 29,qF 39 1 38,on1 (.st 1 (.t 39) (.t 37))]))
 (rg [qM 25 6,oo 26 (.bi .add 0 (.t 25) (i6 1)),qM 6 26])))))) (.sq (rg [qS 40 6 1,qM 41 4,oo 42 (.ca .pure true (.f JC) [.t 40,i6 0,.t 41]),qF 43 2 3,on1 (.st 1 (.t 43) (.t 42))]) (.sq (rg [qS 44 6 3,on1 (.st 6 (.t 2) (.t 44))]) (.rt)))))))) }
theorem Zkh:ZE Proofs.Tryz.prog Dh Ze0=true:=by kernel_rfl
def Ze1:F2 :=
 { nt:=31,res:=[.c 6 (some 6) [0,4,2,0,2,3],.t 7 [0]],body:=(.sq (rg [oo 6 (.al [.int .i64 0,.slice none 0 0,.slice none 0 0,.int .i64 0,.slice none 0 0,.slice none 0 0] []),om 7 (.k (.bool false))]) (.sq (rg [qM 11 0,qM 12 1,qM 13 2,oo 14 (.ca .pure true (.f XL) [.t 11,.t 12,.t 13]),qM 10 14,qE 15 0 10,qE 16 1 10,oo 8 (.al [.int .i64 0,.slice none 0 0,.slice none 0 0,.int .i64 0,.slice none 0 0,.slice none 0 0] []),on1 (.st 6 (.t 8) (.t 15)),qM 9 16]) (.sq (.sq (rg [qM 17 9,oo 18 (.nt (.t 17)),qM 19 18,og 20 19 false (.mv (.t 0) none),og 21 19 false (.mv (.t 1) none),og 22 19 false (.ia 3 (.t 20) (.t 21)),og 23 19 false (.fa 2 (.t 22)),og 24 19 false (.ld none (.t 23)),og 25 19 false (.bi .eql 0 (.t 24) (i6 2)),oo 26 (.pk (.t 19) (.k (.bool true)) (.t 25))]) (.cd (.t 26) (.sq (rg [oo 27 (.bd [.int .i64 0,.slice none 0 0,.slice none 0 0,.int .i64 0,.slice none 0 0,.slice none 0 0] [] []),on1 (.st 6 (.t 6) (.t 27)),om 7 (.k (.bool false))]) (.rt)) (.sk))) (.sq (rg [oo 28 (.bs 1 1 [.int .i64 0] [(0,i6 0)]),qF 29 2 8,on1 (.st 1 (.t 29) (.t 28))]) (.sq (rg [qS 30 6 8,on1 (.st 6 (.t 6) (.t 30)),om 7 (.k (.bool true))]) (.rt)))))) }
theorem Zki:ZE Proofs.Tryz.prog Di Ze1=true:=by kernel_rfl
def UE:F2 :=
 { nt:=49,res:=[.c 6 (some 6) [0,4,2,0,2,3],.t 7 [0]],body:=(.sq (rg [oo 4 (.bt (.t 1)),oo 5 (.bt (.t 2)),oo 6 (.al [.int .i64 0,.slice none 0 0,.slice none 0 0,.int .i64 0,.slice none 0 0,.slice none 0 0] []),om 7 (.k (.bool false))]) (.sq (.sq (rg [qM 8 0,qS 9 6 4,oo 10 (.ca .pure false (.f Z5) [.t 8,.t 9]),oo 11 (.nt (.t 10)),qM 12 11,og 13 12 false (.mv (.t 0) none),og 14 12 false (.ld (some 6) (.t 5)),og 15 12 false (.ca .pure false (.f Z5) [.t 13,.t 14]),og 16 12 false (.nt (.t 15)),oo 17 (.pk (.t 12) (.k (.bool true)) (.t 16)),qM 18 17,og 19 18 false (.fa 5 (.t 4)),og 20 18 false (.ld none (.t 19)),og 21 18 false (.ln (.t 20)),og 22 18 false (.bi .gtr 0 (.t 21) (i6 0)),oo 23 (.pk (.t 18) (.k (.bool true)) (.t 22)),qM 24 23,og 25 24 false (.fa 2 (.t 4)),og 26 24 false (.ld none (.t 25)),og 27 24 false (.ln (.t 26)),og 28 24 false (.fa 0 (.t 5)),og 29 24 false (.ld none (.t 28)),og 30 24 false (.bi .neq 0 (.t 27) (.t 29)),oo 31 (.pk (.t 24) (.k (.bool true)) (.t 30))]) (.cd (.t 31) (.sq (rg [oo 32 (.bd [.int .i64 0,.slice none 0 0,.slice none 0 0,.int .i64 0,.slice none 0 0,.slice none 0 0] [] []),on1 (.st 6 (.t 6) (.t 32)),om 7 (.k (.bool false))]) (.rt)) (.sk))) (.sq (.rg (some 0) [qM 33 0,qS 34 6 4,qS 35 6 5,qF 36 0 4,qL 37 36,qF 38 4 4,qL 39 38,qF 40 4 5,qL 41 40,oo 42 (.bs 1 2 [.slice none 0 0] [(0,.t 39),(1,.t 41)]),oo 43 (.ca .pure false (.f Z9) [.t 42]),oo 44 (.mf J1 [.t 4]),oo 45 (.ca .pure false (.f VN) [.t 34,.t 35,.t 37,.k (.slice none 0 0),.t 43,.t 44,.f YZ]),oo 46 (.ca .pure true (.f Vv) [.t 33,.t 45]),qE 47 0 46,qE 48 1 46,on1 (.st 6 (.t 6) (.t 47)),qM 7 48]) (.rt)))) }
theorem ZcA:ZE Proofs.Tryz.prog VL UE=true:=by kernel_rfl
def Zdo:F2 :=
 { nt:=14,res:=[.c 6 (some 6) [0,4,2,0,2,3],.t 7 [0]],body:=(.sq (rg [oo 6 (.al [.int .i64 0,.slice none 0 0,.slice none 0 0,.int .i64 0,.slice none 0 0,.slice none 0 0] []),om 7 (.k (.bool false))]) (.sq (rg [qM 8 0,qM 9 1,qM 10 2,oo 11 (.ca .pure true (.f XL) [.t 8,.t 9,.t 10]),qE 12 0 11,qE 13 1 11,on1 (.st 6 (.t 6) (.t 12)),qM 7 13]) (.rt))) }
theorem ZiZ:ZE Proofs.Tryz.prog Uz Zdo=true:=by kernel_rfl
def Qd:F2 :=
 { nt:=44,res:=[.c 2 (some 6) [0,4,2,0,2,3]],body:=(.sq (rg [oo 1 (.bt (.t 0)),oo 2 (.al [.int .i64 0,.slice none 0 0,.slice none 0 0,.int .i64 0,.slice none 0 0,.slice none 0 0] [])]) (.sq (rg [qS 8 6 1,oo 9 (.ca .pure true (.f JF) [.t 8]),oo 3 (.al [.int .i64 0,.slice none 0 0,.slice none 0 0,.int .i64 0,.slice none 0 0,.slice none 0 0] []),on1 (.st 6 (.t 3) (.t 9))]) (.sq (rg [qF 10 0 3,on1 (.st 1 (.t 10) (i6 1))]) (.sq (.sq (rg [qF 11 1 3,qL 12 11,qN 13 12,om 14 (i6 0)]) (.bl 0 (.lp [2,3,12,13,14] [64,96,288,289,290,291] (.sq (rg [qB 15 .lss 14 13]) (.sq (.cd (.t 15) (.sk) (.ex 0)) (.sq (.bl 1 (.sq (rg [qM 16 14,qI 17 3 12 14,qS 18 3 17,oo 5 (.al [.int .i64 0,.int .i64 0,.slice none 0 0] []),qM 4 16,on1 (.st 3 (.t 5) (.t 18))])
 (rg [qF 19 1 3,qL 20 19,qM 21 4,qF 22 1 5,qL 23 22,oo 24 (.mm true (i6 (-1)) (.t 23)),qI 25 3 20 21,qF 26 1 25,on1 (.st 1 (.t 26) (.t 24))])))
 (rg [oo 27 (.bi .add 0 (.t 14) (i6 1)),qM 14 27]))))))) (.sq (.sq (rg [qF 28 2 3,qL 29 28,qN 30 29,om 31 (i6 0)]) (.bl 2 (.lp [2,3,29,30,31] [64,96,288,289,290,291] (.sq (rg [qB 32 .lss 31 30]) (.sq (.cd (.t 32) (.sk) (.ex 2)) (.sq (.bl 3 (.sq (rg [qM 33 31,qI 34 1 29 31,qL 35 34,qM 6 33,qM 7 35])
 (rg [qF 36 2 3,qL 37 36,qM 38 6,qM 39 7,oo 40 (.mm true (i6 (-1)) (.t 39)),qI 41 1 37 38,on1 (.st 1 (.t 41) (.t 40))])))
 (rg [oo 42 (.bi .add 0 (.t 31) (i6 1)),qM 31 42]))))))) (.sq (rg [qS 43 6 3,on1 (.st 6 (.t 2) (.t 43))]) (.rt))))))) }
theorem UR:ZE Proofs.Tryz.prog J0 Qd=true:=by kernel_rfl
def DI:F2 :=
 { nt:=8,res:=[.t 4 [0]],body:=(.sq (rg [oo 3 (.bt (.t 1)),om 4 (.k (.bool false))]) (.sq (rg [qM 5 0,oo 6 (.mf Yy [.t 3]),oo 7 (.ca .pure false (.f ZC) [.t 5,.t 6]),qM 4 7]) (.rt))) }
theorem Zei:ZE Proofs.Tryz.prog Q1 DI=true:=by kernel_rfl
def Ze2:F2 :=
 { nt:=13,res:=[.c 4 (some 6) [0,4,2,0,2,3],.t 5 [0]],body:=(.sq (rg [oo 3 (.bt (.t 1)),oo 4 (.al [.int .i64 0,.slice none 0 0,.slice none 0 0,.int .i64 0,.slice none 0 0,.slice none 0 0] []),om 5 (.k (.bool false))]) (.sq (.sq (rg [qM 6 0,qS 7 6 3,oo 8 (.ca .pure false (.f Z5) [.t 6,.t 7]),oo 9 (.nt (.t 8))]) (.cd (.t 9) (.sq (rg [oo 10 (.bd [.int .i64 0,.slice none 0 0,.slice none 0 0,.int .i64 0,.slice none 0 0,.slice none 0 0] [] []),on1 (.st 6 (.t 4) (.t 10)),om 5 (.k (.bool false))]) (.rt)) (.sk))) (.sq (rg [qS 11 6 3,oo 12 (.ca .pure true (.f JF) [.t 11]),on1 (.st 6 (.t 4) (.t 12)),om 5 (.k (.bool true))]) (.rt)))) }
theorem Zkj:ZE Proofs.Tryz.prog Vv Ze2=true:=by kernel_rfl
def Zbh:F2 :=
 { nt:=41,res:=[.c 4 (some 6) [0,4,2,0,2,3]],body:=(.sq (rg [oo 2 (.bt (.t 0)),oo 3 (.bt (.t 1)),oo 4 (.al [.int .i64 0,.slice none 0 0,.slice none 0 0,.int .i64 0,.slice none 0 0,.slice none 0 0] [])]) (.sq (rg [qF 8 4 2,qL 9 8,qF 10 4 3,qL 11 10,oo 12 (.bs 1 2 [.slice none 0 0] [(0,.t 9),(1,.t 11)]),oo 13 (.ca .pure false (.f Z9) [.t 12]),qM 5 13]) (.sq (rg [qS 14 6 2,qS 15 6 3,qF 16 0 2,qL 17 16,qF 18 0 3,qL 19 18,qB 20 .add 17 19,qF 21 2 2,qL 22 21,qM 23 5,oo 24 (.mf Vd [.t 2]),oo 25 (.ca .pure true (.f VN) [.t 14,.t 15,.t 20,.t 22,.t 23,.t 24,.f YZ]),oo 6 (.al [.int .i64 0,.slice none 0 0,.slice none 0 0,.int .i64 0,.slice none 0 0,.slice none 0 0] []),on1 (.st 6 (.t 6) (.t 25))]) (.sq (rg [qS 26 6 2,qF 27 3 6,qL 28 27,qM 29 5,oo 30 (.ca .pure true (.f Zx) [.t 26,.t 28,.t 29,.f Ve]),oo 7 (.al [.int .i64 0,.slice none 0 0,.slice none 0 0,.int .i64 0,.slice none 0 0,.slice none 0 0] []),on1 (.st 6 (.t 7) (.t 30))]) (.sq (rg [qF 31 5 7,qL 32 31,qF 33 5 6,qL 34 33,oo 35 (.ap 2 0 (.t 32) (.t 34)),qF 36 5 6,on1 (.st 1 (.t 36) (.t 35))]) (.sq (rg [qF 37 5 6,qL 38 37,oo 39 (.ca .any false (.f ZM) [.t 38,.f Jl])]) (.sq (rg [qS 40 6 6,on1 (.st 6 (.t 4) (.t 40))]) (.rt)))))))) }
theorem Zgg:ZE Proofs.Tryz.prog Wc Zbh=true:=by kernel_rfl
def QC:F2 :=
 { nt:=15,res:=[.c 4 (some 6) [0,4,2,0,2,3]],body:=(.sq (rg [oo 2 (.bt (.t 0)),oo 3 (.bt (.t 1)),oo 4 (.al [.int .i64 0,.slice none 0 0,.slice none 0 0,.int .i64 0,.slice none 0 0,.slice none 0 0] [])]) (.sq (.rg (some 0) [qS 5 6 2,qF 6 3 2,qL 7 6,oo 8 (.bi .add 0 (.t 7) (i6 1)),qF 9 4 2,qL 10 9,qL 11 3,oo 12 (.ca .pure false (.f Qi) [.t 10,.t 11]),oo 13 (.mf Ji [.t 3,.t 2]),oo 14 (.ca .pure true (.f Zx) [.t 5,.t 8,.t 12,.t 13]),on1 (.st 6 (.t 4) (.t 14))]) (.rt))) }
theorem Dp:ZE Proofs.Tryz.prog Yk QC=true:=by kernel_rfl
def XT:F2 :=
 { nt:=68,res:=[.c 8 (some 6) [0,4,2,0,2,3]],body:=(.sq (rg [oo 4 (.bt (.t 0)),oo 5 (.bt (.t 1)),oo 7 (.bx (.t 3)),oo 8 (.al [.int .i64 0,.slice none 0 0,.slice none 0 0,.int .i64 0,.slice none 0 0,.slice none 0 0] [])]) (.sq (rg [qS 17 6 4,oo 18 (.ca .pure true (.f JF) [.t 17]),oo 9 (.al [.int .i64 0,.slice none 0 0,.slice none 0 0,.int .i64 0,.slice none 0 0,.slice none 0 0] []),on1 (.st 6 (.t 9) (.t 18))]) (.sq (.rg (some 0) [qL 19 5,qM 20 2,oo 21 (.ca .pure true (.f YT) [.t 20]),qF 22 3 9,on1 (.st 1 (.t 22) (.t 19)),qF 23 4 9,on1 (.st 1 (.t 23) (.t 21))]) (.sq (rg [oo 24 (.mf Jx [.t 7,.t 4,.t 5,.t 9]),qM 10 24]) (.sq (.sq (rg [qF 25 1 9,qL 26 25,qN 27 26,om 28 (i6 0)]) (.bl 0 (.lp [8,9,10,26,27,28] [224,256,288,576,577,578,579,672] (.sq (rg [qB 29 .lss 28 27]) (.sq (.cd (.t 29) (.sk) (.ex 0)) (.sq (.bl 1 (.sq (rg [qI 30 3 26 28,qS 31 3 30,oo 12 (.al [.int .i64 0,.int .i64 0,.slice none 0 0] []),on1 (.st 3 (.t 12) (.t 31))]) (.sq (rg [qF 32 2 12,qL 33 32,qN 34 33,om 35 (i6 0)]) (.bl 2 (.lp [8,9,10,12,26,27,28,33,34,35] [224,256,288,384,576,577,578,579,672] (.sq (rg [qB 36 .lss 35 34]) (.sq (.cd (.t 36) (.sk) (.ex 2)) (.sq (.bl 3 (.sq (rg [qM 37 35,qI 38 1 33 35,qL 39 38,qM 13 37,qM 14 39]) (.rg (some 0) [qF 40 2 12,qL 41 40,qM 42 13,qM 43 10,qM 44 14,oo 45 (.ca .see false (.t 43) [.t 44]),qI 46 1 41 42,on1 (.st 1 (.t 46) (.t 45))])))
 (rg [oo 47 (.bi .add 0 (.t 35) (i6 1)),qM 35 47])))))))))
 (rg [oo 48 (.bi .add 0 (.t 28) (i6 1)),qM 28 48]))))))) (.sq (.sq (rg [qF 49 5 9,qL 50 49,qN 51 50,om 52 (i6 0)]) (.bl 4 (.lp [8,9,10,50,51,52] [224,256,288,576,577,578,579,672] (.sq (rg [qB 53 .lss 52 51]) (.sq (.cd (.t 53) (.sk) (.ex 4)) (.sq (.bl 5 (.sq (rg [qM 54 52,qI 55 2 50 52,qS 56 2 55,oo 16 (.al [.string ⟨#[]⟩,.int .i64 0] []),qM 15 54,on1 (.st 2 (.t 16) (.t 56))]) (.rg (some 0) [qF 57 5 9,qL 58 57,qM 59 15,qM 60 10,qF 61 1 16,qL 62 61,oo 63 (.ca .see false (.t 60) [.t 62]),qI 64 2 58 59,qF 65 1 64,on1 (.st 1 (.t 65) (.t 63))])))
 (rg [oo 66 (.bi .add 0 (.t 52) (i6 1)),qM 52 66]))))))) (.sq (rg [qS 67 6 9,on1 (.st 6 (.t 8) (.t 67))]) (.rt)))))))) }
theorem Zan:ZE Proofs.Tryz.prog Zx XT=true:=by kernel_rfl
def Zgh:F2 :=
 { nt:=4,res:=[.c 2 (some 2) [0,0]],body:=(.sq (rg [oo 1 (.bt (.t 0)),oo 2 (.al [.int .i64 0,.string ⟨#[]⟩] [])]) (.sq (rg [qS 3 2 1,on1 (.st 2 (.t 2) (.t 3))]) (.rt))) }
theorem ZlA:ZE Proofs.Tryz.prog W5 Zgh=true:=by kernel_rfl
def YB:F2 :=
 { nt:=57,res:=[.t 10 [0],.t 11 [0]],body:=(.sq (rg [oo 5 (.bt (.t 0)),oo 6 (.bt (.t 1)),om 10 (.k (.slice none 0 0)),om 11 (.k (.bool false))]) (.sq (.sq (rg [qM 13 3,qF 14 3 5,qL 15 14,qB 16 .geq 13 15,qM 17 16,og 18 17 false (.mv (.t 4) none),og 19 17 false (.fa 3 (.t 6)),og 20 17 false (.ld none (.t 19)),og 21 17 false (.bi .geq 0 (.t 18) (.t 20)),oo 22 (.pk (.t 17) (.k (.bool true)) (.t 21))]) (.cd (.t 22) (.sq (.rg (some 0) [qM 23 2,qM 24 3,qF 25 3 5,qL 26 25,qB 27 .sub 24 26,qM 28 4,qF 29 3 6,qL 30 29,qB 31 .sub 28 30,qB 32 .eql 27 31,qM 10 23,qM 11 32]) (.rt)) (.sk))) (.sq (.sq (rg [qM 33 2,qM 34 3,qI 35 1 33 34,qL 36 35,oo 37 (.bi .geq 0 (.t 36) (i6 0)),qM 38 37,og 39 38 false (.mv (.t 2) none),og 40 38 false (.mv (.t 4) none),og 41 38 false (.ca .pure false (.f Qu) [.t 39,.t 40]),oo 42 (.pk (.t 38) (.k (.bool true)) (.t 41))]) (.cd (.t 42) (.sq (.rg (some 0) [qM 43 2,qM 44 2,qM 45 3,qI 46 1 44 45,qL 47 46,qM 48 4,qB 49 .eql 47 48,qM 10 43,qM 11 49]) (.rt)) (.sk))) (.sq (rg [qM 50 2,oo 51 (.ca .pure true (.f YH) [.t 50]),qM 12 51]) (.sq (rg [qM 52 12,qM 53 3,qM 54 4,qI 55 1 52 53,on1 (.st 1 (.t 55) (.t 54))]) (.sq (rg [qM 56 12,qM 10 56,om 11 (.k (.bool true))]) (.rt))))))) }
theorem Zkk:ZE Proofs.Tryz.prog Dj YB=true:=by kernel_rfl
def XU:F2 :=
 { nt:=48,res:=[.t 4 [2]],body:=(.sq (rg [om 4 (.k (.slice none 0 0))]) (.sq (.sq (rg [qM 9 1,oo 10 (.bi .lss 0 (.t 9) (i6 0))]) (.cd (.t 10) (rg [oo 11 (.xx),on1 (.xx)]) (.sk))) (.sq (rg [qM 13 0,qN 14 13,oo 15 (.cv (.int .u64) (.t 14)),qM 16 1,oo 17 (.cv (.int .u64) (.t 16)),oo 18 (.ca .pure false (.f DF) [.t 15,.t 17]),qM 12 18,qE 19 0 12,qE 20 1 12,qM 5 19,qM 6 20]) (.sq (.sq (rg [qM 21 5,oo 22 (.bi .gtr 0 (.t 21) (.k (.int .u64 0))),qM 23 22,og 24 23 false (.mv (.t 6) none),og 25 23 false (.bi .gtr 0 (.t 24) (.k (.int .u64 9223372036854775807))),oo 26 (.pk (.t 23) (.k (.bool true)) (.t 25))]) (.cd (.t 26) (rg [oo 27 (.xx),on1 (.xx)]) (.sk))) (.sq (rg [qM 28 6,oo 29 (.cv (.int .i64) (.t 28)),oo 30 (.ms 1 [.int .i64 0] (.t 29)),qM 7 30]) (.sq (rg [qM 31 7,qM 32 0,oo 33 (.cy 1 (.t 31) (.t 32)),qM 8 33]) (.sq (.bl 0 (.lp [7,8] [960] (.sq (.sq (rg [qM 34 8,qM 35 7,qN 36 35,qB 37 .lss 34 36]) (.cd (.t 37) (.sk) (.ex 0))) (.bl 1 (.rg (some 0) [qM 38 8,qM 39 7,qM 40 8,oo 41 (.sx 1 (.t 39) (some (.t 40)) none none),qM 42 7,qM 43 8,oo 44 (.sx 1 (.t 42) none (some (.t 43)) none),oo 45 (.c0 1 (.t 41) (.t 44)),qB 46 .add 38 45,qM 8 46]))))) (.sq (rg [qM 47 7,qM 4 47]) (.rt))))))))) }
theorem Zao:ZE Proofs.Tryz.prog YK XU=true:=by kernel_rfl
def JU:F2 :=
 { nt:=42,res:=[.t 7 [0]],body:=(.sq (rg [om 7 (.k (.bool false))]) (.sq (.sq (rg [qM 8 0,qF 9 3 2,qL 10 9,qB 11 .geq 8 10,qM 12 11,og 13 12 false (.mv (.t 1) none),og 14 12 false (.fa 3 (.t 3)),og 15 12 false (.ld none (.t 14)),og 16 12 false (.bi .geq 0 (.t 13) (.t 15)),oo 17 (.pk (.t 12) (.k (.bool true)) (.t 16))]) (.cd (.t 17) (.sq (rg [qM 18 0,qM 19 1,qB 20 .eql 18 19,qM 7 20]) (.rt)) (.sk))) (.sq (.sq (rg [qL 21 4,qM 22 0,qI 23 1 21 22,qL 24 23,oo 25 (.bi .lss 0 (.t 24) (i6 0)),qM 26 25,og 27 26 true (.ld none (.t 4)),og 28 26 true (.mv (.t 1) none),og 29 26 true (.ca .pure false (.f Z6) [.t 27,.t 28]),og 30 26 true (.nt (.t 29)),oo 31 (.pk (.t 26) (.t 30) (.k (.bool false)))]) (.cd (.t 31) (rg [qL 32 4,qM 33 0,qM 34 1,qI 35 1 32 33,on1 (.st 1 (.t 35) (.t 34))]) (.sk))) (.sq (rg [qL 36 4,qM 37 0,qI 38 1 36 37,qL 39 38,qM 40 1,qB 41 .eql 39 40,qM 7 41]) (.rt))))) }
theorem Zfj:ZE Proofs.Tryz.prog XI JU=true:=by kernel_rfl
def WU:F2 :=
 { nt:=11,res:=[.t 3 [0]],body:=(.sq (rg [om 3 (i6 0)]) (.sq (.sq (rg [qM 4 0,oo 5 (.bi .geq 0 (.t 4) (i6 0))]) (.cd (.t 5) (.sq (rg [qL 6 1,qM 7 0,qI 8 1 6 7,qL 9 8,qM 3 9]) (.rt)) (.sk))) (.sq (rg [qM 10 0,qM 3 10]) (.rt)))) }
theorem Zfk:ZE Proofs.Tryz.prog XJ WU=true:=by kernel_rfl
def ZaI:F2 :=
 { nt:=35,res:=[.t 6 [2],.t 7 [0]],body:=(.sq (rg [oo 3 (.bt (.t 0)),oo 4 (.bt (.t 1)),om 6 (.k (.slice none 0 0)),om 7 (.k (.bool false))]) (.sq (.sq (rg [qM 10 2,qN 11 10,om 12 (i6 0)]) (.bl 0 (.lp [2,4,11,12] [] (.sq (rg [qB 13 .lss 12 11]) (.sq (.cd (.t 13) (.sk) (.ex 0)) (.sq (.bl 1 (.sq (rg [qM 14 12,qM 8 14]) (.sq (.sq (rg [qM 15 2,qM 16 8,qI 17 1 15 16,qL 18 17,oo 19 (.bi .geq 0 (.t 18) (i6 0))]) (.cd (.t 19) (.ex 1) (.sk))) (.sq (rg [om 9 (i6 0)]) (.sq (.bl 2 (.lp [2,4,8,9,11,12] [] (.sq (.sq (rg [qM 20 2,qM 21 9,oo 22 (.ca .pure false (.f Z6) [.t 20,.t 21])]) (.cd (.t 22) (.sk) (.ex 2))) (.bl 3 (rg [qM 23 9,oo 24 (.bi .add 0 (.t 23) (i6 1)),qM 9 24]))))) (.sq (.sq (rg [qS 25 6 4,qM 26 9,oo 27 (.ca .pure false (.f Vb) [.t 25,.t 26]),oo 28 (.nt (.t 27))]) (.cd (.t 28) (.sq (rg [om 6 (.k (.slice none 0 0)),om 7 (.k (.bool false))]) (.rt)) (.sk)))
 (rg [qM 29 2,qM 30 8,qM 31 9,qI 32 1 29 30,on1 (.st 1 (.t 32) (.t 31))])))))))
 (rg [oo 33 (.bi .add 0 (.t 12) (i6 1)),qM 12 33]))))))) (.sq (rg [qM 34 2,qM 6 34,om 7 (.k (.bool true))]) (.rt)))) }
theorem Zfl:ZE Proofs.Tryz.prog XK ZaI=true:=by kernel_rfl
end Go.Fd

/-
  The annotated codes of the functions, printed by a program of mine (gen.py), and the check that they belong to the program.
-/
namespace Go.Fd
def Zbi:F2 :=
 { nt:=6,res:=[.t 2 [0]],body:=(.sq (rg [om 2 (.k (.bool false))]) (.sq (rg [qM 3 0,qM 4 0,qB 5 .neq 3 4,qM 2 5]) (.rt))) }
theorem Zgi:ZE Proofs.Tryz.prog V6 Zbi=true:=by kernel_rfl
def Zgj:F2 :=
 { nt:=19,res:=[.t 4 [0]],body:=(.sq (rg [om 4 (i6 0)]) (.sq (.sq (rg [om 5 (i6 0)]) (.bl 0 (.lp [0,1,5] [] (.sq (.sq (rg [qM 6 5,qM 7 0,qN 8 7,qB 9 .lss 6 8]) (.cd (.t 9) (.sk) (.ex 0))) (.sq (.bl 1 (.sq (rg [qM 12 0,qM 13 5,qI 14 1 12 13,qL 15 14,qM 16 1,qB 17 .eql 15 16]) (.cd (.t 17) (.sq (rg [qM 18 5,qM 4 18]) (.rt)) (.sk))))
 (rg [qM 10 5,oo 11 (.bi .add 0 (.t 10) (i6 1)),qM 5 11])))))) (.sq (rg [om 4 (i6 (-1))]) (.rt)))) }
theorem ZlB:ZE Proofs.Tryz.prog Yx Zgj=true:=by kernel_rfl
def Zcj:F2 :=
 { nt:=65,res:=[.c 10 (some 6) [0,4,2,0,2,3]],body:=(.sq (rg [oo 5 (.bt (.t 0)),oo 6 (.bt (.t 1)),oo 10 (.al [.int .i64 0,.slice none 0 0,.slice none 0 0,.int .i64 0,.slice none 0 0,.slice none 0 0] [])]) (.sq (rg [qF 15 0 5,qL 16 15,oo 17 (.ca .pure false (.f Yq) [i6 0,.t 16]),qM 11 17]) (.sq (.rg (some 0) [qF 18 3 5,qL 19 18,oo 20 (.ca .pure true (.f JR) [i6 0,.t 19]),qM 21 3,oo 22 (.a0 1 (.t 20) (.t 21)),qF 23 3 5,oo 24 (.lt none (.t 23)),qF 25 3 6,oo 26 (.lt none (.t 25)),oo 27 (.ca .pure true (.f JR) [.t 24,.t 26]),qM 28 4,oo 29 (.ap 1 0 (.t 27) (.t 28)),qM 12 22,qM 13 29]) (.sq (rg [qS 30 6 5,qM 31 11,oo 32 (.ca .pure false (.f JC) [.t 30,i6 0,.t 31]),qM 14 32]) (.sq (.rg (some 0) [qF 33 0 5,oo 34 (.lt none (.t 33)),qS 35 6 5,qM 36 11,qM 37 12,oo 38 (.ca .pure true (.f JS) [.t 35,i6 0,.t 36,.t 37]),qS 39 6 6,qF 40 1 5,qL 41 40,qN 42 41,qM 43 14,qM 44 13,oo 45 (.ca .pure false (.f JS) [.t 39,.t 42,.t 43,.t 44]),oo 46 (.a1 3 (.t 38) (.t 45)),oo 47 (.lt (some 6) (.t 6)),qF 48 1 5,oo 49 (.lt none (.t 48)),qN 50 49,qM 51 14,oo 52 (.ca .pure true (.f JC) [.t 47,.t 50,.t 51]),qF 53 3 5,oo 54 (.lt none (.t 53)),qF 55 3 6,oo 56 (.lt none (.t 55)),qB 57 .add 54 56,oo 58 (.bs 1 0 [] []),qM 59 2,oo 60 (.a0 1 (.t 58) (.t 59)),oo 61 (.lt (some 6) (.t 6)),qM 62 13,oo 63 (.ca .pure true (.f Yr) [.t 61,.t 62]),oo 64 (.bd [.int .i64 0,.slice none 0 0,.slice none 0 0,.int .i64 0,.slice none 0 0,.slice none 0 0] [(0,1,.t 34),(1,1,.t 46),(2,1,.t 52),(3,1,.t 57),(4,1,.t 60),(5,1,.t 63)] []),on1 (.st 6 (.t 10) (.t 64))]) (.rt)))))) }
theorem Zha:ZE Proofs.Tryz.prog WP Zcj=true:=by kernel_rfl
def Zdp:F2 :=
 { nt:=28,res:=[.t 4 [2]],body:=(.sq (rg [om 4 (.k (.slice none 0 0))]) (.sq (rg [oo 7 (.bs 1 0 [] []),qM 5 7]) (.sq (.sq (rg [om 6 (i6 0)]) (.bl 0 (.lp [0,1,5,6] [224,832] (.sq (.sq (rg [qM 8 6,qM 9 0,qN 10 9,qB 11 .lss 8 10]) (.cd (.t 11) (.sk) (.ex 0))) (.sq (.bl 1 (.sq (rg [qM 14 0,qM 15 6,qI 16 1 14 15,qL 17 16,qM 18 1,qB 19 .neq 17 18]) (.cd (.t 19) (rg [qM 20 5,qM 21 0,qM 22 6,qI 23 1 21 22,qL 24 23,oo 25 (.bs 1 1 [.string ⟨#[]⟩] [(0,.t 24)]),oo 26 (.ap 1 0 (.t 20) (.t 25)),qM 5 26]) (.sk))))
 (rg [qM 12 6,oo 13 (.bi .add 0 (.t 12) (i6 1)),qM 6 13])))))) (.sq (rg [qM 27 5,qM 4 27]) (.rt))))) }
theorem Zi0:ZE Proofs.Tryz.prog UA Zdp=true:=by kernel_rfl
def Zck:F2 :=
 { nt:=20,res:=[.t 4 [2]],body:=(.sq (rg [om 4 (.k (.slice none 0 0))]) (.sq (rg [oo 7 (.bs 1 0 [] []),qM 5 7]) (.sq (.sq (rg [om 6 (i6 0)]) (.bl 0 (.lp [0,1,5,6] [224,576] (.sq (.sq (rg [qM 8 6,qM 9 1,qB 10 .lss 8 9]) (.cd (.t 10) (.sk) (.ex 0))) (.sq (.bl 1 (rg [qM 13 5,qM 14 0,qM 15 6,qB 16 .add 14 15,oo 17 (.bs 1 1 [.int .i64 0] [(0,.t 16)]),oo 18 (.ap 1 0 (.t 13) (.t 17)),qM 5 18]))
 (rg [qM 11 6,oo 12 (.bi .add 0 (.t 11) (i6 1)),qM 6 12])))))) (.sq (rg [qM 19 5,qM 4 19]) (.rt))))) }
theorem Zhb:ZE Proofs.Tryz.prog JR Zck=true:=by kernel_rfl
def Zap:F2 :=
 { nt:=12,res:=[.c 4 (some 6) [0,4,2,0,2,3],.t 5 [0]],body:=(.sq (rg [oo 3 (.bt (.t 1)),oo 4 (.al [.int .i64 0,.slice none 0 0,.slice none 0 0,.int .i64 0,.slice none 0 0,.slice none 0 0] []),om 5 (.k (.bool false))]) (.sq (.sq (rg [qM 6 0,qS 7 6 3,oo 8 (.ca .pure false (.f Yh) [.t 6,.t 7]),oo 9 (.nt (.t 8))]) (.cd (.t 9) (.sq (rg [oo 10 (.bd [.int .i64 0,.slice none 0 0,.slice none 0 0,.int .i64 0,.slice none 0 0,.slice none 0 0] [] []),on1 (.st 6 (.t 4) (.t 10)),om 5 (.k (.bool false))]) (.rt)) (.sk))) (.sq (rg [qS 11 6 3,on1 (.st 6 (.t 4) (.t 11)),om 5 (.k (.bool true))]) (.rt)))) }
theorem Zdq:ZE Proofs.Tryz.prog VM Zap=true:=by kernel_rfl
def Zbj:F2 :=
 { nt:=30,res:=[.c 8 (some 6) [0,4,2,0,2,3]],body:=(.sq (rg [oo 4 (.bt (.t 0)),oo 8 (.al [.int .i64 0,.slice none 0 0,.slice none 0 0,.int .i64 0,.slice none 0 0,.slice none 0 0] [])]) (.sq (rg [qF 10 0 4,qL 11 10,oo 12 (.ca .pure false (.f Yq) [i6 0,.t 11]),qM 9 12]) (.sq (.rg (some 0) [qF 13 0 4,oo 14 (.lt none (.t 13)),qS 15 6 4,qM 16 9,qM 17 1,oo 18 (.ca .pure true (.f JS) [.t 15,i6 0,.t 16,.t 17]),qS 19 6 4,qM 20 9,oo 21 (.ca .pure true (.f JC) [.t 19,i6 0,.t 20]),qM 22 2,oo 23 (.bs 1 0 [] []),qM 24 3,oo 25 (.a0 1 (.t 23) (.t 24)),oo 26 (.lt (some 6) (.t 4)),qM 27 1,oo 28 (.ca .pure true (.f Yr) [.t 26,.t 27]),oo 29 (.bd [.int .i64 0,.slice none 0 0,.slice none 0 0,.int .i64 0,.slice none 0 0,.slice none 0 0] [(0,1,.t 14),(1,1,.t 18),(2,1,.t 21),(3,1,.t 22),(4,1,.t 25),(5,1,.t 28)] []),on1 (.st 6 (.t 8) (.t 29))]) (.rt)))) }
theorem Zgk:ZE Proofs.Tryz.prog Wd Zbj=true:=by kernel_rfl
def Zcl:F2 :=
 { nt:=105,res:=[.c 6 (some 6) [0,4,2,0,2,3]],body:=(.sq (rg [oo 3 (.bt (.t 0)),oo 6 (.al [.int .i64 0,.slice none 0 0,.slice none 0 0,.int .i64 0,.slice none 0 0,.slice none 0 0] [])]) (.sq (rg [qS 13 6 3,oo 14 (.ca .pure true (.f Vu) [.t 13]),oo 7 (.al [.int .i64 0,.slice none 0 0,.slice none 0 0,.int .i64 0,.slice none 0 0,.slice none 0 0] []),on1 (.st 6 (.t 7) (.t 14))]) (.sq (rg [oo 15 (.bs 1 0 [] []),qM 16 2,oo 17 (.ap 1 0 (.t 15) (.t 16)),qF 18 4 7,on1 (.st 1 (.t 18) (.t 17))]) (.sq (.sq (rg [om 8 (i6 0)]) (.bl 0 (.lp [1,2,3,6,7,8] [192,224,448,449,450,451,480,544] (.sq (.sq (rg [qM 19 8,qF 20 1 7,qL 21 20,qN 22 21,qB 23 .lss 19 22]) (.cd (.t 23) (.sk) (.ex 0))) (.sq (.bl 1 (.sq (rg [om 9 (i6 0)]) (.bl 2 (.lp [1,2,3,6,7,8,9] [192,224,448,449,450,451,480,544] (.sq (.sq (rg [qM 26 9,qF 27 1 7,qL 28 27,qM 29 8,qI 30 3 28 29,qF 31 2 30,qL 32 31,qN 33 32,qB 34 .lss 26 33]) (.cd (.t 34) (.sk) (.ex 2))) (.sq (.bl 3 (.sq (rg [qF 37 1 7,qL 38 37,qM 39 8,qI 40 3 38 39,qF 41 2 40,qL 42 41,qM 43 9,qI 44 1 42 43,qL 45 44,qM 10 45]) (.sq (rg [qM 46 10,qF 47 3 3,qL 48 47,qB 49 .geq 46 48]) (.cd (.t 49) (.rg (some 0) [qF 50 1 7,qL 51 50,qM 52 8,qI 53 3 51 52,qF 54 2 53,qL 55 54,qM 56 9,qF 57 3 3,qL 58 57,qM 59 2,qM 60 1,qM 61 10,qF 62 3 3,qL 63 62,qB 64 .sub 61 63,qI 65 1 60 64,qL 66 65,oo 67 (.ca .pure false (.f Yx) [.t 59,.t 66]),qB 68 .add 58 67,qI 69 1 55 56,on1 (.st 1 (.t 69) (.t 68))]) (.sk)))))
 (rg [qM 35 9,oo 36 (.bi .add 0 (.t 35) (i6 1)),qM 9 36])))))))
 (rg [qM 24 8,oo 25 (.bi .add 0 (.t 24) (i6 1)),qM 8 25])))))) (.sq (.sq (rg [om 11 (i6 0)]) (.bl 4 (.lp [1,2,3,6,7,11] [192,224,448,449,450,451,480,544] (.sq (.sq (rg [qM 70 11,qF 71 5 7,qL 72 71,qN 73 72,qB 74 .lss 70 73]) (.cd (.t 74) (.sk) (.ex 4))) (.sq (.bl 5 (.sq (rg [qF 77 5 7,qL 78 77,qM 79 11,qI 80 2 78 79,qF 81 1 80,qL 82 81,qM 12 82]) (.sq (rg [qM 83 12,qF 84 3 3,qL 85 84,qB 86 .geq 83 85]) (.cd (.t 86) (.rg (some 0) [qF 87 5 7,qL 88 87,qM 89 11,qF 90 3 3,qL 91 90,qM 92 2,qM 93 1,qM 94 12,qF 95 3 3,qL 96 95,qB 97 .sub 94 96,qI 98 1 93 97,qL 99 98,oo 100 (.ca .pure false (.f Yx) [.t 92,.t 99]),qB 101 .add 91 100,qI 102 2 88 89,qF 103 1 102,on1 (.st 1 (.t 103) (.t 101))]) (.sk)))))
 (rg [qM 75 11,oo 76 (.bi .add 0 (.t 75) (i6 1)),qM 11 76])))))) (.sq (rg [qS 104 6 7,on1 (.st 6 (.t 6) (.t 104))]) (.rt))))))) }
theorem Zhc:ZE Proofs.Tryz.prog QM Zcl=true:=by kernel_rfl
def Zcm:F2 :=
 { nt:=21,res:=[.t 4 [2]],body:=(.sq (rg [om 4 (.k (.slice none 0 0))]) (.sq (rg [oo 7 (.bs 1 0 [] []),qM 5 7]) (.sq (.sq (rg [om 6 (i6 0)]) (.bl 0 (.lp [0,1,5,6] [224,608] (.sq (.sq (rg [qM 8 6,qM 9 1,qB 10 .lss 8 9]) (.cd (.t 10) (.sk) (.ex 0))) (.sq (.bl 1 (rg [qM 13 5,qM 14 0,oo 15 (.bi .sub 0 (i6 (-1)) (.t 14)),qM 16 6,qB 17 .sub 15 16,oo 18 (.bs 1 1 [.int .i64 0] [(0,.t 17)]),oo 19 (.ap 1 0 (.t 13) (.t 18)),qM 5 19]))
 (rg [qM 11 6,oo 12 (.bi .add 0 (.t 11) (i6 1)),qM 6 12])))))) (.sq (rg [qM 20 5,qM 4 20]) (.rt))))) }
theorem Zhd:ZE Proofs.Tryz.prog Yq Zcm=true:=by kernel_rfl
def Zcn:F2 :=
 { nt:=69,res:=[.t 8 [4]],body:=(.sq (rg [oo 4 (.bt (.t 0)),om 8 (.k (.slice none 0 0))]) (.sq (rg [oo 13 (.bs 3 0 [] []),qM 9 13]) (.sq (.sq (rg [om 10 (i6 0)]) (.bl 0 (.lp [1,2,3,4,9,10] [416,2144] (.sq (.sq (rg [qM 14 10,qF 15 1 4,qL 16 15,qN 17 16,qB 18 .lss 14 17]) (.cd (.t 18) (.sk) (.ex 0))) (.sq (.bl 1 (.sq (rg [oo 21 (.bs 1 0 [] []),qM 11 21]) (.sq (.sq (rg [om 12 (i6 0)]) (.bl 2 (.lp [1,2,3,4,9,10,11,12] [416,672,1504,2144] (.sq (.sq (rg [qM 22 12,qF 23 1 4,qL 24 23,qM 25 10,qI 26 3 24 25,qF 27 2 26,qL 28 27,qN 29 28,qB 30 .lss 22 29]) (.cd (.t 30) (.sk) (.ex 2))) (.sq (.bl 3 (rg [qM 33 11,qM 34 3,qF 35 1 4,qL 36 35,qM 37 10,qI 38 3 36 37,qF 39 2 38,qL 40 39,qM 41 12,qI 42 1 40 41,qL 43 42,qI 44 1 34 43,qL 45 44,oo 46 (.bs 1 1 [.int .i64 0] [(0,.t 45)]),oo 47 (.ap 1 0 (.t 33) (.t 46)),qM 11 47]))
 (rg [qM 31 12,oo 32 (.bi .add 0 (.t 31) (i6 1)),qM 12 32])))))) (.rg (some 0) [qM 48 9,qF 49 1 4,qL 50 49,qM 51 10,qI 52 3 50 51,qF 53 0 52,qL 54 53,qF 55 1 4,qL 56 55,qM 57 10,qI 58 3 56 57,qF 59 1 58,qL 60 59,qM 61 1,qM 62 2,oo 63 (.ca .pure false (.f YY) [.t 60,.t 61,.t 62]),qM 64 11,oo 65 (.bd [.int .i64 0,.int .i64 0,.slice none 0 0] [(0,1,.t 54),(1,1,.t 63),(2,1,.t 64)] []),oo 66 (.bv 3 1 [.int .i64 0,.int .i64 0,.slice none 0 0] [(0,.t 65)]),oo 67 (.ap 3 2 (.t 48) (.t 66)),qM 9 67]))))
 (rg [qM 19 10,oo 20 (.bi .add 0 (.t 19) (i6 1)),qM 10 20])))))) (.sq (rg [qM 68 9,qM 8 68]) (.rt))))) }
theorem Zhe:ZE Proofs.Tryz.prog JS Zcn=true:=by kernel_rfl
def Zco:F2 :=
 { nt:=29,res:=[.t 6 [2]],body:=(.sq (rg [oo 3 (.bt (.t 0)),om 6 (.k (.slice none 0 0))]) (.sq (rg [oo 9 (.bs 1 0 [] []),qM 7 9]) (.sq (.sq (rg [om 8 (i6 0)]) (.bl 0 (.lp [1,2,3,7,8] [288,864] (.sq (.sq (rg [qM 10 8,qF 11 2 3,qL 12 11,qN 13 12,qB 14 .lss 10 13]) (.cd (.t 14) (.sk) (.ex 0))) (.sq (.bl 1 (rg [qM 17 7,qF 18 2 3,qL 19 18,qM 20 8,qI 21 1 19 20,qL 22 21,qM 23 1,qM 24 2,oo 25 (.ca .pure false (.f YY) [.t 22,.t 23,.t 24]),oo 26 (.bs 1 1 [.int .i64 0] [(0,.t 25)]),oo 27 (.ap 1 0 (.t 17) (.t 26)),qM 7 27]))
 (rg [qM 15 8,oo 16 (.bi .add 0 (.t 15) (i6 1)),qM 8 16])))))) (.sq (rg [qM 28 7,qM 6 28]) (.rt))))) }
theorem Zhf:ZE Proofs.Tryz.prog JC Zco=true:=by kernel_rfl
def Zcp:F2 :=
 { nt:=52,res:=[.t 4 [3]],body:=(.sq (rg [om 4 (.k (.slice none 0 0))]) (.sq (rg [oo 8 (.bs 2 0 [] []),qM 9 0,oo 10 (.ap 2 0 (.t 8) (.t 9)),oo 5 (.rk (.t 10))]) (.sq (.sq (rg [om 6 (i6 0)]) (.bl 0 (.lp [1,5,6] [160] (.sq (.sq (rg [qM 11 6,qM 12 1,qN 13 12,qB 14 .lss 11 13]) (.cd (.t 14) (.sk) (.ex 0))) (.sq (.bl 1 (.sq (rg [om 7 (i6 0)]) (.sq (.bl 2 (.lp [1,5,6,7] [160] (.sq (.sq (.rg (some 0) [qM 17 7,qM 18 5,qN 19 18,qB 20 .lss 17 19,qM 21 20,og 22 21 true (.mv (.t 5) none),og 23 21 true (.mv (.t 7) none),og 24 21 true (.ia 2 (.t 22) (.t 23)),og 25 21 true (.fa 0 (.t 24)),og 26 21 true (.ld none (.t 25)),og 27 21 true (.mv (.t 1) none),og 28 21 true (.mv (.t 6) none),og 29 21 true (.ia 2 (.t 27) (.t 28)),og 30 21 true (.fa 0 (.t 29)),og 31 21 true (.ld none (.t 30)),og 32 21 true (.bi .lss 0 (.t 26) (.t 31)),oo 33 (.pk (.t 21) (.t 32) (.k (.bool false)))]) (.cd (.t 33) (.sk) (.ex 2))) (.bl 3 (rg [qM 34 7,oo 35 (.bi .add 0 (.t 34) (i6 1)),qM 7 35]))))) (.rg (some 0) [oo 36 (.bs 2 0 [] []),qM 37 5,qM 38 7,oo 39 (.sx 2 (.t 37) none (some (.t 38)) none),oo 40 (.a0 2 (.t 36) (.t 39)),qM 41 1,qM 42 6,oo 43 (.it 2 (.t 41) (.t 42)),oo 44 (.lt (some 2) (.t 43)),oo 45 (.bs 2 1 [.string ⟨#[]⟩,.int .i64 0] [(0,.t 44)]),oo 46 (.a0 2 (.t 40) (.t 45)),qM 47 5,qM 48 7,oo 49 (.sw 2 (.t 47) (some (.t 48)) none none),oo 50 (.ap 2 0 (.t 46) (.t 49)),oo 5 (.rk (.t 50))]))))
 (rg [qM 15 6,oo 16 (.bi .add 0 (.t 15) (i6 1)),qM 6 16])))))) (.sq (rg [qM 51 5,qM 4 51]) (.rt))))) }
theorem Zhg:ZE Proofs.Tryz.prog WQ Zcp=true:=by kernel_rfl
def Zcq:F2 :=
 { nt:=35,res:=[.t 4 [3]],body:=(.sq (rg [oo 2 (.bt (.t 0)),om 4 (.k (.slice none 0 0))]) (.sq (rg [oo 7 (.bs 2 0 [] []),qM 5 7]) (.sq (.sq (rg [om 6 (i6 0)]) (.bl 0 (.lp [1,2,5,6] [224,1056] (.sq (.sq (rg [qM 8 6,qF 9 5 2,qL 10 9,qN 11 10,qB 12 .lss 8 11]) (.cd (.t 12) (.sk) (.ex 0))) (.sq (.bl 1 (.rg (some 0) [qM 15 5,qF 16 5 2,qL 17 16,qM 18 6,qI 19 2 17 18,qF 20 0 19,qL 21 20,qM 22 1,qF 23 5 2,qL 24 23,qM 25 6,qI 26 2 24 25,qF 27 1 26,qL 28 27,qI 29 1 22 28,qL 30 29,oo 31 (.bd [.string ⟨#[]⟩,.int .i64 0] [(0,1,.t 21),(1,1,.t 30)] []),oo 32 (.bs 2 1 [.string ⟨#[]⟩,.int .i64 0] [(0,.t 31)]),oo 33 (.ap 2 0 (.t 15) (.t 32)),qM 5 33]))
 (rg [qM 13 6,oo 14 (.bi .add 0 (.t 13) (i6 1)),qM 6 14])))))) (.sq (rg [qM 34 5,qM 4 34]) (.rt))))) }
theorem Zhh:ZE Proofs.Tryz.prog Yr Zcq=true:=by kernel_rfl
def Zbk:F2 :=
 { nt:=17,res:=[.t 6 [0]],body:=(.sq (rg [om 6 (i6 0)]) (.sq (.sq (rg [qM 7 0,oo 8 (.bi .lss 0 (.t 7) (i6 0))]) (.cd (.t 8) (.sq (rg [qM 9 2,qM 10 0,oo 11 (.bi .sub 0 (i6 (-1)) (.t 10)),qI 12 1 9 11,qL 13 12,qM 6 13]) (.rt)) (.sk))) (.sq (rg [qM 14 0,qM 15 1,qB 16 .add 14 15,qM 6 16]) (.rt)))) }
theorem Zgl:ZE Proofs.Tryz.prog YY Zbk=true:=by kernel_rfl
def Zdr:F2 :=
 { nt:=63,res:=[.c 6 (some 6) [0,4,2,0,2,3],.t 7 [0]],body:=(.sq (rg [oo 6 (.al [.int .i64 0,.slice none 0 0,.slice none 0 0,.int .i64 0,.slice none 0 0,.slice none 0 0] []),om 7 (.k (.bool false))]) (.sq (.sq (rg [qM 12 0,oo 13 (.ca .pure false (.f JX) [.t 12]),oo 14 (.nt (.t 13)),qM 15 14,og 16 15 false (.mv (.t 1) none),og 17 15 false (.mv (.t 0) none),og 18 15 false (.ln (.t 17)),og 19 15 false (.bi .sub 0 (.t 18) (i6 1)),og 20 15 false (.ca .pure false (.f ZT) [.t 16,i6 0,.t 19]),og 21 15 false (.nt (.t 20)),oo 22 (.pk (.t 15) (.k (.bool true)) (.t 21)),qM 23 22,og 24 23 false (.mv (.t 2) none),og 25 23 false (.ln (.t 24)),og 26 23 false (.mv (.t 0) none),og 27 23 false (.mv (.t 1) none),og 28 23 false (.ia 3 (.t 26) (.t 27)),og 29 23 false (.fa 1 (.t 28)),og 30 23 false (.ld none (.t 29)),og 31 23 false (.bi .neq 0 (.t 25) (.t 30)),oo 32 (.pk (.t 23) (.k (.bool true)) (.t 31)),qM 33 32,og 34 33 false (.mv (.t 2) none),og 35 33 false (.ca .pure false (.f ZC) [.t 34,.f V7]),oo 36 (.pk (.t 33) (.k (.bool true)) (.t 35))]) (.cd (.t 36) (.sq (rg [oo 37 (.bd [.int .i64 0,.slice none 0 0,.slice none 0 0,.int .i64 0,.slice none 0 0,.slice none 0 0] [] []),on1 (.st 6 (.t 6) (.t 37)),om 7 (.k (.bool false))]) (.rt)) (.sk))) (.sq (rg [qM 38 2,oo 39 (.ca .pure true (.f YT) [.t 38]),oo 40 (.bd [.int .i64 0,.slice none 0 0,.slice none 0 0,.int .i64 0,.slice none 0 0,.slice none 0 0] [(0,1,i6 1),(4,1,.t 39)] []),oo 8 (.al [.int .i64 0,.slice none 0 0,.slice none 0 0,.int .i64 0,.slice none 0 0,.slice none 0 0] []),on1 (.st 6 (.t 8) (.t 40))]) (.sq (rg [qM 41 1,oo 42 (.bd [.int .i64 0,.int .i64 0,.slice none 0 0] [(0,1,.t 41),(1,1,i6 (-1))] [(2,1)]),oo 9 (.al [.int .i64 0,.int .i64 0,.slice none 0 0] []),on1 (.st 3 (.t 9) (.t 42))]) (.sq (.sq (rg [qM 43 2,qN 44 43,om 45 (i6 0)]) (.bl 0 (.lp [6,8,9,43,44,45] [192,256,288,1248,1344,1792,1920] (.sq (rg [qB 46 .lss 45 44]) (.sq (.cd (.t 46) (.sk) (.ex 0)) (.sq (.bl 1 (.sq (rg [qI 47 1 43 45,qL 48 47,qM 11 48]) (.rg (some 0) [qF 49 2 9,qL 50 49,qF 51 4 8,qL 52 51,qM 53 11,oo 54 (.ca .pure false (.f ZV) [.t 52,.t 53]),oo 55 (.bs 1 1 [.int .i64 0] [(0,.t 54)]),oo 56 (.ap 1 0 (.t 50) (.t 55)),qF 57 2 9,on1 (.st 1 (.t 57) (.t 56))])))
 (rg [oo 58 (.bi .add 0 (.t 45) (i6 1)),qM 45 58]))))))) (.sq (rg [qS 59 3 9,oo 60 (.bw 3 1 [.int .i64 0,.int .i64 0,.slice none 0 0] [(0,.t 59)]),qF 61 1 8,on1 (.st 1 (.t 61) (.t 60))]) (.sq (rg [qS 62 6 8,on1 (.st 6 (.t 6) (.t 62)),om 7 (.k (.bool true))]) (.rt)))))))) }
theorem Zi1:ZE Proofs.Tryz.prog XL Zdr=true:=by kernel_rfl
def Zds:F2 :=
 { nt:=86,res:=[.c 14 (some 6) [0,4,2,0,2,0]],body:=(.sq (rg [oo 7 (.bt (.t 0)),oo 8 (.bt (.t 1)),oo 13 (.bx (.t 6)),oo 14 (.al [.int .i64 0,.slice none 0 0,.slice none 0 0,.int .i64 0,.slice none 0 0,.slice none 0 0] [])]) (.sq (rg [qF 23 3 7,qL 24 23,qF 25 3 8,qL 26 25,qB 27 .add 24 26,qM 15 27]) (.sq (rg [qS 28 6 7,qM 29 15,qM 30 4,oo 31 (.ca .pure true (.f Zx) [.t 28,.t 29,.t 30,.f V8]),oo 16 (.al [.int .i64 0,.slice none 0 0,.slice none 0 0,.int .i64 0,.slice none 0 0,.slice none 0 0] []),on1 (.st 6 (.t 16) (.t 31))]) (.sq (rg [qS 32 6 8,qM 33 15,qM 34 4,oo 35 (.mf Yc [.t 7,.t 13]),oo 36 (.ca .see false (.f Zx) [.t 32,.t 33,.t 34,.t 35]),oo 17 (.al [.int .i64 0,.slice none 0 0,.slice none 0 0,.int .i64 0,.slice none 0 0,.slice none 0 0] []),on1 (.st 6 (.t 17) (.t 36))]) (.sq (.rg (some 0) [qM 37 2,qF 38 1 16,qL 39 38,qM 40 3,oo 41 (.ca .pure true (.f ZU) [.t 40]),qM 42 15,qF 43 4 16,qL 44 43,qF 45 5 17,qL 46 45,oo 47 (.bd [.int .i64 0,.slice none 0 0,.slice none 0 0,.int .i64 0,.slice none 0 0,.slice none 0 0] [(0,1,.t 37),(1,1,.t 39),(2,1,.t 41),(3,1,.t 42),(4,1,.t 44),(5,1,.t 46)] []),oo 18 (.al [.int .i64 0,.slice none 0 0,.slice none 0 0,.int .i64 0,.slice none 0 0,.slice none 0 0] []),on1 (.st 6 (.t 18) (.t 47))]) (.sq (.sq (rg [qF 48 1 17,qL 49 48,qN 50 49,om 51 (i6 0)]) (.bl 0 (.lp [5,7,8,14,18,49,50,51] [448,512,544,576,992,993,994,995,1312,2080,2624] (.sq (rg [qB 52 .lss 51 50]) (.sq (.cd (.t 52) (.sk) (.ex 0)) (.sq (.bl 1 (.sq (rg [qI 53 3 49 51,qS 54 3 53,oo 20 (.al [.int .i64 0,.int .i64 0,.slice none 0 0] []),on1 (.st 3 (.t 20) (.t 54))]) (.sq (rg [qS 55 6 7,qF 56 1 20,qL 57 56,qM 58 5,oo 59 (.ca .pure false (.f Wo) [.t 55,.t 57,.t 58]),qF 60 1 20,on1 (.st 1 (.t 60) (.t 59))])
 (rg [qF 61 1 18,qL 62 61,qS 63 3 20,oo 64 (.bw 3 1 [.int .i64 0,.int .i64 0,.slice none 0 0] [(0,.t 63)]),oo 65 (.ap 3 2 (.t 62) (.t 64)),qF 66 1 18,on1 (.st 1 (.t 66) (.t 65))]))))
 (rg [oo 67 (.bi .add 0 (.t 51) (i6 1)),qM 51 67]))))))) (.sq (.sq (rg [qF 68 2 8,qL 69 68,qN 70 69,om 71 (i6 0)]) (.bl 2 (.lp [5,7,14,18,69,70,71] [448,512,544,576,992,993,994,995,1312,2080,2624] (.sq (rg [qB 72 .lss 71 70]) (.sq (.cd (.t 72) (.sk) (.ex 2)) (.sq (.bl 3 (.sq (rg [qI 73 1 69 71,qL 74 73,qM 22 74]) (.rg (some 0) [qF 75 2 18,qL 76 75,qS 77 6 7,qM 78 22,qM 79 5,oo 80 (.ca .pure false (.f Wo) [.t 77,.t 78,.t 79]),oo 81 (.bs 1 1 [.int .i64 0] [(0,.t 80)]),oo 82 (.ap 1 0 (.t 76) (.t 81)),qF 83 2 18,on1 (.st 1 (.t 83) (.t 82))])))
 (rg [oo 84 (.bi .add 0 (.t 71) (i6 1)),qM 71 84]))))))) (.sq (rg [qS 85 6 18,on1 (.st 6 (.t 14) (.t 85))]) (.rt))))))))) }
theorem Zi2:ZE Proofs.Tryz.prog VN Zds=true:=by kernel_rfl
def Vq:F2 :=
 { nt:=36,res:=[.t 2 [2]],body:=(.sq (rg [om 2 (.k (.slice none 0 0))]) (.sq (rg [om 3 (i6 0)]) (.sq (.sq (rg [qM 9 0,qN 10 9,om 11 (i6 0)]) (.bl 0 (.lp [0,3,9,10,11] [] (.sq (rg [qB 12 .lss 11 10]) (.sq (.cd (.t 12) (.sk) (.ex 0)) (.sq (.bl 1 (.sq (rg [qI 13 1 9 11,qL 14 13,qM 5 14]) (.sq (rg [qM 15 3,qM 16 5,qN 17 16,qB 18 .add 15 17,qM 3 18]) (.sq (rg [qM 19 3,oo 20 (.bi .lss 0 (.t 19) (i6 0))]) (.cd (.t 20) (rg [oo 21 (.xx),on1 (.xx)]) (.sk))))))
 (rg [oo 22 (.bi .add 0 (.t 11) (i6 1)),qM 11 22]))))))) (.sq (rg [qM 23 3,oo 24 (.ca .keep true (.f JT) [.k (.slice none 0 0),.t 23]),qM 6 24]) (.sq (.sq (rg [qM 25 0,qN 26 25,om 27 (i6 0)]) (.bl 2 (.lp [6,25,26,27] [768,1056] (.sq (rg [qB 28 .lss 27 26]) (.sq (.cd (.t 28) (.sk) (.ex 2)) (.sq (.bl 3 (.sq (rg [qI 29 1 25 27,qL 30 29,qM 8 30])
 (rg [qM 31 6,qM 32 8,oo 33 (.ap 1 0 (.t 31) (.t 32)),qM 6 33])))
 (rg [oo 34 (.bi .add 0 (.t 27) (i6 1)),qM 27 34]))))))) (.sq (rg [qM 35 6,qM 2 35]) (.rt))))))) }
theorem WV:ZE Proofs.Tryz.prog Z9 Vq=true:=by kernel_rfl
def Wz:F2 :=
 { nt:=10,res:=[.t 3 [0]],body:=(.sq (rg [om 3 (i6 0)]) (.sq (rg [qF 4 2 1,qL 5 4,qM 6 0,oo 7 (.bi .sub 0 (i6 (-1)) (.t 6)),qI 8 1 5 7,qL 9 8,qM 3 9]) (.rt))) }
theorem Zbl:ZE Proofs.Tryz.prog J1 Wz=true:=by kernel_rfl
def Zdt:F2 :=
 { nt:=5,res:=[.c 2 (some 2) [0,0]],body:=(.sq (rg [oo 2 (.al [.int .i64 0,.string ⟨#[]⟩] [])]) (.sq (rg [qM 3 0,oo 4 (.bd [.int .i64 0,.string ⟨#[]⟩] [(1,1,.t 3)] []),on1 (.st 2 (.t 2) (.t 4))]) (.rt))) }
theorem Zi3:ZE Proofs.Tryz.prog YZ Zdt=true:=by kernel_rfl
def UF:F2 :=
 { nt:=7,res:=[.t 3 [0]],body:=(.sq (rg [om 3 (.k (.bool false))]) (.sq (rg [qL 4 1,qM 5 0,oo 6 (.ca .pure false (.f ZL) [.t 4,.t 5]),qM 3 6]) (.rt))) }
theorem ZcB:ZE Proofs.Tryz.prog Yy UF=true:=by kernel_rfl
def DJ:F2 :=
 { nt:=8,res:=[.t 3 [0]],body:=(.sq (rg [om 3 (i6 0)]) (.sq (rg [qM 4 0,qF 5 0 1,qL 6 5,qB 7 .sub 4 6,qM 3 7]) (.rt))) }
theorem Zej:ZE Proofs.Tryz.prog Vd DJ=true:=by kernel_rfl
def DK:F2 :=
 { nt:=4,res:=[.c 2 (some 2) [0,0]],body:=(.sq (rg [oo 1 (.bt (.t 0)),oo 2 (.al [.int .i64 0,.string ⟨#[]⟩] [])]) (.sq (rg [qS 3 2 1,on1 (.st 2 (.t 2) (.t 3))]) (.rt))) }
theorem Zek:ZE Proofs.Tryz.prog Ve DK=true:=by kernel_rfl
def JY:F2 :=
 { nt:=14,res:=[],body:=(.sq (rg [qM 5 0,qN 6 5,qM 4 6])
 (rg [qM 7 0,qM 8 4,qM 9 4,oo 10 (.cv (.int .u64) (.t 9)),oo 11 (.ca .pure false (.f YX) [.t 10]),qM 12 1,oo 13 (.ca .any false (.f ZI) [.t 7,i6 0,.t 8,.t 11,.t 12])])) }
theorem Ql:ZE Proofs.Tryz.prog ZM JY=true:=by kernel_rfl
def U5:F2 :=
 { nt:=9,res:=[.t 4 [2]],body:=(.sq (rg [oo 3 (.bt (.t 1)),om 4 (.k (.slice none 0 0))]) (.sq (rg [qM 5 0,oo 6 (.ca .pure true (.f ZJ) [.t 5]),oo 7 (.mf Ym [.t 3]),oo 8 (.ca .any false (.f Jm) [.t 6,.t 7]),qM 4 8]) (.rt))) }
theorem Zdu:ZE Proofs.Tryz.prog Qi U5=true:=by kernel_rfl
def VS:F2 :=
 { nt:=13,res:=[.c 4 (some 2) [0,0]],body:=(.sq (rg [oo 3 (.bt (.t 0)),oo 4 (.al [.int .i64 0,.string ⟨#[]⟩] [])]) (.sq (.sq (rg [qF 5 1 3,qL 6 5,qL 7 1,qB 8 .eql 6 7]) (.cd (.t 8) (.sq (rg [qF 9 3 2,qL 10 9,oo 11 (.bd [.int .i64 0,.string ⟨#[]⟩] [(0,1,.t 10)] []),on1 (.st 2 (.t 4) (.t 11))]) (.rt)) (.sk))) (.sq (rg [qS 12 2 3,on1 (.st 2 (.t 4) (.t 12))]) (.rt)))) }
theorem UG:ZE Proofs.Tryz.prog Ji VS=true:=by kernel_rfl
def U6:F2 :=
 { nt:=10,res:=[.t 2 [2]],body:=(.sq (rg [om 2 (.k (.slice none 0 0))]) (.sq (rg [qM 4 0,oo 5 (.ca .pure true (.f ZJ) [.t 4]),qM 3 5]) (.sq (rg [qM 6 3,oo 7 (.ca .any false (.f ZX) [.t 6])]) (.sq (rg [qM 8 3,oo 9 (.ca .any false (.f JD) [.t 8]),qM 2 9]) (.rt))))) }
theorem Zdv:ZE Proofs.Tryz.prog YT U6=true:=by kernel_rfl
def QD:F2 :=
 { nt:=25,res:=[.t 6 [0]],body:=(.sq (rg [om 6 (i6 0)]) (.sq (.rg (some 0) [qL 8 1,qS 9 6 2,qM 10 0,oo 11 (.ca .pure false (.f Vz) [.t 9,.t 10]),oo 12 (.ca .see false (.t 8) [.t 11]),oo 7 (.al [.int .i64 0,.string ⟨#[]⟩] []),on1 (.st 2 (.t 7) (.t 12))]) (.sq (.sq (rg [qF 13 1 7,qL 14 13,oo 15 (.bi .eql 0 (.t 14) (.k (.string ⟨#[]⟩)))]) (.cd (.t 15) (.sq (rg [qF 16 0 7,qL 17 16,qM 6 17]) (.rt)) (.sk))) (.sq (.rg (some 0) [qL 18 3,qF 19 4 4,qL 20 19,qF 21 1 7,qL 22 21,oo 23 (.ca .pure false (.f ZV) [.t 20,.t 22]),qB 24 .add 18 23,qM 6 24]) (.rt))))) }
theorem Dq:ZE Proofs.Tryz.prog Jx QD=true:=by kernel_rfl
def WZ:F2 :=
 { nt:=20,res:=[.c 4 (some 2) [0,0]],body:=(.sq (rg [oo 2 (.bt (.t 0)),oo 4 (.al [.int .i64 0,.string ⟨#[]⟩] [])]) (.sq (.sq (rg [qM 5 1,qF 6 3 2,qL 7 6,qB 8 .lss 5 7]) (.cd (.t 8) (.sq (rg [qM 9 1,oo 10 (.bd [.int .i64 0,.string ⟨#[]⟩] [(0,1,.t 9)] []),on1 (.st 2 (.t 4) (.t 10))]) (.rt)) (.sk))) (.sq (rg [qF 11 4 2,qL 12 11,qM 13 1,qF 14 3 2,qL 15 14,qB 16 .sub 13 15,qI 17 1 12 16,qL 18 17,oo 19 (.bd [.int .i64 0,.string ⟨#[]⟩] [(1,1,.t 18)] []),on1 (.st 2 (.t 4) (.t 19))]) (.rt)))) }
theorem ZbX:ZE Proofs.Tryz.prog Vz WZ=true:=by kernel_rfl
def Zbm:F2 :=
 { nt:=6,res:=[.t 2 [0]],body:=(.sq (rg [om 2 (.k (.bool false))]) (.sq (rg [qM 3 0,oo 4 (.ca .pure false (.f Yi) [.t 3]),oo 5 (.nt (.t 4)),qM 2 5]) (.rt))) }
theorem Zgm:ZE Proofs.Tryz.prog V7 Zbm=true:=by kernel_rfl
def Zbn:F2 :=
 { nt:=4,res:=[.c 2 (some 2) [0,0]],body:=(.sq (rg [oo 1 (.bt (.t 0)),oo 2 (.al [.int .i64 0,.string ⟨#[]⟩] [])]) (.sq (rg [qS 3 2 1,on1 (.st 2 (.t 2) (.t 3))]) (.rt))) }
theorem Zgn:ZE Proofs.Tryz.prog V8 Zbn=true:=by kernel_rfl
def Zbo:F2 :=
 { nt:=18,res:=[.c 4 (some 2) [0,0]],body:=(.sq (rg [oo 3 (.bt (.t 0)),oo 4 (.al [.int .i64 0,.string ⟨#[]⟩] [])]) (.sq (.sq (rg [qF 5 1 3,qL 6 5,oo 7 (.bi .eql 0 (.t 6) (.k (.string ⟨#[]⟩)))]) (.cd (.t 7) (.sq (rg [qF 8 0 3,qL 9 8,qF 10 3 1,qL 11 10,qB 12 .add 9 11,oo 13 (.bd [.int .i64 0,.string ⟨#[]⟩] [(0,1,.t 12)] []),on1 (.st 2 (.t 4) (.t 13))]) (.rt)) (.sk))) (.sq (rg [qL 14 2,qF 15 1 3,qL 16 15,oo 17 (.ca .pure false (.t 14) [.t 16]),on1 (.st 2 (.t 4) (.t 17))]) (.rt)))) }
theorem Zgo:ZE Proofs.Tryz.prog Yc Zbo=true:=by kernel_rfl
def Ze3:F2 :=
 { nt:=17,res:=[.t 6 [0]],body:=(.sq (rg [oo 3 (.bt (.t 0)),om 6 (i6 0)]) (.sq (.sq (rg [qM 7 1,oo 8 (.bi .geq 0 (.t 7) (i6 0))]) (.cd (.t 8) (.sq (rg [qM 9 1,qF 10 1 3,qL 11 10,qN 12 11,qB 13 .add 9 12,qM 6 13]) (.rt)) (.sk))) (.sq (rg [qM 14 2,qM 15 1,oo 16 (.ca .pure false (.t 14) [.t 15]),qM 6 16]) (.rt)))) }
theorem Zkl:ZE Proofs.Tryz.prog Wo Ze3=true:=by kernel_rfl
def VT:F2 :=
 { nt:=27,res:=[.t 4 [2]],body:=(.sq (rg [om 4 (.k (.slice none 0 0))]) (.sq (.sq (rg [qM 5 1,oo 6 (.bi .lss 0 (.t 5) (i6 0))]) (.cd (.t 6) (rg [oo 7 (.xx),on1 (.xx)]) (.sk))) (.sq (.sq (rg [qM 8 1,qM 9 0,oo 10 (.cp (.t 9)),qM 11 0,qN 12 11,qB 13 .sub 10 12,qB 14 .sub 8 13,qM 1 14]) (.sq (rg [qM 15 1,oo 16 (.bi .gtr 0 (.t 15) (i6 0))]) (.cd (.t 16) (rg [qM 17 0,qM 18 0,oo 19 (.cp (.t 18)),oo 20 (.sh 1 (.t 17) (.t 19)),qM 21 1,oo 22 (.az 1 [.string ⟨#[]⟩] (.t 20) (.t 21)),qM 23 0,qN 24 23,oo 25 (.sh 1 (.t 22) (.t 24)),qM 0 25]) (.sk)))) (.sq (rg [qM 26 0,qM 4 26]) (.rt))))) }
theorem UH:ZE Proofs.Tryz.prog JT VT=true:=by kernel_rfl
def YC:F2 :=
 { nt:=148,res:=[],body:=(.sq (rg [om 10 (.k (.bool true))]) (.sq (rg [om 11 (.k (.bool true))]) (.bl 0 (.lp [0,1,2,3,4,10,11] [] (.bl 1 (.sq (rg [qM 21 2,qM 22 1,qB 23 .sub 21 22,qM 12 23]) (.sq (.sq (rg [qM 24 12,oo 25 (.bi .leq 0 (.t 24) (i6 12))]) (.cd (.t 25) (.sq (rg [qM 26 0,qM 27 1,qM 28 2,qM 29 4,oo 30 (.ca .any false (.f Z2) [.t 26,.t 27,.t 28,.t 29])]) (.rt)) (.sk))) (.sq (.sq (rg [qM 31 3,oo 32 (.bi .eql 0 (.t 31) (i6 0))]) (.cd (.t 32) (.sq (rg [qM 33 0,qM 34 1,qM 35 2,qM 36 4,oo 37 (.ca .any false (.f Qw) [.t 33,.t 34,.t 35,.t 36])]) (.rt)) (.sk))) (.sq (.sq (rg [qM 38 10,oo 39 (.nt (.t 38))]) (.cd (.t 39) (.sq (rg [qM 40 0,qM 41 1,qM 42 2,qM 43 4,oo 44 (.ca .any false (.f VA) [.t 40,.t 41,.t 42,.t 43])])
 (rg [qM 45 3,oo 46 (.bi .sub 0 (.t 45) (i6 1)),qM 3 46])) (.sk))) (.sq (rg [qM 48 0,qM 49 1,qM 50 2,qM 51 4,oo 52 (.ca .pure false (.f VO) [.t 48,.t 49,.t 50,.t 51]),qM 47 52,qE 53 0 47,qE 54 1 47,qM 13 53,qM 14 54]) (.sq (.sq (rg [qM 55 14,oo 56 (.bi .eql 0 (.t 55) (i6 2))]) (.cd (.t 56) (.sq (rg [qM 57 0,qM 58 1,qM 59 2,qM 60 4,oo 61 (.ca .any false (.f VH) [.t 57,.t 58,.t 59,.t 60])]) (.sq (rg [qM 62 2,oo 63 (.bi .sub 0 (.t 62) (i6 1)),qM 64 13,qM 65 1,qB 66 .sub 64 65,qB 67 .sub 63 66,qM 13 67])
 (rg [om 14 (i6 1)]))) (.sk))) (.sq (.sq (rg [qM 68 10,qM 69 68,og 70 69 true (.mv (.t 11) none),oo 71 (.pk (.t 69) (.t 70) (.k (.bool false))),qM 72 71,og 73 72 true (.mv (.t 14) none),og 74 72 true (.bi .eql 0 (.t 73) (i6 1)),oo 75 (.pk (.t 72) (.t 74) (.k (.bool false)))]) (.cd (.t 75) (.sq (rg [qM 76 0,qM 77 1,qM 78 2,qM 79 4,oo 80 (.ca .any false (.f Yz) [.t 76,.t 77,.t 78,.t 79])]) (.cd (.t 80) (.rt) (.sk))) (.sk))) (.sq (.sq (.rg (some 0) [qM 81 1,oo 82 (.bi .gtr 0 (.t 81) (i6 0)),qM 83 82,og 84 83 true (.mv (.t 4) none),og 85 83 true (.mv (.t 0) none),og 86 83 true (.mv (.t 1) none),og 87 83 true (.bi .sub 0 (.t 86) (i6 1)),og 88 83 true (.ia 2 (.t 85) (.t 87)),og 89 83 true (.ld (some 2) (.t 88)),og 90 83 true (.mv (.t 0) none),og 91 83 true (.mv (.t 13) none),og 92 83 true (.ia 2 (.t 90) (.t 91)),og 93 83 true (.ld (some 2) (.t 92)),og 94 83 true (.ca .pure false (.t 84) [.t 89,.t 93]),og 95 83 true (.bi .lss 0 (.t 94) (i6 0)),og 96 83 true (.nt (.t 95)),oo 97 (.pk (.t 83) (.t 96) (.k (.bool false)))]) (.cd (.t 97) (.sq (rg [qM 98 0,qM 99 1,qM 100 2,qM 101 13,qM 102 4,oo 103 (.ca .any false (.f Vp) [.t 98,.t 99,.t 100,.t 101,.t 102]),qM 15 103]) (.sq (rg [qM 104 15,qM 1 104]) (.ex 1))) (.sk))) (.sq (rg [qM 106 0,qM 107 1,qM 108 2,qM 109 13,qM 110 4,oo 111 (.ca .any false (.f Qj) [.t 106,.t 107,.t 108,.t 109,.t 110]),qM 105 111,qE 112 0 105,qE 113 1 105,qM 16 112,qM 17 113]) (.sq (rg [qM 114 17,qM 11 114]) (.sq (rg [qM 115 16,qM 116 1,qB 117 .sub 115 116,qM 118 2,qM 119 16,qB 120 .sub 118 119,qM 18 117,qM 19 120]) (.sq (rg [qM 121 12,oo 122 (.bi .quo 0 (.t 121) (i6 8)),qM 20 122]) (.sq (rg [qM 123 18,qM 124 19,qB 125 .lss 123 124]) (.cd (.t 125) (.sq (rg [qM 126 18,qM 127 20,qB 128 .geq 126 127,qM 10 128]) (.sq (rg [qM 129 0,qM 130 1,qM 131 16,qM 132 3,qM 133 4,oo 134 (.ca .any false (.f ZI) [.t 129,.t 130,.t 131,.t 132,.t 133])])
 (rg [qM 135 16,oo 136 (.bi .add 0 (.t 135) (i6 1)),qM 1 136]))) (.sq (rg [qM 137 19,qM 138 20,qB 139 .geq 137 138,qM 10 139]) (.sq (rg [qM 140 0,qM 141 16,oo 142 (.bi .add 0 (.t 141) (i6 1)),qM 143 2,qM 144 3,qM 145 4,oo 146 (.ca .any false (.f ZI) [.t 140,.t 142,.t 143,.t 144,.t 145])])
 (rg [qM 147 16,qM 2 147])))))))))))))))))))))) }
theorem XV:ZE Proofs.Tryz.prog ZI YC=true:=by kernel_rfl
def Jy:F2 :=
 { nt:=42,res:=[.t 4 [2]],body:=(.sq (rg [om 4 (.k (.slice none 0 0))]) (.sq (rg [qM 8 0,qM 9 1,oo 10 (.ca .pure false (.f ZY) [.t 8,.t 9]),qM 5 10]) (.sq (.sq (rg [qM 11 5,oo 12 (.bi .eql 0 (.t 11) (i6 (-1)))]) (.cd (.t 12) (.sq (rg [qM 13 0,qM 4 13]) (.rt)) (.sk))) (.sq (.sq (rg [qM 14 5,oo 15 (.bi .add 0 (.t 14) (i6 1)),qM 6 15]) (.bl 0 (.lp [0,1,5,6] [] (.sq (.sq (rg [qM 16 6,qM 17 0,qN 18 17,qB 19 .lss 16 18]) (.cd (.t 19) (.sk) (.ex 0))) (.sq (.bl 1 (.sq (rg [qM 22 0,qM 23 6,qI 24 1 22 23,qL 25 24,qM 7 25]) (.sq (rg [qM 26 1,qM 27 7,oo 28 (.ca .pure false (.t 26) [.t 27]),oo 29 (.nt (.t 28))]) (.cd (.t 29) (.sq (rg [qM 30 0,qM 31 5,qM 32 7,qI 33 1 30 31,on1 (.st 1 (.t 33) (.t 32))])
 (rg [qM 34 5,oo 35 (.bi .add 0 (.t 34) (i6 1)),qM 5 35])) (.sk)))))
 (rg [qM 20 6,oo 21 (.bi .add 0 (.t 20) (i6 1)),qM 6 21])))))) (.sq (rg [qM 36 0,qM 37 5,oo 38 (.sx 1 (.t 36) (some (.t 37)) none none),on1 (.cl 1 [.string ⟨#[]⟩] (.t 38))]) (.sq (rg [qM 39 0,qM 40 5,oo 41 (.sx 1 (.t 39) none (some (.t 40)) none),qM 4 41]) (.rt))))))) }
theorem YD:ZE Proofs.Tryz.prog Jm Jy=true:=by kernel_rfl
def W0:F2 :=
 { nt:=7,res:=[.t 3 [0]],body:=(.sq (rg [om 3 (.k (.bool false))]) (.sq (rg [qM 4 0,qL 5 1,qB 6 .eql 4 5,qM 3 6]) (.rt))) }
theorem ZbY:ZE Proofs.Tryz.prog Ym W0=true:=by kernel_rfl
def VU:F2 :=
 { nt:=11,res:=[],body:=(.sq (rg [qM 3 0,qN 4 3,qM 2 4])
 (rg [qM 5 0,qM 6 2,qM 7 2,oo 8 (.cv (.int .u64) (.t 7)),oo 9 (.ca .pure false (.f YX) [.t 8]),oo 10 (.ca .any false (.f ZP) [.t 5,i6 0,.t 6,.t 9])])) }
theorem UI:ZE Proofs.Tryz.prog ZX VU=true:=by kernel_rfl
def JL:F2 :=
 { nt:=61,res:=[.t 2 [2]],body:=(.sq (rg [om 2 (.k (.slice none 0 0))]) (.sq (.sq (rg [qM 6 0,qN 7 6,oo 8 (.bi .lss 0 (.t 7) (i6 2))]) (.cd (.t 8) (.sq (rg [qM 9 0,qM 2 9]) (.rt)) (.sk))) (.sq (.sq (rg [om 3 (i6 1)]) (.bl 0 (.lp [0,3] [] (.sq (.sq (rg [qM 10 3,qM 11 0,qN 12 11,qB 13 .lss 10 12]) (.cd (.t 13) (.sk) (.ex 0))) (.sq (.bl 1 (.sq (.rg (some 0) [qM 16 0,qM 17 3,qI 18 1 16 17,qL 19 18,qM 20 0,qM 21 3,oo 22 (.bi .sub 0 (.t 21) (i6 1)),qI 23 1 20 22,qL 24 23,qB 25 .eql 19 24]) (.cd (.t 25) (.sq (rg [qM 26 0,qM 27 3,oo 28 (.sx 1 (.t 26) (some (.t 27)) none none),qM 4 28]) (.sq (.sq (rg [om 5 (i6 1)]) (.bl 2 (.lp [0,3,4,5] [] (.sq (.sq (rg [qM 29 5,qM 30 4,qN 31 30,qB 32 .lss 29 31]) (.cd (.t 32) (.sk) (.ex 2))) (.sq (.bl 3 (.sq (.rg (some 0) [qM 35 4,qM 36 5,qI 37 1 35 36,qL 38 37,qM 39 4,qM 40 5,oo 41 (.bi .sub 0 (.t 40) (i6 1)),qI 42 1 39 41,qL 43 42,qB 44 .neq 38 43]) (.cd (.t 44) (.sq (rg [qM 45 0,qM 46 3,qM 47 4,qM 48 5,qI 49 1 47 48,qL 50 49,qI 51 1 45 46,on1 (.st 1 (.t 51) (.t 50))])
 (rg [qM 52 3,oo 53 (.bi .add 0 (.t 52) (i6 1)),qM 3 53])) (.sk))))
 (rg [qM 33 5,oo 34 (.bi .add 0 (.t 33) (i6 1)),qM 5 34])))))) (.sq (rg [qM 54 0,qM 55 3,oo 56 (.sx 1 (.t 54) (some (.t 55)) none none),on1 (.cl 1 [.string ⟨#[]⟩] (.t 56))]) (.sq (rg [qM 57 0,qM 58 3,oo 59 (.sx 1 (.t 57) none (some (.t 58)) none),qM 2 59]) (.rt))))) (.sk))))
 (rg [qM 14 3,oo 15 (.bi .add 0 (.t 14) (i6 1)),qM 3 15])))))) (.sq (rg [qM 60 0,qM 2 60]) (.rt))))) }
theorem Y5:ZE Proofs.Tryz.prog JD JL=true:=by kernel_rfl
def JM:F2 :=
 { nt:=53,res:=[],body:=(.sq (rg [qM 10 1,oo 11 (.bi .add 0 (.t 10) (i6 1)),qM 8 11]) (.bl 0 (.lp [0,1,2,3,8] [] (.sq (.sq (rg [qM 12 8,qM 13 2,qB 14 .lss 12 13]) (.cd (.t 14) (.sk) (.ex 0))) (.sq (.bl 1 (.sq (rg [qM 17 8,qM 9 17]) (.bl 2 (.lp [0,1,2,3,8,9] [] (.sq (.sq (.rg (some 0) [qM 18 9,qM 19 1,qB 20 .gtr 18 19,qM 21 20,og 22 21 true (.mv (.t 3) none),og 23 21 true (.mv (.t 0) none),og 24 21 true (.mv (.t 9) none),og 25 21 true (.ia 2 (.t 23) (.t 24)),og 26 21 true (.ld (some 2) (.t 25)),og 27 21 true (.mv (.t 0) none),og 28 21 true (.mv (.t 9) none),og 29 21 true (.bi .sub 0 (.t 28) (i6 1)),og 30 21 true (.ia 2 (.t 27) (.t 29)),og 31 21 true (.ld (some 2) (.t 30)),og 32 21 true (.ca .pure false (.t 22) [.t 26,.t 31]),og 33 21 true (.bi .lss 0 (.t 32) (i6 0)),oo 34 (.pk (.t 21) (.t 33) (.k (.bool false)))]) (.cd (.t 34) (.sk) (.ex 2))) (.sq (.bl 3 (.rg (some 0) [qM 37 0,qM 38 9,qM 39 0,qM 40 9,oo 41 (.bi .sub 0 (.t 40) (i6 1)),qM 42 0,qM 43 9,oo 44 (.bi .sub 0 (.t 43) (i6 1)),qI 45 2 42 44,qS 46 2 45,qM 47 0,qM 48 9,qI 49 2 47 48,qS 50 2 49,qI 51 2 37 38,on1 (.s0 2 (.t 51) (.t 46)),qI 52 2 39 41,on1 (.st 2 (.t 52) (.t 50))]))
 (rg [qM 35 9,oo 36 (.bi .sub 0 (.t 35) (i6 1)),qM 9 36])))))))
 (rg [qM 15 8,oo 16 (.bi .add 0 (.t 15) (i6 1)),qM 8 16])))))) }
theorem VV:ZE Proofs.Tryz.prog Z2 JM=true:=by kernel_rfl
def Y6:F2 :=
 { nt:=134,res:=[],body:=(.sq (rg [om 8 (.k (.bool true))]) (.sq (rg [om 9 (.k (.bool true))]) (.bl 0 (.lp [0,1,2,3,8,9] [] (.bl 1 (.sq (rg [qM 19 2,qM 20 1,qB 21 .sub 19 20,qM 10 21]) (.sq (.sq (rg [qM 22 10,oo 23 (.bi .leq 0 (.t 22) (i6 12))]) (.cd (.t 23) (.sq (rg [qM 24 0,qM 25 1,qM 26 2,oo 27 (.ca .any false (.f Ja) [.t 24,.t 25,.t 26])]) (.rt)) (.sk))) (.sq (.sq (rg [qM 28 3,oo 29 (.bi .eql 0 (.t 28) (i6 0))]) (.cd (.t 29) (.sq (rg [qM 30 0,qM 31 1,qM 32 2,oo 33 (.ca .pure false (.f XM) [.t 30,.t 31,.t 32])]) (.rt)) (.sk))) (.sq (.sq (rg [qM 34 8,oo 35 (.nt (.t 34))]) (.cd (.t 35) (.sq (rg [qM 36 0,qM 37 1,qM 38 2,oo 39 (.ca .pure false (.f V9) [.t 36,.t 37,.t 38])])
 (rg [qM 40 3,oo 41 (.bi .sub 0 (.t 40) (i6 1)),qM 3 41])) (.sk))) (.sq (rg [qM 43 0,qM 44 1,qM 45 2,oo 46 (.ca .pure false (.f Qx) [.t 43,.t 44,.t 45]),qM 42 46,qE 47 0 42,qE 48 1 42,qM 11 47,qM 12 48]) (.sq (.sq (rg [qM 49 12,oo 50 (.bi .eql 0 (.t 49) (i6 2))]) (.cd (.t 50) (.sq (rg [qM 51 0,qM 52 1,qM 53 2,oo 54 (.ca .pure false (.f Qk) [.t 51,.t 52,.t 53])]) (.sq (rg [qM 55 2,oo 56 (.bi .sub 0 (.t 55) (i6 1)),qM 57 11,qM 58 1,qB 59 .sub 57 58,qB 60 .sub 56 59,qM 11 60])
 (rg [om 12 (i6 1)]))) (.sk))) (.sq (.sq (rg [qM 61 8,qM 62 61,og 63 62 true (.mv (.t 9) none),oo 64 (.pk (.t 62) (.t 63) (.k (.bool false))),qM 65 64,og 66 65 true (.mv (.t 12) none),og 67 65 true (.bi .eql 0 (.t 66) (i6 1)),oo 68 (.pk (.t 65) (.t 67) (.k (.bool false)))]) (.cd (.t 68) (.sq (rg [qM 69 0,qM 70 1,qM 71 2,oo 72 (.ca .pure false (.f Y0) [.t 69,.t 70,.t 71])]) (.cd (.t 72) (.rt) (.sk))) (.sk))) (.sq (.sq (.rg (some 0) [qM 73 1,oo 74 (.bi .gtr 0 (.t 73) (i6 0)),qM 75 74,og 76 75 true (.mv (.t 0) none),og 77 75 true (.mv (.t 1) none),og 78 75 true (.bi .sub 0 (.t 77) (i6 1)),og 79 75 true (.ia 1 (.t 76) (.t 78)),og 80 75 true (.ld none (.t 79)),og 81 75 true (.mv (.t 0) none),og 82 75 true (.mv (.t 11) none),og 83 75 true (.ia 1 (.t 81) (.t 82)),og 84 75 true (.ld none (.t 83)),og 85 75 true (.ca .pure false (.f Vf) [.t 80,.t 84]),og 86 75 true (.nt (.t 85)),oo 87 (.pk (.t 75) (.t 86) (.k (.bool false)))]) (.cd (.t 87) (.sq (rg [qM 88 0,qM 89 1,qM 90 2,qM 91 11,oo 92 (.ca .pure false (.f VP) [.t 88,.t 89,.t 90,.t 91]),qM 13 92]) (.sq (rg [qM 93 13,qM 1 93]) (.ex 1))) (.sk))) (.sq (rg [qM 95 0,qM 96 1,qM 97 2,qM 98 11,oo 99 (.ca .pure false (.f Xf) [.t 95,.t 96,.t 97,.t 98]),qM 94 99,qE 100 0 94,qE 101 1 94,qM 14 100,qM 15 101]) (.sq (rg [qM 102 15,qM 9 102]) (.sq (rg [qM 103 14,qM 104 1,qB 105 .sub 103 104,qM 106 2,qM 107 14,qB 108 .sub 106 107,qM 16 105,qM 17 108]) (.sq (rg [qM 109 10,oo 110 (.bi .quo 0 (.t 109) (i6 8)),qM 18 110]) (.sq (rg [qM 111 16,qM 112 17,qB 113 .lss 111 112]) (.cd (.t 113) (.sq (rg [qM 114 16,qM 115 18,qB 116 .geq 114 115,qM 8 116]) (.sq (rg [qM 117 0,qM 118 1,qM 119 14,qM 120 3,oo 121 (.ca .any false (.f ZP) [.t 117,.t 118,.t 119,.t 120])])
 (rg [qM 122 14,oo 123 (.bi .add 0 (.t 122) (i6 1)),qM 1 123]))) (.sq (rg [qM 124 17,qM 125 18,qB 126 .geq 124 125,qM 8 126]) (.sq (rg [qM 127 0,qM 128 14,oo 129 (.bi .add 0 (.t 128) (i6 1)),qM 130 2,qM 131 3,oo 132 (.ca .any false (.f ZP) [.t 127,.t 129,.t 130,.t 131])])
 (rg [qM 133 14,qM 2 133])))))))))))))))))))))) }
theorem WA:ZE Proofs.Tryz.prog ZP Y6=true:=by kernel_rfl
def J6:F2 :=
 { nt:=49,res:=[],body:=(.sq (rg [qM 8 1,oo 9 (.bi .add 0 (.t 8) (i6 1)),qM 6 9]) (.bl 0 (.lp [0,1,2,6] [] (.sq (.sq (rg [qM 10 6,qM 11 2,qB 12 .lss 10 11]) (.cd (.t 12) (.sk) (.ex 0))) (.sq (.bl 1 (.sq (rg [qM 15 6,qM 7 15]) (.bl 2 (.lp [0,1,2,6,7] [] (.sq (.sq (.rg (some 0) [qM 16 7,qM 17 1,qB 18 .gtr 16 17,qM 19 18,og 20 19 true (.mv (.t 0) none),og 21 19 true (.mv (.t 7) none),og 22 19 true (.ia 1 (.t 20) (.t 21)),og 23 19 true (.ld none (.t 22)),og 24 19 true (.mv (.t 0) none),og 25 19 true (.mv (.t 7) none),og 26 19 true (.bi .sub 0 (.t 25) (i6 1)),og 27 19 true (.ia 1 (.t 24) (.t 26)),og 28 19 true (.ld none (.t 27)),og 29 19 true (.ca .pure false (.f Vf) [.t 23,.t 28]),oo 30 (.pk (.t 19) (.t 29) (.k (.bool false)))]) (.cd (.t 30) (.sk) (.ex 2))) (.sq (.bl 3 (.rg (some 0) [qM 33 0,qM 34 7,qM 35 0,qM 36 7,oo 37 (.bi .sub 0 (.t 36) (i6 1)),qM 38 0,qM 39 7,oo 40 (.bi .sub 0 (.t 39) (i6 1)),qI 41 1 38 40,qL 42 41,qM 43 0,qM 44 7,qI 45 1 43 44,qL 46 45,qI 47 1 33 34,on1 (.s0 1 (.t 47) (.t 42)),qI 48 1 35 37,on1 (.st 1 (.t 48) (.t 46))]))
 (rg [qM 31 7,oo 32 (.bi .sub 0 (.t 31) (i6 1)),qM 7 32])))))))
 (rg [qM 13 6,oo 14 (.bi .add 0 (.t 13) (i6 1)),qM 6 14])))))) }
theorem QE:ZE Proofs.Tryz.prog Ja J6=true:=by kernel_rfl
def DL:F2 :=
 { nt:=17,res:=[.t 4 [0]],body:=(.sq (rg [om 4 (.k (.bool false))]) (.sq (rg [qM 5 0,oo 6 (.ca .pure false (.f YU) [.t 5]),qM 7 6,og 8 7 true (.mv (.t 1) none),og 9 7 true (.ca .pure false (.f YU) [.t 8]),og 10 7 true (.nt (.t 9)),oo 11 (.pk (.t 7) (.t 10) (.k (.bool false))),qM 12 11,og 13 12 false (.mv (.t 0) none),og 14 12 false (.mv (.t 1) none),og 15 12 false (.bi .lss 0 (.t 13) (.t 14)),oo 16 (.pk (.t 12) (.k (.bool true)) (.t 15)),qM 4 16]) (.rt))) }
theorem Zel:ZE Proofs.Tryz.prog Vf DL=true:=by kernel_rfl
def U7:F2 :=
 { nt:=6,res:=[.t 2 [0]],body:=(.sq (rg [om 2 (.k (.bool false))]) (.sq (rg [qM 3 0,qM 4 0,qB 5 .neq 3 4,qM 2 5]) (.rt))) }
theorem Zdw:ZE Proofs.Tryz.prog YU U7=true:=by kernel_rfl
end Go.Fd

/-
  The annotated codes of the functions, printed by a program of mine (gen.py), and the check that they belong to the program.
-/
namespace Go.Fd
end Go.Fd

/-
  ANNOTATED CODES OF GO'S GENERIC FUNCTIONS ON SLICES, AT ANY ELEMENT (printed by generic.py out of one instance each). Own work.
-/
namespace Go.Fd
def Zpg(k:Nat)(m:Option Nat):F2 :=
 { nt:=19,res:=[.t 4 [0]],body:=(.sq (.rg none [⟨some 4,none,.mv (.k (.int .i64 0)) none⟩]) (.sq (.sq (.rg none [⟨some 6,none,.mv (.t 0) none⟩,
    ⟨some 7,none,.ln (.t 6)⟩,
    ⟨some 8,none,.mv (.k (.int .i64 0)) none⟩]) (.bl 0 (.lp [0,1,7,8] [] (.sq (.rg none [⟨some 9,none,.bi .lss 0 (.t 8) (.t 7)⟩]) (.sq (.cd (.t 9) (.sk) (.ex 0)) (.sq (.bl 1 (.sq (.rg none [⟨some 10,none,.mv (.t 8) none⟩,
      ⟨some 5,none,.mv (.t 10) none⟩]) (.sq (.rg none [⟨some 11,none,.mv (.t 1) none⟩,
      ⟨some 12,none,.mv (.t 0) none⟩,
      ⟨some 13,none,.mv (.t 5) none⟩,
      ⟨some 14,none,.ia k (.t 12) (.t 13)⟩,
      ⟨some 15,none,.ld m (.t 14)⟩,
      ⟨some 16,none,.ca .pure false (.t 11) [.t 15]⟩]) (.cd (.t 16) (.sq (.rg none [⟨some 17,none,.mv (.t 5) none⟩,
      ⟨some 4,none,.mv (.t 17) none⟩]) (.rt)) (.sk))))) (.rg none [⟨some 18,none,.bi .add 0 (.t 8) (.k (.int .i64 1))⟩,
    ⟨some 8,none,.mv (.t 18) none⟩]))))))) (.sq (.rg none [⟨some 4,none,.mv (.k (.int .i64 (-1))) none⟩]) (.rt)))) }
def Zs6(fi:FuncId):F2 :=
 { nt:=9,res:=[.t 4 [0]],body:=(.sq (.rg none [⟨some 4,none,.mv (.k (.bool false)) none⟩]) (.sq (.rg none [⟨some 5,none,.mv (.t 0) none⟩,
   ⟨some 6,none,.mv (.t 1) none⟩,
   ⟨some 7,none,.ca .pure false (.f fi) [.t 5,.t 6]⟩,
   ⟨some 8,none,.bi .geq 0 (.t 7) (.k (.int .i64 0))⟩,
   ⟨some 4,none,.mv (.t 8) none⟩]) (.rt))) }
def ZC4  : F2 :=
 { nt:=26,res:=[.t 4 [0]],body:=(.sq (.rg none [⟨some 4,none,.mv (.k (.bool false)) none⟩]) (.sq (.sq (.rg none [⟨some 6,none,.mv (.t 0) none⟩,
    ⟨some 7,none,.ln (.t 6)⟩,
    ⟨some 8,none,.mv (.t 1) none⟩,
    ⟨some 9,none,.ln (.t 8)⟩,
    ⟨some 10,none,.bi .neq 0 (.t 7) (.t 9)⟩]) (.cd (.t 10) (.sq (.rg none [⟨some 4,none,.mv (.k (.bool false)) none⟩]) (.rt)) (.sk))) (.sq (.sq (.rg none [⟨some 11,none,.mv (.t 0) none⟩,
    ⟨some 12,none,.ln (.t 11)⟩,
    ⟨some 13,none,.mv (.k (.int .i64 0)) none⟩]) (.bl 0 (.lp [0,1,12,13] [] (.sq (.rg none [⟨some 14,none,.bi .lss 0 (.t 13) (.t 12)⟩]) (.sq (.cd (.t 14) (.sk) (.ex 0)) (.sq (.bl 1 (.sq (.rg none [⟨some 15,none,.mv (.t 13) none⟩,
      ⟨some 5,none,.mv (.t 15) none⟩]) (.sq (.rg (some 0) [⟨some 16,none,.mv (.t 0) none⟩,
      ⟨some 17,none,.mv (.t 5) none⟩,
      ⟨some 18,none,.ia 1 (.t 16) (.t 17)⟩,
      ⟨some 19,none,.ld none (.t 18)⟩,
      ⟨some 20,none,.mv (.t 1) none⟩,
      ⟨some 21,none,.mv (.t 5) none⟩,
      ⟨some 22,none,.ia 1 (.t 20) (.t 21)⟩,
      ⟨some 23,none,.ld none (.t 22)⟩,
      ⟨some 24,none,.bi .neq 0 (.t 19) (.t 23)⟩]) (.cd (.t 24) (.sq (.rg none [⟨some 4,none,.mv (.k (.bool false)) none⟩]) (.rt)) (.sk))))) (.rg none [⟨some 25,none,.bi .add 0 (.t 13) (.k (.int .i64 1))⟩,
    ⟨some 13,none,.mv (.t 25) none⟩]))))))) (.sq (.rg none [⟨some 4,none,.mv (.k (.bool true)) none⟩]) (.rt))))) }
def Zze  : F2 :=
 { nt:=19,res:=[.t 4 [0]],body:=(.sq (.rg none [⟨some 4,none,.mv (.k (.int .i64 0)) none⟩]) (.sq (.sq (.rg none [⟨some 6,none,.mv (.t 0) none⟩,
    ⟨some 7,none,.ln (.t 6)⟩,
    ⟨some 8,none,.mv (.k (.int .i64 0)) none⟩]) (.bl 0 (.lp [0,1,7,8] [] (.sq (.rg none [⟨some 9,none,.bi .lss 0 (.t 8) (.t 7)⟩]) (.sq (.cd (.t 9) (.sk) (.ex 0)) (.sq (.bl 1 (.sq (.rg none [⟨some 10,none,.mv (.t 8) none⟩,
      ⟨some 5,none,.mv (.t 10) none⟩]) (.sq (.rg none [⟨some 11,none,.mv (.t 1) none⟩,
      ⟨some 12,none,.mv (.t 0) none⟩,
      ⟨some 13,none,.mv (.t 5) none⟩,
      ⟨some 14,none,.ia 1 (.t 12) (.t 13)⟩,
      ⟨some 15,none,.ld none (.t 14)⟩,
      ⟨some 16,none,.bi .eql 0 (.t 11) (.t 15)⟩]) (.cd (.t 16) (.sq (.rg none [⟨some 17,none,.mv (.t 5) none⟩,
      ⟨some 4,none,.mv (.t 17) none⟩]) (.rt)) (.sk))))) (.rg none [⟨some 18,none,.bi .add 0 (.t 8) (.k (.int .i64 1))⟩,
    ⟨some 8,none,.mv (.t 18) none⟩]))))))) (.sq (.rg none [⟨some 4,none,.mv (.k (.int .i64 (-1))) none⟩]) (.rt)))) }
def ZC5(fi:FuncId):F2 :=
 { nt:=9,res:=[.t 4 [0]],body:=(.sq (.rg none [⟨some 4,none,.mv (.k (.bool false)) none⟩]) (.sq (.rg none [⟨some 5,none,.mv (.t 0) none⟩,
   ⟨some 6,none,.mv (.t 1) none⟩,
   ⟨some 7,none,.ca .pure false (.f fi) [.t 5,.t 6]⟩,
   ⟨some 8,none,.bi .geq 0 (.t 7) (.k (.int .i64 0))⟩,
   ⟨some 4,none,.mv (.t 8) none⟩]) (.rt))) }
end Go.Fd

/-
  GO'S GENERIC FUNCTIONS ON SLICES, AT ANY ELEMENT. Own work.
-/
namespace Go.Fd
set_option maxRecDepth 20000
section rules
variable {L:Sto} {F:List IV->Prop} {lvl:Nat}
theorem ZaJ:∀{l:List (List Tr)} {F:List IV->Prop},JE L (l.map IV.ta) F=F (l.map IV.ta)
 | [],F=>ZtZ
 | x::r,F=>by
  simp only[List.map_cons]
  rw[ZwK,ZaJ]
  rfl
theorem Yn{Pd:Oid->Prop}:∀{l:List (List Tr)},Zf Pd (l.map IV.ta)=True
 | []=>rfl
 | x::r=>by
  simp only[List.map_cons,Zf,men,true_and]
  exact Yn
theorem YV{js:List Nat}{l:List (List Tr)}:Zme lvl js (l.map IV.ta)=True:=Yn
end rules
section
variable {P:Program} {α:Type}
theorem Xh{α β:Type}{c:α->β}{l:List α}{j:Nat}(h:j<l.length):(l.map c)[j]? = some (c l[j]):=by simp [h]
theorem Zph{α:Type}{c:α->List Tr}{l:List α}{j:Nat}:cut (l.map c) 0 (j-0)=(l.take j).map c:=by
 simp only[cut,List.drop_zero,Nat.sub_zero,List.map_take]
theorem Zdx{α:Type}{l:List α}{j:Nat}(h:j<l.length):l.drop j=l[j]::l.drop (j+1):=List.drop_eq_getElem_cons h
def ixF(f:α->Bool):List α->Int->Int
 | [],_=>-1
 | x::r,j=>if f x=true then j else ixF f r (j+1)
theorem W9{f:α->Bool}{x:α}{r:List α}{j:Int}:ixF f (x::r) j=if f x=true then j else ixF f r (j+1):=rfl
theorem Zi4{f:α->Bool}:∀{l:List α} {j:Int},0<=j->(0<=ixF f l j↔l.any f=true)
 | [],j,_=>by simp [ixF]
 | x::r,j,h=>by
  rw[W9,List.any_cons]
  cases hx:f x with
  | true=>simp [h]
  | false =>
   simp only[Bool.false_eq_true,if_false,Bool.false_or]
   exact Zi4 (by omega)
theorem ZmJ{fid:FuncId}(hc:ZE P fid (Zpg 1 none)=true){t:α->Tr}{f:α->Bool}{fe:FuncId}{cs:List (List Tr)}(l:List α)(hl:l.length<=9223372036854775807)
  (hf:∀ x∈l,∀ lvl S,Sem P fe lvl (.tr (t x)::cs.map IV.ta) S (iB (f x)) S) (lvl:Nat) (S:Sto):Sem P fid lvl [.tr (.sl (l.map fun x=>[t x])),.fn fe (cs.map IV.ta)] S (iI (ixF f l 0)) S:=by
 refine Zc hc trivial ?_
 simp only[Zpg,List.length_map,YV,EVA,seval,Zf,men]
 refine Zv (α:=Unit) l.length (fun j _=>[(8,iI j)]) (fun _ _=>[]) (fun j _=>ixF f (l.drop j) j=ixF f l 0) () (by simp only[YV,EVA,seval,Zf,men]) (by (simp only[EVA,seval,Zf,men]) <;> rfl) rfl ?_
 intro j _ hj hA
 simp only[List.length_map,YV,EVA,seval,Zf,men]
 refine Zk (fun hlt=>?_) (fun hge=>?_)
 ·have hja:j<l.length:=by omega
  have ga:=Xh (c:=fun x=>[t x]) hja
  rw[Zdx hja,W9] at hA
  simp only[ga,YV,ZaJ,Yn,EVA,seval,Zf,men]
  refine Za (hf _ (List.getElem_mem hja)) ?_
  simp only[Yn,YV,EVA,seval,Zf,men]
  refine Zk (fun h=>?_) (fun h=>?_)
  ·rw[if_pos h] at hA
   rw[<-hA]
  ·rw[if_neg h] at hA
   exact⟨by rw[Zd];omega,Ze () hja rfl hA⟩
 ·have:j=l.length:=by omega
  subst this
  rw[List.drop_length] at hA
  rw[<-hA]
  rfl
theorem ZrP{k:Nat}{fid:FuncId}(hc:ZE P fid (Zpg k (some k))=true){c:α->List Tr}(hk:∀ x,(c x).length=k){f:α->Bool}{fe:FuncId}{cs:List (List Tr)}(l:List α)(hl:l.length<=9223372036854775807)
  (hf:∀ x∈l,∀ lvl S,Sem P fe lvl (.ag ((c x).map .tr)::cs.map IV.ta) S (iB (f x)) S) (lvl:Nat) (S:Sto):Sem P fid lvl [.tr (.sl (l.map c)),.fn fe (cs.map IV.ta)] S (iI (ixF f l 0)) S:=by
 refine Zc hc trivial ?_
 simp only[Zpg,List.length_map,YV,EVA,seval,Zf,men]
 refine Zv (α:=Unit) l.length (fun j _=>[(8,iI j)]) (fun _ _=>[]) (fun j _=>ixF f (l.drop j) j=ixF f l 0) () (by simp only[YV,EVA,seval,Zf,men]) (by (simp only[EVA,seval,Zf,men]) <;> rfl) rfl ?_
 intro j _ hj hA
 simp only[List.length_map,YV,EVA,seval,Zf,men]
 refine Zk (fun hlt=>?_) (fun hge=>?_)
 ·have hja:j<l.length:=by omega
  have ga:=Xh (c:=c) hja
  have hkk:=hk l[j]
  have htk:(c l[j]).take k=c l[j]:=List.take_of_length_le (by omega)
  rw[Zdx hja,W9] at hA
  simp only[ga,hkk,htk,YV,ZaJ,Zux,Yn,ZiA,EVA,seval,Zf,men]
  refine Za (hf _ (List.getElem_mem hja)) ?_
  simp only[Yn,ZiA,YV,EVA,seval,Zf,men]
  refine Zk (fun h=>?_) (fun h=>?_)
  ·rw[if_pos h] at hA
   rw[<-hA]
  ·rw[if_neg h] at hA
   exact⟨by rw[Zd];omega,Ze () hja rfl hA⟩
 ·have:j=l.length:=by omega
  subst this
  rw[List.drop_length] at hA
  rw[<-hA]
  rfl
theorem Zpi{fid fi:FuncId}(hc:ZE P fid (Zs6 fi)=true){es:Row}{f:α->Bool}{fe:FuncId}{cs:List (List Tr)}{l:List α}
  (hi:∀ lvl S,Sem P fi lvl [.tr (.sl es),.fn fe (cs.map IV.ta)] S (iI (ixF f l 0)) S) (lvl:Nat) (S:Sto):Sem P fid lvl [.tr (.sl es),.fn fe (cs.map IV.ta)] S (iB (l.any f)) S:=by
 refine Zc hc trivial ?_
 simp only[Zs6,ZaJ,Yn,YV,EVA,seval,Zf,men]
 refine Za hi ?_
 simp only[ZaJ,Yn,EVA,seval,Zf,men]
 have:=Zi4 (f:=f) (l:=l) (Int.le_refl 0)
 by_cases h:l.any f=true
 ·simp [h,this.2 h]
 ·simp [h,mt this.1 h]
theorem ZfH{fid fi:FuncId}(hc:ZE P fid (Zs6 fi)=true)(hi:ZE P fi (Zpg 1 none)=true){t:α->Tr}{f:α->Bool}{fe:FuncId}{cs:List (List Tr)}(l:List α)(hl:l.length<=9223372036854775807)
  (hf:∀ x∈l,∀ lvl S,Sem P fe lvl (.tr (t x)::cs.map IV.ta) S (iB (f x)) S) (lvl:Nat) (S:Sto):Sem P fid lvl [.tr (.sl (l.map fun x=>[t x])),.fn fe (cs.map IV.ta)] S (iB (l.any f)) S :=
 Zpi hc (ZmJ hi l hl hf) lvl S
theorem ZmK{k:Nat}{fid fi:FuncId}(hc:ZE P fid (Zs6 fi)=true)(hi:ZE P fi (Zpg k (some k))=true){c:α->List Tr}(hk:∀ x,(c x).length=k){f:α->Bool}{fe:FuncId}{cs:List (List Tr)}(l:List α)(hl:l.length<=9223372036854775807)
  (hf:∀ x∈l,∀ lvl S,Sem P fe lvl (.ag ((c x).map .tr)::cs.map IV.ta) S (iB (f x)) S) (lvl:Nat) (S:Sto):Sem P fid lvl [.tr (.sl (l.map c)),.fn fe (cs.map IV.ta)] S (iB (l.any f)) S :=
 Zpi hc (ZrP hi hk l hl hf) lvl S
structure Cmp (t:α->Tr):Prop where
 neq:∀(x y:α) (F:IV->Prop),bi2 .neq 0 (.tr (t x)) (.tr (t y)) F=F (iB (!(@decide (x=y) (Classical.propDecidable _))))
 eql:∀(x y:α) (F:IV->Prop),bi2 .eql 0 (.tr (t x)) (.tr (t y)) F=F (iB (@decide (x=y) (Classical.propDecidable _)))
theorem ZuM:Cmp ts:=⟨fun x y F=>by rw[Zws];congr 2;by_cases h:x=y <;> simp [h],fun x y F=>by rw[Zwr];congr 2;by_cases h:x=y <;> simp [h]⟩
theorem ZuN{fid:FuncId}(hc:ZE P fid ZC4=true)[DecidableEq α]{t:α->Tr}(hT:Cmp t)(a b:List α)(ha:a.length<=9223372036854775807)(lvl:Nat)(S:Sto):Sem P fid lvl [.tr (.sl (a.map fun x=>[t x])),.tr (.sl (b.map fun x=>[t x]))] S (iB (decide (a=b))) S:=by
 refine Zc hc trivial ?_
 simp only[ZC4,List.length_map,EVA,seval,Zf,men]
 refine Zk (fun h=>?_) (fun h=>?_)
 ·have:¬ a=b:=fun e=>h (by rw[e])
  simp [this]
 have hlen:a.length=b.length:=by omega
 refine Zv (α:=Unit) a.length (fun j _=>[(13,iI j)]) (fun _ _=>[]) (fun j _=>a.take j=b.take j) () (by simp only[EVA,seval,Zf,men]) (by (simp only[EVA,seval,Zf,men]) <;> rfl) rfl ?_
 intro j _ hj hA
 simp only[List.length_map,EVA,seval,Zf,men]
 refine Zk (fun hlt=>?_) (fun hge=>?_)
 ·have hja:j<a.length:=by omega
  have hjb:j<b.length:=by omega
  have ga:=Xh (c:=fun x=>[t x]) hja
  have gb:=Xh (c:=fun x=>[t x]) hjb
  have hq:=hT.neq a[j] b[j]
  simp only[ga,gb,hq,EVA,seval,Zf,men]
  refine Zk (fun hne=>?_) (fun he=>?_)
  ·have:¬ a=b:=Zec hja hjb (by simpa using hne)
   simp [this]
  ·exact⟨by rw[Zd];omega,Ze () hja rfl (Za6 hja hjb hA (by simpa using he))⟩
 ·have:j=a.length:=by omega
  subst this
  have:a=b:=Zcw hlen hA
  simp [this]
theorem Zpj{fid:FuncId}(hc:ZE P fid Zze=true)[DecidableEq α]{t:α->Tr}(hT:Cmp t)(l:List α)(v:α)(hl:l.length<=9223372036854775807)(lvl:Nat)(S:Sto):Sem P fid lvl [.tr (.sl (l.map fun x=>[t x])),.tr (t v)] S (iI (ixF (fun x=>decide (v=x)) l 0)) S:=by
 refine Zc hc trivial ?_
 simp only[Zze,List.length_map,EVA,seval,Zf,men]
 refine Zv (α:=Unit) l.length (fun j _=>[(8,iI j)]) (fun _ _=>[]) (fun j _=>ixF (fun x=>decide (v=x)) (l.drop j) j=ixF (fun x=>decide (v=x)) l 0) () (by simp only[EVA,seval,Zf,men]) (by (simp only[EVA,seval,Zf,men]) <;> rfl) rfl ?_
 intro j _ hj hA
 simp only[List.length_map,EVA,seval,Zf,men]
 refine Zk (fun hlt=>?_) (fun hge=>?_)
 ·have hja:j<l.length:=by omega
  have ga:=Xh (c:=fun x=>[t x]) hja
  have hq:=hT.eql v l[j]
  rw[Zdx hja,W9] at hA
  simp only[ga,hq,EVA,seval,Zf,men]
  refine Zk (fun h=>?_) (fun h=>?_)
  ·rw[if_pos (by simpa using h)] at hA
   rw[<-hA]
  ·rw[if_neg (by simpa using h)] at hA
   exact⟨by rw[Zd];omega,Ze () hja rfl hA⟩
 ·have:j=l.length:=by omega
  subst this
  rw[List.drop_length] at hA
  rw[<-hA]
  rfl
theorem ZuO[DecidableEq α]{l:List α}{v:α}:l.any (fun x=>decide (v=x))=decide (v∈l):=by
 rw[Bool.eq_iff_iff]
 simp [List.any_eq_true]
theorem ZuP{fid fi:FuncId}(hc:ZE P fid (ZC5 fi)=true)(hi:ZE P fi Zze=true)[DecidableEq α]{t:α->Tr}(hT:Cmp t)(l:List α)(v:α)(hl:l.length<=9223372036854775807)(lvl:Nat)(S:Sto):Sem P fid lvl [.tr (.sl (l.map fun x=>[t x])),.tr (t v)] S (iB (decide (v∈l))) S:=by
 refine Zc hc trivial ?_
 simp only[ZC5,EVA,seval,Zf,men]
 refine Za (Zpj hi hT l v hl) ?_
 simp only[EVA,seval,Zf,men]
 have:=Zi4 (f:=fun x=>decide (v=x)) (l:=l) (Int.le_refl 0)
 rw[ZuO] at this
 by_cases h:v∈l
 ·simp [h,this.2 (by simpa using h)]
 ·have h2:¬ 0<=ixF (fun x=>decide (v=x)) l 0:=fun hh=>h (by simpa using this.1 hh)
  simp [h,h2]
end
end Go.Fd

/-
  WHAT HOLDS OF THE PROGRAM'S AND THE REFERENCE'S SMALL FUNCTIONS ON NUMBERS. Own work.
-/
namespace Go.Fd
set_option maxRecDepth 20000
noncomputable def dc(p:Prop):Bool:=@decide p (Classical.propDecidable p)
theorem dc_iff{p:Prop}:dc p=true↔p:=by unfold dc;simp
theorem Zy{p:Prop}(h:p):dc p=true:=dc_iff.2 h
theorem Zg{p:Prop}(h:¬ p):dc p=false:=by
 cases hh:dc p with
 | false=>rfl
 | true=>exact absurd (dc_iff.1 hh) h
theorem dc_not{p:Prop}:dc p=false ↔ ¬ p:=⟨fun h hp=>(by rw[Zy hp] at h;cases h),Zg⟩
theorem J3{p q:Prop}(h:p↔q):dc p=dc q:=by rw[propext h]
theorem Y1{p:Prop}[Decidable p]:dc p=decide p:=by
 by_cases h:p
 ·rw[Zy h];simp [h]
 ·rw[Zg h];simp [h]
abbrev g0(l:List Int)(i:Nat):Int:=l.getD i 0
abbrev A3:=Int×Int×Int
abbrev g3(l:List A3)(i:Nat):A3:=l.getD i (0,0,0)
theorem Jo{l:List Int}{i:Nat}(h:i<l.length):(rI l)[i]? = some [tv (g0 l i)]:=by simp [h]
def inB(n a b:Int):Bool:=decide (a<=n)&&decide (n<=b)
theorem inB_iff{n a b:Int}:inB n a b=true↔a<=n/\n<=b:=by simp [inB]
theorem inB_not{n a b:Int}:inB n a b=false ↔ ¬ (a<=n/\n<=b):=by
 rw[<-inB_iff];cases inB n a b <;> simp
theorem QP(n a b:Int)(lvl:Nat)(S:Sto):Sem Proofs.Tryz.prog Z4 lvl [iI n,iI a,iI b] S (iB (inB n a b)) S:=by
 refine Zc Zlx trivial ?_
 simp only[Zgb,EVA,seval,Zf,men]
 refine Zk (fun h=>?_) (fun h=>?_) <;> simp [inB,h]
theorem Y2(n a b:Int)(lvl:Nat)(S:Sto):Sem Proofs.Tryz.prog ZT lvl [iI n,iI a,iI b] S (iB (inB n a b)) S:=by
 refine Zc ZiH trivial ?_
 simp only[Zc4,EVA,seval,Zf,men]
 refine Zk (fun h=>?_) (fun h=>?_) <;> simp [inB,h]
theorem Zbp(l:List Int)(n:Int)(hl:l.length<=9223372036854775807)(lvl:Nat)(S:Sto):Sem Proofs.Tryz.prog Qu lvl [tI l,iI n] S (iB (decide (n∈l))) S:=by
 refine Zc Zkf trivial ?_
 simp only[ZeY,EVA,seval,Zf,men]
 refine Jp (α:=Unit) l.length (fun j _=>⟨lvl,[(0,tI l),(1,iI n),(5,iI j)],[],S⟩) (fun j _=>n ∉ l.take j) () ⟨by simp only[EVA,seval,Zf,men],by (simp only[EVA,seval,Zf,men]) <;> rfl⟩ (by simp) ?_
 intro j _ hj hA
 simp only[List.length_map,EVA,seval,Zf,men]
 refine Zk (fun hlt=>?_) (fun hge=>?_)
 ·have hja:j<l.length:=by omega
  have ga:=Jo hja
  simp only[ga,EVA,seval,Zf,men]
  have hg:g0 l j=l[j]:=by simp [hja]
  refine Zk (fun he=>?_) (fun hne=>?_)
  ·have:n∈l:=by rw[<-he,hg];exact List.getElem_mem hja
   simp [this]
  ·refine⟨by rw[Zd];omega,Ze () hja rfl ?_⟩
   rw[List.take_succ_eq_append_getElem hja]
   simp only[List.mem_append,List.mem_singleton,not_or]
   exact⟨hA,fun e=>hne (by rw[hg,e])⟩
 ·have:j=l.length:=by omega
  subst this
  rw[List.take_length] at hA
  simp [hA]
def Zyj(l:List Int)(v:Int):Int:=if v∈l then (l.idxOf v:Int) else -1
theorem ZrQ{l:List Int}{v:Int}:0<=Zyj l v↔v∈l:=by
 unfold Zyj;split
 ·rename_i h;simp [h]
 ·rename_i h;simp [h]
theorem Zpk(l:List Int)(n:Int)(hl:l.length<=9223372036854775807)(lvl:Nat)(S:Sto):Sem Proofs.Tryz.prog YW lvl [tI l,iI n] S (iI (Zyj l n)) S:=by
 refine Zc ZaQ trivial ?_
 simp only[X4,List.length_map,EVA,seval,Zf,men]
 refine Jp (α:=Unit) l.length (fun j _=>⟨lvl,[(0,tI l),(1,iI n),(7,iI l.length),(8,iI j)],[],S⟩) (fun j _=>n ∉ l.take j) () ⟨by simp only[EVA,seval,Zf,men],by (simp only[EVA,seval,Zf,men]) <;> rfl⟩ (by simp) ?_
 intro j _ hj hA
 simp only[List.length_map,EVA,seval,Zf,men]
 refine Zk (fun hlt=>?_) (fun hge=>?_)
 ·have hja:j<l.length:=by omega
  have ga:=Jo hja
  simp only[ga,EVA,seval,Zf,men]
  have hg:g0 l j=l[j]:=by simp [hja]
  refine Zk (fun he=>?_) (fun hne=>?_)
  ·have hm:n∈l:=by rw[he,hg];exact List.getElem_mem hja
   unfold Zyj
   rw[if_pos hm]
   have:l.idxOf n=j:=by
    have h1:l.take j++l.drop j=l:=List.take_append_drop j l
    rw[<-h1,List.idxOf_append,if_neg hA,List.drop_eq_getElem_cons hja,List.idxOf_cons]
    rw[he,hg]
    simp
    omega
   rw[this]
  ·refine⟨by rw[Zd];omega,Ze () hja rfl ?_⟩
   rw[List.take_succ_eq_append_getElem hja]
   simp only[List.mem_append,List.mem_singleton,not_or]
   exact⟨hA,fun e=>hne (by rw[hg,e])⟩
 ·have:j=l.length:=by omega
  subst this
  rw[List.take_length] at hA
  simp [Zyj,hA]
theorem Zbq(l:List Int)(n:Int)(hl:l.length<=9223372036854775807)(lvl:Nat)(S:Sto):Sem Proofs.Tryz.prog Z6 lvl [tI l,iI n] S (iB (decide (n∈l))) S:=by
 refine Zc Dn trivial ?_
 simp only[QA,EVA,seval,Zf,men]
 refine Za (Zpk l n hl) ?_
 simp only[ZrQ,EVA,seval,Zf,men]
theorem Zpl(x:Int)(lvl:Nat)(S:Sto):Sem Proofs.Tryz.prog V6 lvl [iI x] S (iB false) S:=by
 refine Zc Zgi trivial ?_
 simp only[Zbi,EVA,seval,Zf,men]
end Go.Fd

/-
  NUMBERS OF LIBRARY FUNCTIONS IN THIS PROGRAM, as the guide's shelf lays them (printed by lay.py out of the kit's own command).
-/
namespace Go.Proofs
open Go.Shelf
def Tryz.lays160_ren:Go.Shelf.Ren:=⟨fun | 160=>154 | 232=>201 | 231=>200 | 227=>202 | 234=>204 | 233=>203 | 236=>206 | 235=>205 | 228=>247 | 271=>250 | 151=>249 | 197=>248 | 120=>275 | 152=>274 | 260=>273 | 137=>292 | 119=>293 | 224=>294 | 225=>295 | 217=>307 | 266=>320 | n=>n,fun | 9=>9 | 4=>4 | 3=>3 | 5=>5 | 117=>224 | 116=>223 | 0=>0 | 124=>227 | 21=>21 | 105=>261 | 46=>181 | 119=>295 | 139=>298 | 138=>297 | n=>n,fun | 3=>2 | 4=>3 | n=>n⟩
theorem Tryz.lays160:Go.Proofs.Lays.n160 Tryz.prog Tryz.lays160_ren:={
  mixed:=by kernel_rfl,
  f119:=Tryz.func293.trans (congrArg some (by kernel_rfl)),
  f120:=Tryz.func275.trans (congrArg some (by kernel_rfl)),
  f137:=Tryz.func292.trans (congrArg some (by kernel_rfl)),
  f151:=Tryz.func249.trans (congrArg some (by kernel_rfl)),
  f152:=Tryz.func274.trans (congrArg some (by kernel_rfl)),
  f160:=Tryz.func154.trans (congrArg some (by kernel_rfl)),
  f197:=Tryz.func248.trans (congrArg some (by kernel_rfl)),
  f217:=Tryz.func307.trans (congrArg some (by kernel_rfl)),
  f224:=Tryz.func294.trans (congrArg some (by kernel_rfl)),
  f225:=Tryz.func295.trans (congrArg some (by kernel_rfl)),
  f227:=Tryz.func202.trans (congrArg some (by kernel_rfl)),
  f228:=Tryz.func247.trans (congrArg some (by kernel_rfl)),
  f231:=Tryz.func200.trans (congrArg some (by kernel_rfl)),
  f232:=Tryz.func201.trans (congrArg some (by kernel_rfl)),
  f233:=Tryz.func203.trans (congrArg some (by kernel_rfl)),
  f234:=Tryz.func204.trans (congrArg some (by kernel_rfl)),
  f235:=Tryz.func205.trans (congrArg some (by kernel_rfl)),
  f236:=Tryz.func206.trans (congrArg some (by kernel_rfl)),
  f260:=Tryz.func273.trans (congrArg some (by kernel_rfl)),
  f266:=Tryz.func320.trans (congrArg some (by kernel_rfl)),
  f271:=Tryz.func250.trans (congrArg some (by kernel_rfl)),
  t0:=Tryz.underlying0,
  a0:=Tryz.isAgg0,
  z0:=Tryz.sizeOf0,
  v0:=Tryz.zeroValue0,
  t3:=Tryz.underlying3,
  a3:=Tryz.isAgg3,
  z3:=Tryz.sizeOf3,
  v3:=Tryz.zeroValue3,
  t4:=Tryz.underlying4,
  a4:=Tryz.isAgg4,
  z4:=Tryz.sizeOf4,
  v4:=Tryz.zeroValue4,
  t5:=Tryz.underlying5,
  a5:=Tryz.isAgg5,
  z5:=Tryz.sizeOf5,
  v5:=Tryz.zeroValue5,
  t9:=Tryz.underlying9,
  a9:=Tryz.isAgg9,
  z9:=Tryz.sizeOf9,
  v9:=Tryz.zeroValue9,
  t21:=Tryz.underlying21,
  a21:=Tryz.isAgg21,
  z21:=Tryz.sizeOf21,
  v21:=Tryz.zeroValue21,
  t46:=Tryz.underlying181,
  a46:=Tryz.isAgg181,
  z46:=Tryz.sizeOf181,
  v46:=Tryz.zeroValue181,
  t105:=Tryz.underlying261,
  a105:=Tryz.isAgg261,
  z105:=Tryz.sizeOf261,
  v105:=Tryz.zeroValue261,
  t116:=Tryz.underlying223,
  a116:=Tryz.isAgg223,
  z116:=Tryz.sizeOf223,
  t117:=Tryz.underlying224,
  a117:=Tryz.isAgg224,
  z117:=Tryz.sizeOf224,
  v117:=Tryz.zeroValue224,
  t119:=Tryz.underlying295,
  a119:=Tryz.isAgg295,
  z119:=Tryz.sizeOf295,
  t124:=Tryz.underlying227,
  a124:=Tryz.isAgg227,
  z124:=Tryz.sizeOf227,
  v124:=Tryz.zeroValue227,
  t138:=Tryz.underlying297,
  a138:=Tryz.isAgg297,
  z138:=Tryz.sizeOf297,
  v138:=Tryz.zeroValue297,
  t139:=Tryz.underlying298,
  a139:=Tryz.isAgg298,
  z139:=Tryz.sizeOf298,
  v139:=Tryz.zeroValue298,
  g3:=by kernel_rfl,
  g4:=by kernel_rfl }
def Tryz.lays190_ren:Go.Shelf.Ren:=⟨fun | 190=>284 | 125=>146 | 258=>304 | 128=>191 | 129=>192 | 302=>311 | 303=>312 | 304=>313 | 305=>314 | 306=>315 | 307=>316 | 308=>317 | 309=>318 | 310=>319 | 333=>322 | 329=>229 | 330=>230 | 334=>323 | 335=>324 | 336=>325 | 344=>326 | n=>n,fun | 31=>46 | 9=>9 | 3=>3 | 46=>181 | 0=>0 | 51=>216 | 53=>218 | 4=>4 | 183=>208 | 182=>207 | 131=>213 | 5=>5 | 218=>243 | 222=>247 | 228=>278 | 229=>279 | n=>n,fun | n=>n⟩
theorem Tryz.lays190:Go.Proofs.Lays.n190 Tryz.prog Tryz.lays190_ren:={
  mixed:=by kernel_rfl,
  f125:=Tryz.func146.trans (congrArg some (by kernel_rfl)),
  f128:=Tryz.func191.trans (congrArg some (by kernel_rfl)),
  f129:=Tryz.func192.trans (congrArg some (by kernel_rfl)),
  f190:=Tryz.func284.trans (congrArg some (by kernel_rfl)),
  f258:=Tryz.func304.trans (congrArg some (by kernel_rfl)),
  f302:=Tryz.func311.trans (congrArg some (by kernel_rfl)),
  f303:=Tryz.func312.trans (congrArg some (by kernel_rfl)),
  f304:=Tryz.func313.trans (congrArg some (by kernel_rfl)),
  f305:=Tryz.func314.trans (congrArg some (by kernel_rfl)),
  f306:=Tryz.func315.trans (congrArg some (by kernel_rfl)),
  f307:=Tryz.func316.trans (congrArg some (by kernel_rfl)),
  f308:=Tryz.func317.trans (congrArg some (by kernel_rfl)),
  f309:=Tryz.func318.trans (congrArg some (by kernel_rfl)),
  f310:=Tryz.func319.trans (congrArg some (by kernel_rfl)),
  f329:=Tryz.func229.trans (congrArg some (by kernel_rfl)),
  f330:=Tryz.func230.trans (congrArg some (by kernel_rfl)),
  f333:=Tryz.func322.trans (congrArg some (by kernel_rfl)),
  f334:=Tryz.func323.trans (congrArg some (by kernel_rfl)),
  f335:=Tryz.func324.trans (congrArg some (by kernel_rfl)),
  f336:=Tryz.func325.trans (congrArg some (by kernel_rfl)),
  f344:=Tryz.func326.trans (congrArg some (by kernel_rfl)),
  t0:=Tryz.underlying0,
  a0:=Tryz.isAgg0,
  z0:=Tryz.sizeOf0,
  v0:=Tryz.zeroValue0,
  t3:=Tryz.underlying3,
  a3:=Tryz.isAgg3,
  z3:=Tryz.sizeOf3,
  v3:=Tryz.zeroValue3,
  t4:=Tryz.underlying4,
  a4:=Tryz.isAgg4,
  z4:=Tryz.sizeOf4,
  v4:=Tryz.zeroValue4,
  t5:=Tryz.underlying5,
  a5:=Tryz.isAgg5,
  z5:=Tryz.sizeOf5,
  v5:=Tryz.zeroValue5,
  t9:=Tryz.underlying9,
  a9:=Tryz.isAgg9,
  z9:=Tryz.sizeOf9,
  v9:=Tryz.zeroValue9,
  t31:=Tryz.underlying46,
  a31:=Tryz.isAgg46,
  z31:=Tryz.sizeOf46,
  v31:=Tryz.zeroValue46,
  t46:=Tryz.underlying181,
  a46:=Tryz.isAgg181,
  z46:=Tryz.sizeOf181,
  v46:=Tryz.zeroValue181,
  t51:=Tryz.underlying216,
  a51:=Tryz.isAgg216,
  z51:=Tryz.sizeOf216,
  v51:=Tryz.zeroValue216,
  t53:=Tryz.underlying218,
  a53:=Tryz.isAgg218,
  z53:=Tryz.sizeOf218,
  v53:=Tryz.zeroValue218,
  t131:=Tryz.underlying213,
  a131:=Tryz.isAgg213,
  z131:=Tryz.sizeOf213,
  v131:=Tryz.zeroValue213,
  t182:=Tryz.underlying207,
  a182:=Tryz.isAgg207,
  z182:=Tryz.sizeOf207,
  v182:=Tryz.zeroValue207,
  t183:=Tryz.underlying208,
  a183:=Tryz.isAgg208,
  z183:=Tryz.sizeOf208,
  v183:=Tryz.zeroValue208,
  t218:=Tryz.underlying243,
  a218:=Tryz.isAgg243,
  z218:=Tryz.sizeOf243,
  v218:=Tryz.zeroValue243,
  t222:=Tryz.underlying247,
  a222:=Tryz.isAgg247,
  z222:=Tryz.sizeOf247,
  v222:=Tryz.zeroValue247,
  t228:=Tryz.underlying278,
  a228:=Tryz.isAgg278,
  z228:=Tryz.sizeOf278,
  v228:=Tryz.zeroValue278,
  t229:=Tryz.underlying279,
  a229:=Tryz.isAgg279,
  z229:=Tryz.sizeOf279,
  v229:=Tryz.zeroValue279 }
end Go.Proofs

/-
  NAMES AND SIGNATURES, BOTH SIDES. Own work.
-/
namespace Go.Fd
set_option maxRecDepth 20000
def Zyk(P:Program)(f:FuncId):Bool:=match P.funcs[f]? with | some fn=>fn.body.isSome && !(fn.name == "runtime.NumGoroutine") | none=>false
theorem Zdy{P:Program}{f:FuncId}(h:Zyk P f=true):UW P f:=by
 unfold Zyk at h
 split at h
 ·rename_i fn hf
  simp only[Bool.and_eq_true,Bool.not_eq_true'] at h
  exact⟨fn,hf,h.1,h.2⟩
 ·cases h
abbrev AZ:ByteArray:=⟨#[97,98,99,100,101,102,103,104,105,106,107,108,109,110,111,112,113,114,115,116,117,118,119,120,121,122]⟩
theorem ZrR(s:ByteArray)(hs:s.size<=9223372036854775807)(lvl:Nat)(S:Sto):Sem Proofs.Tryz.prog ZaD lvl [iS s,iS AZ] S (iS ⟨(Lib.trimS s.data.toList AZ.data.toList).toArray⟩) S :=
 Zlw (xs:=[.string s,.string AZ]) (Zdy (by kernel_rfl)) rfl (fun w=>Go.Proofs.Any.strings_Trim_laid Proofs.Tryz.lays160 (by kernel_rfl) s AZ w hs (by decide) (Go.Proofs.ascii_of_all (by decide)))
def ZcC(s:ByteArray):Prop:=(∀ b∈s.data.toList,97<=b.toNat/\b.toNat<=122)/\1<=s.size/\s.size<=4
theorem Zkm(s:ByteArray):s.size=s.data.toList.length:=by rw[Array.length_toList];rfl
theorem Zs7(b:UInt8):b∈AZ.data.toList↔97<=b.toNat/\b.toNat<=122:=by
 have:∀ n:Fin 256,(UInt8.ofNat n.val)∈AZ.data.toList↔97<=n.val/\n.val<=122:=by decide +kernel
 have h:UInt8.ofNat b.toNat∈AZ.data.toList↔97<=b.toNat/\b.toNat<=122:=this ⟨b.toNat,b.toNat_lt⟩
 rw[show UInt8.ofNat b.toNat=b from UInt8.ofNat_toNat] at h
 exact h
theorem Zpm{p:UInt8->Bool}:∀{l:List UInt8},l.dropWhile p=[]↔∀ b∈l,p b=true
 | []=>by simp
 | x::r=>by
  simp only[List.dropWhile_cons,List.mem_cons,forall_eq_or_imp]
  cases h:p x with
  | true=>simp [Zpm (l:=r)]
  | false=>simp
theorem Zs8{p:UInt8->Bool}{b:UInt8}:∀{l:List UInt8},b∈l.takeWhile p->p b=true
 | [],h=>by simp at h
 | x::r,h=>by
  rw[List.takeWhile_cons] at h
  split at h
  ·rename_i hx
   rcases List.mem_cons.1 h with rfl | h
   ·exact hx
   ·exact Zs8 h
  ·cases h
theorem ZrS{l cs:List UInt8}(h:∀ b∈l,b∈cs):l.dropWhile (cs.contains ·)=[]:=by
 rw[Zpm]
 intro b hb
 simpa using h b hb
theorem trimS_nil{l cs:List UInt8}:Lib.trimS l cs=[]↔∀ b∈l,b∈cs:=by
 unfold Lib.trimS Lib.trimLeftS Lib.trimRightS
 constructor
 ·intro h b hb
  rw[Zpm] at h
  have hrev:∀ x∈(l.reverse.dropWhile (cs.contains ·)),x∈cs:=fun x hx=>by
   have:=h x (by simpa using hx)
   simpa using this
  have hsplit:l.reverse=l.reverse.takeWhile (cs.contains ·)++l.reverse.dropWhile (cs.contains ·):=(List.takeWhile_append_dropWhile).symm
  have hb2:b∈l.reverse:=by simpa using hb
  rw[hsplit] at hb2
  rcases List.mem_append.1 hb2 with h1 | h1
  ·have:=Zs8 h1
   simpa using this
  ·exact hrev b h1
 ·intro h
  rw[ZrS (l:=l.reverse) (fun b hb=>h b (by simpa using hb))]
  rfl
theorem Zem(s:ByteArray)(hs:s.size<=9223372036854775807)(lvl:Nat)(S:Sto):Sem Proofs.Tryz.prog VK lvl [iS s] S (iB (dc (ZcC s))) S:=by
 refine Zc ZiI trivial ?_
 simp only[Zc5,EVA,seval]
 refine Zv (α:=Unit) s.size (fun j _=>[(3,iI j)]) (fun _ _=>[]) (fun j _=>∀ b∈s.data.toList.take j,97<=b.toNat/\b.toNat<=122) () (by simp only[EVA,seval]) (by (simp only[EVA,seval]) <;> rfl) (fun b hb=>by simp at hb) ?_
 intro j _ hj hA
 simp only[EVA,seval,Zf,men]
 refine Zk (fun hlt=>?_) (fun hge=>?_)
 ·have hja:j<s.data.toList.length:=by rw[<-Zkm];omega
  have ga:s.data.toList[j]? = some (s.data.toList[j]):=List.getElem?_eq_getElem hja
  have hno:¬ (97<=(s.data.toList[j]).toNat/\(s.data.toList[j]).toNat<=122) -> ¬ ZcC s:=fun h hn=>h (hn.1 _ (List.getElem_mem hja))
  by_cases h1:((s.data.toList[j]).toNat:Int)<97
  ·simp only[ga,h1,EVA,seval]
   rw[Zg (hno (by omega))]
  by_cases h2:(122:Int)<(s.data.toList[j]).toNat
  ·simp only[ga,h1,h2,EVA,seval]
   rw[Zg (hno (by omega))]
  ·simp only[ga,h1,h2,EVA,seval]
   refine⟨by rw[Zd];omega,Ze () (by omega) rfl ?_⟩
   intro b hb
   rw[List.take_succ_eq_append_getElem hja] at hb
   rcases List.mem_append.1 hb with h | h
   ·exact hA b h
   ·have:b=s.data.toList[j]:=by simpa using h
    subst this
    omega
 ·have:j=s.size:=by omega
  subst this
  rw[Zkm,List.take_length] at hA
  refine Za (QP s.size 1 4) ?_
  simp only[EVA,seval]
  rw[J3 (q:=1<=s.size/\s.size<=4) ⟨fun h=>h.2,fun h=>⟨hA,h⟩⟩]
  by_cases h:1<=s.size/\s.size<=4
  ·rw[Zy h,inB_iff.2 (by omega)]
  ·rw[Zg h,inB_not.2 (by omega)]
theorem DM(s:ByteArray)(hs:s.size<=9223372036854775807)(lvl:Nat)(S:Sto):Sem Proofs.Tryz.prog Yi lvl [iS s] S (iB (dc (ZcC s))) S:=by
 refine Zc ZiL trivial ?_
 simp only[Zc6,EVA,seval,Zf,men]
 refine Za (Y2 s.size 1 4) ?_
 simp only[EVA,seval,Zf,men]
 cases hin:inB (s.size:Int) 1 4 with
 | false =>
  have:¬ ZcC s:=fun h=>(inB_not.1 hin) (by have:=h.2;omega)
  rw[Zg this]
  simp only[EVA,seval]
 | true =>
  have hin':=inB_iff.1 hin
  simp only[seval]
  refine Za (ZrR s hs) ?_
  simp only[EVA,seval]
  by_cases h:ZcC s
  ·have:Lib.trimS s.data.toList AZ.data.toList=[]:=trimS_nil.2 (fun b hb=>(Zs7 b).2 (h.1 b hb))
   rw[Zy h,this]
   rfl
  ·have:¬ Lib.trimS s.data.toList AZ.data.toList=[]:=fun e=>h ⟨fun b hb=>(Zs7 b).1 (trimS_nil.1 e b hb),by omega,by omega⟩
   rw[Zg h]
   have h2:¬ (⟨(Lib.trimS s.data.toList AZ.data.toList).toArray⟩:ByteArray)=⟨#[]⟩:=fun e=>this (by
    have:=congrArg (fun b:ByteArray=>b.data.toList) e
    simpa using this)
   simp [h2]
def ZrT(c:TControl):Prop:=ZcC c.name/\(0<=c.ports/\c.ports<=3)/\0<=c.kind_/\c.kind_<=2
def Zpn(sig:List TControl)(i:Nat):Prop:=∀ h:i<sig.length,ZrT sig[i]/\∀ k (hk:k<i),(sig[k]'(by omega)).name≠sig[i].name
def Vh(sig:List TControl):Prop:=(∀ i,Zpn sig i)/\1<=sig.length/\sig.length<=6
theorem Zen(c d:TControl)(lvl:Nat)(S:Sto):Sem Proofs.Tryz.prog Yl lvl [.ag ((Zj d).map .tr),.ta (Zj c)] S (iB (decide (d.name=c.name))) S:=by
 refine Zc ZbW trivial ?_
 simp only[WY,Zj,EVA,seval]
theorem Zkn:ZE Proofs.Tryz.prog Jj (Zpg 3 (some 3))=true:=by kernel_rfl
theorem Zko:ZE Proofs.Tryz.prog Jc (Zs6 Jj)=true:=by kernel_rfl
theorem Zkp(sig:List TControl)(hl:sig.length<=9223372036854775807)(hb:∀ y∈sig,Zq 9223372036854775807 y)(lvl:Nat)(S:Sto):Sem Proofs.Tryz.prog Wm lvl [.tr (.sl (sig.map Zj))] S (iB (dc (Vh sig))) S:=by
 refine Zc Zkd trivial ?_
 simp only[ZeV,EVA,seval]
 refine Zv (α:=Unit) sig.length (fun j _=>[(3,iI j)]) (fun _ _=>[]) (fun j _=>∀ i,i<j->Zpn sig i) () (by simp only[EVA,seval]) (by (simp only[EVA,seval]) <;> rfl) (fun i hi=>by omega) ?_
 intro j _ hj hA
 simp only[List.length_map,EVA,seval,Zf,men]
 refine Zk (fun hlt=>?_) (fun hge=>?_)
 ·have hja:j<sig.length:=by omega
  have ga:=Xh (c:=Zj) hja
  have hbj:sig[j].name.size<=9223372036854775807:=hb _ (List.getElem_mem hja)
  have hno:¬ ZrT sig[j] -> ¬ Vh sig:=fun h hs=>h (hs.1 j hja).1
  simp only[ga,Zj,EVA,seval,Zf,men]
  refine Za (Zem sig[j].name hbj) ?_
  simp only[ga,Zj,EVA,seval,Zf,men]
  cases hn:dc (ZcC sig[j].name) with
  | false =>
   simp only[EVA,seval]
   rw[Zg (hno fun h=>dc_not.1 hn h.1)]
  | true =>
   have hn':=dc_iff.1 hn
   simp only[EVA,seval]
   refine Za (QP sig[j].ports 0 3) ?_
   simp only[ga,Zj,EVA,seval,Zf,men]
   cases hp:inB sig[j].ports 0 3 with
   | false =>
    simp only[EVA,seval]
    rw[Zg (hno fun h=>inB_not.1 hp h.2.1)]
   | true =>
    have hp':=inB_iff.1 hp
    simp only[EVA,seval]
    refine Za (QP sig[j].kind_ 0 2) ?_
    simp only[EVA,seval]
    cases hk:inB sig[j].kind_ 0 2 with
    | false =>
     simp only[seval]
     rw[Zg (hno fun h=>inB_not.1 hk h.2.2)]
    | true =>
     have hk':=inB_iff.1 hk
     simp only[EVA,seval]
     refine Zv (α:=Unit) j (fun k _=>[(4,iI k)]) (fun _ _=>[]) (fun k _=>∀ i (hi:i<k),k<=j->∀ hi2:i<sig.length,(sig[i]'hi2).name≠sig[j].name) () (by simp only[EVA,seval]) (by (simp only[EVA,seval]) <;> rfl) (fun i hi=>by omega) ?_
     intro k _ hkj hB
     simp only[EVA,seval]
     refine Zk (fun hlt2=>?_) (fun hge2=>?_)
     ·have hka:k<sig.length:=by omega
      have gb:=Xh (c:=Zj) hka
      simp only[ga,gb,Zj,EVA,seval]
      refine Zk (fun he=>?_) (fun hne=>?_)
      ·rw[Zg (fun hs:Vh sig=>(hs.1 j hja).2 k (by omega) he)]
      ·refine⟨by rw[Zd];omega,Ze () (by omega) rfl (fun i hi _ hi2=>?_)⟩
       by_cases e:i=k
       ·subst e;exact hne
       ·exact hB i (by omega) (by omega) hi2
     ·have:k=j:=by omega
      subst this
      refine⟨by rw[Zd];omega,Ze () hja rfl (fun i hi=>?_)⟩
      by_cases e:i=k
      ·subst e
       exact fun h=>⟨⟨hn',hp',hk'⟩,fun q hq=>hB q hq (Nat.le_refl _) (by omega)⟩
      ·exact hA i (by omega)
 ·have:j=sig.length:=by omega
  subst this
  refine Za (QP sig.length 1 6) ?_
  simp only[EVA,seval]
  have hall:∀ i,Zpn sig i:=fun i h=>hA i h h
  rw[J3 (q:=1<=sig.length/\sig.length<=6) ⟨fun h=>h.2,fun h=>⟨hall,h⟩⟩]
  by_cases h:1<=sig.length/\sig.length<=6
  ·rw[Zy h,inB_iff.2 (by omega)]
  ·rw[Zg h,inB_not.2 (by omega)]
theorem Qm(sig:List TControl)(hl:sig.length<=9223372036854775807)(hb:∀ y∈sig,Zq 9223372036854775807 y)(lvl:Nat)(S:Sto):Sem Proofs.Tryz.prog JX lvl [.tr (.sl (sig.map Zj))] S (iB (dc (Vh sig))) S:=by
 refine Zc Zc1 trivial ?_
 simp only[U0,List.length_map,EVA,seval,Zf,men]
 refine Za (Y2 sig.length 1 6) ?_
 simp only[List.length_map,EVA,seval]
 refine Zk (fun h=>?_) (fun h=>?_)
 ·rw[Zg (fun hs:Vh sig=>(inB_not.1 h) (by have:=hs.2;omega))]
 have hln:=inB_iff.1 (by simpa using h)
 refine Zv (α:=Unit) sig.length (fun j _=>[(11,iI j)]) (fun _ _=>[]) (fun j _=>∀ i,i<j->Zpn sig i) () (by simp only[EVA,seval]) (by (simp only[EVA,seval]) <;> rfl) (fun i hi=>by omega) ?_
 intro j _ hj hA
 simp only[EVA,seval]
 refine Zk (fun hlt=>?_) (fun hge=>?_)
 ·have hja:j<sig.length:=by omega
  have ga:=Xh (c:=Zj) hja
  have hbj:sig[j].name.size<=9223372036854775807:=hb _ (List.getElem_mem hja)
  have hno:¬ ZrT sig[j] -> ¬ Vh sig:=fun h hs=>h (hs.1 j hja).1
  simp only[ga,Zj,EVA,seval,Zf,men]
  refine Za (DM sig[j].name hbj) ?_
  simp only[EVA,seval,Zf,men]
  cases hn:dc (ZcC sig[j].name) with
  | false =>
   simp only[EVA,seval]
   rw[Zg (hno fun h=>dc_not.1 hn h.1)]
  | true =>
   have hn':=dc_iff.1 hn
   simp only[EVA,seval]
   refine Za (Y2 sig[j].ports 0 3) ?_
   simp only[EVA,seval,Zf,men]
   cases hp:inB sig[j].ports 0 3 with
   | false =>
    simp only[EVA,seval]
    rw[Zg (hno fun h=>inB_not.1 hp h.2.1)]
   | true =>
    have hp':=inB_iff.1 hp
    simp only[EVA,seval]
    refine Za (Y2 sig[j].kind_ 0 2) ?_
    simp only[EVA,seval,Zf,men]
    cases hk:inB sig[j].kind_ 0 2 with
    | false =>
     simp only[EVA,seval]
     rw[Zg (hno fun h=>inB_not.1 hk h.2.2)]
    | true =>
     have hk':=inB_iff.1 hk
     have hjl:j<=sig.length:=by omega
     simp only[hjl,EVA,seval]
     have hc:=ZmK (P:=Proofs.Tryz.prog) Zko Zkn ZeS (f:=fun d:TControl=>decide (d.name=sig[j].name)) (fe:=Yl) (cs:=[Zj sig[j]]) (sig.take j) (by rw[List.length_take];omega) (fun d _ lvl S=>Zen sig[j] d lvl S)
     rw[<-Zph] at hc
     refine⟨fun h=>h.elim,Nat.zero_le _,Za hc ?_⟩
     simp only[EVA,seval]
     cases ha:(sig.take j).any (fun d:TControl=>decide (d.name=sig[j].name)) with
     | true =>
      simp only[seval]
      obtain⟨d,hd,he⟩:=List.any_eq_true.1 ha
      obtain⟨q,hq,rfl⟩:=List.getElem_of_mem hd
      rw[List.length_take] at hq
      rw[Zg (fun hs:Vh sig=>(hs.1 j hja).2 q (by omega) (by simpa using he))]
     | false =>
      simp only[EVA,seval]
      refine⟨by rw[Zd];omega,Ze () hja rfl (fun i hi=>?_)⟩
      by_cases e:i=j
      ·subst e
       refine fun h=>⟨⟨hn',hp',hk'⟩,fun q hq=>?_⟩
       have:=(List.any_eq_false.1 ha) sig[q] (by
        rw[List.mem_take_iff_getElem]
        exact⟨q,by omega,rfl⟩)
       simpa using this
      ·exact hA i (by omega)
 ·have:j=sig.length:=by omega
  subst this
  have hall:∀ i,Zpn sig i:=fun i h=>hA i h h
  rw[Zy (p:=Vh sig) ⟨hall,by omega,by omega⟩]
theorem Y7(a b:List Int):rI (a++b)=rI a++rI b:=List.map_append
theorem Zs9:ZE Proofs.Tryz.prog VE (Zpg 1 none)=true:=by kernel_rfl
theorem Zta:ZE Proofs.Tryz.prog JG (Zs6 VE)=true:=by kernel_rfl
end Go.Fd

/-
  WHAT A SIZE THAT IS LEFT SAYS OF BOUNDS (printed by lawgen.py). Own work.
-/
namespace Go.Fd
def Zm(s:Int->Int)(P:Prop):Prop:=∀ l:Int,0<=l->l<=1048576->s l<=l/\(0<=s l->P)
theorem Zyl:Zm (fun l=>l) True:=fun _ _ _=>⟨Int.le_refl _,fun _=>trivial⟩
theorem Zym{s g:Int->Int}{P Q:Prop}(hs:Zm s P)(hg:Zm g Q):Zm (fun l=>Zpf (s l) g) (P/\Q):=fun l h0 h1=>by
 have a:=hs l h0 h1
 by_cases h:s l<0
 ·simp only[Zpf,if_pos h]
  exact⟨by omega,fun h=>by omega⟩
 ·simp only[Zpf,if_neg h]
  have b:=hg (s l) (by omega) (by omega)
  exact⟨by omega,fun h2=>⟨a.2 (by omega),b.2 h2⟩⟩
theorem Ztb(n:Nat):Zm (fun l=>l-n) (n<=4294967296):=fun l h0 h1=>⟨by simp only;omega,fun h=>by simp only at h;omega⟩
theorem ZDJ{α:Type}{f:α->Int->Int}{P:α->Prop}(hf:∀ x,Zm (f x) (P x)):∀(a:List α),Zm (fun l=>szF f a l) (∀ y∈a,P y)
 | []=>fun l _ _=>⟨Int.le_refl l,fun _ y hy=>by cases hy⟩
 | x::r=>fun l h0 h1=>by
  simp only[szF]
  have a:=hf x l h0 h1
  split
  ·exact⟨by omega,fun h=>by omega⟩
  ·have b:=ZDJ hf r (f x l) (by omega) (by omega)
   refine⟨by simp only at b;omega,fun h y hy=>?_⟩
   cases hy with
   | head=>exact a.2 (by omega)
   | tail _ hy=>exact b.2 h y hy
theorem Zzf{α:Type}{f:α->Int->Int}{P:α->Prop}(hf:∀ x,Zm (f x) (P x))(a:List α):Zm (fun l=>szL f a l) (a.length<=4294967296/\∀ y∈a,P y):=fun l h0 h1=>by
 simp only[szL]
 split
 ·exact⟨by omega,fun h=>by omega⟩
 ·have b:=ZDJ hf a (l-a.length) (by omega) (by omega)
  simp only at b
  exact⟨by omega,fun h=>⟨by omega,b.2 h⟩⟩
theorem Ztc{s:Int->Int}{P Q:Prop}(h:Zm s P)(hq:P->Q):Zm s Q:=fun l h0 h1=>⟨(h l h0 h1).1,fun h2=>hq ((h l h0 h1).2 h2)⟩
theorem Zpo(x:TControl):Zm (fun l=>Yu x l) (Zq 4294967296 x):=by
 unfold Yu
 exact Ztc (Zym (Ztb _) Zyl) (fun h=>by unfold Zq;simp only[and_assoc,and_true,true_and,implies_true,forall_const] at h ⊢;try exact h)
theorem ZhJ(x:TTermStep):Zm (fun l=>Ya x l) (Zz 4294967296 x):=by
 unfold Ya
 exact Ztc (Zym (Zzf (fun y=>(Ztb _)) _) Zyl) (fun h=>by unfold Zz;simp only[and_assoc,and_true,true_and,implies_true,forall_const] at h ⊢;try exact h)
theorem ZuQ{a:Nat}(h:a<=4294967296):a<=9223372036854775807:=by omega
theorem Zaq{x:TControl}(h:Zq 4294967296 x):Zq 9223372036854775807 x:=by
 exact(ZuQ h)
end Go.Fd

/-
  WHAT A VALID BIGRAPH IS, BOTH SIDES. Own work.
-/
namespace Go.Fd
set_option maxRecDepth 20000
theorem Zq1{P:Nat->Prop}{j:Nat}(h:∀ k,k<j->P k)(hj:P j):∀ k,k<j+1->P k:=fun k hk=>by
 by_cases e:k=j
 ·subst e;exact hj
 ·exact h k (by omega)
theorem Zpp{n a b:Int}:inB n a b=dc (a<=n/\n<=b):=by
 unfold inB
 rw[Y1,Bool.decide_and]
theorem Zpq:∀(x y:List UInt8),(!Op.bytesLess x y)=(Op.bytesLess y x || decide (x=y))
 | [],[]=>by simp [Op.bytesLess]
 | [],_::_=>by simp [Op.bytesLess]
 | _::_,[]=>by simp [Op.bytesLess]
 | a::x,b::y=>by
  have ih:=Zpq x y
  simp only[Op.bytesLess]
  by_cases h:a=b
  ·subst h
   have e:¬ a<a:=UInt8.lt_irrefl a
   simp [e,ih]
  ·by_cases h1:a<b
   ·have h2:¬ b<a:=fun h2=>UInt8.lt_irrefl a (UInt8.lt_trans h1 h2)
    have h3:¬ b=a:=fun e=>h e.symm
    simp [h,h1,h2,h3]
   ·have h2:b<a:=by
     rcases UInt8.lt_or_lt_of_ne h with h | h
     ·exact absurd h h1
     ·exact h
    simp [h,h1,h2]
def ltS(s t:ByteArray):Prop:=Op.bytesLess s.data.toList t.data.toList=true
theorem ZuR{s t:ByteArray}:(!Op.bytesLess s.data.toList t.data.toList) = !dc (ltS s t):=by
 unfold ltS
 rw[Y1,Bool.decide_eq_true]
theorem ZuS{s t:ByteArray}:(Op.bytesLess t.data.toList s.data.toList || decide (t=s)) = !dc (ltS s t):=by
 rw[<-ZuR,Zpq]
 congr 1
 have:t=s↔s.data.toList=t.data.toList:=⟨fun h=>by rw[h],fun h=>by
  cases s with | mk s=>cases t with | mk t=>exact congrArg ByteArray.mk (Array.toList_inj.1 h.symm)⟩
 simp only[this]
def Zyn(l:List ByteArray)(i:Nat):Prop:=∀ h:i<l.length,ZcC l[i]/\∀ _:0<i,ltS (l[i-1]'(by omega)) l[i]
def VW(l:List ByteArray):Prop:=(∀ i,Zyn l i)/\l.length<=16
theorem Zgp(l:List ByteArray)(hl:l.length<=4294967296)(hb:∀ y∈l,y.size<=4294967296)(lvl:Nat)(S:Sto):Sem Proofs.Tryz.prog QI lvl [.tr (.sl (rS l))] S (iB (dc (VW l))) S:=by
 refine Zc Zg1 trivial ?_
 simp only[Zcb,EVA,seval]
 refine Zv (α:=Unit) l.length (fun j _=>[(3,iI j)]) (fun j _=>[]) (fun j _=>∀ k,k<j->Zyn l k) () (by simp only[EVA,seval]) (by (simp only[EVA,seval]) <;> rfl) (fun k hk=>absurd hk (Nat.not_lt_zero k)) ?_
 intro j _ hj hA
 simp only[List.length_map,EVA,seval]
 refine Zk (fun hlt=>?_) (fun hge=>?_)
 ·have hja:j<l.length:=by omega
  have ga:=Xh (c:=fun s=>[ts s]) hja
  have hno:¬ Zyn l j->dc (VW l)=false:=fun h=>Zg fun g=>h (g.1 j)
  simp only[ga,EVA,seval,Zf,men]
  refine Za (Zem l[j] (by have:=hb _ (List.getElem_mem hja);omega)) ?_
  cases h1:dc (ZcC l[j])
  ·simp only[EVA,seval]
   rw[hno fun h=>dc_not.1 h1 (h hja).1]
  by_cases q:0<j
  ·have e1:((j:Int)-1).toNat=j-1:=by omega
   have e2:(0:Int)<=j-1:=by omega
   have q5:(0:Int)<j:=by omega
   have gb:=Xh (c:=fun s=>[ts s]) (l:=l) (j:=j-1) (by omega)
   simp only[q5,e1,e2,ga,gb,EVA,seval]
   cases hc:Op.bytesLess (l[j-1]'(by omega)).data.toList l[j].data.toList
   ·simp only[seval]
    exact⟨by rw[Zd];omega,by rw[hno fun h=>by have:=(h hja).2 q;unfold ltS at this;rw[this] at hc;cases hc]⟩
   ·simp only[EVA,seval]
    exact⟨by rw[Zd];omega,by rw[Zd];omega,Ze () hja rfl (Zq1 hA fun _=>⟨dc_iff.1 h1,fun _=>hc⟩)⟩
  ·have q5:¬ (0:Int)<j:=by omega
   simp only[q5,EVA,seval]
   exact⟨by rw[Zd];omega,Ze () hja rfl (Zq1 hA fun _=>⟨dc_iff.1 h1,fun h=>absurd h q⟩)⟩
 ·have hj1:j=l.length:=by omega
  subst hj1
  rw[J3 (p:=VW l) (q:=(l.length:Int)<=16) ⟨fun g=>by have:=g.2;omega,fun g=>⟨fun i h=>hA i h h,by omega⟩⟩,Y1]
theorem Ze4(l:List ByteArray)(hl:l.length<=4294967296)(hb:∀ y∈l,y.size<=4294967296)(lvl:Nat)(S:Sto):Sem Proofs.Tryz.prog V5 lvl [.tr (.sl (rS l))] S (iB (dc (VW l))) S:=by
 refine Zc Zge trivial ?_
 simp only[Zbe,List.length_map,EVA,seval]
 refine Zv (α:=Unit) l.length (fun j _=>[(7,iI j)]) (fun j _=>[]) (fun j _=>∀ k,k<j->Zyn l k) () (by simp only[EVA,seval]) (by (simp only[EVA,seval]) <;> rfl) (fun k hk=>absurd hk (Nat.not_lt_zero k)) ?_
 intro j _ hj hA
 simp only[List.length_map,EVA,seval]
 refine Zk (fun hlt=>?_) (fun hge=>?_)
 ·have hja:j<l.length:=by omega
  have ga:=Xh (c:=fun s=>[ts s]) hja
  have hno:¬ Zyn l j->dc (VW l)=false:=fun h=>Zg fun g=>h (g.1 j)
  simp only[ga,EVA,seval,Zf,men]
  refine Za (DM l[j] (by have:=hb _ (List.getElem_mem hja);omega)) ?_
  cases h1:dc (ZcC l[j])
  ·simp only[EVA,seval]
   rw[hno fun h=>dc_not.1 h1 (h hja).1]
  by_cases q:0<j
  ·have e1:((j:Int)-1).toNat=j-1:=by omega
   have e2:(0:Int)<=j-1:=by omega
   have q5:(0:Int)<j:=by omega
   have gb:=Xh (c:=fun s=>[ts s]) (l:=l) (j:=j-1) (by omega)
   simp only[q5,e1,e2,gb,EVA,seval]
   rw[ZuS]
   cases hc:dc (ltS (l[j-1]'(by omega)) l[j])
   ·simp only[EVA,seval]
    exact⟨by rw[Zd];omega,by rw[hno fun h=>dc_not.1 hc ((h hja).2 q)]⟩
   ·simp only[EVA,seval]
    exact⟨by rw[Zd];omega,by rw[Zd];omega,Ze () hja rfl (Zq1 hA fun _=>⟨dc_iff.1 h1,fun _=>dc_iff.1 hc⟩)⟩
  ·have q5:¬ (0:Int)<j:=by omega
   simp only[q5,EVA,seval]
   exact⟨by rw[Zd];omega,Ze () hja rfl (Zq1 hA fun _=>⟨dc_iff.1 h1,fun h=>absurd h q⟩)⟩
 ·have hj1:j=l.length:=by omega
  subst hj1
  rw[J3 (p:=VW l) (q:=(l.length:Int)<=16) ⟨fun g=>by have:=g.2;omega,fun g=>⟨fun i h=>hA i h h,by omega⟩⟩,Y1]
def ZQ(b:TBigraph)(l:Int):Prop:=0<=l/\l<=b.edges+b.outer.length-1
theorem ZhK(b:TBigraph)(l:Int)(he:0<=b.edges/\b.edges<=8)(ho:b.outer.length<=4294967296)(lvl:Nat)(S:Sto):Sem Proofs.Tryz.prog XE lvl [.ag ((Zb b).map .tr),iI l] S (iB (dc (ZQ b l))) S:=by
 refine Zc ZiP trivial ?_
 simp only[Zdb,Zb,List.length_map,EVA,seval,Zf,men]
 refine⟨by rw[Zd];omega,by rw[Zd];omega,?_⟩
 refine Za (QP l 0 (b.edges+b.outer.length-1)) ?_
 simp only[EVA,seval]
 rw[Zpp]
 rfl
theorem ZhL(b:TBigraph)(l:Int)(he:0<=b.edges/\b.edges<=8)(ho:b.outer.length<=4294967296)(lvl:Nat)(S:Sto):Sem Proofs.Tryz.prog JZ lvl [.ag ((Zb b).map .tr),iI l] S (iB (dc (ZQ b l))) S:=by
 refine Zc Zbf trivial ?_
 simp only[Wy,Zb,List.length_map,EVA,seval,Zf,men]
 refine⟨by rw[Zd];omega,by rw[Zd];omega,?_⟩
 refine Za (Y2 l 0 (b.edges+b.outer.length-1)) ?_
 simp only[EVA,seval]
 rw[Zpp]
 rfl
def QF(sig:List TControl)(c:Int):Int:=((sig[c.toNat]?).map TControl.kind_).getD 0
def Vi(sig:List TControl)(c:Int):Int:=((sig[c.toNat]?).map TControl.ports).getD 0
def Zhi(b:TBigraph)(p:Int):Int:=((b.nodes[p.toNat]?).map TNode.control).getD 0
def Ua(sig:List TControl)(b:TBigraph)(p below:Int):Prop:=(p<0/\-b.roots<=p)\/(0<=p/\p<below/\¬ QF sig (Zhi b p)=2)
def Zkq(sig:List TControl)(b:TBigraph)(n:Nat):Prop:=∀ i,i<n->∀ h:i<b.nodes.length,0<=b.nodes[i].control/\b.nodes[i].control<=(sig.length:Int)-1
theorem Zgq(sig:List TControl)(b:TBigraph)(p:Int)(k:Nat)(hp:X3 .i64 p)(hr:0<=b.roots/\b.roots<=4)(hk:k<=b.nodes.length)(hc:Zkq sig b k)(lvl:Nat)(S:Sto):Sem Proofs.Tryz.prog QJ lvl [.tr (.sl (sig.map Zj)),.ag ((Zb b).map .tr),iI p,iI k] S (iB (dc (Ua sig b p k))) S:=by
 rw[Zd] at hp
 refine Zc Zg3 trivial ?_
 simp only[Zcd,Zb,EVA,seval,Zf,men]
 refine Zk (fun hneg=>?_) (fun hpos=>?_)
 ·refine⟨by rw[Zd];omega,by rw[Zd];omega,?_⟩
  refine Za (QP (-1-p) 0 (b.roots-1)) ?_
  simp only[EVA,seval]
  have hiff:(0 <= -1-p/\-1-p<=b.roots-1)↔Ua sig b p k:=⟨fun h=>.inl (by omega),fun h=>by rcases h with h | h <;> omega⟩
  rw[Zpp,J3 hiff]
 ·refine Zk (fun hb=>?_) (fun hb=>?_)
  ·obtain⟨q,rfl⟩:∃ q:Nat,p=q:=⟨p.toNat,by omega⟩
   have hq:q<b.nodes.length:=by omega
   have ga:=Xh (c:=ZK) hq
   obtain⟨m1,m2⟩:=hc q (by omega) hq
   obtain⟨m,hm⟩:∃ m:Nat,b.nodes[q].control=m:=⟨b.nodes[q].control.toNat,by omega⟩
   have hms:m<sig.length:=by omega
   have gs:=Xh (c:=Zj) hms
   simp only[hb,ga,gs,ZK,Zj,hm,Int.toNat_natCast,EVA,seval]
   have e:QF sig (Zhi b q)=sig[m].kind_:=by simp [QF,Zhi,hq,hm,hms]
   have hiff:Ua sig b q k ↔ ¬ sig[m].kind_=2:=by
    constructor
    ·intro h
     rcases h with h | h
     ·omega
     ·rw[<-e];exact h.2.2
    ·intro h
     exact .inr ⟨by omega,hb,by rw[e];exact h⟩
   rw[J3 hiff,Y1]
  ·rw[Zg fun h:Ua sig b p k=>by rcases h with h | h <;> omega]
theorem Ze5(sig:List TControl)(b:TBigraph)(p:Int)(k:Nat)(hr:0<=b.roots/\b.roots<=4)(hk:k<=b.nodes.length)(hc:Zkq sig b k)(lvl:Nat)(S:Sto):Sem Proofs.Tryz.prog JK lvl [.ag ((Zb b).map .tr),.tr (.sl (sig.map Zj)),iI p,iI k] S (iB (dc (Ua sig b p k))) S:=by
 refine Zc Zam trivial ?_
 simp only[XQ,Zb,EVA,seval]
 refine Zk (fun hneg=>?_) (fun hpos=>?_)
 ·refine⟨by rw[Zd];omega,?_⟩
  have hiff:Ua sig b p k ↔ -b.roots<=p:=⟨fun h=>by rcases h with h | h <;> omega,fun h=>.inl (by omega)⟩
  rw[J3 hiff,Y1]
 ·refine Zk (fun hb=>?_) (fun hb=>?_)
  ·obtain⟨q,rfl⟩:∃ q:Nat,p=q:=⟨p.toNat,by omega⟩
   have hq:q<b.nodes.length:=by omega
   have ga:=Xh (c:=ZK) hq
   obtain⟨m1,m2⟩:=hc q (by omega) hq
   obtain⟨m,hm⟩:∃ m:Nat,b.nodes[q].control=m:=⟨b.nodes[q].control.toNat,by omega⟩
   have hms:m<sig.length:=by omega
   have gs:=Xh (c:=Zj) hms
   simp only[hb,ga,gs,ZK,Zj,hm,Int.toNat_natCast,EVA,seval]
   have e:QF sig (Zhi b q)=sig[m].kind_:=by simp [QF,Zhi,hq,hm,hms]
   have hiff:Ua sig b q k ↔ ¬ sig[m].kind_=2:=by
    constructor
    ·intro h
     rcases h with h | h
     ·omega
     ·rw[<-e];exact h.2.2
    ·intro h
     exact .inr ⟨by omega,hb,by rw[e];exact h⟩
   rw[J3 hiff,Y1]
  ·rw[Zg fun h:Ua sig b p k=>by rcases h with h | h <;> omega]
structure nodeOK (sig:List TControl) (b:TBigraph) (x:TNode) (i:Nat):Prop where
 ctl:0<=x.control/\x.control<=(sig.length:Int)-1
 par:Ua sig b x.parent i
 ports:(x.links.length:Int)=Vi sig x.control
 links:∀ l∈x.links,ZQ b l
theorem ZnE(sig:List TControl)(b:TBigraph)(i:Nat)(hi:i<b.nodes.length)(hn:sig.length<=4294967296)(hl:b.nodes[i].links.length<=4294967296)(hp:X3 .i64 b.nodes[i].parent)(hr:0<=b.roots/\b.roots<=4)(he:0<=b.edges/\b.edges<=8)(ho:b.outer.length<=4294967296)(hc:Zkq sig b i)(lvl:Nat)(S:Sto):Sem Proofs.Tryz.prog Uq lvl [.tr (.sl (sig.map Zj)),.ag ((Zb b).map .tr),iI i] S (iB (dc (nodeOK sig b b.nodes[i] i))) S:=by
 refine Zc ZiO trivial ?_
 have ga:=Xh (c:=ZK) hi
 simp only[Zda,Zb,List.length_map,ga,ZK,EVA,seval,Zf,men]
 refine⟨by rw[Zd];omega,?_⟩
 refine Za (QP b.nodes[i].control 0 ((sig.length:Int)-1)) ?_
 cases h1:inB b.nodes[i].control 0 ((sig.length:Int)-1)
 ·simp only[EVA,seval]
  rw[Zg fun h:nodeOK sig b b.nodes[i] i=>inB_not.1 h1 h.ctl]
 have r1:=inB_iff.1 h1
 simp only[EVA,seval,Zf,men]
 refine Za (Zgq sig b b.nodes[i].parent i hp hr (by omega) hc) ?_
 cases h2:dc (Ua sig b b.nodes[i].parent i)
 ·simp only[EVA,seval]
  rw[Zg fun h:nodeOK sig b b.nodes[i] i=>dc_not.1 h2 h.par]
 obtain⟨m,hm⟩:∃ m:Nat,b.nodes[i].control=m:=⟨b.nodes[i].control.toNat,by omega⟩
 have hms:m<sig.length:=by omega
 have gs:=Xh (c:=Zj) hms
 have e:Vi sig b.nodes[i].control=sig[m].ports:=by simp [Vi,hm,hms]
 simp only[hm,gs,Zj,List.length_map,EVA,seval]
 refine Zk (fun hne=>?_) (fun heq=>?_)
 ·rw[Zg fun h:nodeOK sig b b.nodes[i] i=>by have:=h.ports;rw[e] at this;exact hne this]
 refine Zv (α:=Unit) b.nodes[i].links.length (fun j _=>[(8,iI j)]) (fun j _=>[]) (fun j _=>∀ k,k<j->ZQ b (g0 b.nodes[i].links k)) () (by simp only[EVA,seval]) (by (simp only[EVA,seval]) <;> rfl) (fun k hk=>absurd hk (Nat.not_lt_zero k)) ?_
 intro j _ hj hA
 simp only[List.length_map,EVA,seval]
 refine Zk (fun hlt=>?_) (fun hge=>?_)
 ·have hja:j<b.nodes[i].links.length:=by omega
  have gl:=Jo hja
  simp only[gl,EVA,seval,Zf,men]
  refine Za (ZhK b (g0 b.nodes[i].links j) he ho) ?_
  cases hc:dc (ZQ b (g0 b.nodes[i].links j))
  ·simp only[EVA,seval]
   rw[Zg fun h:nodeOK sig b b.nodes[i] i=>dc_not.1 hc (h.links _ (by simp [hja]))]
  ·simp only[EVA,seval]
   exact⟨by rw[Zd];omega,Ze () hja rfl (Zq1 hA (dc_iff.1 hc))⟩
 ·have hj1:j=b.nodes[i].links.length:=by omega
  subst hj1
  have:nodeOK sig b b.nodes[i] i:=⟨r1,dc_iff.1 h2,by rw[e];omega,fun l hl=>by
   obtain⟨k,hk,rfl⟩:=List.getElem_of_mem hl
   have:=hA k hk
   simpa [hk] using this⟩
  rw[Zy this]
def inn(b:TBigraph):List ByteArray:=b.inner.map TWire.name
theorem Zgr(a b:List ByteArray):rS (a++b)=rS a++rS b:=List.map_append
theorem ZcD(b:TBigraph)(hn:b.inner.length<=4294967296)(lvl:Nat)(S:Sto):Sem Proofs.Tryz.prog Vn lvl [.ag ((Zb b).map .tr)] S (.ow 1 (rS (inn b)) true) S:=by
 refine Zc Zg2 trivial ?_
 simp only[Zcc,Zb,EVA,seval]
 refine Zv (α:=Unit) b.inner.length (fun j _=>[(3,.hd (lvl,160) [] 0 j none j),(4,iI j)]) (fun j _=>[(160,.ar 1 (rS ((inn b).take j)) true j 0)]) (fun _ _=>True) () (by simp only[EVA,seval]) (by (simp only[EVA,seval]) <;> rfl) trivial ?_
 intro j _ hj _
 have hil:(inn b).length=b.inner.length:=by simp [inn]
 simp only[List.length_map,EVA,seval]
 refine Zk (fun hlt=>?_) (fun hge=>?_)
 ·have hja:j<b.inner.length:=by omega
  have ga:=Xh (c:=Z3) hja
  have hlN:(rS ((inn b).take j)).length=j:=by rw[List.length_map,List.length_take];omega
  simp only[ga,Z3,hlN,EVA,seval]
  have hstep:rS ((inn b).take j)++[[ts b.inner[j].name]]=rS ((inn b).take (j+1)):=by
   rw[List.take_succ_eq_append_getElem (by omega),Zgr]
   simp [inn]
  refine⟨by omega,by rw[Zd];omega,Ze () hja ?_ trivial⟩
  rw[<-hstep]
  rfl
 ·have:j=b.inner.length:=by omega
  subst this
  rw[List.take_of_length_le (by omega)]
  exact⟨hil.symm,rfl⟩
end Go.Fd

/-
  A VALID BIGRAPH: THE WHOLE, BOTH SIDES. Own work.
-/
namespace Go.Fd
set_option maxRecDepth 20000
theorem QG(b:TBigraph)(hn:b.inner.length<=4294967296)(lvl:Nat)(S:Sto):Sem Proofs.Tryz.prog ZH lvl [.ag ((Zb b).map .tr)] S (.ow 1 (rS (inn b)) true) S:=by
 refine Zc Do trivial ?_
 simp only[QB,List.length_map,Zb,EVA,seval,Zf,men]
 refine Zv (α:=Unit) b.inner.length (fun j _=>[(3,.hd (lvl,192) [] 0 j none j),(10,iI j)]) (fun j _=>[(192,.ar 1 (rS ((inn b).take j)) true j 0)]) (fun _ _=>True) () (by simp only[EVA,seval,Zf,men]) (by (simp only[EVA,seval,Zf,men]) <;> rfl) trivial ?_
 intro j _ hj _
 have hil:(inn b).length=b.inner.length:=by simp [inn]
 simp only[List.length_map,EVA,seval,Zf,men]
 refine Zk (fun hlt=>?_) (fun hge=>?_)
 ·have hja:j<b.inner.length:=by omega
  have ga:=Xh (c:=Z3) hja
  have hlN:(rS ((inn b).take j)).length=j:=by rw[List.length_map,List.length_take];omega
  simp only[ga,Z3,hlN,List.length_map,EVA,seval,Zf,men]
  have hstep:rS ((inn b).take j)++[[ts b.inner[j].name]]=rS ((inn b).take (j+1)):=by
   rw[List.take_succ_eq_append_getElem (by omega),Zgr]
   simp [inn]
  refine⟨by omega,by rw[Zd];omega,Ze () hja ?_ trivial⟩
  rw[<-hstep]
  rfl
 ·have:j=b.inner.length:=by omega
  subst this
  rw[List.take_of_length_le (by omega)]
  exact⟨hil.symm,rfl⟩
def ZmL(sig:List TControl)(b:TBigraph)(i:Nat):Prop:=∀ h:i<b.nodes.length,nodeOK sig b b.nodes[i] i
structure bigOK (sig:List TControl) (b:TBigraph):Prop where
 sg:Vh sig
 roots:0<=b.roots/\b.roots<=4
 nodesL:b.nodes.length<=8
 sitesL:b.sites.length<=4
 edges:0<=b.edges/\b.edges<=8
 outer:VW b.outer
 inn:VW (inn b)
 nodes:∀ i,ZmL sig b i
 sites:∀ p∈b.sites,Ua sig b p b.nodes.length
 inner:∀ w∈b.inner,ZQ b w.link
theorem Zi5{sig:List TControl}{b:TBigraph}{j:Nat}(h:∀ k,k<j->ZmL sig b k):Zkq sig b j:=fun i hi hl=>(h i hi hl).ctl
theorem Zar{b:TBigraph}:(inn b).length=b.inner.length:=by simp [inn]
theorem Zpr{b:TBigraph}{n:Nat}(h:∀ y∈b.inner,ZeR n y):∀ y∈inn b,y.size<=n:=fun y hy=>by
 obtain⟨w,hw,rfl⟩:=List.mem_map.1 hy
 exact h w hw
theorem We(sig:List TControl)(b:TBigraph)(hn:sig.length<=4294967296)(hbs:∀ y∈sig,Zq 4294967296 y)(hb:Zr 4294967296 b)(hf:ZB b)(lvl:Nat)(S:Sto):Sem Proofs.Tryz.prog Yh lvl [.tr (.sl (sig.map Zj)),.ag ((Zb b).map .tr)] S (iB (dc (bigOK sig b))) S:=by
 obtain⟨b1,b2,b3,b4,b5,b6,b7⟩:=hb
 obtain⟨f1,f2,f3,f4,f5⟩:=hf
 refine Zc ZiG trivial ?_
 simp only[Zc2,List.length_map,Zb,EVA,seval,Zf,men]
 refine Za (Zkp sig (by omega) (fun y hy=>Zaq (hbs y hy))) ?_
 cases h1:dc (Vh sig)
 ·simp only[EVA,seval,Zf,men]
  rw[Zg fun h:bigOK sig b=>dc_not.1 h1 h.sg]
 simp only[List.length_map,Zb,EVA,seval,Zf,men]
 refine Za (QP b.roots 0 4) ?_
 cases h2:inB b.roots 0 4
 ·simp only[EVA,seval,Zf,men]
  rw[Zg fun h:bigOK sig b=>inB_not.1 h2 h.roots]
 by_cases h3:(8:Int)<b.nodes.length
 ·simp only[h3,List.length_map,Zb,EVA,seval,Zf,men]
  rw[Zg fun h:bigOK sig b=>by have:=h.nodesL;omega]
 by_cases h4:(4:Int)<b.sites.length
 ·simp only[h3,h4,List.length_map,Zb,EVA,seval,Zf,men]
  rw[Zg fun h:bigOK sig b=>by have:=h.sitesL;omega]
 simp only[h3,h4,List.length_map,Zb,EVA,seval,Zf,men]
 refine Za (QP b.edges 0 8) ?_
 cases h5:inB b.edges 0 8
 ·simp only[EVA,seval,Zf,men]
  rw[Zg fun h:bigOK sig b=>inB_not.1 h5 h.edges]
 have r2:=inB_iff.1 h2
 have r5:=inB_iff.1 h5
 simp only[List.length_map,Zb,EVA,seval,Zf,men]
 refine Za (Zgp b.outer (by assumption) (by assumption)) ?_
 cases h6:dc (VW b.outer)
 ·simp only[EVA,seval,Zf,men]
  rw[Zg fun h:bigOK sig b=>dc_not.1 h6 h.outer]
 by_cases h7:(16:Int)<b.inner.length
 ·simp only[h7,List.length_map,Zb,EVA,seval,Zf,men]
  rw[Zg fun h:bigOK sig b=>by have:=h.inn.2;rw[Zar] at this;omega]
 simp only[h7,List.length_map,Zb,EVA,seval,Zf,men]
 refine Za (ZcD b (by omega)) ?_
 simp only[List.length_map,Zb,EVA,seval,Zf,men]
 refine Za (Zgp (inn b) (by rw[Zar];omega) (Zpr (by assumption))) ?_
 cases h8:dc (VW (inn b))
 ·simp only[EVA,seval,Zf,men]
  rw[Zg fun h:bigOK sig b=>dc_not.1 h8 h.inn]
 simp only[List.length_map,Zb,EVA,seval,Zf,men]
 have ho:=(dc_iff.1 h6).2
 refine Zv (α:=Unit) b.nodes.length (fun j _=>[(5,iI j)]) (fun j _=>[]) (fun j _=>∀ k,k<j->ZmL sig b k) () (by simp only[EVA,seval,Zf,men]) (by (simp only[EVA,seval,Zf,men]) <;> rfl) (fun k hk=>absurd hk (Nat.not_lt_zero k)) ?_
 intro j _ hj hA
 simp only[List.length_map,Zb,EVA,seval,Zf,men]
 refine Zk (fun hlt=>?_) (fun hge=>?_)
 ·have hja:j<b.nodes.length:=by omega
  have hm:=List.getElem_mem hja
  refine Za (ZnE sig b j hja hn (by first | exact(b2 _ hm) | exact(b3 _ hm)) (by first | exact(f1 _ hm).2.1 | exact(f2 _ hm).2.1) r2 r5 (by omega) (Zi5 hA)) ?_
  cases hc:dc (nodeOK sig b b.nodes[j] j)
  ·simp only[EVA,seval,Zf,men]
   rw[Zg fun h:bigOK sig b=>dc_not.1 hc (h.nodes j hja)]
  ·simp only[EVA,seval,Zf,men]
   exact⟨by rw[Zd];omega,Ze () hja rfl (Zq1 hA fun _=>dc_iff.1 hc)⟩
 have hj1:j=b.nodes.length:=by omega
 subst hj1
 refine Zv (α:=Unit) b.sites.length (fun j _=>[(6,iI j)]) (fun j _=>[]) (fun j _=>∀ k,k<j->Ua sig b (g0 b.sites k) b.nodes.length) () (by simp only[EVA,seval,Zf,men]) (by (simp only[EVA,seval,Zf,men]) <;> rfl) (fun k hk=>absurd hk (Nat.not_lt_zero k)) ?_
 intro j _ hj hB
 simp only[List.length_map,Zb,EVA,seval,Zf,men]
 refine Zk (fun hlt=>?_) (fun hge=>?_)
 ·have hja:j<b.sites.length:=by omega
  have ga:=Jo hja
  have hg:g0 b.sites j∈b.sites:=by simp [hja]
  simp only[ga,List.length_map,Zb,EVA,seval,Zf,men]
  refine Za (Zgq sig b (g0 b.sites j) b.nodes.length (by first | exact f3 _ hg | exact f2 _ hg | exact f4 _ hg) r2 (Nat.le_refl _) (Zi5 hA)) ?_
  cases hc:dc (Ua sig b (g0 b.sites j) b.nodes.length)
  ·simp only[EVA,seval,Zf,men]
   rw[Zg fun h:bigOK sig b=>dc_not.1 hc (h.sites _ hg)]
  ·simp only[EVA,seval,Zf,men]
   exact⟨by rw[Zd];omega,Ze () hja rfl (Zq1 hB (dc_iff.1 hc))⟩
 have hj1:j=b.sites.length:=by omega
 subst hj1
 refine Zv (α:=Unit) b.inner.length (fun j _=>[(7,iI j)]) (fun j _=>[]) (fun j _=>∀ k,k<j->∀ h:k<b.inner.length,ZQ b b.inner[k].link) () (by simp only[EVA,seval,Zf,men]) (by (simp only[EVA,seval,Zf,men]) <;> rfl) (fun k hk=>absurd hk (Nat.not_lt_zero k)) ?_
 intro j _ hj hC
 simp only[List.length_map,Zb,EVA,seval,Zf,men]
 refine Zk (fun hlt=>?_) (fun hge=>?_)
 ·have hja:j<b.inner.length:=by omega
  have ga:=Xh (c:=Z3) hja
  simp only[ga,Z3,List.length_map,Zb,EVA,seval,Zf,men]
  refine Za (ZhK b b.inner[j].link r5 (by omega)) ?_
  cases hc:dc (ZQ b b.inner[j].link)
  ·simp only[EVA,seval,Zf,men]
   rw[Zg fun h:bigOK sig b=>dc_not.1 hc (h.inner _ (List.getElem_mem hja))]
  ·simp only[EVA,seval,Zf,men]
   exact⟨by rw[Zd];omega,Ze () hja rfl (Zq1 hC fun _=>dc_iff.1 hc)⟩
 have hj1:j=b.inner.length:=by omega
 subst hj1
 have:bigOK sig b:=⟨dc_iff.1 h1,r2,by omega,by omega,r5,dc_iff.1 h6,dc_iff.1 h8,fun i h=>hA i h h,fun p hp=>by
  obtain⟨k,hk,rfl⟩:=List.getElem_of_mem hp
  have:=hB k hk
  simpa [hk] using this,fun w hw=>by
  obtain⟨k,hk,rfl⟩:=List.getElem_of_mem hw
  exact hC k hk hk⟩
 rw[Zy this]
theorem Zgs(l:Int)(b:TBigraph)(he:0<=b.edges/\b.edges<=8)(ho:b.outer.length<=4294967296)(lvl:Nat)(S:Sto):Sem Proofs.Tryz.prog Qf lvl [iI l,.ta (Zb b)] S (iB (!dc (ZQ b l))) S:=by
 refine Zc Zdj trivial ?_
 simp only[U2,Zb,EVA,seval,Zf,men]
 refine Za (ZhL b l he ho) ?_
 simp only[EVA,seval,Zf,men]
theorem Zgt(p:Int)(sig:List TControl)(b:TBigraph)(hr:0<=b.roots/\b.roots<=4)(hc:Zkq sig b b.nodes.length)(lvl:Nat)(S:Sto):Sem Proofs.Tryz.prog Qg lvl [iI p,.ta (Zb b),.ta [Tr.sl (sig.map Zj)]] S (iB (!dc (Ua sig b p b.nodes.length))) S:=by
 refine Zc Zdk trivial ?_
 simp only[U3,Zb,List.length_map,EVA,seval,Zf,men]
 refine Za (Ze5 sig b p b.nodes.length hr (Nat.le_refl _) hc) ?_
 simp only[EVA,seval,Zf,men]
theorem Zgu(w:TWire)(b:TBigraph)(he:0<=b.edges/\b.edges<=8)(ho:b.outer.length<=4294967296)(lvl:Nat)(S:Sto):Sem Proofs.Tryz.prog Qh lvl [.ag ((Z3 w).map .tr),.ta (Zb b)] S (iB (!dc (ZQ b w.link))) S:=by
 refine Zc Zdl trivial ?_
 simp only[U4,Zb,Z3,EVA,seval,Zf,men]
 refine Za (ZhL b w.link he ho) ?_
 simp only[EVA,seval,Zf,men]
theorem Zyo:ZE Proofs.Tryz.prog JH (Zpg 2 (some 2))=true:=by kernel_rfl
theorem Zyp:ZE Proofs.Tryz.prog Jw (Zs6 JH)=true:=by kernel_rfl
theorem any_no{α:Type}{l:List α}{p:α->Prop}:(l.any fun n=>!dc (p n))=false↔∀ n∈l,p n:=by
 simp only[List.any_eq_false,Bool.not_eq_true',Bool.not_eq_false,dc_iff]
theorem Jz(sig:List TControl)(b:TBigraph)(hn:sig.length<=4294967296)(hbs:∀ y∈sig,Zq 4294967296 y)(hb:Zr 4294967296 b)(lvl:Nat)(S:Sto):Sem Proofs.Tryz.prog Z5 lvl [.tr (.sl (sig.map Zj)),.ag ((Zb b).map .tr)] S (iB (dc (bigOK sig b))) S:=by
 obtain⟨b1,b2,b3,b4,b5,b6,b7⟩:=hb
 refine Zc Zfh trivial ?_
 simp only[ZaF,List.length_map,Zb,EVA,seval,Zf,men]
 refine Za (Qm sig (by omega) (fun y hy=>Zaq (hbs y hy))) ?_
 cases h1:dc (Vh sig)
 ·simp only[EVA,seval,Zf,men]
  rw[Zg fun h:bigOK sig b=>dc_not.1 h1 h.sg]
 simp only[List.length_map,Zb,EVA,seval,Zf,men]
 refine Za (Y2 b.roots 0 4) ?_
 cases h2:inB b.roots 0 4
 ·simp only[EVA,seval,Zf,men]
  rw[Zg fun h:bigOK sig b=>inB_not.1 h2 h.roots]
 by_cases h3:(8:Int)<b.nodes.length
 ·simp only[h3,List.length_map,Zb,EVA,seval,Zf,men]
  rw[Zg fun h:bigOK sig b=>by have:=h.nodesL;omega]
 by_cases h4:(4:Int)<b.sites.length
 ·simp only[h3,h4,List.length_map,Zb,EVA,seval,Zf,men]
  rw[Zg fun h:bigOK sig b=>by have:=h.sitesL;omega]
 simp only[h3,h4,List.length_map,Zb,EVA,seval,Zf,men]
 refine Za (Y2 b.edges 0 8) ?_
 cases h5:inB b.edges 0 8
 ·simp only[EVA,seval,Zf,men]
  rw[Zg fun h:bigOK sig b=>inB_not.1 h5 h.edges]
 have r2:=inB_iff.1 h2
 have r5:=inB_iff.1 h5
 simp only[List.length_map,Zb,EVA,seval,Zf,men]
 refine Za (Ze4 b.outer (by assumption) (by assumption)) ?_
 cases h6:dc (VW b.outer)
 ·simp only[EVA,seval,Zf,men]
  rw[Zg fun h:bigOK sig b=>dc_not.1 h6 h.outer]
 simp only[List.length_map,Zb,EVA,seval,Zf,men]
 refine Za (QG b (by omega)) ?_
 simp only[List.length_map,Zb,EVA,seval,Zf,men]
 refine Za (Ze4 (inn b) (by rw[Zar];omega) (Zpr (by assumption))) ?_
 cases h8:dc (VW (inn b))
 ·simp only[EVA,seval,Zf,men]
  rw[Zg fun h:bigOK sig b=>dc_not.1 h8 h.inn]
 simp only[List.length_map,Zb,EVA,seval,Zf,men]
 have ho:=(dc_iff.1 h6).2
 refine Zv (α:=Unit) b.nodes.length (fun j _=>[(49,iI j)]) (fun j _=>[]) (fun j _=>∀ k,k<j->ZmL sig b k) () (by simp only[EVA,seval,Zf,men]) (by (simp only[EVA,seval,Zf,men]) <;> rfl) (fun k hk=>absurd hk (Nat.not_lt_zero k)) ?_
 intro j _ hj hA
 simp only[List.length_map,Zb,EVA,seval,Zf,men]
 refine Zk (fun hlt=>?_) (fun hge=>?_)
 ·have hja:j<b.nodes.length:=by omega
  have hm:=List.getElem_mem hja
  have ga:=Xh (c:=ZK) hja
  have hll:b.nodes[j].links.length<=4294967296:=by first | exact(b2 _ hm) | exact(b3 _ hm)
  have hno:¬ nodeOK sig b b.nodes[j] j->dc (bigOK sig b)=false:=fun h=>Zg fun g=>h (g.nodes j hja)
  simp only[ga,ZK,List.length_map,Zb,EVA,seval,Zf,men]
  refine⟨by rw[Zd];omega,?_⟩
  refine Za (Y2 b.nodes[j].control 0 ((sig.length:Int)-1)) ?_
  cases p1:inB b.nodes[j].control 0 ((sig.length:Int)-1)
  ·simp only[EVA,seval,Zf,men]
   rw[hno fun h=>inB_not.1 p1 h.ctl]
  have q1:=inB_iff.1 p1
  simp only[ZK,List.length_map,Zb,EVA,seval,Zf,men]
  refine Za (Ze5 sig b b.nodes[j].parent j r2 (by omega) (Zi5 hA)) ?_
  cases p2:dc (Ua sig b b.nodes[j].parent j)
  ·simp only[EVA,seval,Zf,men]
   rw[hno fun h=>dc_not.1 p2 h.par]
  obtain⟨m,hmm⟩:∃ m:Nat,b.nodes[j].control=m:=⟨b.nodes[j].control.toNat,by omega⟩
  have hms:m<sig.length:=by omega
  have gs:=Xh (c:=Zj) hms
  have e:Vi sig b.nodes[j].control=sig[m].ports:=by simp [Vi,hmm,hms]
  by_cases p3:(b.nodes[j].links.length:Int)=sig[m].ports
  case neg =>
   simp only[p3,hmm,gs,Int.toNat_natCast,Int.natCast_nonneg,Zj,ZK,List.length_map,Zb,EVA,seval,Zf,men]
   rw[hno fun h=>p3 (by rw[<-e];exact h.ports)]
  simp only[p3,hmm,gs,Int.toNat_natCast,Int.natCast_nonneg,Zj,ZK,List.length_map,Zb,EVA,seval,Zf,men]
  refine Za (ZfH (t:=tv) (cs:=[Zb b]) Zta Zs9 b.nodes[j].links (by omega) (fun x _ lvl S=>Zgs x b r5 (by omega) lvl S)) ?_
  cases p4:b.nodes[j].links.any fun l=>!dc (ZQ b l)
  ·simp only[EVA,seval,Zf,men]
   exact⟨by rw[Zd];omega,Ze () hja rfl (Zq1 hA fun _=>⟨q1,dc_iff.1 p2,by rw[e];exact p3,any_no.1 p4⟩)⟩
  ·simp only[EVA,seval,Zf,men]
   rw[hno fun h=>by rw[any_no.2 h.links] at p4;cases p4]
 have hj1:j=b.nodes.length:=by omega
 subst hj1
 refine Za (ZfH (t:=tv) (cs:=[Zb b,[Tr.sl (sig.map Zj)]]) Zta Zs9 b.sites (by omega) (fun x _ lvl S=>Zgt x sig b r2 (Zi5 hA) lvl S)) ?_
 cases h9:b.sites.any fun p=>!dc (Ua sig b p b.nodes.length)
 case true =>
  simp only[EVA,seval,Zf,men]
  rw[Zg fun h:bigOK sig b=>by rw[any_no.2 h.sites] at h9;cases h9]
 simp only[List.length_map,Zb,EVA,seval,Zf,men]
 refine Za (ZmK (cs:=[Zb b]) Zyp Zyo (fun x=>rfl) b.inner (by omega) (fun x _ lvl S=>Zgu x b r5 (by omega) lvl S)) ?_
 cases h10:b.inner.any fun w=>!dc (ZQ b w.link)
 case true =>
  simp only[EVA,seval,Zf,men]
  rw[Zg fun h:bigOK sig b=>by rw[(any_no (p:=fun w:TWire=>ZQ b w.link)).2 h.inner] at h10;cases h10]
 simp only[EVA,seval,Zf,men]
 have:bigOK sig b:=⟨dc_iff.1 h1,r2,by omega,by omega,r5,dc_iff.1 h6,dc_iff.1 h8,fun i h=>hA i h h,any_no.1 h9,any_no.1 h10⟩
 rw[Zy this]
end Go.Fd
