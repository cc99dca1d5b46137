/-
  The annotated codes of the functions, printed by a program of mine (gen.py), and the check that they belong to the program.
-/
import Derived.Test.YtkhjhkepdjkiaaaGreatDoorT04
import Derived.KernelRfl
import Derived.Shelf.Sort.AssemblysIn
import Derived.Shelf.Strings.SlTrimAscii
import Derived.Test.YtkhjhkepdjkiaaaGreatDoorProg
set_option linter.all false
namespace Go.Fd
def Xa:F2 :=
 { nt:=13,res:=[.t 4 [0],.t 5 [0]],body:=(.sq (rg [oo 3 (.bt (.t 1)),om 4 (i6 0),om 5 (.k (.bool false))]) (.sq (.sq (rg [qM 6 0,qS 7 6 3,oo 8 (.ca .pure false (.f J0) [.t 6,.t 7]),oo 9 (.nt (.t 8))]) (.cd (.t 9) (.sq (rg [om 4 (i6 0),om 5 (.k (.bool false))]) (.rt)) (.sk))) (.sq (rg [qS 10 6 3,oo 11 (.ca .pure false (.f VO) [.t 10,i6 50000]),qN 12 11,qM 4 12,om 5 (.k (.bool true))]) (.rt)))) }
theorem DK:ZT Proofs.Tryz.prog Ym Xa=true:=by kernel_rfl
def Xb:F2 :=
 { nt:=13,res:=[.t 4 [0],.t 5 [0]],body:=(.sq (rg [oo 3 (.bt (.t 1)),om 4 (i6 0),om 5 (.k (.bool false))]) (.sq (.sq (rg [qM 6 0,qS 7 6 3,oo 8 (.ca .pure false (.f Jo) [.t 6,.t 7]),oo 9 (.nt (.t 8))]) (.cd (.t 9) (.sq (rg [om 4 (i6 0),om 5 (.k (.bool false))]) (.rt)) (.sk))) (.sq (rg [qS 10 6 3,oo 11 (.ca .pure false (.f J1) [.t 10]),qN 12 11,qM 4 12,om 5 (.k (.bool true))]) (.rt)))) }
theorem DL:ZT Proofs.Tryz.prog Yn Xb=true:=by kernel_rfl
def WG:F2 :=
 { nt:=19,res:=[.t 4 [2],.t 5 [0]],body:=(.sq (rg [oo 3 (.bt (.t 1)),om 4 (.k (.slice none 0 0)),om 5 (.k (.bool false))]) (.sq (.sq (rg [qM 7 0,qS 8 6 3,oo 9 (.ca .pure false (.f J0) [.t 7,.t 8]),oo 10 (.nt (.t 9))]) (.cd (.t 10) (.sq (rg [oo 11 (.bs 1 0 [] []),qM 4 11,om 5 (.k (.bool false))]) (.rt)) (.sk))) (.sq (rg [qS 12 6 3,oo 13 (.ca .pure true (.f VO) [.t 12,i6 25]),qM 6 13]) (.sq (.sq (rg [qM 14 6,qN 15 14,oo 16 (.bi .gtr 0 (.t 15) (i6 24))]) (.cd (.t 16) (.sq (rg [oo 17 (.bs 1 0 [] []),qM 4 17,om 5 (.k (.bool false))]) (.rt)) (.sk))) (.sq (rg [qM 18 6,qM 4 18,om 5 (.k (.bool true))]) (.rt)))))) }
theorem Zbc:ZT Proofs.Tryz.prog Va WG=true:=by kernel_rfl
def WH:F2 :=
 { nt:=17,res:=[.t 4 [2],.t 5 [0]],body:=(.sq (rg [oo 3 (.bt (.t 1)),om 4 (.k (.slice none 0 0)),om 5 (.k (.bool false))]) (.sq (.sq (rg [qM 7 0,qS 8 6 3,oo 9 (.ca .pure false (.f Jo) [.t 7,.t 8]),oo 10 (.nt (.t 9))]) (.cd (.t 10) (.sq (rg [om 4 (.k (.slice none 0 0)),om 5 (.k (.bool false))]) (.rt)) (.sk))) (.sq (rg [qS 11 6 3,oo 12 (.ca .pure true (.f J1) [.t 11]),qM 6 12]) (.sq (.sq (rg [qM 13 6,qN 14 13,oo 15 (.bi .gtr 0 (.t 14) (i6 24))]) (.cd (.t 15) (.sq (rg [om 4 (.k (.slice none 0 0)),om 5 (.k (.bool false))]) (.rt)) (.sk))) (.sq (rg [qM 16 6,qM 4 16,om 5 (.k (.bool true))]) (.rt)))))) }
theorem Zbd:ZT Proofs.Tryz.prog J7 WH=true:=by kernel_rfl
def Zad:F2 :=
 { nt:=47,res:=[.t 4 [2],.t 5 [0]],body:=(.sq (rg [oo 3 (.bt (.t 1)),om 4 (.k (.slice none 0 0)),om 5 (.k (.bool false))]) (.sq (rg [oo 11 (.bs 1 0 [] []),qM 6 11]) (.sq (.sq (rg [qM 12 0,qS 13 6 3,oo 14 (.ca .pure false (.f J0) [.t 12,.t 13]),oo 15 (.nt (.t 14))]) (.cd (.t 15) (.sq (rg [qM 16 6,qM 4 16,om 5 (.k (.bool false))]) (.rt)) (.sk))) (.sq (rg [qS 17 6 3,oo 18 (.ca .pure false (.f VO) [.t 17,i6 50000]),qM 7 18]) (.sq (.sq (rg [om 8 (i6 0)]) (.bl 0 (.lp [3,6,7,8] [352,1440] (.sq (.sq (rg [qM 19 8,qF 20 1 3,qL 21 20,qN 22 21,qB 23 .lss 19 22]) (.cd (.t 23) (.sk) (.ex 0))) (.sq (.bl 1 (.sq (rg [qM 26 8,qM 9 26]) (.sq (.sq (rg [om 10 (i6 0)]) (.bl 2 (.lp [3,6,7,8,9,10] [352,1440] (.sq (.sq (rg [qM 27 10,qM 28 7,qN 29 28,qB 30 .lss 27 29]) (.cd (.t 30) (.sk) (.ex 2))) (.sq (.bl 3 (rg [qM 33 9,qM 34 7,qM 35 10,qI 36 1 34 35,qL 37 36,qM 38 8,qI 39 1 37 38,qL 40 39,oo 41 (.ca .pure false (.f XO) [.t 33,.t 40]),qM 9 41]))
 (rg [qM 31 10,oo 32 (.bi .add 0 (.t 31) (i6 1)),qM 10 32]))))))
 (rg [qM 42 6,qM 43 9,oo 44 (.bs 1 1 [.int .i64 0] [(0,.t 43)]),oo 45 (.ap 1 0 (.t 42) (.t 44)),qM 6 45]))))
 (rg [qM 24 8,oo 25 (.bi .add 0 (.t 24) (i6 1)),qM 8 25])))))) (.sq (rg [qM 46 6,qM 4 46,om 5 (.k (.bool true))]) (.rt))))))) }
theorem Zev:ZT Proofs.Tryz.prog Xi Zad=true:=by kernel_rfl
def Zae:F2 :=
 { nt:=54,res:=[.t 4 [2],.t 5 [0]],body:=(.sq (rg [oo 3 (.bt (.t 1)),om 4 (.k (.slice none 0 0)),om 5 (.k (.bool false))]) (.sq (.sq (rg [qM 12 0,qS 13 6 3,oo 14 (.ca .pure false (.f Jo) [.t 12,.t 13]),oo 15 (.nt (.t 14))]) (.cd (.t 15) (.sq (rg [om 4 (.k (.slice none 0 0)),om 5 (.k (.bool false))]) (.rt)) (.sk))) (.sq (rg [oo 16 (.bs 1 0 [] []),qM 6 16]) (.sq (.sq (rg [qF 17 1 3,qL 18 17,qN 19 18,om 20 (i6 0)]) (.bl 0 (.lp [3,6,19,20] [512,832] (.sq (rg [qB 21 .lss 20 19]) (.sq (.cd (.t 21) (.sk) (.ex 0)) (.sq (.bl 1 (.sq (rg [qM 22 20,qM 7 22])
 (rg [qM 23 6,qM 24 7,oo 25 (.bs 1 1 [.int .i64 0] [(0,.t 24)]),oo 26 (.ap 1 0 (.t 23) (.t 25)),qM 6 26])))
 (rg [oo 27 (.bi .add 0 (.t 20) (i6 1)),qM 20 27]))))))) (.sq (.sq (rg [qS 28 6 3,oo 29 (.ca .pure false (.f J1) [.t 28]),qN 30 29,om 31 (i6 0)]) (.bl 2 (.lp [6,29,30,31] [512,832] (.sq (rg [qB 32 .lss 31 30]) (.sq (.cd (.t 32) (.sk) (.ex 2)) (.sq (.bl 3 (.sq (rg [qI 33 1 29 31,qL 34 33,qM 9 34]) (.sq (rg [qM 35 9,qN 36 35,om 37 (i6 0)]) (.bl 4 (.lp [6,29,30,31,35,36,37] [512,832] (.sq (rg [qB 38 .lss 37 36]) (.sq (.cd (.t 38) (.sk) (.ex 4)) (.sq (.bl 5 (.sq (rg [qM 39 37,qI 40 1 35 37,qL 41 40,qM 10 39,qM 11 41])
 (rg [qM 42 6,qM 43 10,qM 44 6,qM 45 10,qI 46 1 44 45,qL 47 46,qM 48 11,oo 49 (.mm false (.t 47) (.t 48)),qI 50 1 42 43,on1 (.st 1 (.t 50) (.t 49))])))
 (rg [oo 51 (.bi .add 0 (.t 37) (i6 1)),qM 37 51])))))))))
 (rg [oo 52 (.bi .add 0 (.t 31) (i6 1)),qM 31 52]))))))) (.sq (rg [qM 53 6,qM 4 53,om 5 (.k (.bool true))]) (.rt))))))) }
theorem Zew:ZT Proofs.Tryz.prog Vm Zae=true:=by kernel_rfl
def Xc:F2 :=
 { nt:=25,res:=[.t 6 [0],.t 7 [0]],body:=(.sq (rg [oo 4 (.bt (.t 1)),oo 5 (.bt (.t 2)),om 6 (.k (.slice none 0 0)),om 7 (.k (.bool false))]) (.sq (.sq (rg [qM 9 0,qS 10 6 4,qS 11 6 5,oo 12 (.ca .pure false (.f Xo) [.t 9,.t 10,.t 11]),oo 13 (.nt (.t 12))]) (.cd (.t 13) (.sq (rg [oo 14 (.bs 1 0 [] []),qM 6 14,om 7 (.k (.bool false))]) (.rt)) (.sk))) (.sq (rg [qS 15 6 4,qS 16 6 5,oo 17 (.ca .pure false (.f V1) [.t 15,.t 16]),qM 8 17]) (.sq (.sq (rg [qM 18 8,qN 19 18,oo 20 (.bi .eql 0 (.t 19) (i6 0))]) (.cd (.t 20) (.sq (rg [oo 21 (.bs 1 0 [] []),qM 6 21,om 7 (.k (.bool false))]) (.rt)) (.sk))) (.sq (rg [qM 22 8,oo 23 (.ia 1 (.t 22) (i6 0)),qL 24 23,qM 6 24,om 7 (.k (.bool true))]) (.rt)))))) }
theorem DM:ZT Proofs.Tryz.prog Yo Xc=true:=by kernel_rfl
def Xd:F2 :=
 { nt:=18,res:=[.t 6 [2],.t 7 [0]],body:=(.sq (rg [oo 4 (.bt (.t 1)),oo 5 (.bt (.t 2)),om 6 (.k (.slice none 0 0)),om 7 (.k (.bool false))]) (.sq (.sq (rg [qM 8 0,qS 9 6 4,qS 10 6 5,oo 11 (.ca .pure false (.f QJ) [.t 8,.t 9,.t 10]),oo 12 (.nt (.t 11))]) (.cd (.t 12) (.sq (rg [om 6 (.k (.slice none 0 0)),om 7 (.k (.bool false))]) (.rt)) (.sk))) (.sq (rg [qS 13 6 4,qS 14 6 5,oo 15 (.ca .pure true (.f JF) [.t 13,.t 14]),qE 16 0 15,qE 17 1 15,qM 6 16,qM 7 17]) (.rt)))) }
theorem DN:ZT Proofs.Tryz.prog JN Xd=true:=by kernel_rfl
def WI:F2 :=
 { nt:=18,res:=[.t 6 [0],.t 7 [0]],body:=(.sq (rg [oo 4 (.bt (.t 1)),oo 5 (.bt (.t 2)),om 6 (.k (.bool false)),om 7 (.k (.bool false))]) (.sq (.sq (rg [qM 8 0,qS 9 6 4,qS 10 6 5,oo 11 (.ca .pure false (.f Xo) [.t 8,.t 9,.t 10]),oo 12 (.nt (.t 11))]) (.cd (.t 12) (.sq (rg [om 6 (.k (.bool false)),om 7 (.k (.bool false))]) (.rt)) (.sk))) (.sq (.rg (some 0) [qS 13 6 4,oo 14 (.ca .pure false (.f YA) [.t 13]),qS 15 6 5,oo 16 (.ca .pure false (.f YA) [.t 15]),oo 17 (.ca .pure false (.f Ul) [.t 14,.t 16]),qM 6 17,om 7 (.k (.bool true))]) (.rt)))) }
theorem Zbe:ZT Proofs.Tryz.prog Vb WI=true:=by kernel_rfl
def WJ:F2 :=
 { nt:=18,res:=[.t 6 [0],.t 7 [0]],body:=(.sq (rg [oo 4 (.bt (.t 1)),oo 5 (.bt (.t 2)),om 6 (.k (.bool false)),om 7 (.k (.bool false))]) (.sq (.sq (rg [qM 8 0,qS 9 6 4,qS 10 6 5,oo 11 (.ca .pure false (.f QJ) [.t 8,.t 9,.t 10]),oo 12 (.nt (.t 11))]) (.cd (.t 12) (.sq (rg [om 6 (.k (.bool false)),om 7 (.k (.bool false))]) (.rt)) (.sk))) (.sq (.rg (some 0) [qS 13 6 4,oo 14 (.ca .pure false (.f J8) [.t 13]),qS 15 6 5,oo 16 (.ca .pure false (.f J8) [.t 15]),oo 17 (.ca .pure false (.f YV) [.t 14,.t 16]),qM 6 17,om 7 (.k (.bool true))]) (.rt)))) }
theorem Zbf:ZT Proofs.Tryz.prog Vc WJ=true:=by kernel_rfl
def ZbO:F2 :=
 { nt:=98,res:=[.t 4 [0]],body:=(.sq (rg [oo 3 (.bt (.t 1)),om 4 (.k (.bool false))]) (.sq (.sq (rg [qM 8 0,oo 9 (.ca .pure false (.f Um) [.t 8]),oo 10 (.nt (.t 9)),qM 11 10,og 12 11 false (.fa 0 (.t 3)),og 13 11 false (.ld none (.t 12)),og 14 11 false (.ca .pure false (.f Jp) [.t 13,i6 0,i6 4]),og 15 11 false (.nt (.t 14)),oo 16 (.pk (.t 11) (.k (.bool true)) (.t 15)),qM 17 16,og 18 17 false (.fa 1 (.t 3)),og 19 17 false (.ld none (.t 18)),og 20 17 false (.ln (.t 19)),og 21 17 false (.bi .gtr 0 (.t 20) (i6 8)),oo 22 (.pk (.t 17) (.k (.bool true)) (.t 21)),qM 23 22,og 24 23 false (.fa 2 (.t 3)),og 25 23 false (.ld none (.t 24)),og 26 23 false (.ln (.t 25)),og 27 23 false (.bi .gtr 0 (.t 26) (i6 4)),oo 28 (.pk (.t 23) (.k (.bool true)) (.t 27)),qM 29 28,og 30 29 false (.fa 3 (.t 3)),og 31 29 false (.ld none (.t 30)),og 32 29 false (.ca .pure false (.f Jp) [.t 31,i6 0,i6 8]),og 33 29 false (.nt (.t 32)),oo 34 (.pk (.t 29) (.k (.bool true)) (.t 33))]) (.cd (.t 34) (.sq (rg [om 4 (.k (.bool false))]) (.rt)) (.sk))) (.sq (.sq (rg [qF 35 4 3,qL 36 35,oo 37 (.ca .pure false (.f V2) [.t 36]),oo 38 (.nt (.t 37)),qM 39 38,og 40 39 false (.fa 5 (.t 3)),og 41 39 false (.ld none (.t 40)),og 42 39 false (.ln (.t 41)),og 43 39 false (.bi .gtr 0 (.t 42) (i6 16)),oo 44 (.pk (.t 39) (.k (.bool true)) (.t 43)),qM 45 44,og 46 45 false (.ld (some 6) (.t 3)),og 47 45 false (.ca .pure false (.f YN) [.t 46]),og 48 45 false (.ca .pure false (.f V2) [.t 47]),og 49 45 false (.nt (.t 48)),oo 50 (.pk (.t 45) (.k (.bool true)) (.t 49))]) (.cd (.t 50) (.sq (rg [om 4 (.k (.bool false))]) (.rt)) (.sk))) (.sq (.sq (rg [om 5 (i6 0)]) (.bl 0 (.lp [0,3,5] [] (.sq (.sq (rg [qM 51 5,qF 52 1 3,qL 53 52,qN 54 53,qB 55 .lss 51 54]) (.cd (.t 55) (.sk) (.ex 0))) (.sq (.bl 1 (.sq (rg [qM 58 0,qS 59 6 3,qM 60 5,oo 61 (.ca .pure false (.f Wx) [.t 58,.t 59,.t 60]),oo 62 (.nt (.t 61))]) (.cd (.t 62) (.sq (rg [om 4 (.k (.bool false))]) (.rt)) (.sk))))
 (rg [qM 56 5,oo 57 (.bi .add 0 (.t 56) (i6 1)),qM 5 57])))))) (.sq (.sq (rg [om 6 (i6 0)]) (.bl 2 (.lp [0,3,6] [] (.sq (.sq (rg [qM 63 6,qF 64 2 3,qL 65 64,qN 66 65,qB 67 .lss 63 66]) (.cd (.t 67) (.sk) (.ex 2))) (.sq (.bl 3 (.sq (.rg (some 0) [qM 70 0,qS 71 6 3,qF 72 2 3,qL 73 72,qM 74 6,qI 75 1 73 74,qL 76 75,qF 77 1 3,qL 78 77,qN 79 78,oo 80 (.ca .pure false (.f V3) [.t 70,.t 71,.t 76,.t 79]),oo 81 (.nt (.t 80))]) (.cd (.t 81) (.sq (rg [om 4 (.k (.bool false))]) (.rt)) (.sk))))
 (rg [qM 68 6,oo 69 (.bi .add 0 (.t 68) (i6 1)),qM 6 69])))))) (.sq (.sq (rg [om 7 (i6 0)]) (.bl 4 (.lp [3,7] [] (.sq (.sq (rg [qM 82 7,qF 83 5 3,qL 84 83,qN 85 84,qB 86 .lss 82 85]) (.cd (.t 86) (.sk) (.ex 4))) (.sq (.bl 5 (.sq (.rg (some 0) [qS 89 6 3,qF 90 5 3,qL 91 90,qM 92 7,qI 93 2 91 92,qF 94 1 93,qL 95 94,oo 96 (.ca .pure false (.f QK) [.t 89,.t 95]),oo 97 (.nt (.t 96))]) (.cd (.t 97) (.sq (rg [om 4 (.k (.bool false))]) (.rt)) (.sk))))
 (rg [qM 87 7,oo 88 (.bi .add 0 (.t 87) (i6 1)),qM 7 88])))))) (.sq (rg [om 4 (.k (.bool true))]) (.rt)))))))) }
theorem Zgy:ZT Proofs.Tryz.prog J0 ZbO=true:=by kernel_rfl
def Zdh:F2 :=
 { nt:=13,res:=[.t 4 [2]],body:=(.sq (rg [oo 2 (.bt (.t 0)),om 4 (.k (.slice none 0 0))]) (.sq (.rg (some 0) [qS 5 6 2,qS 6 6 2,oo 7 (.bs 1 0 [] []),qF 8 3 2,qL 9 8,oo 10 (.ca .pure false (.f QL) [.t 9]),qM 11 1,oo 12 (.ca .pure true (.f Vd) [.t 5,.t 6,.t 7,.t 10,.t 11]),qM 4 12]) (.rt))) }
theorem Zh0:ZT Proofs.Tryz.prog VO Zdh=true:=by kernel_rfl
def Dw:F2 :=
 { nt:=101,res:=[.t 4 [0]],body:=(.sq (rg [oo 2 (.bt (.t 0)),oo 3 (.bt (.t 1)),om 4 (.k (.bool false))]) (.sq (.sq (rg [qL 7 2,oo 8 (.ca .pure false (.f VB) [.t 7]),oo 9 (.nt (.t 8)),qM 10 9,og 11 10 false (.fa 0 (.t 3)),og 12 10 false (.ld none (.t 11)),og 13 10 false (.ca .pure false (.f Jg) [.t 12,i6 0,i6 4]),og 14 10 false (.nt (.t 13)),oo 15 (.pk (.t 10) (.k (.bool true)) (.t 14)),qM 16 15,og 17 16 false (.fa 1 (.t 3)),og 18 16 false (.ld none (.t 17)),og 19 16 false (.ln (.t 18)),og 20 16 false (.bi .gtr 0 (.t 19) (i6 8)),oo 21 (.pk (.t 16) (.k (.bool true)) (.t 20)),qM 22 21,og 23 22 false (.fa 2 (.t 3)),og 24 22 false (.ld none (.t 23)),og 25 22 false (.ln (.t 24)),og 26 22 false (.bi .gtr 0 (.t 25) (i6 4)),oo 27 (.pk (.t 22) (.k (.bool true)) (.t 26)),qM 28 27,og 29 28 false (.fa 3 (.t 3)),og 30 28 false (.ld none (.t 29)),og 31 28 false (.ca .pure false (.f Jg) [.t 30,i6 0,i6 8]),og 32 28 false (.nt (.t 31)),oo 33 (.pk (.t 28) (.k (.bool true)) (.t 32)),qM 34 33,og 35 34 false (.fa 4 (.t 3)),og 36 34 false (.ld none (.t 35)),og 37 34 false (.ca .pure false (.f Vn) [.t 36]),og 38 34 false (.nt (.t 37)),oo 39 (.pk (.t 34) (.k (.bool true)) (.t 38)),qM 40 39,og 41 40 false (.ld (some 6) (.t 3)),og 42 40 false (.ca .pure false (.f Z3) [.t 41]),og 43 40 false (.ca .pure false (.f Vn) [.t 42]),og 44 40 false (.nt (.t 43)),oo 45 (.pk (.t 40) (.k (.bool true)) (.t 44))]) (.cd (.t 45) (.sq (rg [om 4 (.k (.bool false))]) (.rt)) (.sk))) (.sq (.sq (rg [qF 46 1 3,qL 47 46,qN 48 47,om 49 (i6 0)]) (.bl 0 (.lp [2,3,47,48,49] [] (.sq (rg [qB 50 .lss 49 48]) (.sq (.cd (.t 50) (.sk) (.ex 0)) (.sq (.bl 1 (.sq (rg [qM 51 49,qI 52 3 47 49,qS 53 3 52,oo 6 (.al [.int .i64 0,.int .i64 0,.slice none 0 0] []),qM 5 51,on1 (.st 3 (.t 6) (.t 53))]) (.sq (.rg (some 0) [qF 54 0 6,qL 55 54,qL 56 2,qN 57 56,oo 58 (.bi .sub 0 (.t 57) (i6 1)),oo 59 (.ca .pure false (.f Jg) [.t 55,i6 0,.t 58]),oo 60 (.nt (.t 59)),qM 61 60,og 62 61 false (.ld (some 6) (.t 3)),og 63 61 false (.ld none (.t 2)),og 64 61 false (.fa 1 (.t 6)),og 65 61 false (.ld none (.t 64)),og 66 61 false (.mv (.t 5) none),og 67 61 false (.ca .pure false (.f JG) [.t 62,.t 63,.t 65,.t 66]),og 68 61 false (.nt (.t 67)),oo 69 (.pk (.t 61) (.k (.bool true)) (.t 68)),qM 70 69,og 71 70 false (.fa 2 (.t 6)),og 72 70 false (.ld none (.t 71)),og 73 70 false (.ln (.t 72)),og 74 70 false (.ld none (.t 2)),og 75 70 false (.fa 0 (.t 6)),og 76 70 false (.ld none (.t 75)),og 77 70 false (.ia 3 (.t 74) (.t 76)),og 78 70 false (.fa 1 (.t 77)),og 79 70 false (.ld none (.t 78)),og 80 70 false (.bi .neq 0 (.t 73) (.t 79)),oo 81 (.pk (.t 70) (.k (.bool true)) (.t 80)),qM 82 81,og 83 82 false (.fa 2 (.t 6)),og 84 82 false (.ld none (.t 83)),og 85 82 false (.mf VC [.t 3]),og 86 82 false (.ca .pure false (.f JB) [.t 84,.t 85]),oo 87 (.pk (.t 82) (.k (.bool true)) (.t 86))]) (.cd (.t 87) (.sq (rg [om 4 (.k (.bool false))]) (.rt)) (.sk)))))
 (rg [oo 88 (.bi .add 0 (.t 49) (i6 1)),qM 49 88]))))))) (.sq (rg [qF 89 2 3,qL 90 89,oo 91 (.mf VD [.t 3,.t 2]),oo 92 (.ca .pure false (.f JB) [.t 90,.t 91]),oo 93 (.nt (.t 92)),qM 94 93,og 95 94 true (.fa 5 (.t 3)),og 96 94 true (.ld none (.t 95)),og 97 94 true (.mf VE [.t 3]),og 98 94 true (.ca .pure false (.f Jq) [.t 96,.t 97]),og 99 94 true (.nt (.t 98)),oo 100 (.pk (.t 94) (.t 99) (.k (.bool false))),qM 4 100]) (.rt))))) }
theorem Zdx:ZT Proofs.Tryz.prog Jo Dw=true:=by kernel_rfl
def UM:F2 :=
 { nt:=10,res:=[.t 2 [2]],body:=(.sq (rg [oo 1 (.bt (.t 0)),om 2 (.k (.slice none 0 0))]) (.sq (rg [oo 4 (.bs 1 0 [] []),oo 3 (.al [.slice none 0 0] []),on1 (.st 1 (.t 3) (.t 4))]) (.sq (rg [qS 5 6 1,qS 6 6 1,oo 7 (.mf J9 [.t 3]),oo 8 (.ca .any false (.f JJ) [.t 5,.t 6,.k (.slice none 0 0),.t 7])]) (.sq (rg [qL 9 3,qM 2 9]) (.rt))))) }
theorem ZcN:ZT Proofs.Tryz.prog J1 UM=true:=by kernel_rfl
def Uo:F2 :=
 { nt:=10,res:=[.t 4 [0]],body:=(.sq (rg [om 4 (i6 0)]) (.sq (.sq (rg [qM 5 0,qM 6 1,qB 7 .lss 5 6]) (.cd (.t 7) (.sq (rg [qM 8 0,qM 4 8]) (.rt)) (.sk))) (.sq (rg [qM 9 1,qM 4 9]) (.rt)))) }
theorem Ze9:ZT Proofs.Tryz.prog XO Uo=true:=by kernel_rfl
def Zdi:F2 :=
 { nt:=15,res:=[.t 6 [0]],body:=(.sq (rg [oo 4 (.bt (.t 1)),oo 5 (.bt (.t 2)),om 6 (.k (.bool false))]) (.sq (rg [qM 7 0,qS 8 6 4,oo 9 (.ca .pure false (.f J0) [.t 7,.t 8]),qM 10 9,og 11 10 true (.mv (.t 0) none),og 12 10 true (.ld (some 6) (.t 5)),og 13 10 true (.ca .pure false (.f J0) [.t 11,.t 12]),oo 14 (.pk (.t 10) (.t 13) (.k (.bool false))),qM 6 14]) (.rt))) }
theorem Zh1:ZT Proofs.Tryz.prog Xo Zdi=true:=by kernel_rfl
def Za0:F2 :=
 { nt:=17,res:=[.t 4 [2]],body:=(.sq (rg [oo 2 (.bt (.t 0)),oo 3 (.bt (.t 1)),om 4 (.k (.slice none 0 0))]) (.sq (.sq (rg [qS 5 6 2,qS 6 6 3,oo 7 (.ca .pure false (.f XP) [.t 5,.t 6]),oo 8 (.nt (.t 7))]) (.cd (.t 8) (.sq (rg [oo 9 (.bs 1 0 [] []),qM 4 9]) (.rt)) (.sk))) (.sq (.rg (some 0) [qS 10 6 2,qS 11 6 3,oo 12 (.bs 1 0 [] []),qF 13 3 2,qL 14 13,oo 15 (.ca .pure false (.f QL) [.t 14]),oo 16 (.ca .pure true (.f Vd) [.t 10,.t 11,.t 12,.t 15,i6 1]),qM 4 16]) (.rt)))) }
theorem Zfa:ZT Proofs.Tryz.prog V1 Za0=true:=by kernel_rfl
def ZbP:F2 :=
 { nt:=15,res:=[.t 6 [0]],body:=(.sq (rg [oo 4 (.bt (.t 1)),oo 5 (.bt (.t 2)),om 6 (.k (.bool false))]) (.sq (rg [qM 7 0,qS 8 6 4,oo 9 (.ca .pure false (.f Jo) [.t 7,.t 8]),qM 10 9,og 11 10 true (.mv (.t 0) none),og 12 10 true (.ld (some 6) (.t 5)),og 13 10 true (.ca .pure false (.f Jo) [.t 11,.t 12]),oo 14 (.pk (.t 10) (.t 13) (.k (.bool false))),qM 6 14]) (.rt))) }
theorem Zgz:ZT Proofs.Tryz.prog QJ ZbP=true:=by kernel_rfl
def YE:F2 :=
 { nt:=22,res:=[.t 4 [2],.t 5 [0]],body:=(.sq (rg [oo 2 (.bt (.t 0)),oo 3 (.bt (.t 1)),om 4 (.k (.slice none 0 0)),om 5 (.k (.bool false))]) (.sq (.sq (rg [qF 8 1 2,qL 9 8,qN 10 9,qF 11 1 3,qL 12 11,qN 13 12,qB 14 .neq 10 13]) (.cd (.t 14) (.sq (rg [om 4 (.k (.slice none 0 0)),om 5 (.k (.bool false))]) (.rt)) (.sk))) (.sq (rg [oo 6 (.al [.slice none 0 0] [])]) (.sq (rg [qS 15 6 2,qS 16 6 3,oo 17 (.mf Jr [.t 6]),oo 18 (.ca .any false (.f JJ) [.t 15,.t 16,.k (.slice none 0 0),.t 17]),oo 19 (.nt (.t 18)),qM 7 19]) (.sq (rg [qL 20 6,qM 21 7,qM 4 20,qM 5 21]) (.rt)))))) }
theorem Dd:ZT Proofs.Tryz.prog JF YE=true:=by kernel_rfl
def Zdj:F2 :=
 { nt:=10,res:=[.t 4 [0]],body:=(.sq (rg [oo 2 (.bt (.t 0)),oo 3 (.bt (.t 1)),om 4 (.k (.bool false))]) (.sq (rg [qS 5 6 2,qS 6 6 3,oo 7 (.ca .pure false (.f V1) [.t 5,.t 6]),qN 8 7,oo 9 (.bi .gtr 0 (.t 8) (i6 0)),qM 4 9]) (.rt))) }
theorem Zh2:ZT Proofs.Tryz.prog Ul Zdj=true:=by kernel_rfl
def UN:F2 :=
 { nt:=93,res:=[.c 2 (some 6) [0,4,2,0,2,3]],body:=(.sq (rg [oo 1 (.bt (.t 0)),oo 2 (.al [.int .i64 0,.slice none 0 0,.slice none 0 0,.int .i64 0,.slice none 0 0,.slice none 0 0] [])]) (.sq (rg [oo 10 (.bs 1 0 [] []),qM 3 10]) (.sq (rg [om 4 (i6 0)]) (.sq (.sq (rg [om 5 (i6 0)]) (.bl 0 (.lp [1,2,3,4,5] [64,192,320,640,896,897,898,899] (.sq (.sq (rg [qM 11 5,qF 12 3 1,qL 13 12,qB 14 .lss 11 13]) (.cd (.t 14) (.sk) (.ex 0))) (.sq (.bl 1 (.sq (rg [qM 17 3,qM 18 4,oo 19 (.bs 1 1 [.int .i64 0] [(0,.t 18)]),oo 20 (.ap 1 0 (.t 17) (.t 19)),qM 3 20]) (.sq (rg [qS 21 6 1,qM 22 5,oo 23 (.ca .pure false (.f WC) [.t 21,.t 22]),oo 24 (.nt (.t 23))]) (.cd (.t 24) (rg [qM 25 4,oo 26 (.bi .add 0 (.t 25) (i6 1)),qM 4 26]) (.sk)))))
 (rg [qM 15 5,oo 16 (.bi .add 0 (.t 15) (i6 1)),qM 5 16])))))) (.sq (rg [qS 27 6 1,oo 28 (.ca .pure true (.f Xp) [.t 27]),oo 6 (.al [.int .i64 0,.slice none 0 0,.slice none 0 0,.int .i64 0,.slice none 0 0,.slice none 0 0] []),on1 (.st 6 (.t 6) (.t 28))]) (.sq (rg [qM 29 4,qF 30 3 6,on1 (.st 1 (.t 30) (.t 29))]) (.sq (.sq (rg [om 7 (i6 0)]) (.bl 2 (.lp [1,2,3,4,6,7] [64,192,320,640,896,897,898,899] (.sq (.sq (rg [qM 31 7,qF 32 1 6,qL 33 32,qN 34 33,qB 35 .lss 31 34]) (.cd (.t 35) (.sk) (.ex 2))) (.sq (.bl 3 (.sq (rg [om 8 (i6 0)]) (.bl 4 (.lp [1,2,3,4,6,7,8] [64,192,320,640,896,897,898,899] (.sq (.sq (rg [qM 38 8,qF 39 1 6,qL 40 39,qM 41 7,qI 42 3 40 41,qF 43 2 42,qL 44 43,qN 45 44,qB 46 .lss 38 45]) (.cd (.t 46) (.sk) (.ex 4))) (.sq (.bl 5 (.rg (some 0) [qF 49 1 6,qL 50 49,qM 51 7,qI 52 3 50 51,qF 53 2 52,qL 54 53,qM 55 8,qS 56 6 1,qF 57 1 6,qL 58 57,qM 59 7,qI 60 3 58 59,qF 61 2 60,qL 62 61,qM 63 8,qI 64 1 62 63,qL 65 64,qM 66 3,qM 67 4,oo 68 (.ca .pure false (.f YB) [.t 56,.t 65,.t 66,.t 67]),qI 69 1 54 55,on1 (.st 1 (.t 69) (.t 68))]))
 (rg [qM 47 8,oo 48 (.bi .add 0 (.t 47) (i6 1)),qM 8 48])))))))
 (rg [qM 36 7,oo 37 (.bi .add 0 (.t 36) (i6 1)),qM 7 37])))))) (.sq (.sq (rg [om 9 (i6 0)]) (.bl 6 (.lp [1,2,3,4,6,9] [64,192,320,640,896,897,898,899] (.sq (.sq (rg [qM 70 9,qF 71 5 6,qL 72 71,qN 73 72,qB 74 .lss 70 73]) (.cd (.t 74) (.sk) (.ex 6))) (.sq (.bl 7 (.rg (some 0) [qF 77 5 6,qL 78 77,qM 79 9,qS 80 6 1,qF 81 5 6,qL 82 81,qM 83 9,qI 84 2 82 83,qF 85 1 84,qL 86 85,qM 87 3,qM 88 4,oo 89 (.ca .pure false (.f YB) [.t 80,.t 86,.t 87,.t 88]),qI 90 2 78 79,qF 91 1 90,on1 (.st 1 (.t 91) (.t 89))]))
 (rg [qM 75 9,oo 76 (.bi .add 0 (.t 75) (i6 1)),qM 9 76])))))) (.sq (rg [qS 92 6 6,on1 (.st 6 (.t 2) (.t 92))]) (.rt)))))))))) }
theorem ZcO:ZT Proofs.Tryz.prog YA UN=true:=by kernel_rfl
def X0:F2 :=
 { nt:=14,res:=[.t 4 [0]],body:=(.sq (rg [oo 2 (.bt (.t 0)),oo 3 (.bt (.t 1)),om 4 (.k (.bool false))]) (.sq (rg [qS 8 6 2,qS 9 6 3,oo 10 (.ca .pure true (.f JF) [.t 8,.t 9]),qM 7 10,qE 11 0 7,qE 12 1 7,qM 5 11,qM 6 12]) (.sq (rg [qM 13 6,qM 4 13]) (.rt)))) }
theorem ZaS:ZT Proofs.Tryz.prog YV X0=true:=by kernel_rfl
def WK:F2 :=
 { nt:=27,res:=[.c 2 (some 6) [0,4,2,0,2,3]],body:=(.sq (rg [oo 1 (.bt (.t 0)),oo 2 (.al [.int .i64 0,.slice none 0 0,.slice none 0 0,.int .i64 0,.slice none 0 0,.slice none 0 0] [])]) (.sq (rg [oo 5 (.bs 1 0 [] []),oo 3 (.al [.slice none 0 0] []),on1 (.st 1 (.t 3) (.t 5))]) (.sq (.sq (rg [qF 6 3 1,qL 7 6,om 8 (i6 0)]) (.bl 0 (.lp [1,2,3,7,8] [64,96,160,576,832,833,834,835] (.sq (rg [qB 9 .lss 8 7]) (.sq (.cd (.t 9) (.sk) (.ex 0)) (.sq (.bl 1 (.sq (rg [qM 10 8,qM 4 10]) (.sq (rg [qS 11 6 1,qM 12 4,oo 13 (.ca .pure false (.f JS) [.t 11,.t 12]),oo 14 (.nt (.t 13))]) (.cd (.t 14) (rg [qL 15 3,qM 16 4,oo 17 (.bs 1 1 [.int .i64 0] [(0,.t 16)]),oo 18 (.ap 1 0 (.t 15) (.t 17)),on1 (.st 1 (.t 3) (.t 18))]) (.sk)))))
 (rg [oo 19 (.bi .add 0 (.t 8) (i6 1)),qM 8 19]))))))) (.sq (rg [qS 20 6 1,qL 21 3,qN 22 21,qF 23 4 1,qL 24 23,oo 25 (.mz JT [.t 3]),oo 26 (.ca .pure true (.f JH) [.t 20,.t 22,.t 24,.t 25]),on1 (.st 6 (.t 2) (.t 26))]) (.rt))))) }
theorem Zbg:ZT Proofs.Tryz.prog J8 WK=true:=by kernel_rfl
def Zdk:F2 :=
 { nt:=55,res:=[.t 2 [0]],body:=(.sq (rg [om 2 (.k (.bool false))]) (.sq (.sq (rg [om 3 (i6 0)]) (.bl 0 (.lp [0,3] [] (.sq (.sq (rg [qM 5 3,qM 6 0,qN 7 6,qB 8 .lss 5 7]) (.cd (.t 8) (.sk) (.ex 0))) (.sq (.bl 1 (.sq (.sq (rg [qM 11 0,qM 12 3,qI 13 3 11 12,qF 14 0 13,qL 15 14,oo 16 (.ca .pure false (.f QM) [.t 15]),oo 17 (.nt (.t 16)),qM 18 17,og 19 18 false (.mv (.t 0) none),og 20 18 false (.mv (.t 3) none),og 21 18 false (.ia 3 (.t 19) (.t 20)),og 22 18 false (.fa 1 (.t 21)),og 23 18 false (.ld none (.t 22)),og 24 18 false (.ca .pure false (.f Jp) [.t 23,i6 0,i6 3]),og 25 18 false (.nt (.t 24)),oo 26 (.pk (.t 18) (.k (.bool true)) (.t 25)),qM 27 26,og 28 27 false (.mv (.t 0) none),og 29 27 false (.mv (.t 3) none),og 30 27 false (.ia 3 (.t 28) (.t 29)),og 31 27 false (.fa 2 (.t 30)),og 32 27 false (.ld none (.t 31)),og 33 27 false (.ca .pure false (.f Jp) [.t 32,i6 0,i6 2]),og 34 27 false (.nt (.t 33)),oo 35 (.pk (.t 27) (.k (.bool true)) (.t 34))]) (.cd (.t 35) (.sq (rg [om 2 (.k (.bool false))]) (.rt)) (.sk))) (.sq (rg [om 4 (i6 0)]) (.bl 2 (.lp [0,3,4] [] (.sq (.sq (rg [qM 36 4,qM 37 3,qB 38 .lss 36 37]) (.cd (.t 38) (.sk) (.ex 2))) (.sq (.bl 3 (.sq (.rg (some 0) [qM 41 0,qM 42 4,qI 43 3 41 42,qF 44 0 43,qL 45 44,qM 46 0,qM 47 3,qI 48 3 46 47,qF 49 0 48,qL 50 49,qB 51 .eql 45 50]) (.cd (.t 51) (.sq (rg [om 2 (.k (.bool false))]) (.rt)) (.sk))))
 (rg [qM 39 4,oo 40 (.bi .add 0 (.t 39) (i6 1)),qM 4 40]))))))))
 (rg [qM 9 3,oo 10 (.bi .add 0 (.t 9) (i6 1)),qM 3 10])))))) (.sq (rg [qM 52 0,qN 53 52,oo 54 (.ca .pure false (.f Jp) [.t 53,i6 1,i6 6]),qM 2 54]) (.rt)))) }
theorem Zh3:ZT Proofs.Tryz.prog Um Zdk=true:=by kernel_rfl
def Zex:F2 :=
 { nt:=15,res:=[.t 6 [0]],body:=(.sq (rg [om 6 (.k (.bool false))]) (.sq (rg [qM 7 0,qM 8 1,qB 9 .geq 7 8,qM 10 9,og 11 10 true (.mv (.t 0) none),og 12 10 true (.mv (.t 2) none),og 13 10 true (.bi .leq 0 (.t 11) (.t 12)),oo 14 (.pk (.t 10) (.t 13) (.k (.bool false))),qM 6 14]) (.rt))) }
theorem Zjf:ZT Proofs.Tryz.prog Jp Zex=true:=by kernel_rfl
def Za1:F2 :=
 { nt:=35,res:=[.t 2 [0]],body:=(.sq (rg [om 2 (.k (.bool false))]) (.sq (.sq (rg [om 3 (i6 0)]) (.bl 0 (.lp [0,3] [] (.sq (.sq (rg [qM 4 3,qM 5 0,qN 6 5,qB 7 .lss 4 6]) (.cd (.t 7) (.sk) (.ex 0))) (.sq (.bl 1 (.sq (.rg (some 0) [qM 10 0,qM 11 3,qI 12 1 10 11,qL 13 12,oo 14 (.ca .pure false (.f QM) [.t 13]),oo 15 (.nt (.t 14)),qM 16 15,og 17 16 false (.mv (.t 3) none),og 18 16 false (.bi .gtr 0 (.t 17) (i6 0)),og 19 16 false (.mv (.t 18) none),og 20 19 true (.mv (.t 0) none),og 21 19 true (.mv (.t 3) none),og 22 19 true (.bi .sub 0 (.t 21) (i6 1)),og 23 19 true (.ia 1 (.t 20) (.t 22)),og 24 19 true (.ld none (.t 23)),og 25 19 true (.mv (.t 0) none),og 26 19 true (.mv (.t 3) none),og 27 19 true (.ia 1 (.t 25) (.t 26)),og 28 19 true (.ld none (.t 27)),og 29 19 true (.bi .geq 0 (.t 24) (.t 28)),og 30 16 false (.pk (.t 19) (.t 29) (.k (.bool false))),oo 31 (.pk (.t 16) (.k (.bool true)) (.t 30))]) (.cd (.t 31) (.sq (rg [om 2 (.k (.bool false))]) (.rt)) (.sk))))
 (rg [qM 8 3,oo 9 (.bi .add 0 (.t 8) (i6 1)),qM 3 9])))))) (.sq (rg [qM 32 0,qN 33 32,oo 34 (.bi .leq 0 (.t 33) (i6 16)),qM 2 34]) (.rt)))) }
theorem Zfb:ZT Proofs.Tryz.prog V2 Za1=true:=by kernel_rfl
def Za2:F2 :=
 { nt:=23,res:=[.t 2 [2]],body:=(.sq (rg [oo 1 (.bt (.t 0)),om 2 (.k (.slice none 0 0))]) (.sq (rg [oo 5 (.bs 1 0 [] []),qM 3 5]) (.sq (.sq (rg [om 4 (i6 0)]) (.bl 0 (.lp [1,3,4] [160,672] (.sq (.sq (rg [qM 6 4,qF 7 5 1,qL 8 7,qN 9 8,qB 10 .lss 6 9]) (.cd (.t 10) (.sk) (.ex 0))) (.sq (.bl 1 (rg [qM 13 3,qF 14 5 1,qL 15 14,qM 16 4,qI 17 2 15 16,qF 18 0 17,qL 19 18,oo 20 (.bs 1 1 [.string ⟨#[]⟩] [(0,.t 19)]),oo 21 (.ap 1 0 (.t 13) (.t 20)),qM 3 21]))
 (rg [qM 11 4,oo 12 (.bi .add 0 (.t 11) (i6 1)),qM 4 12])))))) (.sq (rg [qM 22 3,qM 2 22]) (.rt))))) }
theorem Zfc:ZT Proofs.Tryz.prog YN Za2=true:=by kernel_rfl
def ZbQ:F2 :=
 { nt:=57,res:=[.t 6 [0]],body:=(.sq (rg [oo 4 (.bt (.t 1)),om 6 (.k (.bool false))]) (.sq (rg [qF 9 1 4,qL 10 9,qM 11 2,qI 12 3 10 11,qS 13 3 12,oo 7 (.al [.int .i64 0,.int .i64 0,.slice none 0 0] []),on1 (.st 3 (.t 7) (.t 13))]) (.sq (.sq (.rg (some 0) [qF 14 0 7,qL 15 14,qM 16 0,qN 17 16,oo 18 (.bi .sub 0 (.t 17) (i6 1)),oo 19 (.ca .pure false (.f Jp) [.t 15,i6 0,.t 18]),oo 20 (.nt (.t 19)),qM 21 20,og 22 21 false (.mv (.t 0) none),og 23 21 false (.ld (some 6) (.t 4)),og 24 21 false (.fa 1 (.t 7)),og 25 21 false (.ld none (.t 24)),og 26 21 false (.mv (.t 2) none),og 27 21 false (.ca .pure false (.f V3) [.t 22,.t 23,.t 25,.t 26]),og 28 21 false (.nt (.t 27)),oo 29 (.pk (.t 21) (.k (.bool true)) (.t 28)),qM 30 29,og 31 30 false (.fa 2 (.t 7)),og 32 30 false (.ld none (.t 31)),og 33 30 false (.ln (.t 32)),og 34 30 false (.mv (.t 0) none),og 35 30 false (.fa 0 (.t 7)),og 36 30 false (.ld none (.t 35)),og 37 30 false (.ia 3 (.t 34) (.t 36)),og 38 30 false (.fa 1 (.t 37)),og 39 30 false (.ld none (.t 38)),og 40 30 false (.bi .neq 0 (.t 33) (.t 39)),oo 41 (.pk (.t 30) (.k (.bool true)) (.t 40))]) (.cd (.t 41) (.sq (rg [om 6 (.k (.bool false))]) (.rt)) (.sk))) (.sq (.sq (rg [om 8 (i6 0)]) (.bl 0 (.lp [4,7,8] [224] (.sq (.sq (rg [qM 42 8,qF 43 2 7,qL 44 43,qN 45 44,qB 46 .lss 42 45]) (.cd (.t 46) (.sk) (.ex 0))) (.sq (.bl 1 (.sq (.rg (some 0) [qS 49 6 4,qF 50 2 7,qL 51 50,qM 52 8,qI 53 1 51 52,qL 54 53,oo 55 (.ca .pure false (.f QK) [.t 49,.t 54]),oo 56 (.nt (.t 55))]) (.cd (.t 56) (.sq (rg [om 6 (.k (.bool false))]) (.rt)) (.sk))))
 (rg [qM 47 8,oo 48 (.bi .add 0 (.t 47) (i6 1)),qM 8 48])))))) (.sq (rg [om 6 (.k (.bool true))]) (.rt)))))) }
theorem ZgA:ZT Proofs.Tryz.prog Wx ZbQ=true:=by kernel_rfl
def Za3:F2 :=
 { nt:=33,res:=[.t 8 [0]],body:=(.sq (rg [oo 5 (.bt (.t 1)),om 8 (.k (.bool false))]) (.sq (.sq (rg [qM 9 2,oo 10 (.bi .lss 0 (.t 9) (i6 0))]) (.cd (.t 10) (.sq (rg [qM 11 2,oo 12 (.bi .sub 0 (i6 (-1)) (.t 11)),qF 13 0 5,qL 14 13,oo 15 (.bi .sub 0 (.t 14) (i6 1)),oo 16 (.ca .pure false (.f Jp) [.t 12,i6 0,.t 15]),qM 8 16]) (.rt)) (.sk))) (.sq (rg [qM 17 2,qM 18 3,qB 19 .lss 17 18,qM 20 19,og 21 20 true (.mv (.t 0) none),og 22 20 true (.fa 1 (.t 5)),og 23 20 true (.ld none (.t 22)),og 24 20 true (.mv (.t 2) none),og 25 20 true (.ia 3 (.t 23) (.t 24)),og 26 20 true (.fa 0 (.t 25)),og 27 20 true (.ld none (.t 26)),og 28 20 true (.ia 3 (.t 21) (.t 27)),og 29 20 true (.fa 2 (.t 28)),og 30 20 true (.ld none (.t 29)),og 31 20 true (.bi .neq 0 (.t 30) (i6 2)),oo 32 (.pk (.t 20) (.t 31) (.k (.bool false))),qM 8 32]) (.rt)))) }
theorem Zfd:ZT Proofs.Tryz.prog V3 Za3=true:=by kernel_rfl
def ZbR:F2 :=
 { nt:=14,res:=[.t 4 [0]],body:=(.sq (rg [oo 2 (.bt (.t 0)),om 4 (.k (.bool false))]) (.sq (rg [qM 5 1,qF 6 3 2,qL 7 6,qF 8 4 2,qL 9 8,qN 10 9,qB 11 .add 7 10,oo 12 (.bi .sub 0 (.t 11) (i6 1)),oo 13 (.ca .pure false (.f Jp) [.t 5,i6 0,.t 12]),qM 4 13]) (.rt))) }
theorem ZgB:ZT Proofs.Tryz.prog QK ZbR=true:=by kernel_rfl
def De:F2 :=
 { nt:=93,res:=[.t 10 [2]],body:=(.sq (rg [oo 5 (.bt (.t 0)),oo 6 (.bt (.t 1)),om 10 (.k (.slice none 0 0))]) (.sq (.sq (rg [qM 17 2,qN 18 17,qF 19 1 5,qL 20 19,qN 21 20,qB 22 .eql 18 21]) (.cd (.t 22) (.sq (.sq (rg [qS 24 6 5,qS 25 6 6,qM 26 2,qM 27 3,oo 28 (.ca .pure false (.f WD) [.t 24,.t 25,.t 26,.t 27]),qM 23 28,qE 29 0 23,qE 30 1 23,qM 11 29,qM 12 30]) (.sq (rg [qM 31 12]) (.cd (.t 31) (.sq (rg [qM 32 2,oo 33 (.ca .pure true (.f VP) [.t 32]),oo 34 (.bw 1 1 [.slice none 0 0] [(0,.t 33)]),qM 10 34]) (.rt)) (.sk)))) (.sq (rg [oo 35 (.bs 1 0 [] []),qM 10 35]) (.rt))) (.sk))) (.sq (rg [oo 36 (.bs 1 0 [] []),qM 13 36]) (.sq (.sq (rg [om 14 (i6 0)]) (.bl 0 (.lp [2,3,4,5,6,13,14] [1152,2912] (.sq (.sq (rg [qM 37 14,qF 38 1 6,qL 39 38,qN 40 39,qB 41 .lss 37 40,qM 42 41,og 43 42 true (.mv (.t 13) none),og 44 42 true (.ln (.t 43)),og 45 42 true (.mv (.t 4) none),og 46 42 true (.bi .lss 0 (.t 44) (.t 45)),oo 47 (.pk (.t 42) (.t 46) (.k (.bool false)))]) (.cd (.t 47) (.sk) (.ex 0))) (.sq (.bl 1 (.sq (.sq (rg [qS 50 6 5,qS 51 6 6,qM 52 2,qM 53 14,oo 54 (.ca .pure false (.f WE) [.t 50,.t 51,.t 52,.t 53]),oo 55 (.nt (.t 54))]) (.cd (.t 55) (.ex 1) (.sk))) (.sq (.rg (some 0) [qS 57 6 5,qS 58 6 6,qM 59 3,qF 60 1 5,qL 61 60,qM 62 2,qN 63 62,qI 64 3 61 63,qF 65 2 64,qL 66 65,qF 67 1 6,qL 68 67,qM 69 14,qI 70 3 68 69,qF 71 2 70,qL 72 71,oo 73 (.ca .pure false (.f QN) [.t 57,.t 58,.t 59,.t 66,.t 72]),qM 56 73,qE 74 0 56,qE 75 1 56,qM 15 74,qM 16 75]) (.sq (rg [qM 76 16]) (.cd (.t 76) (.rg (some 0) [qM 77 13,oo 78 (.lt (some 6) (.t 5)),oo 79 (.lt (some 6) (.t 6)),qM 80 2,oo 81 (.ca .pure true (.f VP) [.t 80]),qM 82 14,oo 83 (.bs 1 1 [.int .i64 0] [(0,.t 82)]),oo 84 (.a0 1 (.t 81) (.t 83)),qM 85 15,qM 86 4,qM 87 13,qN 88 87,qB 89 .sub 86 88,oo 90 (.ca .pure true (.f Vd) [.t 78,.t 79,.t 84,.t 85,.t 89]),oo 91 (.ap 1 2 (.t 77) (.t 90)),qM 13 91]) (.sk))))))
 (rg [qM 48 14,oo 49 (.bi .add 0 (.t 48) (i6 1)),qM 14 49])))))) (.sq (rg [qM 92 13,qM 10 92]) (.rt)))))) }
theorem ZbS:ZT Proofs.Tryz.prog Vd De=true:=by kernel_rfl
def ZbT:F2 :=
 { nt:=15,res:=[.t 2 [2]],body:=(.sq (rg [om 2 (.k (.slice none 0 0))]) (.sq (rg [oo 5 (.bs 1 0 [] []),qM 3 5]) (.sq (.sq (rg [om 4 (i6 0)]) (.bl 0 (.lp [0,3,4] [160,416] (.sq (.sq (rg [qM 6 4,qM 7 0,qB 8 .lss 6 7]) (.cd (.t 8) (.sk) (.ex 0))) (.sq (.bl 1 (rg [qM 11 3,oo 12 (.bs 1 1 [.int .i64 0] [(0,i6 (-1))]),oo 13 (.ap 1 0 (.t 11) (.t 12)),qM 3 13]))
 (rg [qM 9 4,oo 10 (.bi .add 0 (.t 9) (i6 1)),qM 4 10])))))) (.sq (rg [qM 14 3,qM 2 14]) (.rt))))) }
theorem ZgC:ZT Proofs.Tryz.prog QL ZbT=true:=by kernel_rfl
def W8:F2 :=
 { nt:=40,res:=[.t 2 [0]],body:=(.sq (rg [om 2 (.k (.bool false))]) (.sq (.sq (rg [qM 5 0,qN 6 5,oo 7 (.ca .pure false (.f Jg) [.t 6,i6 1,i6 6]),oo 8 (.nt (.t 7))]) (.cd (.t 8) (.sq (rg [om 2 (.k (.bool false))]) (.rt)) (.sk))) (.sq (.sq (rg [qM 9 0,qN 10 9,om 11 (i6 0)]) (.bl 0 (.lp [0,9,10,11] [] (.sq (rg [qB 12 .lss 11 10]) (.sq (.cd (.t 12) (.sk) (.ex 0)) (.sq (.bl 1 (.sq (rg [qM 13 11,qI 14 3 9 11,qS 15 3 14,oo 4 (.al [.string ⟨#[]⟩,.int .i64 0,.int .i64 0] []),qM 3 13,on1 (.st 3 (.t 4) (.t 15))]) (.sq (rg [qF 16 0 4,qL 17 16,oo 18 (.ca .pure false (.f QO) [.t 17]),oo 19 (.nt (.t 18)),qM 20 19,og 21 20 false (.fa 1 (.t 4)),og 22 20 false (.ld none (.t 21)),og 23 20 false (.ca .pure false (.f Jg) [.t 22,i6 0,i6 3]),og 24 20 false (.nt (.t 23)),oo 25 (.pk (.t 20) (.k (.bool true)) (.t 24)),qM 26 25,og 27 26 false (.fa 2 (.t 4)),og 28 26 false (.ld none (.t 27)),og 29 26 false (.ca .pure false (.f Jg) [.t 28,i6 0,i6 2]),og 30 26 false (.nt (.t 29)),oo 31 (.pk (.t 26) (.k (.bool true)) (.t 30)),qM 32 31,og 33 32 false (.mv (.t 0) none),og 34 32 false (.mv (.t 3) none),og 35 32 false (.sx 3 (.t 33) none (some (.t 34)) none),og 36 32 false (.mf J3 [.t 4]),og 37 32 false (.ca .pure false (.f Z9) [.t 35,.t 36]),oo 38 (.pk (.t 32) (.k (.bool true)) (.t 37))]) (.cd (.t 38) (.sq (rg [om 2 (.k (.bool false))]) (.rt)) (.sk)))))
 (rg [oo 39 (.bi .add 0 (.t 11) (i6 1)),qM 11 39]))))))) (.sq (rg [om 2 (.k (.bool true))]) (.rt))))) }
theorem ZbU:ZT Proofs.Tryz.prog VB W8=true:=by kernel_rfl
def ZbV:F2 :=
 { nt:=15,res:=[.t 6 [0]],body:=(.sq (rg [om 6 (.k (.bool false))]) (.sq (rg [qM 7 0,qM 8 1,qB 9 .geq 7 8,qM 10 9,og 11 10 true (.mv (.t 0) none),og 12 10 true (.mv (.t 2) none),og 13 10 true (.bi .leq 0 (.t 11) (.t 12)),oo 14 (.pk (.t 10) (.t 13) (.k (.bool false))),qM 6 14]) (.rt))) }
theorem ZgD:ZT Proofs.Tryz.prog Jg ZbV=true:=by kernel_rfl
def Zaf:F2 :=
 { nt:=32,res:=[.t 2 [0]],body:=(.sq (rg [om 2 (.k (.bool false))]) (.sq (.sq (rg [qM 5 0,qN 6 5,om 7 (i6 0)]) (.bl 0 (.lp [0,5,6,7] [] (.sq (rg [qB 8 .lss 7 6]) (.sq (.cd (.t 8) (.sk) (.ex 0)) (.sq (.bl 1 (.sq (rg [qM 9 7,qI 10 1 5 7,qL 11 10,qM 3 9,qM 4 11]) (.sq (rg [qM 12 4,oo 13 (.ca .pure false (.f QO) [.t 12]),oo 14 (.nt (.t 13)),qM 15 14,og 16 15 false (.mv (.t 3) none),og 17 15 false (.bi .gtr 0 (.t 16) (i6 0)),og 18 15 false (.mv (.t 17) none),og 19 18 true (.mv (.t 4) none),og 20 18 true (.mv (.t 0) none),og 21 18 true (.mv (.t 3) none),og 22 18 true (.bi .sub 0 (.t 21) (i6 1)),og 23 18 true (.ia 1 (.t 20) (.t 22)),og 24 18 true (.ld none (.t 23)),og 25 18 true (.bi .leq 0 (.t 19) (.t 24)),og 26 15 false (.pk (.t 18) (.t 25) (.k (.bool false))),oo 27 (.pk (.t 15) (.k (.bool true)) (.t 26))]) (.cd (.t 27) (.sq (rg [om 2 (.k (.bool false))]) (.rt)) (.sk)))))
 (rg [oo 28 (.bi .add 0 (.t 7) (i6 1)),qM 7 28]))))))) (.sq (rg [qM 29 0,qN 30 29,oo 31 (.bi .leq 0 (.t 30) (i6 16)),qM 2 31]) (.rt)))) }
theorem Zey:ZT Proofs.Tryz.prog Vn Zaf=true:=by kernel_rfl
def VT:F2 :=
 { nt:=21,res:=[.t 2 [2]],body:=(.sq (rg [oo 1 (.bt (.t 0)),om 2 (.k (.slice none 0 0))]) (.sq (rg [oo 6 (.bs 1 0 [] []),qM 3 6]) (.sq (.sq (rg [qF 7 5 1,qL 8 7,qN 9 8,om 10 (i6 0)]) (.bl 0 (.lp [3,8,9,10] [192,576] (.sq (rg [qB 11 .lss 10 9]) (.sq (.cd (.t 11) (.sk) (.ex 0)) (.sq (.bl 1 (.sq (rg [qI 12 2 8 10,qS 13 2 12,oo 5 (.al [.string ⟨#[]⟩,.int .i64 0] []),on1 (.st 2 (.t 5) (.t 13))])
 (rg [qM 14 3,qF 15 0 5,qL 16 15,oo 17 (.bs 1 1 [.string ⟨#[]⟩] [(0,.t 16)]),oo 18 (.ap 1 0 (.t 14) (.t 17)),qM 3 18])))
 (rg [oo 19 (.bi .add 0 (.t 10) (i6 1)),qM 10 19]))))))) (.sq (rg [qM 20 3,qM 2 20]) (.rt))))) }
theorem Up:ZT Proofs.Tryz.prog Z3 VT=true:=by kernel_rfl
def QV:F2 :=
 { nt:=32,res:=[.t 8 [0]],body:=(.sq (rg [oo 4 (.bt (.t 0)),om 8 (.k (.bool false))]) (.sq (.sq (rg [qM 9 2,oo 10 (.bi .lss 0 (.t 9) (i6 0))]) (.cd (.t 10) (.sq (rg [qM 11 2,qF 12 0 4,qL 13 12,oo 14 (.ng (.t 13)),qB 15 .geq 11 14,qM 8 15]) (.rt)) (.sk))) (.sq (rg [qM 16 2,qM 17 3,qB 18 .lss 16 17,qM 19 18,og 20 19 true (.mv (.t 1) none),og 21 19 true (.fa 1 (.t 4)),og 22 19 true (.ld none (.t 21)),og 23 19 true (.mv (.t 2) none),og 24 19 true (.ia 3 (.t 22) (.t 23)),og 25 19 true (.fa 0 (.t 24)),og 26 19 true (.ld none (.t 25)),og 27 19 true (.ia 3 (.t 20) (.t 26)),og 28 19 true (.fa 2 (.t 27)),og 29 19 true (.ld none (.t 28)),og 30 19 true (.bi .neq 0 (.t 29) (i6 2)),oo 31 (.pk (.t 19) (.t 30) (.k (.bool false))),qM 8 31]) (.rt)))) }
theorem Df:ZT Proofs.Tryz.prog JG QV=true:=by kernel_rfl
def W9:F2 :=
 { nt:=8,res:=[.t 3 [0]],body:=(.sq (rg [om 3 (.k (.bool false))]) (.sq (rg [qS 4 6 1,qM 5 0,oo 6 (.ca .pure false (.f JR) [.t 4,.t 5]),oo 7 (.nt (.t 6)),qM 3 7]) (.rt))) }
theorem ZbW:ZT Proofs.Tryz.prog VC W9=true:=by kernel_rfl
def Xx:F2 :=
 { nt:=14,res:=[.t 4 [0]],body:=(.sq (rg [oo 2 (.bt (.t 0)),om 4 (.k (.bool false))]) (.sq (rg [qM 5 1,qF 6 3 2,qL 7 6,qF 8 4 2,qL 9 8,qN 10 9,qB 11 .add 7 10,oo 12 (.bi .sub 0 (.t 11) (i6 1)),oo 13 (.ca .pure false (.f Jg) [.t 5,i6 0,.t 12]),qM 4 13]) (.rt))) }
theorem Zag:ZT Proofs.Tryz.prog JR Xx=true:=by kernel_rfl
def Ua:F2 :=
 { nt:=13,res:=[.t 4 [0]],body:=(.sq (rg [om 4 (.k (.bool false))]) (.sq (rg [qS 5 6 1,qL 6 2,qM 7 0,qF 8 1 1,qL 9 8,qN 10 9,oo 11 (.ca .pure false (.f JG) [.t 5,.t 6,.t 7,.t 10]),oo 12 (.nt (.t 11)),qM 4 12]) (.rt))) }
theorem ZbX:ZT Proofs.Tryz.prog VD Ua=true:=by kernel_rfl
def Ub:F2 :=
 { nt:=9,res:=[.t 3 [0]],body:=(.sq (rg [oo 2 (.bt (.t 0)),om 3 (.k (.bool false))]) (.sq (rg [qS 4 6 1,qF 5 1 2,qL 6 5,oo 7 (.ca .pure false (.f JR) [.t 4,.t 6]),oo 8 (.nt (.t 7)),qM 3 8]) (.rt))) }
theorem ZbY:ZT Proofs.Tryz.prog VE Ub=true:=by kernel_rfl
def Qb:F2 :=
 { nt:=84,res:=[.t 8 [0]],body:=(.sq (rg [oo 4 (.bt (.t 0)),oo 5 (.bt (.t 1)),om 8 (.k (.bool false))]) (.sq (rg [qM 15 2,qN 16 15,qM 9 16]) (.sq (.sq (rg [qM 17 9,qF 18 1 4,qL 19 18,qN 20 19,qB 21 .eql 17 20]) (.cd (.t 21) (.sq (.sq (rg [qS 23 6 4,qS 24 6 5,qM 25 2,oo 26 (.ca .pure false (.f XQ) [.t 23,.t 24,.t 25]),qM 22 26,qE 27 0 22,qE 28 1 22,qM 10 27,qM 11 28]) (.sq (rg [qM 29 11]) (.cd (.t 29) (.sq (rg [qM 30 3,qM 31 2,oo 32 (.ca .any false (.t 30) [.t 31]),qM 8 32]) (.rt)) (.sk)))) (.sq (rg [om 8 (.k (.bool true))]) (.rt))) (.sk))) (.sq (rg [qF 33 1 4,qL 34 33,qM 35 9,qI 36 3 34 35,qF 37 1 36,qL 38 37,qM 12 38]) (.sq (.sq (rg [qM 39 12,oo 40 (.bi .geq 0 (.t 39) (i6 0))]) (.cd (.t 40) (rg [qM 41 2,qM 42 12,qI 43 1 41 42,qL 44 43,qM 12 44]) (.sk))) (.sq (.sq (rg [qF 45 1 5,qL 46 45,qN 47 46,om 48 (i6 0)]) (.bl 0 (.lp [2,3,4,5,9,12,46,47,48] [] (.sq (rg [qB 49 .lss 48 47]) (.sq (.cd (.t 49) (.sk) (.ex 0)) (.sq (.bl 1 (.sq (rg [qM 50 48,qI 51 3 46 48,qS 52 3 51,oo 14 (.al [.int .i64 0,.int .i64 0,.slice none 0 0] []),qM 13 50,on1 (.st 3 (.t 14) (.t 52))]) (.sq (.sq (.rg (some 0) [qF 53 0 14,qL 54 53,qF 55 1 4,qL 56 55,qM 57 9,qI 58 3 56 57,qF 59 0 58,qL 60 59,qB 61 .neq 54 60,qM 62 61,og 63 62 false (.fa 1 (.t 14)),og 64 62 false (.ld none (.t 63)),og 65 62 false (.mv (.t 12) none),og 66 62 false (.bi .neq 0 (.t 64) (.t 65)),oo 67 (.pk (.t 62) (.k (.bool true)) (.t 66)),qM 68 67,og 69 68 false (.mv (.t 2) none),og 70 68 false (.mv (.t 13) none),og 71 68 false (.ca .pure false (.f Z4) [.t 69,.t 70]),oo 72 (.pk (.t 68) (.k (.bool true)) (.t 71))]) (.cd (.t 72) (.ex 1) (.sk))) (.sq (.rg (some 0) [oo 73 (.lt (some 6) (.t 4)),oo 74 (.lt (some 6) (.t 5)),qM 75 2,oo 76 (.ca .pure true (.f YC) [.t 75]),qM 77 13,oo 78 (.bs 1 1 [.int .i64 0] [(0,.t 77)]),oo 79 (.a3 1 (.t 76) (.t 78)),qM 80 3,oo 81 (.ca .any false (.f JJ) [.t 73,.t 74,.t 79,.t 80]),oo 82 (.nt (.t 81))]) (.cd (.t 82) (.sq (rg [om 8 (.k (.bool false))]) (.rt)) (.sk))))))
 (rg [oo 83 (.bi .add 0 (.t 48) (i6 1)),qM 48 83]))))))) (.sq (rg [om 8 (.k (.bool true))]) (.rt)))))))) }
theorem WL:ZT Proofs.Tryz.prog JJ Qb=true:=by kernel_rfl
def WM:F2 :=
 { nt:=9,res:=[.t 3 [0]],body:=(.sq (rg [om 3 (.k (.bool false))]) (.sq (.rg (some 0) [qL 4 1,qM 5 0,oo 6 (.ca .pure true (.f ZS) [.t 5]),oo 7 (.bv 1 1 [.slice none 0 0] [(0,.t 6)]),oo 8 (.ap 1 2 (.t 4) (.t 7)),on1 (.st 1 (.t 1) (.t 8))]) (.sq (rg [om 3 (.k (.bool true))]) (.rt)))) }
theorem Zbh:ZT Proofs.Tryz.prog J9 WM=true:=by kernel_rfl
def Xe:F2 :=
 { nt:=8,res:=[.t 2 [2]],body:=(.sq (rg [om 2 (.k (.slice none 0 0))]) (.sq (.sq (rg [qM 3 0,oo 4 (.nl false (.t 3))]) (.cd (.t 4) (.sq (rg [om 2 (.k (.slice none 0 0))]) (.rt)) (.sk))) (.sq (rg [oo 5 (.bs 1 0 [] []),qM 6 0,oo 7 (.ap 1 0 (.t 5) (.t 6)),qM 2 7]) (.rt)))) }
theorem DO:ZT Proofs.Tryz.prog ZS Xe=true:=by kernel_rfl
def YT:F2 :=
 { nt:=49,res:=[.t 4 [0]],body:=(.sq (rg [oo 2 (.bt (.t 0)),oo 3 (.bt (.t 1)),om 4 (.k (.bool false))]) (.sq (.rg (some 0) [qF 5 0 2,qL 6 5,qF 7 0 3,qL 8 7,qB 9 .eql 6 8,qM 10 9,og 11 10 true (.fa 3 (.t 2)),og 12 10 true (.ld none (.t 11)),og 13 10 true (.fa 3 (.t 3)),og 14 10 true (.ld none (.t 13)),og 15 10 true (.bi .eql 0 (.t 12) (.t 14)),oo 16 (.pk (.t 10) (.t 15) (.k (.bool false))),qM 17 16,og 18 17 true (.fa 1 (.t 2)),og 19 17 true (.ld none (.t 18)),og 20 17 true (.ln (.t 19)),og 21 17 true (.fa 1 (.t 3)),og 22 17 true (.ld none (.t 21)),og 23 17 true (.ln (.t 22)),og 24 17 true (.bi .eql 0 (.t 20) (.t 23)),oo 25 (.pk (.t 17) (.t 24) (.k (.bool false))),qM 26 25,og 27 26 true (.fa 2 (.t 2)),og 28 26 true (.ld none (.t 27)),og 29 26 true (.ln (.t 28)),og 30 26 true (.fa 2 (.t 3)),og 31 26 true (.ld none (.t 30)),og 32 26 true (.ln (.t 31)),og 33 26 true (.bi .eql 0 (.t 29) (.t 32)),oo 34 (.pk (.t 26) (.t 33) (.k (.bool false))),qM 35 34,og 36 35 true (.fa 4 (.t 2)),og 37 35 true (.ld none (.t 36)),og 38 35 true (.fa 4 (.t 3)),og 39 35 true (.ld none (.t 38)),og 40 35 true (.ca .pure false (.f Yg) [.t 37,.t 39]),oo 41 (.pk (.t 35) (.t 40) (.k (.bool false))),qM 42 41,og 43 42 true (.ld (some 6) (.t 2)),og 44 42 true (.ca .pure false (.f YN) [.t 43]),og 45 42 true (.ld (some 6) (.t 3)),og 46 42 true (.ca .pure false (.f YN) [.t 45]),og 47 42 true (.ca .pure false (.f Yg) [.t 44,.t 46]),oo 48 (.pk (.t 42) (.t 47) (.k (.bool false))),qM 4 48]) (.rt))) }
set_option maxRecDepth 1000000 in
theorem Zfe:ZT Proofs.Tryz.prog XP YT=true:=by kernel_rfl
def VU:F2 :=
 { nt:=6,res:=[.t 3 [0]],body:=(.sq (rg [om 3 (.k (.bool false))]) (.sq (rg [qM 4 0,oo 5 (.ca .pure true (.f ZS) [.t 4]),on1 (.gv 193 (.t 1) (.t 5))]) (.sq (rg [om 3 (.k (.bool false))]) (.rt)))) }
theorem Uq:ZT Proofs.Tryz.prog Jr VU=true:=by kernel_rfl
def ZbZ:F2 :=
 { nt:=17,res:=[.t 4 [0]],body:=(.sq (rg [oo 2 (.bt (.t 0)),om 4 (.k (.bool false))]) (.sq (rg [qS 5 6 2,qM 6 1,oo 7 (.ca .pure false (.f XR) [.t 5,.t 6]),qN 8 7,oo 9 (.bi .eql 0 (.t 8) (i6 0)),qM 10 9,og 11 10 true (.ld (some 6) (.t 2)),og 12 10 true (.mv (.t 1) none),og 13 10 true (.ca .pure false (.f WF) [.t 11,.t 12]),og 14 10 true (.ln (.t 13)),og 15 10 true (.bi .eql 0 (.t 14) (i6 0)),oo 16 (.pk (.t 10) (.t 15) (.k (.bool false))),qM 4 16]) (.rt))) }
theorem ZgE:ZT Proofs.Tryz.prog WC ZbZ=true:=by kernel_rfl
def Zdl:F2 :=
 { nt:=34,res:=[.c 2 (some 6) [0,4,2,0,2,3]],body:=(.sq (rg [oo 1 (.bt (.t 0)),oo 2 (.al [.int .i64 0,.slice none 0 0,.slice none 0 0,.int .i64 0,.slice none 0 0,.slice none 0 0] [])]) (.sq (rg [oo 7 (.bs 1 0 [] []),oo 8 (.bs 1 0 [] []),qM 3 7,qM 4 8]) (.sq (.sq (rg [om 5 (i6 0)]) (.bl 0 (.lp [1,2,3,4,5] [64,224,256,608,928,1056,1057,1058,1059] (.sq (.sq (rg [qM 9 5,qF 10 1 1,qL 11 10,qN 12 11,qB 13 .lss 9 12]) (.cd (.t 13) (.sk) (.ex 0))) (.sq (.bl 1 (rg [qM 16 3,qM 17 5,oo 18 (.bs 1 1 [.int .i64 0] [(0,.t 17)]),oo 19 (.ap 1 0 (.t 16) (.t 18)),qM 3 19]))
 (rg [qM 14 5,oo 15 (.bi .add 0 (.t 14) (i6 1)),qM 5 15])))))) (.sq (.sq (rg [om 6 (i6 0)]) (.bl 2 (.lp [1,2,3,4,6] [64,224,256,608,928,1056,1057,1058,1059] (.sq (.sq (rg [qM 20 6,qF 21 3 1,qL 22 21,qB 23 .lss 20 22]) (.cd (.t 23) (.sk) (.ex 2))) (.sq (.bl 3 (rg [qM 26 4,qM 27 6,oo 28 (.bs 1 1 [.int .i64 0] [(0,.t 27)]),oo 29 (.ap 1 0 (.t 26) (.t 28)),qM 4 29]))
 (rg [qM 24 6,oo 25 (.bi .add 0 (.t 24) (i6 1)),qM 6 25])))))) (.sq (rg [qS 30 6 1,qM 31 3,qM 32 4,oo 33 (.ca .pure true (.f V7) [.t 30,.t 31,.t 32]),on1 (.st 6 (.t 2) (.t 33))]) (.rt)))))) }
theorem Zh4:ZT Proofs.Tryz.prog Xp Zdl=true:=by kernel_rfl
def UO:F2 :=
 { nt:=23,res:=[.t 8 [0]],body:=(.sq (rg [oo 4 (.bt (.t 0)),om 8 (i6 0)]) (.sq (.sq (rg [qM 9 1,qF 10 3 4,qL 11 10,qB 12 .lss 9 11]) (.cd (.t 12) (.sq (rg [qM 13 2,qM 14 1,qI 15 1 13 14,qL 16 15,qM 8 16]) (.rt)) (.sk))) (.sq (rg [qM 17 1,qF 18 3 4,qL 19 18,qB 20 .sub 17 19,qM 21 3,qB 22 .add 20 21,qM 8 22]) (.rt)))) }
theorem ZcP:ZT Proofs.Tryz.prog YB UO=true:=by kernel_rfl
def Xy:F2 :=
 { nt:=19,res:=[.t 4 [0]],body:=(.sq (rg [oo 2 (.bt (.t 0)),om 4 (.k (.bool false))]) (.sq (rg [qS 8 6 2,qM 9 1,oo 10 (.ca .pure false (.f Yd) [.t 8,.t 9]),qM 7 10,qE 11 0 7,qE 12 1 7,qM 5 11,qM 6 12]) (.sq (rg [qM 13 5,qN 14 13,qM 15 6,qN 16 15,qB 17 .add 14 16,oo 18 (.bi .eql 0 (.t 17) (i6 0)),qM 4 18]) (.rt)))) }
theorem Zah:ZT Proofs.Tryz.prog JS Xy=true:=by kernel_rfl
def QW:F2 :=
 { nt:=68,res:=[.c 8 (some 6) [0,4,2,0,2,3]],body:=(.sq (rg [oo 4 (.bt (.t 0)),oo 5 (.bt (.t 1)),oo 7 (.bx (.t 3)),oo 8 (.al [.int .i64 0,.slice none 0 0,.slice none 0 0,.int .i64 0,.slice none 0 0,.slice none 0 0] [])]) (.sq (rg [qS 17 6 4,oo 18 (.ca .pure true (.f V8) [.t 17]),oo 9 (.al [.int .i64 0,.slice none 0 0,.slice none 0 0,.int .i64 0,.slice none 0 0,.slice none 0 0] []),on1 (.st 6 (.t 9) (.t 18))]) (.sq (.rg (some 0) [qL 19 5,qM 20 2,oo 21 (.ca .pure true (.f VF) [.t 20]),qF 22 3 9,on1 (.st 1 (.t 22) (.t 19)),qF 23 4 9,on1 (.st 1 (.t 23) (.t 21))]) (.sq (rg [oo 24 (.mf Js [.t 7,.t 4,.t 5,.t 9]),qM 10 24]) (.sq (.sq (rg [qF 25 1 9,qL 26 25,qN 27 26,om 28 (i6 0)]) (.bl 0 (.lp [8,9,10,26,27,28] [224,256,288,576,577,578,579,672] (.sq (rg [qB 29 .lss 28 27]) (.sq (.cd (.t 29) (.sk) (.ex 0)) (.sq (.bl 1 (.sq (rg [qI 30 3 26 28,qS 31 3 30,oo 12 (.al [.int .i64 0,.int .i64 0,.slice none 0 0] []),on1 (.st 3 (.t 12) (.t 31))]) (.sq (rg [qF 32 2 12,qL 33 32,qN 34 33,om 35 (i6 0)]) (.bl 2 (.lp [8,9,10,12,26,27,28,33,34,35] [224,256,288,384,576,577,578,579,672] (.sq (rg [qB 36 .lss 35 34]) (.sq (.cd (.t 36) (.sk) (.ex 2)) (.sq (.bl 3 (.sq (rg [qM 37 35,qI 38 1 33 35,qL 39 38,qM 13 37,qM 14 39]) (.rg (some 0) [qF 40 2 12,qL 41 40,qM 42 13,qM 43 10,qM 44 14,oo 45 (.ca .see false (.t 43) [.t 44]),qI 46 1 41 42,on1 (.st 1 (.t 46) (.t 45))])))
 (rg [oo 47 (.bi .add 0 (.t 35) (i6 1)),qM 35 47])))))))))
 (rg [oo 48 (.bi .add 0 (.t 28) (i6 1)),qM 28 48]))))))) (.sq (.sq (rg [qF 49 5 9,qL 50 49,qN 51 50,om 52 (i6 0)]) (.bl 4 (.lp [8,9,10,50,51,52] [224,256,288,576,577,578,579,672] (.sq (rg [qB 53 .lss 52 51]) (.sq (.cd (.t 53) (.sk) (.ex 4)) (.sq (.bl 5 (.sq (rg [qM 54 52,qI 55 2 50 52,qS 56 2 55,oo 16 (.al [.string ⟨#[]⟩,.int .i64 0] []),qM 15 54,on1 (.st 2 (.t 16) (.t 56))]) (.rg (some 0) [qF 57 5 9,qL 58 57,qM 59 15,qM 60 10,qF 61 1 16,qL 62 61,oo 63 (.ca .see false (.t 60) [.t 62]),qI 64 2 58 59,qF 65 1 64,on1 (.st 1 (.t 65) (.t 63))])))
 (rg [oo 66 (.bi .add 0 (.t 52) (i6 1)),qM 52 66]))))))) (.sq (rg [qS 67 6 9,on1 (.st 6 (.t 8) (.t 67))]) (.rt)))))))) }
theorem Dg:ZT Proofs.Tryz.prog JH QW=true:=by kernel_rfl
def Xz:F2 :=
 { nt:=13,res:=[.c 3 (some 2) [0,0]],body:=(.sq (rg [oo 2 (.bx (.t 0)),oo 3 (.al [.int .i64 0,.string ⟨#[]⟩] [])]) (.sq (.sq (rg [qF 4 1 2,qL 5 4,oo 6 (.bi .eql 0 (.t 5) (.k (.string ⟨#[]⟩)))]) (.cd (.t 6) (rg [qL 7 1,qF 8 0 2,qL 9 8,oo 10 (.ca .pure false (.f JO) [.t 7,.t 9]),qF 11 0 2,on1 (.st 1 (.t 11) (.t 10))]) (.sk))) (.sq (rg [qS 12 2 2,on1 (.st 2 (.t 3) (.t 12))]) (.rt)))) }
theorem Zai:ZT Proofs.Tryz.prog JT Xz=true:=by kernel_rfl
def Xf:F2 :=
 { nt:=19,res:=[.t 4 [0]],body:=(.sq (rg [om 4 (i6 0)]) (.sq (.sq (rg [qM 6 0,qN 7 6,om 8 (i6 0)]) (.bl 0 (.lp [0,1,7,8] [] (.sq (rg [qB 9 .lss 8 7]) (.sq (.cd (.t 9) (.sk) (.ex 0)) (.sq (.bl 1 (.sq (rg [qM 10 8,qM 5 10]) (.sq (rg [qM 11 1,qM 12 0,qM 13 5,qI 14 1 12 13,qL 15 14,qB 16 .eql 11 15]) (.cd (.t 16) (.sq (rg [qM 17 5,qM 4 17]) (.rt)) (.sk)))))
 (rg [oo 18 (.bi .add 0 (.t 8) (i6 1)),qM 8 18]))))))) (.sq (rg [om 4 (i6 (-1))]) (.rt)))) }
theorem DP:ZT Proofs.Tryz.prog JO Xf=true:=by kernel_rfl
def Zb0:F2 :=
 { nt:=23,res:=[.t 2 [0]],body:=(.sq (rg [om 2 (.k (.bool false))]) (.sq (.sq (rg [om 3 (i6 0)]) (.bl 0 (.lp [0,3] [] (.sq (.sq (rg [qM 4 3,qM 5 0,oo 6 (.lg (.t 5)),qB 7 .lss 4 6]) (.cd (.t 7) (.sk) (.ex 0))) (.sq (.bl 1 (.sq (rg [qM 10 0,qM 11 3,oo 12 (.ix (.t 10) (.t 11)),oo 13 (.bi .lss 0 (.t 12) (.k (.int .u8 97))),qM 14 13,og 15 14 false (.mv (.t 0) none),og 16 14 false (.mv (.t 3) none),og 17 14 false (.ix (.t 15) (.t 16)),og 18 14 false (.bi .gtr 0 (.t 17) (.k (.int .u8 122))),oo 19 (.pk (.t 14) (.k (.bool true)) (.t 18))]) (.cd (.t 19) (.sq (rg [om 2 (.k (.bool false))]) (.rt)) (.sk))))
 (rg [qM 8 3,oo 9 (.bi .add 0 (.t 8) (i6 1)),qM 3 9])))))) (.sq (rg [qM 20 0,oo 21 (.lg (.t 20)),oo 22 (.ca .pure false (.f Jp) [.t 21,i6 1,i6 4]),qM 2 22]) (.rt)))) }
theorem ZgF:ZT Proofs.Tryz.prog QM Zb0=true:=by kernel_rfl
def Zb1:F2 :=
 { nt:=70,res:=[.t 8 [0],.t 9 [0]],body:=(.sq (rg [oo 4 (.bt (.t 0)),oo 5 (.bt (.t 1)),om 8 (.k (.slice none 0 0)),om 9 (.k (.bool false))]) (.sq (.sq (rg [om 10 (i6 0)]) (.bl 0 (.lp [2,3,4,5,10] [] (.sq (.sq (rg [qM 14 10,qF 15 2 4,qL 16 15,qN 17 16,qB 18 .lss 14 17]) (.cd (.t 18) (.sk) (.ex 0))) (.sq (.bl 1 (.sq (.rg (some 0) [qF 21 2 4,qL 22 21,qM 23 10,qI 24 1 22 23,qL 25 24,qM 26 2,oo 27 (.ca .pure false (.f J2) [.t 25,.t 26]),qF 28 2 5,qL 29 28,qM 30 10,qI 31 1 29 30,qL 32 31,qB 33 .neq 27 32]) (.cd (.t 33) (.sq (rg [qM 34 3,qM 8 34,om 9 (.k (.bool false))]) (.rt)) (.sk))))
 (rg [qM 19 10,oo 20 (.bi .add 0 (.t 19) (i6 1)),qM 10 20])))))) (.sq (rg [oo 35 (.bs 1 0 [] []),oo 36 (.bs 1 0 [] []),qM 11 35,qM 12 36]) (.sq (.sq (rg [om 13 (i6 0)]) (.bl 2 (.lp [3,4,5,11,12,13] [1120,1152,1664,1952] (.sq (.sq (rg [qM 37 13,qF 38 5 4,qL 39 38,qN 40 39,qB 41 .lss 37 40]) (.cd (.t 41) (.sk) (.ex 2))) (.sq (.bl 3 (.sq (rg [qM 44 11,qF 45 5 4,qL 46 45,qM 47 13,qI 48 2 46 47,qF 49 1 48,qL 50 49,oo 51 (.bs 1 1 [.int .i64 0] [(0,.t 50)]),oo 52 (.ap 1 0 (.t 44) (.t 51)),qM 11 52])
 (rg [qM 53 12,qF 54 5 5,qL 55 54,qM 56 13,qI 57 2 55 56,qF 58 1 57,qL 59 58,oo 60 (.bs 1 1 [.int .i64 0] [(0,.t 59)]),oo 61 (.ap 1 0 (.t 53) (.t 60)),qM 12 61])))
 (rg [qM 42 13,oo 43 (.bi .add 0 (.t 42) (i6 1)),qM 13 43])))))) (.sq (rg [qS 62 6 4,qS 63 6 5,qM 64 3,oo 65 (.fz (.t 11)),oo 66 (.fz (.t 12)),oo 67 (.ca .pure false (.f QN) [.t 62,.t 63,.t 64,.t 65,.t 66]),qE 68 0 67,qE 69 1 67,qM 8 68,qM 9 69]) (.rt)))))) }
theorem ZgG:ZT Proofs.Tryz.prog WD Zb1=true:=by kernel_rfl
def Zdm:F2 :=
 { nt:=6,res:=[.t 2 [2]],body:=(.sq (rg [om 2 (.k (.slice none 0 0))]) (.sq (rg [oo 3 (.bs 1 0 [] []),qM 4 0,oo 5 (.ap 1 0 (.t 3) (.t 4)),qM 2 5]) (.rt))) }
theorem Zh5:ZT Proofs.Tryz.prog VP Zdm=true:=by kernel_rfl
def Zb2:F2 :=
 { nt:=42,res:=[.t 8 [0]],body:=(.sq (rg [oo 4 (.bt (.t 0)),oo 5 (.bt (.t 1)),om 8 (.k (.bool false))]) (.sq (.rg (some 0) [qF 11 1 4,qL 12 11,qM 13 2,qN 14 13,qI 15 3 12 14,qS 16 3 15,qF 17 1 5,oo 18 (.lt none (.t 17)),qM 19 3,oo 20 (.it 3 (.t 18) (.t 19)),oo 21 (.lt (some 3) (.t 20)),oo 9 (.al [.int .i64 0,.int .i64 0,.slice none 0 0] []),oo 10 (.al [.int .i64 0,.int .i64 0,.slice none 0 0] []),on1 (.s0 3 (.t 9) (.t 16)),on1 (.st 3 (.t 10) (.t 21))]) (.sq (.rg (some 0) [qM 22 2,qM 23 3,oo 24 (.ca .pure false (.f Xq) [.t 22,.t 23]),oo 25 (.nt (.t 24)),qM 26 25,og 27 26 true (.fa 0 (.t 9)),og 28 26 true (.ld none (.t 27)),og 29 26 true (.fa 0 (.t 10)),og 30 26 true (.ld none (.t 29)),og 31 26 true (.bi .eql 0 (.t 28) (.t 30)),oo 32 (.pk (.t 26) (.t 31) (.k (.bool false))),qM 33 32,og 34 33 true (.fa 1 (.t 9)),og 35 33 true (.ld none (.t 34)),og 36 33 true (.mv (.t 2) none),og 37 33 true (.ca .pure false (.f J2) [.t 35,.t 36]),og 38 33 true (.fa 1 (.t 10)),og 39 33 true (.ld none (.t 38)),og 40 33 true (.bi .eql 0 (.t 37) (.t 39)),oo 41 (.pk (.t 33) (.t 40) (.k (.bool false))),qM 8 41]) (.rt)))) }
theorem ZgH:ZT Proofs.Tryz.prog WE Zb2=true:=by kernel_rfl
def Zb3:F2 :=
 { nt:=41,res:=[.t 10 [0],.t 11 [0]],body:=(.sq (rg [oo 5 (.bt (.t 0)),oo 6 (.bt (.t 1)),om 10 (.k (.slice none 0 0)),om 11 (.k (.bool false))]) (.sq (.sq (rg [om 12 (i6 0)]) (.bl 0 (.lp [2,3,4,5,6,12] [] (.sq (.sq (rg [qM 15 12,qM 16 3,qN 17 16,qB 18 .lss 15 17]) (.cd (.t 18) (.sk) (.ex 0))) (.sq (.bl 1 (.sq (.rg (some 0) [qS 22 6 5,qS 23 6 6,qM 24 2,qM 25 3,qM 26 12,qI 27 1 25 26,qL 28 27,qM 29 4,qM 30 12,qI 31 1 29 30,qL 32 31,oo 33 (.ca .pure false (.f Un) [.t 22,.t 23,.t 24,.t 28,.t 32]),qM 21 33,qE 34 0 21,qE 35 1 21,qM 13 34,qM 14 35]) (.sq (.sq (rg [qM 36 14,oo 37 (.nt (.t 36))]) (.cd (.t 37) (.sq (rg [qM 38 2,qM 10 38,om 11 (.k (.bool false))]) (.rt)) (.sk)))
 (rg [qM 39 13,qM 2 39]))))
 (rg [qM 19 12,oo 20 (.bi .add 0 (.t 19) (i6 1)),qM 12 20])))))) (.sq (rg [qM 40 2,qM 10 40,om 11 (.k (.bool true))]) (.rt)))) }
theorem ZgI:ZT Proofs.Tryz.prog QN Zb3=true:=by kernel_rfl
def Zb4:F2 :=
 { nt:=11,res:=[.t 2 [0]],body:=(.sq (rg [om 2 (.k (.bool false))]) (.sq (rg [qM 3 0,oo 4 (.lg (.t 3)),oo 5 (.ca .pure false (.f Jg) [.t 4,i6 1,i6 4]),qM 6 5,og 7 6 true (.mv (.t 0) none),og 8 6 true (.ca .pure false (.f Dv) [.t 7,.k (.string ⟨#[97,98,99,100,101,102,103,104,105,106,107,108,109,110,111,112,113,114,115,116,117,118,119,120,121,122]⟩)]),og 9 6 true (.bi .eql 0 (.t 8) (.k (.string ⟨#[]⟩))),oo 10 (.pk (.t 6) (.t 9) (.k (.bool false))),qM 2 10]) (.rt))) }
theorem ZgJ:ZT Proofs.Tryz.prog QO Zb4=true:=by kernel_rfl
def X1:F2 :=
 { nt:=9,res:=[.t 3 [0]],body:=(.sq (rg [oo 2 (.bt (.t 0)),om 3 (.k (.bool false))]) (.sq (rg [qF 4 0 2,qL 5 4,qF 6 0 1,qL 7 6,qB 8 .eql 5 7,qM 3 8]) (.rt))) }
theorem ZaT:ZT Proofs.Tryz.prog J3 X1=true:=by kernel_rfl
def Ur:F2 :=
 { nt:=173,res:=[.t 6 [2],.t 7 [0]],body:=(.sq (rg [oo 3 (.bt (.t 0)),oo 4 (.bt (.t 1)),oo 5 (.bt (.t 2)),om 6 (.k (.slice none 0 0)),om 7 (.k (.bool false))]) (.sq (.sq (.rg (some 0) [qF 20 0 3,qL 21 20,qF 22 0 4,qL 23 22,qB 24 .neq 21 23,qM 25 24,og 26 25 false (.fa 4 (.t 3)),og 27 25 false (.ld none (.t 26)),og 28 25 false (.fa 4 (.t 4)),og 29 25 false (.ld none (.t 28)),og 30 25 false (.ca .pure false (.f Jd) [.t 27,.t 29]),og 31 25 false (.nt (.t 30)),oo 32 (.pk (.t 25) (.k (.bool true)) (.t 31)),qM 33 32,og 34 33 false (.ld (some 6) (.t 3)),og 35 33 false (.ca .pure false (.f Z3) [.t 34]),og 36 33 false (.ld (some 6) (.t 4)),og 37 33 false (.ca .pure false (.f Z3) [.t 36]),og 38 33 false (.ca .pure false (.f Jd) [.t 35,.t 37]),og 39 33 false (.nt (.t 38)),oo 40 (.pk (.t 33) (.k (.bool true)) (.t 39)),qM 41 40,og 42 41 false (.fa 3 (.t 3)),og 43 41 false (.ld none (.t 42)),og 44 41 false (.fa 3 (.t 4)),og 45 41 false (.ld none (.t 44)),og 46 41 false (.bi .neq 0 (.t 43) (.t 45)),oo 47 (.pk (.t 41) (.k (.bool true)) (.t 46)),qM 48 47,og 49 48 false (.fa 2 (.t 3)),og 50 48 false (.ld none (.t 49)),og 51 48 false (.ln (.t 50)),og 52 48 false (.fa 2 (.t 4)),og 53 48 false (.ld none (.t 52)),og 54 48 false (.ln (.t 53)),og 55 48 false (.bi .neq 0 (.t 51) (.t 54)),oo 56 (.pk (.t 48) (.k (.bool true)) (.t 55)),qM 57 56,og 58 57 false (.fa 1 (.t 3)),og 59 57 false (.ld none (.t 58)),og 60 57 false (.ln (.t 59)),og 61 57 false (.fa 1 (.t 4)),og 62 57 false (.ld none (.t 61)),og 63 57 false (.ln (.t 62)),og 64 57 false (.bi .neq 0 (.t 60) (.t 63)),oo 65 (.pk (.t 57) (.k (.bool true)) (.t 64)),qM 66 65,og 67 66 false (.fa 1 (.t 3)),og 68 66 false (.ld none (.t 67)),og 69 66 false (.ln (.t 68)),og 70 66 false (.ld none (.t 5)),og 71 66 false (.ca .pure false (.f XT) [.t 69,.t 70]),og 72 66 false (.nt (.t 71)),oo 73 (.pk (.t 66) (.k (.bool true)) (.t 72))]) (.cd (.t 73) (.sq (rg [om 6 (.k (.slice none 0 0)),om 7 (.k (.bool false))]) (.rt)) (.sk))) (.sq (rg [oo 74 (.bs 1 1 [.int .i64 0] [(0,i6 (-1))]),qF 75 3 3,qL 76 75,oo 77 (.ca .pure true (.f Ye) [.t 74,.t 76]),oo 8 (.al [.slice none 0 0] []),on1 (.st 1 (.t 8) (.t 77))]) (.sq (rg [oo 78 (.mf QP [.t 3,.t 4,.t 8]),qM 9 78]) (.sq (rg [oo 79 (.mf QQ [.t 5]),qM 10 79]) (.sq (.sq (rg [qF 80 1 3,qL 81 80,qN 82 81,om 83 (i6 0)]) (.bl 0 (.lp [3,4,5,8,9,10,81,82,83] [256,2464] (.sq (rg [qB 84 .lss 83 82]) (.sq (.cd (.t 84) (.sk) (.ex 0)) (.sq (.bl 1 (.sq (rg [qM 85 83,qI 86 3 81 83,qS 87 3 86,oo 12 (.al [.int .i64 0,.int .i64 0,.slice none 0 0] []),qM 11 85,on1 (.st 3 (.t 12) (.t 87))]) (.sq (.rg (some 0) [qF 88 1 4,qL 89 88,qL 90 5,qM 91 11,qI 92 1 90 91,qL 93 92,qI 94 3 89 93,qS 95 3 94,oo 13 (.al [.int .i64 0,.int .i64 0,.slice none 0 0] []),on1 (.st 3 (.t 13) (.t 95))]) (.sq (.sq (.rg (some 0) [qF 96 0 12,qL 97 96,qF 98 0 13,qL 99 98,qB 100 .neq 97 99,qM 101 100,og 102 101 false (.mv (.t 10) none),og 103 101 false (.fa 1 (.t 12)),og 104 101 false (.ld none (.t 103)),og 105 101 false (.ca .pure false (.t 102) [.t 104]),og 106 101 false (.fa 1 (.t 13)),og 107 101 false (.ld none (.t 106)),og 108 101 false (.bi .neq 0 (.t 105) (.t 107)),oo 109 (.pk (.t 101) (.k (.bool true)) (.t 108))]) (.cd (.t 109) (.sq (rg [om 6 (.k (.slice none 0 0)),om 7 (.k (.bool false))]) (.rt)) (.sk))) (.sq (rg [qF 110 2 12,qL 111 110,qN 112 111,om 113 (i6 0)]) (.bl 2 (.lp [3,4,5,8,9,10,13,81,82,83,111,112,113] [256,384,416,2464] (.sq (rg [qB 114 .lss 113 112]) (.sq (.cd (.t 114) (.sk) (.ex 2)) (.sq (.bl 3 (.sq (rg [qM 115 113,qI 116 1 111 113,qL 117 116,qM 14 115,qM 15 117]) (.sq (rg [qM 118 9,qM 119 15,qF 120 2 13,qL 121 120,qM 122 14,qI 123 1 121 122,qL 124 123,oo 125 (.ca .any false (.t 118) [.t 119,.t 124]),oo 126 (.nt (.t 125))]) (.cd (.t 126) (.sq (rg [om 6 (.k (.slice none 0 0)),om 7 (.k (.bool false))]) (.rt)) (.sk)))))
 (rg [oo 127 (.bi .add 0 (.t 113) (i6 1)),qM 113 127])))))))))))
 (rg [oo 128 (.bi .add 0 (.t 83) (i6 1)),qM 83 128]))))))) (.sq (.sq (rg [qF 129 2 3,qL 130 129,qN 131 130,om 132 (i6 0)]) (.bl 4 (.lp [3,4,8,9,10,130,131,132] [256,2464] (.sq (rg [qB 133 .lss 132 131]) (.sq (.cd (.t 133) (.sk) (.ex 4)) (.sq (.bl 5 (.sq (rg [qM 134 132,qI 135 1 130 132,qL 136 135,qM 16 134,qM 17 136]) (.sq (.rg (some 0) [qM 137 10,qM 138 17,oo 139 (.ca .pure false (.t 137) [.t 138]),qF 140 2 4,qL 141 140,qM 142 16,qI 143 1 141 142,qL 144 143,qB 145 .neq 139 144]) (.cd (.t 145) (.sq (rg [om 6 (.k (.slice none 0 0)),om 7 (.k (.bool false))]) (.rt)) (.sk)))))
 (rg [oo 146 (.bi .add 0 (.t 132) (i6 1)),qM 132 146]))))))) (.sq (.sq (rg [qF 147 5 3,qL 148 147,qN 149 148,om 150 (i6 0)]) (.bl 6 (.lp [3,4,8,9,148,149,150] [256,2464] (.sq (rg [qB 151 .lss 150 149]) (.sq (.cd (.t 151) (.sk) (.ex 6)) (.sq (.bl 7 (.sq (rg [qM 152 150,qI 153 2 148 150,qS 154 2 153,oo 19 (.al [.string ⟨#[]⟩,.int .i64 0] []),qM 18 152,on1 (.st 2 (.t 19) (.t 154))]) (.sq (.rg (some 0) [qM 155 9,qF 156 1 19,qL 157 156,qF 158 5 4,qL 159 158,qM 160 18,qI 161 2 159 160,qF 162 1 161,qL 163 162,oo 164 (.ca .any false (.t 155) [.t 157,.t 163]),oo 165 (.nt (.t 164))]) (.cd (.t 165) (.sq (rg [om 6 (.k (.slice none 0 0)),om 7 (.k (.bool false))]) (.rt)) (.sk)))))
 (rg [oo 166 (.bi .add 0 (.t 150) (i6 1)),qM 150 166]))))))) (.sq (rg [qS 167 6 3,qS 168 6 4,qL 169 8,oo 170 (.ca .any false (.f QR) [.t 167,.t 168,.t 169]),qE 171 0 170,qE 172 1 170,qM 6 171,qM 7 172]) (.rt)))))))))) }
theorem Zff:ZT Proofs.Tryz.prog XQ Ur=true:=by kernel_rfl
def VV:F2 :=
 { nt:=9,res:=[.t 4 [0]],body:=(.sq (rg [om 4 (.k (.bool false))]) (.sq (rg [qM 5 0,qM 6 1,oo 7 (.ca .pure false (.f JO) [.t 5,.t 6]),oo 8 (.bi .geq 0 (.t 7) (i6 0)),qM 4 8]) (.rt))) }
theorem Us:ZT Proofs.Tryz.prog Z4 VV=true:=by kernel_rfl
def XA:F2 :=
 { nt:=9,res:=[.k 2],body:=(.sq (rg [om 2 (.k (.slice none 0 0))]) (.sq (rg [qM 3 0,qM 4 0,qN 5 4,qM 6 0,qN 7 6,oo 8 (.sx 1 (.t 3) none (some (.t 5)) (some (.t 7))),qM 2 8]) (.rt))) }
theorem Zaj:ZT Proofs.Tryz.prog YC XA=true:=by kernel_rfl
def Uc:F2 :=
 { nt:=32,res:=[.t 4 [0]],body:=(.sq (rg [om 4 (.k (.bool false))]) (.sq (.sq (rg [om 5 (i6 0)]) (.bl 0 (.lp [0,1,5] [] (.sq (.sq (rg [qM 6 5,qM 7 0,qN 8 7,qB 9 .lss 6 8,qM 10 9,og 11 10 true (.mv (.t 5) none),og 12 10 true (.mv (.t 1) none),og 13 10 true (.ln (.t 12)),og 14 10 true (.bi .lss 0 (.t 11) (.t 13)),oo 15 (.pk (.t 10) (.t 14) (.k (.bool false)))]) (.cd (.t 15) (.sk) (.ex 0))) (.sq (.bl 1 (.sq (.rg (some 0) [qM 18 0,qM 19 5,qI 20 1 18 19,qL 21 20,qM 22 1,qM 23 5,qI 24 1 22 23,qL 25 24,qB 26 .neq 21 25]) (.cd (.t 26) (.sq (rg [om 4 (.k (.bool false))]) (.rt)) (.sk))))
 (rg [qM 16 5,oo 17 (.bi .add 0 (.t 16) (i6 1)),qM 5 17])))))) (.sq (rg [qM 27 0,qN 28 27,qM 29 1,qN 30 29,qB 31 .eql 28 30,qM 4 31]) (.rt)))) }
theorem Zb5:ZT Proofs.Tryz.prog Yg Uc=true:=by kernel_rfl
def Za4:F2 :=
 { nt:=45,res:=[.t 4 [3]],body:=(.sq (rg [oo 2 (.bt (.t 0)),om 4 (.k (.slice none 0 0))]) (.sq (rg [oo 8 (.bs 2 0 [] []),qM 5 8]) (.sq (.sq (rg [om 6 (i6 0)]) (.bl 0 (.lp [1,2,5,6] [256,1376] (.sq (.sq (rg [qM 9 6,qF 10 1 2,qL 11 10,qN 12 11,qB 13 .lss 9 12]) (.cd (.t 13) (.sk) (.ex 0))) (.sq (.bl 1 (.sq (rg [om 7 (i6 0)]) (.bl 2 (.lp [1,2,5,6,7] [256,1376] (.sq (.sq (rg [qM 16 7,qF 17 1 2,qL 18 17,qM 19 6,qI 20 3 18 19,qF 21 2 20,qL 22 21,qN 23 22,qB 24 .lss 16 23]) (.cd (.t 24) (.sk) (.ex 2))) (.sq (.bl 3 (.sq (rg [qF 27 1 2,qL 28 27,qM 29 6,qI 30 3 28 29,qF 31 2 30,qL 32 31,qM 33 7,qI 34 1 32 33,qL 35 34,qM 36 1,qB 37 .eql 35 36]) (.cd (.t 37) (rg [qM 38 5,qM 39 6,qM 40 7,oo 41 (.bd [.int .i64 0,.int .i64 0] [(0,1,.t 39),(1,1,.t 40)] []),oo 42 (.bs 2 1 [.int .i64 0,.int .i64 0] [(0,.t 41)]),oo 43 (.ap 2 0 (.t 38) (.t 42)),qM 5 43]) (.sk))))
 (rg [qM 25 7,oo 26 (.bi .add 0 (.t 25) (i6 1)),qM 7 26])))))))
 (rg [qM 14 6,oo 15 (.bi .add 0 (.t 14) (i6 1)),qM 6 15])))))) (.sq (rg [qM 44 5,qM 4 44]) (.rt))))) }
theorem Zfg:ZT Proofs.Tryz.prog XR Za4=true:=by kernel_rfl
def Zb6:F2 :=
 { nt:=33,res:=[.t 4 [2]],body:=(.sq (rg [oo 2 (.bt (.t 0)),om 4 (.k (.slice none 0 0))]) (.sq (rg [oo 7 (.bs 1 0 [] []),qM 5 7]) (.sq (.sq (rg [om 6 (i6 0)]) (.bl 0 (.lp [1,2,5,6] [224,992] (.sq (.sq (rg [qM 8 6,qF 9 5 2,qL 10 9,qN 11 10,qB 12 .lss 8 11]) (.cd (.t 12) (.sk) (.ex 0))) (.sq (.bl 1 (.sq (rg [qF 15 5 2,qL 16 15,qM 17 6,qI 18 2 16 17,qF 19 1 18,qL 20 19,qM 21 1,qB 22 .eql 20 21]) (.cd (.t 22) (rg [qM 23 5,qF 24 5 2,qL 25 24,qM 26 6,qI 27 2 25 26,qF 28 0 27,qL 29 28,oo 30 (.bs 1 1 [.string ⟨#[]⟩] [(0,.t 29)]),oo 31 (.ap 1 0 (.t 23) (.t 30)),qM 5 31]) (.sk))))
 (rg [qM 13 6,oo 14 (.bi .add 0 (.t 13) (i6 1)),qM 6 14])))))) (.sq (rg [qM 32 5,qM 4 32]) (.rt))))) }
theorem ZgK:ZT Proofs.Tryz.prog WF Zb6=true:=by kernel_rfl
def UP:F2 :=
 { nt:=131,res:=[.c 6 (some 6) [0,4,2,0,2,3]],body:=(.sq (rg [oo 3 (.bt (.t 0)),oo 6 (.al [.int .i64 0,.slice none 0 0,.slice none 0 0,.int .i64 0,.slice none 0 0,.slice none 0 0] [])]) (.sq (.rg (some 0) [qF 13 0 3,oo 14 (.lt none (.t 13)),qF 15 1 3,oo 16 (.lt none (.t 15)),qN 17 16,oo 18 (.ms 3 [.int .i64 0,.int .i64 0,.slice none 0 0] (.t 17)),qF 19 3 3,oo 20 (.lt none (.t 19)),oo 21 (.bs 1 0 [] []),qF 22 4 3,qL 23 22,oo 24 (.a0 1 (.t 21) (.t 23)),oo 25 (.bd [.int .i64 0,.slice none 0 0,.slice none 0 0,.int .i64 0,.slice none 0 0,.slice none 0 0] [(0,1,.t 14),(1,1,.t 18),(3,1,.t 20),(4,1,.t 24)] [(2,1),(5,2)]),oo 7 (.al [.int .i64 0,.slice none 0 0,.slice none 0 0,.int .i64 0,.slice none 0 0,.slice none 0 0] []),on1 (.st 6 (.t 7) (.t 25))]) (.sq (.sq (rg [om 8 (i6 0)]) (.bl 0 (.lp [1,2,3,6,7,8] [192,224,576,672,768,800,801,1056,1888,3200,4096] (.sq (.sq (rg [qM 26 8,qF 27 1 3,qL 28 27,qN 29 28,qB 30 .lss 26 29]) (.cd (.t 30) (.sk) (.ex 0))) (.sq (.bl 1 (.sq (rg [oo 33 (.bs 1 0 [] []),qM 9 33]) (.sq (.sq (rg [om 10 (i6 0)]) (.bl 2 (.lp [1,2,3,6,7,8,9,10] [192,224,576,672,768,800,801,1056,1888,3200,4096] (.sq (.sq (rg [qM 34 10,qF 35 1 3,qL 36 35,qM 37 8,qI 38 3 36 37,qF 39 2 38,qL 40 39,qN 41 40,qB 42 .lss 34 41]) (.cd (.t 42) (.sk) (.ex 2))) (.sq (.bl 3 (.rg (some 0) [qM 45 9,qS 46 6 3,qF 47 1 3,qL 48 47,qM 49 8,qI 50 3 48 49,qF 51 2 50,qL 52 51,qM 53 10,qI 54 1 52 53,qL 55 54,qM 56 2,oo 57 (.ca .pure false (.f Xr) [.t 46,.t 55,.t 56]),oo 58 (.bs 1 1 [.int .i64 0] [(0,.t 57)]),oo 59 (.ap 1 0 (.t 45) (.t 58)),qM 9 59]))
 (rg [qM 43 10,oo 44 (.bi .add 0 (.t 43) (i6 1)),qM 10 44])))))) (.rg (some 0) [qF 60 1 7,qL 61 60,qM 62 1,qM 63 8,qI 64 1 62 63,qL 65 64,qF 66 1 3,qL 67 66,qM 68 8,qI 69 3 67 68,qF 70 0 69,qL 71 70,qF 72 1 3,qL 73 72,qM 74 8,qI 75 3 73 74,qF 76 1 75,qL 77 76,qM 78 1,oo 79 (.ca .pure false (.f J2) [.t 77,.t 78]),qM 80 9,oo 81 (.bd [.int .i64 0,.int .i64 0,.slice none 0 0] [(0,1,.t 71),(1,1,.t 79),(2,1,.t 80)] []),qI 82 3 61 65,on1 (.st 3 (.t 82) (.t 81))]))))
 (rg [qM 31 8,oo 32 (.bi .add 0 (.t 31) (i6 1)),qM 8 32])))))) (.sq (.sq (rg [om 11 (i6 0)]) (.bl 4 (.lp [1,2,3,6,7,11] [192,224,576,672,768,800,801,1056,1888,3200,4096] (.sq (.sq (rg [qM 83 11,qF 84 2 3,qL 85 84,qN 86 85,qB 87 .lss 83 86]) (.cd (.t 87) (.sk) (.ex 4))) (.sq (.bl 5 (.rg (some 0) [qF 90 2 7,qL 91 90,qF 92 2 3,qL 93 92,qM 94 11,qI 95 1 93 94,qL 96 95,qM 97 1,oo 98 (.ca .pure false (.f J2) [.t 96,.t 97]),oo 99 (.bs 1 1 [.int .i64 0] [(0,.t 98)]),oo 100 (.ap 1 0 (.t 91) (.t 99)),qF 101 2 7,on1 (.st 1 (.t 101) (.t 100))]))
 (rg [qM 88 11,oo 89 (.bi .add 0 (.t 88) (i6 1)),qM 11 89])))))) (.sq (.sq (rg [om 12 (i6 0)]) (.bl 6 (.lp [2,3,6,7,12] [192,224,576,672,768,800,801,1056,1888,3200,4096] (.sq (.sq (rg [qM 102 12,qF 103 5 3,qL 104 103,qN 105 104,qB 106 .lss 102 105]) (.cd (.t 106) (.sk) (.ex 6))) (.sq (.bl 7 (.rg (some 0) [qF 109 5 7,qL 110 109,qF 111 5 3,qL 112 111,qM 113 12,qI 114 2 112 113,qF 115 0 114,qL 116 115,qS 117 6 3,qF 118 5 3,qL 119 118,qM 120 12,qI 121 2 119 120,qF 122 1 121,qL 123 122,qM 124 2,oo 125 (.ca .pure false (.f Xr) [.t 117,.t 123,.t 124]),oo 126 (.bd [.string ⟨#[]⟩,.int .i64 0] [(0,1,.t 116),(1,1,.t 125)] []),oo 127 (.bs 2 1 [.string ⟨#[]⟩,.int .i64 0] [(0,.t 126)]),oo 128 (.ap 2 0 (.t 110) (.t 127)),qF 129 5 7,on1 (.st 1 (.t 129) (.t 128))]))
 (rg [qM 107 12,oo 108 (.bi .add 0 (.t 107) (i6 1)),qM 12 108])))))) (.sq (rg [qS 130 6 7,on1 (.st 6 (.t 6) (.t 130))]) (.rt))))))) }
theorem ZcQ:ZT Proofs.Tryz.prog V7 UP=true:=by kernel_rfl
def QX:F2 :=
 { nt:=62,res:=[.t 4 [3],.t 5 [2]],body:=(.sq (rg [oo 2 (.bt (.t 0)),om 4 (.k (.slice none 0 0)),om 5 (.k (.slice none 0 0))]) (.sq (rg [oo 14 (.bs 2 0 [] []),oo 15 (.bs 1 0 [] []),qM 6 14,qM 7 15]) (.sq (.sq (rg [qF 16 1 2,qL 17 16,qN 18 17,om 19 (i6 0)]) (.bl 0 (.lp [1,2,6,7,17,18,19] [448,480,1280,1856] (.sq (rg [qB 20 .lss 19 18]) (.sq (.cd (.t 20) (.sk) (.ex 0)) (.sq (.bl 1 (.sq (rg [qM 21 19,qI 22 3 17 19,qS 23 3 22,oo 9 (.al [.int .i64 0,.int .i64 0,.slice none 0 0] []),qM 8 21,on1 (.st 3 (.t 9) (.t 23))]) (.sq (rg [qF 24 2 9,qL 25 24,qN 26 25,om 27 (i6 0)]) (.bl 2 (.lp [1,2,6,7,8,17,18,19,25,26,27] [288,448,480,1280,1856] (.sq (rg [qB 28 .lss 27 26]) (.sq (.cd (.t 28) (.sk) (.ex 2)) (.sq (.bl 3 (.sq (rg [qM 29 27,qI 30 1 25 27,qL 31 30,qM 10 29,qM 11 31]) (.sq (rg [qM 32 11,qM 33 1,qB 34 .eql 32 33]) (.cd (.t 34) (rg [qM 35 6,qM 36 8,qM 37 10,oo 38 (.bd [.int .i64 0,.int .i64 0] [(0,1,.t 36),(1,1,.t 37)] []),oo 39 (.bs 2 1 [.int .i64 0,.int .i64 0] [(0,.t 38)]),oo 40 (.ap 2 0 (.t 35) (.t 39)),qM 6 40]) (.sk)))))
 (rg [oo 41 (.bi .add 0 (.t 27) (i6 1)),qM 27 41])))))))))
 (rg [oo 42 (.bi .add 0 (.t 19) (i6 1)),qM 19 42]))))))) (.sq (.sq (rg [qF 43 5 2,qL 44 43,qN 45 44,om 46 (i6 0)]) (.bl 4 (.lp [1,6,7,44,45,46] [448,480,1280,1856] (.sq (rg [qB 47 .lss 46 45]) (.sq (.cd (.t 47) (.sk) (.ex 4)) (.sq (.bl 5 (.sq (rg [qI 48 2 44 46,qS 49 2 48,oo 13 (.al [.string ⟨#[]⟩,.int .i64 0] []),on1 (.st 2 (.t 13) (.t 49))]) (.sq (rg [qF 50 1 13,qL 51 50,qM 52 1,qB 53 .eql 51 52]) (.cd (.t 53) (rg [qM 54 7,qF 55 0 13,qL 56 55,oo 57 (.bs 1 1 [.string ⟨#[]⟩] [(0,.t 56)]),oo 58 (.ap 1 0 (.t 54) (.t 57)),qM 7 58]) (.sk)))))
 (rg [oo 59 (.bi .add 0 (.t 46) (i6 1)),qM 46 59]))))))) (.sq (rg [qM 60 6,qM 61 7,qM 4 60,qM 5 61]) (.rt)))))) }
theorem Dh:ZT Proofs.Tryz.prog Yd QX=true:=by kernel_rfl
def UQ:F2 :=
 { nt:=42,res:=[.c 2 (some 6) [0,4,2,0,2,3]],body:=(.sq (rg [oo 1 (.bt (.t 0)),oo 2 (.al [.int .i64 0,.slice none 0 0,.slice none 0 0,.int .i64 0,.slice none 0 0,.slice none 0 0] [])]) (.sq (.rg (some 0) [qF 6 0 1,qL 7 6,qF 8 2 1,qL 9 8,oo 10 (.ca .pure true (.f ZS) [.t 9]),qF 11 3 1,qL 12 11,qF 13 4 1,qL 14 13,oo 15 (.ca .pure true (.f Je) [.t 14]),qF 16 5 1,qL 17 16,oo 18 (.ca .pure true (.f Jh) [.t 17]),oo 19 (.bd [.int .i64 0,.slice none 0 0,.slice none 0 0,.int .i64 0,.slice none 0 0,.slice none 0 0] [(0,1,.t 7),(2,1,.t 10),(3,1,.t 12),(4,1,.t 15),(5,1,.t 18)] [(1,3)]),oo 3 (.al [.int .i64 0,.slice none 0 0,.slice none 0 0,.int .i64 0,.slice none 0 0,.slice none 0 0] []),on1 (.st 6 (.t 3) (.t 19))]) (.sq (.sq (rg [qF 20 1 1,qL 21 20,qN 22 21,om 23 (i6 0)]) (.bl 0 (.lp [2,3,21,22,23] [64,96,320,480,576,608,1216] (.sq (rg [qB 24 .lss 23 22]) (.sq (.cd (.t 24) (.sk) (.ex 0)) (.sq (.bl 1 (.sq (rg [qI 25 3 21 23,qS 26 3 25,oo 5 (.al [.int .i64 0,.int .i64 0,.slice none 0 0] []),on1 (.st 3 (.t 5) (.t 26))]) (.rg (some 0) [qF 27 1 3,qL 28 27,qF 29 0 5,qL 30 29,qF 31 1 5,qL 32 31,qF 33 2 5,qL 34 33,oo 35 (.ca .pure true (.f ZS) [.t 34]),oo 36 (.bd [.int .i64 0,.int .i64 0,.slice none 0 0] [(0,1,.t 30),(1,1,.t 32),(2,1,.t 35)] []),oo 37 (.bv 3 1 [.int .i64 0,.int .i64 0,.slice none 0 0] [(0,.t 36)]),oo 38 (.ap 3 2 (.t 28) (.t 37)),qF 39 1 3,on1 (.st 1 (.t 39) (.t 38))])))
 (rg [oo 40 (.bi .add 0 (.t 23) (i6 1)),qM 23 40]))))))) (.sq (rg [qS 41 6 3,on1 (.st 6 (.t 2) (.t 41))]) (.rt))))) }
theorem ZcR:ZT Proofs.Tryz.prog V8 UQ=true:=by kernel_rfl
def Ud:F2 :=
 { nt:=10,res:=[.t 2 [2]],body:=(.sq (rg [om 2 (.k (.slice none 0 0))]) (.sq (rg [qM 4 0,oo 5 (.ca .pure true (.f Je) [.t 4]),qM 3 5]) (.sq (rg [qM 6 3,oo 7 (.ca .any false (.f ZV) [.t 6])]) (.sq (rg [qM 8 3,oo 9 (.ca .any false (.f Jw) [.t 8]),qM 2 9]) (.rt))))) }
theorem Zb7:ZT Proofs.Tryz.prog VF Ud=true:=by kernel_rfl
def VW:F2 :=
 { nt:=25,res:=[.t 6 [0]],body:=(.sq (rg [om 6 (i6 0)]) (.sq (.rg (some 0) [qL 8 1,qS 9 6 2,qM 10 0,oo 11 (.ca .pure false (.f YW) [.t 9,.t 10]),oo 12 (.ca .see false (.t 8) [.t 11]),oo 7 (.al [.int .i64 0,.string ⟨#[]⟩] []),on1 (.st 2 (.t 7) (.t 12))]) (.sq (.sq (rg [qF 13 1 7,qL 14 13,oo 15 (.bi .eql 0 (.t 14) (.k (.string ⟨#[]⟩)))]) (.cd (.t 15) (.sq (rg [qF 16 0 7,qL 17 16,qM 6 17]) (.rt)) (.sk))) (.sq (.rg (some 0) [qL 18 3,qF 19 4 4,qL 20 19,qF 21 1 7,qL 22 21,oo 23 (.ca .pure false (.f JK) [.t 20,.t 22]),qB 24 .add 18 23,qM 6 24]) (.rt))))) }
theorem Ut:ZT Proofs.Tryz.prog Js VW=true:=by kernel_rfl
def X2:F2 :=
 { nt:=20,res:=[.c 4 (some 2) [0,0]],body:=(.sq (rg [oo 2 (.bt (.t 0)),oo 4 (.al [.int .i64 0,.string ⟨#[]⟩] [])]) (.sq (.sq (rg [qM 5 1,qF 6 3 2,qL 7 6,qB 8 .lss 5 7]) (.cd (.t 8) (.sq (rg [qM 9 1,oo 10 (.bd [.int .i64 0,.string ⟨#[]⟩] [(0,1,.t 9)] []),on1 (.st 2 (.t 4) (.t 10))]) (.rt)) (.sk))) (.sq (rg [qF 11 4 2,qL 12 11,qM 13 1,qF 14 3 2,qL 15 14,qB 16 .sub 13 15,qI 17 1 12 16,qL 18 17,oo 19 (.bd [.int .i64 0,.string ⟨#[]⟩] [(1,1,.t 18)] []),on1 (.st 2 (.t 4) (.t 19))]) (.rt)))) }
theorem ZaU:ZT Proofs.Tryz.prog YW X2=true:=by kernel_rfl
def X7:F2 :=
 { nt:=12,res:=[.t 4 [0]],body:=(.sq (rg [om 4 (i6 0)]) (.sq (.sq (rg [qM 5 0,oo 6 (.bi .lss 0 (.t 5) (i6 0))]) (.cd (.t 6) (.sq (rg [qM 7 0,qM 4 7]) (.rt)) (.sk))) (.sq (rg [qM 8 1,qM 9 0,qI 10 1 8 9,qL 11 10,qM 4 11]) (.rt)))) }
theorem Zb8:ZT Proofs.Tryz.prog J2 X7=true:=by kernel_rfl
def Zdn:F2 :=
 { nt:=18,res:=[.t 4 [0]],body:=(.sq (rg [om 4 (.k (.bool false))]) (.sq (.sq (rg [om 5 (i6 0)]) (.bl 0 (.lp [0,1,5] [] (.sq (.sq (rg [qM 6 5,qM 7 0,qN 8 7,qB 9 .lss 6 8]) (.cd (.t 9) (.sk) (.ex 0))) (.sq (.bl 1 (.sq (rg [qM 12 0,qM 13 5,qI 14 1 12 13,qL 15 14,qM 16 1,qB 17 .eql 15 16]) (.cd (.t 17) (.sq (rg [om 4 (.k (.bool true))]) (.rt)) (.sk))))
 (rg [qM 10 5,oo 11 (.bi .add 0 (.t 10) (i6 1)),qM 5 11])))))) (.sq (rg [om 4 (.k (.bool false))]) (.rt)))) }
theorem Zh6:ZT Proofs.Tryz.prog Xq Zdn=true:=by kernel_rfl
def Ya:F2 :=
 { nt:=57,res:=[.t 10 [0],.t 11 [0]],body:=(.sq (rg [oo 5 (.bt (.t 0)),oo 6 (.bt (.t 1)),om 10 (.k (.slice none 0 0)),om 11 (.k (.bool false))]) (.sq (.sq (rg [qM 13 3,qF 14 3 5,qL 15 14,qB 16 .geq 13 15,qM 17 16,og 18 17 false (.mv (.t 4) none),og 19 17 false (.fa 3 (.t 6)),og 20 17 false (.ld none (.t 19)),og 21 17 false (.bi .geq 0 (.t 18) (.t 20)),oo 22 (.pk (.t 17) (.k (.bool true)) (.t 21))]) (.cd (.t 22) (.sq (.rg (some 0) [qM 23 2,qM 24 3,qF 25 3 5,qL 26 25,qB 27 .sub 24 26,qM 28 4,qF 29 3 6,qL 30 29,qB 31 .sub 28 30,qB 32 .eql 27 31,qM 10 23,qM 11 32]) (.rt)) (.sk))) (.sq (.sq (rg [qM 33 2,qM 34 3,qI 35 1 33 34,qL 36 35,oo 37 (.bi .geq 0 (.t 36) (i6 0)),qM 38 37,og 39 38 false (.mv (.t 2) none),og 40 38 false (.mv (.t 4) none),og 41 38 false (.ca .pure false (.f Xq) [.t 39,.t 40]),oo 42 (.pk (.t 38) (.k (.bool true)) (.t 41))]) (.cd (.t 42) (.sq (.rg (some 0) [qM 43 2,qM 44 2,qM 45 3,qI 46 1 44 45,qL 47 46,qM 48 4,qB 49 .eql 47 48,qM 10 43,qM 11 49]) (.rt)) (.sk))) (.sq (rg [qM 50 2,oo 51 (.ca .pure true (.f VP) [.t 50]),qM 12 51]) (.sq (rg [qM 52 12,qM 53 3,qM 54 4,qI 55 1 52 53,on1 (.st 1 (.t 55) (.t 54))]) (.sq (rg [qM 56 12,qM 10 56,om 11 (.k (.bool true))]) (.rt))))))) }
theorem Zh7:ZT Proofs.Tryz.prog Un Ya=true:=by kernel_rfl
def Za5:F2 :=
 { nt:=27,res:=[.t 4 [0]],body:=(.sq (rg [om 4 (.k (.bool false))]) (.sq (rg [qM 8 1,oo 9 (.ca .pure true (.f ZS) [.t 8]),qM 5 9]) (.sq (rg [qM 10 5,oo 11 (.ca .any false (.f Jt) [.t 10])]) (.sq (.sq (rg [qM 12 5,qN 13 12,om 14 (i6 0)]) (.bl 0 (.lp [0,1,12,13,14] [288] (.sq (rg [qB 15 .lss 14 13]) (.sq (.cd (.t 15) (.sk) (.ex 0)) (.sq (.bl 1 (.sq (rg [qM 16 14,qI 17 1 12 14,qL 18 17,qM 6 16,qM 7 18]) (.sq (rg [qM 19 7,qM 20 6,qB 21 .neq 19 20]) (.cd (.t 21) (.sq (rg [om 4 (.k (.bool false))]) (.rt)) (.sk)))))
 (rg [oo 22 (.bi .add 0 (.t 14) (i6 1)),qM 14 22]))))))) (.sq (rg [qM 23 1,qN 24 23,qM 25 0,qB 26 .eql 24 25,qM 4 26]) (.rt)))))) }
theorem Zfh:ZT Proofs.Tryz.prog XT Za5=true:=by kernel_rfl
def QY:F2 :=
 { nt:=48,res:=[.t 4 [2]],body:=(.sq (rg [om 4 (.k (.slice none 0 0))]) (.sq (.sq (rg [qM 9 1,oo 10 (.bi .lss 0 (.t 9) (i6 0))]) (.cd (.t 10) (rg [oo 11 (.xx),on1 (.xx)]) (.sk))) (.sq (rg [qM 13 0,qN 14 13,oo 15 (.cv (.int .u64) (.t 14)),qM 16 1,oo 17 (.cv (.int .u64) (.t 16)),oo 18 (.ca .pure false (.f UL) [.t 15,.t 17]),qM 12 18,qE 19 0 12,qE 20 1 12,qM 5 19,qM 6 20]) (.sq (.sq (rg [qM 21 5,oo 22 (.bi .gtr 0 (.t 21) (.k (.int .u64 0))),qM 23 22,og 24 23 false (.mv (.t 6) none),og 25 23 false (.bi .gtr 0 (.t 24) (.k (.int .u64 9223372036854775807))),oo 26 (.pk (.t 23) (.k (.bool true)) (.t 25))]) (.cd (.t 26) (rg [oo 27 (.xx),on1 (.xx)]) (.sk))) (.sq (rg [qM 28 6,oo 29 (.cv (.int .i64) (.t 28)),oo 30 (.ms 1 [.int .i64 0] (.t 29)),qM 7 30]) (.sq (rg [qM 31 7,qM 32 0,oo 33 (.cy 1 (.t 31) (.t 32)),qM 8 33]) (.sq (.bl 0 (.lp [7,8] [960] (.sq (.sq (rg [qM 34 8,qM 35 7,qN 36 35,qB 37 .lss 34 36]) (.cd (.t 37) (.sk) (.ex 0))) (.bl 1 (.rg (some 0) [qM 38 8,qM 39 7,qM 40 8,oo 41 (.sx 1 (.t 39) (some (.t 40)) none none),qM 42 7,qM 43 8,oo 44 (.sx 1 (.t 42) none (some (.t 43)) none),oo 45 (.c0 1 (.t 41) (.t 44)),qB 46 .add 38 45,qM 8 46]))))) (.sq (rg [qM 47 7,qM 4 47]) (.rt))))))))) }
theorem Di:ZT Proofs.Tryz.prog Ye QY=true:=by kernel_rfl
def JP:F2 :=
 { nt:=42,res:=[.t 7 [0]],body:=(.sq (rg [om 7 (.k (.bool false))]) (.sq (.sq (rg [qM 8 0,qF 9 3 2,qL 10 9,qB 11 .geq 8 10,qM 12 11,og 13 12 false (.mv (.t 1) none),og 14 12 false (.fa 3 (.t 3)),og 15 12 false (.ld none (.t 14)),og 16 12 false (.bi .geq 0 (.t 13) (.t 15)),oo 17 (.pk (.t 12) (.k (.bool true)) (.t 16))]) (.cd (.t 17) (.sq (rg [qM 18 0,qM 19 1,qB 20 .eql 18 19,qM 7 20]) (.rt)) (.sk))) (.sq (.sq (rg [qL 21 4,qM 22 0,qI 23 1 21 22,qL 24 23,oo 25 (.bi .lss 0 (.t 24) (i6 0)),qM 26 25,og 27 26 true (.ld none (.t 4)),og 28 26 true (.mv (.t 1) none),og 29 26 true (.ca .pure false (.f Z4) [.t 27,.t 28]),og 30 26 true (.nt (.t 29)),oo 31 (.pk (.t 26) (.t 30) (.k (.bool false)))]) (.cd (.t 31) (rg [qL 32 4,qM 33 0,qM 34 1,qI 35 1 32 33,on1 (.st 1 (.t 35) (.t 34))]) (.sk))) (.sq (rg [qL 36 4,qM 37 0,qI 38 1 36 37,qL 39 38,qM 40 1,qB 41 .eql 39 40,qM 7 41]) (.rt))))) }
theorem Zdy:ZT Proofs.Tryz.prog QP JP=true:=by kernel_rfl
def XU:F2 :=
 { nt:=11,res:=[.t 3 [0]],body:=(.sq (rg [om 3 (i6 0)]) (.sq (.sq (rg [qM 4 0,oo 5 (.bi .geq 0 (.t 4) (i6 0))]) (.cd (.t 5) (.sq (rg [qL 6 1,qM 7 0,qI 8 1 6 7,qL 9 8,qM 3 9]) (.rt)) (.sk))) (.sq (rg [qM 10 0,qM 3 10]) (.rt)))) }
theorem Zdz:ZT Proofs.Tryz.prog QQ XU=true:=by kernel_rfl
def Dx:F2 :=
 { nt:=35,res:=[.t 6 [2],.t 7 [0]],body:=(.sq (rg [oo 3 (.bt (.t 0)),oo 4 (.bt (.t 1)),om 6 (.k (.slice none 0 0)),om 7 (.k (.bool false))]) (.sq (.sq (rg [qM 10 2,qN 11 10,om 12 (i6 0)]) (.bl 0 (.lp [2,4,11,12] [] (.sq (rg [qB 13 .lss 12 11]) (.sq (.cd (.t 13) (.sk) (.ex 0)) (.sq (.bl 1 (.sq (rg [qM 14 12,qM 8 14]) (.sq (.sq (rg [qM 15 2,qM 16 8,qI 17 1 15 16,qL 18 17,oo 19 (.bi .geq 0 (.t 18) (i6 0))]) (.cd (.t 19) (.ex 1) (.sk))) (.sq (rg [om 9 (i6 0)]) (.sq (.bl 2 (.lp [2,4,8,9,11,12] [] (.sq (.sq (rg [qM 20 2,qM 21 9,oo 22 (.ca .pure false (.f Z4) [.t 20,.t 21])]) (.cd (.t 22) (.sk) (.ex 2))) (.bl 3 (rg [qM 23 9,oo 24 (.bi .add 0 (.t 23) (i6 1)),qM 9 24]))))) (.sq (.sq (rg [qS 25 6 4,qM 26 9,oo 27 (.ca .pure false (.f JS) [.t 25,.t 26]),oo 28 (.nt (.t 27))]) (.cd (.t 28) (.sq (rg [om 6 (.k (.slice none 0 0)),om 7 (.k (.bool false))]) (.rt)) (.sk)))
 (rg [qM 29 2,qM 30 8,qM 31 9,qI 32 1 29 30,on1 (.st 1 (.t 32) (.t 31))])))))))
 (rg [oo 33 (.bi .add 0 (.t 12) (i6 1)),qM 12 33]))))))) (.sq (rg [qM 34 2,qM 6 34,om 7 (.k (.bool true))]) (.rt)))) }
theorem ZdA:ZT Proofs.Tryz.prog QR Dx=true:=by kernel_rfl
def Zdo:F2 :=
 { nt:=16,res:=[.t 6 [0]],body:=(.sq (rg [oo 3 (.bt (.t 0)),om 6 (i6 0)]) (.sq (.sq (rg [qM 7 1,qF 8 3 3,qL 9 8,qB 10 .geq 7 9]) (.cd (.t 10) (.sq (rg [qM 11 1,qM 6 11]) (.rt)) (.sk))) (.sq (rg [qM 12 2,qM 13 1,qI 14 1 12 13,qL 15 14,qM 6 15]) (.rt)))) }
theorem Zh8:ZT Proofs.Tryz.prog Xr Zdo=true:=by kernel_rfl
def Y3:F2 :=
 { nt:=8,res:=[.t 2 [2]],body:=(.sq (rg [om 2 (.k (.slice none 0 0))]) (.sq (.sq (rg [qM 3 0,oo 4 (.nl false (.t 3))]) (.cd (.t 4) (.sq (rg [om 2 (.k (.slice none 0 0))]) (.rt)) (.sk))) (.sq (rg [oo 5 (.bs 1 0 [] []),qM 6 0,oo 7 (.ap 1 0 (.t 5) (.t 6)),qM 2 7]) (.rt)))) }
theorem X8:ZT Proofs.Tryz.prog Je Y3=true:=by kernel_rfl
def J4:F2 :=
 { nt:=8,res:=[.t 2 [3]],body:=(.sq (rg [om 2 (.k (.slice none 0 0))]) (.sq (.sq (rg [qM 3 0,oo 4 (.nl false (.t 3))]) (.cd (.t 4) (.sq (rg [om 2 (.k (.slice none 0 0))]) (.rt)) (.sk))) (.sq (rg [oo 5 (.bs 2 0 [] []),qM 6 0,oo 7 (.ap 2 0 (.t 5) (.t 6)),qM 2 7]) (.rt)))) }
theorem Qm:ZT Proofs.Tryz.prog Jh J4=true:=by kernel_rfl
def Vf:F2 :=
 { nt:=11,res:=[],body:=(.sq (rg [qM 3 0,qN 4 3,qM 2 4])
 (rg [qM 5 0,qM 6 2,qM 7 2,oo 8 (.cv (.int .u64) (.t 7)),oo 9 (.ca .pure false (.f Vo) [.t 8]),oo 10 (.ca .any false (.f ZN) [.t 5,i6 0,.t 6,.t 9])])) }
theorem WN:ZT Proofs.Tryz.prog ZV Vf=true:=by kernel_rfl
def JL:F2 :=
 { nt:=61,res:=[.t 2 [2]],body:=(.sq (rg [om 2 (.k (.slice none 0 0))]) (.sq (.sq (rg [qM 6 0,qN 7 6,oo 8 (.bi .lss 0 (.t 7) (i6 2))]) (.cd (.t 8) (.sq (rg [qM 9 0,qM 2 9]) (.rt)) (.sk))) (.sq (.sq (rg [om 3 (i6 1)]) (.bl 0 (.lp [0,3] [] (.sq (.sq (rg [qM 10 3,qM 11 0,qN 12 11,qB 13 .lss 10 12]) (.cd (.t 13) (.sk) (.ex 0))) (.sq (.bl 1 (.sq (.rg (some 0) [qM 16 0,qM 17 3,qI 18 1 16 17,qL 19 18,qM 20 0,qM 21 3,oo 22 (.bi .sub 0 (.t 21) (i6 1)),qI 23 1 20 22,qL 24 23,qB 25 .eql 19 24]) (.cd (.t 25) (.sq (rg [qM 26 0,qM 27 3,oo 28 (.sx 1 (.t 26) (some (.t 27)) none none),qM 4 28]) (.sq (.sq (rg [om 5 (i6 1)]) (.bl 2 (.lp [0,3,4,5] [] (.sq (.sq (rg [qM 29 5,qM 30 4,qN 31 30,qB 32 .lss 29 31]) (.cd (.t 32) (.sk) (.ex 2))) (.sq (.bl 3 (.sq (.rg (some 0) [qM 35 4,qM 36 5,qI 37 1 35 36,qL 38 37,qM 39 4,qM 40 5,oo 41 (.bi .sub 0 (.t 40) (i6 1)),qI 42 1 39 41,qL 43 42,qB 44 .neq 38 43]) (.cd (.t 44) (.sq (rg [qM 45 0,qM 46 3,qM 47 4,qM 48 5,qI 49 1 47 48,qL 50 49,qI 51 1 45 46,on1 (.st 1 (.t 51) (.t 50))])
 (rg [qM 52 3,oo 53 (.bi .add 0 (.t 52) (i6 1)),qM 3 53])) (.sk))))
 (rg [qM 33 5,oo 34 (.bi .add 0 (.t 33) (i6 1)),qM 5 34])))))) (.sq (rg [qM 54 0,qM 55 3,oo 56 (.sx 1 (.t 54) (some (.t 55)) none none),on1 (.cl 1 [.string ⟨#[]⟩] (.t 56))]) (.sq (rg [qM 57 0,qM 58 3,oo 59 (.sx 1 (.t 57) none (some (.t 58)) none),qM 2 59]) (.rt))))) (.sk))))
 (rg [qM 14 3,oo 15 (.bi .add 0 (.t 14) (i6 1)),qM 3 15])))))) (.sq (rg [qM 60 0,qM 2 60]) (.rt))))) }
theorem Yv:ZT Proofs.Tryz.prog Jw JL=true:=by kernel_rfl
def XB:F2 :=
 { nt:=11,res:=[],body:=(.sq (rg [qM 3 0,qN 4 3,qM 2 4])
 (rg [qM 5 0,qM 6 2,qM 7 2,oo 8 (.cv (.int .u64) (.t 7)),oo 9 (.ca .pure false (.f Vo) [.t 8]),oo 10 (.ca .any false (.f ZW) [.t 5,i6 0,.t 6,.t 9])])) }
theorem Zak:ZT Proofs.Tryz.prog Jt XB=true:=by kernel_rfl
def Yw:F2 :=
 { nt:=134,res:=[],body:=(.sq (rg [om 8 (.k (.bool true))]) (.sq (rg [om 9 (.k (.bool true))]) (.bl 0 (.lp [0,1,2,3,8,9] [] (.bl 1 (.sq (rg [qM 19 2,qM 20 1,qB 21 .sub 19 20,qM 10 21]) (.sq (.sq (rg [qM 22 10,oo 23 (.bi .leq 0 (.t 22) (i6 12))]) (.cd (.t 23) (.sq (rg [qM 24 0,qM 25 1,qM 26 2,oo 27 (.ca .any false (.f Z7) [.t 24,.t 25,.t 26])]) (.rt)) (.sk))) (.sq (.sq (rg [qM 28 3,oo 29 (.bi .eql 0 (.t 28) (i6 0))]) (.cd (.t 29) (.sq (rg [qM 30 0,qM 31 1,qM 32 2,oo 33 (.ca .pure false (.f QT) [.t 30,.t 31,.t 32])]) (.rt)) (.sk))) (.sq (.sq (rg [qM 34 8,oo 35 (.nt (.t 34))]) (.cd (.t 35) (.sq (rg [qM 36 0,qM 37 1,qM 38 2,oo 39 (.ca .pure false (.f Vp) [.t 36,.t 37,.t 38])])
 (rg [qM 40 3,oo 41 (.bi .sub 0 (.t 40) (i6 1)),qM 3 41])) (.sk))) (.sq (rg [qM 43 0,qM 44 1,qM 45 2,oo 46 (.ca .pure false (.f VQ) [.t 43,.t 44,.t 45]),qM 42 46,qE 47 0 42,qE 48 1 42,qM 11 47,qM 12 48]) (.sq (.sq (rg [qM 49 12,oo 50 (.bi .eql 0 (.t 49) (i6 2))]) (.cd (.t 50) (.sq (rg [qM 51 0,qM 52 1,qM 53 2,oo 54 (.ca .pure false (.f VG) [.t 51,.t 52,.t 53])]) (.sq (rg [qM 55 2,oo 56 (.bi .sub 0 (.t 55) (i6 1)),qM 57 11,qM 58 1,qB 59 .sub 57 58,qB 60 .sub 56 59,qM 11 60])
 (rg [om 12 (i6 1)]))) (.sk))) (.sq (.sq (rg [qM 61 8,qM 62 61,og 63 62 true (.mv (.t 9) none),oo 64 (.pk (.t 62) (.t 63) (.k (.bool false))),qM 65 64,og 66 65 true (.mv (.t 12) none),og 67 65 true (.bi .eql 0 (.t 66) (i6 1)),oo 68 (.pk (.t 65) (.t 67) (.k (.bool false)))]) (.cd (.t 68) (.sq (rg [qM 69 0,qM 70 1,qM 71 2,oo 72 (.ca .pure false (.f Yq) [.t 69,.t 70,.t 71])]) (.cd (.t 72) (.rt) (.sk))) (.sk))) (.sq (.sq (.rg (some 0) [qM 73 1,oo 74 (.bi .gtr 0 (.t 73) (i6 0)),qM 75 74,og 76 75 true (.mv (.t 0) none),og 77 75 true (.mv (.t 1) none),og 78 75 true (.bi .sub 0 (.t 77) (i6 1)),og 79 75 true (.ia 1 (.t 76) (.t 78)),og 80 75 true (.ld none (.t 79)),og 81 75 true (.mv (.t 0) none),og 82 75 true (.mv (.t 11) none),og 83 75 true (.ia 1 (.t 81) (.t 82)),og 84 75 true (.ld none (.t 83)),og 85 75 true (.ca .pure false (.f YD) [.t 80,.t 84]),og 86 75 true (.nt (.t 85)),oo 87 (.pk (.t 75) (.t 86) (.k (.bool false)))]) (.cd (.t 87) (.sq (rg [qM 88 0,qM 89 1,qM 90 2,qM 91 11,oo 92 (.ca .pure false (.f Ve) [.t 88,.t 89,.t 90,.t 91]),qM 13 92]) (.sq (rg [qM 93 13,qM 1 93]) (.ex 1))) (.sk))) (.sq (rg [qM 95 0,qM 96 1,qM 97 2,qM 98 11,oo 99 (.ca .pure false (.f Qk) [.t 95,.t 96,.t 97,.t 98]),qM 94 99,qE 100 0 94,qE 101 1 94,qM 14 100,qM 15 101]) (.sq (rg [qM 102 15,qM 9 102]) (.sq (rg [qM 103 14,qM 104 1,qB 105 .sub 103 104,qM 106 2,qM 107 14,qB 108 .sub 106 107,qM 16 105,qM 17 108]) (.sq (rg [qM 109 10,oo 110 (.bi .quo 0 (.t 109) (i6 8)),qM 18 110]) (.sq (rg [qM 111 16,qM 112 17,qB 113 .lss 111 112]) (.cd (.t 113) (.sq (rg [qM 114 16,qM 115 18,qB 116 .geq 114 115,qM 8 116]) (.sq (rg [qM 117 0,qM 118 1,qM 119 14,qM 120 3,oo 121 (.ca .any false (.f ZN) [.t 117,.t 118,.t 119,.t 120])])
 (rg [qM 122 14,oo 123 (.bi .add 0 (.t 122) (i6 1)),qM 1 123]))) (.sq (rg [qM 124 17,qM 125 18,qB 126 .geq 124 125,qM 8 126]) (.sq (rg [qM 127 0,qM 128 14,oo 129 (.bi .add 0 (.t 128) (i6 1)),qM 130 2,qM 131 3,oo 132 (.ca .any false (.f ZN) [.t 127,.t 129,.t 130,.t 131])])
 (rg [qM 133 14,qM 2 133])))))))))))))))))))))) }
theorem XC:ZT Proofs.Tryz.prog ZN Yw=true:=by kernel_rfl
def Zal:F2 :=
 { nt:=8,res:=[.t 2 [0]],body:=(.sq (rg [om 2 (i6 0)]) (.sq (.cd (.k (.bool false)) (.sq (rg [qM 3 0,oo 4 (.cv (.int .u32) (.t 3)),oo 5 (.ca .pure false (.f Zbb) [.t 4]),qM 2 5]) (.rt)) (.sk)) (.sq (rg [qM 6 0,oo 7 (.ca .pure false (.f V9) [.t 6]),qM 2 7]) (.rt)))) }
theorem Zez:ZT Proofs.Tryz.prog Vo Zal=true:=by kernel_rfl
def Vg:F2 :=
 { nt:=134,res:=[],body:=(.sq (rg [om 8 (.k (.bool true))]) (.sq (rg [om 9 (.k (.bool true))]) (.bl 0 (.lp [0,1,2,3,8,9] [] (.bl 1 (.sq (rg [qM 19 2,qM 20 1,qB 21 .sub 19 20,qM 10 21]) (.sq (.sq (rg [qM 22 10,oo 23 (.bi .leq 0 (.t 22) (i6 12))]) (.cd (.t 23) (.sq (rg [qM 24 0,qM 25 1,qM 26 2,oo 27 (.ca .any false (.f Jl) [.t 24,.t 25,.t 26])]) (.rt)) (.sk))) (.sq (.sq (rg [qM 28 3,oo 29 (.bi .eql 0 (.t 28) (i6 0))]) (.cd (.t 29) (.sq (rg [qM 30 0,qM 31 1,qM 32 2,oo 33 (.ca .pure false (.f Xw) [.t 30,.t 31,.t 32])]) (.rt)) (.sk))) (.sq (.sq (rg [qM 34 8,oo 35 (.nt (.t 34))]) (.cd (.t 35) (.sq (rg [qM 36 0,qM 37 1,qM 38 2,oo 39 (.ca .pure false (.f Qa) [.t 36,.t 37,.t 38])])
 (rg [qM 40 3,oo 41 (.bi .sub 0 (.t 40) (i6 1)),qM 3 41])) (.sk))) (.sq (rg [qM 43 0,qM 44 1,qM 45 2,oo 46 (.ca .pure false (.f QU) [.t 43,.t 44,.t 45]),qM 42 46,qE 47 0 42,qE 48 1 42,qM 11 47,qM 12 48]) (.sq (.sq (rg [qM 49 12,oo 50 (.bi .eql 0 (.t 49) (i6 2))]) (.cd (.t 50) (.sq (rg [qM 51 0,qM 52 1,qM 53 2,oo 54 (.ca .pure false (.f Ql) [.t 51,.t 52,.t 53])]) (.sq (rg [qM 55 2,oo 56 (.bi .sub 0 (.t 55) (i6 1)),qM 57 11,qM 58 1,qB 59 .sub 57 58,qB 60 .sub 56 59,qM 11 60])
 (rg [om 12 (i6 1)]))) (.sk))) (.sq (.sq (rg [qM 61 8,qM 62 61,og 63 62 true (.mv (.t 9) none),oo 64 (.pk (.t 62) (.t 63) (.k (.bool false))),qM 65 64,og 66 65 true (.mv (.t 12) none),og 67 65 true (.bi .eql 0 (.t 66) (i6 1)),oo 68 (.pk (.t 65) (.t 67) (.k (.bool false)))]) (.cd (.t 68) (.sq (rg [qM 69 0,qM 70 1,qM 71 2,oo 72 (.ca .pure false (.f YO) [.t 69,.t 70,.t 71])]) (.cd (.t 72) (.rt) (.sk))) (.sk))) (.sq (.sq (.rg (some 0) [qM 73 1,oo 74 (.bi .gtr 0 (.t 73) (i6 0)),qM 75 74,og 76 75 true (.mv (.t 0) none),og 77 75 true (.mv (.t 1) none),og 78 75 true (.bi .sub 0 (.t 77) (i6 1)),og 79 75 true (.ia 1 (.t 76) (.t 78)),og 80 75 true (.ld none (.t 79)),og 81 75 true (.mv (.t 0) none),og 82 75 true (.mv (.t 11) none),og 83 75 true (.ia 1 (.t 81) (.t 82)),og 84 75 true (.ld none (.t 83)),og 85 75 true (.ca .pure false (.f V4) [.t 80,.t 84]),og 86 75 true (.nt (.t 85)),oo 87 (.pk (.t 75) (.t 86) (.k (.bool false)))]) (.cd (.t 87) (.sq (rg [qM 88 0,qM 89 1,qM 90 2,qM 91 11,oo 92 (.ca .pure false (.f VS) [.t 88,.t 89,.t 90,.t 91]),qM 13 92]) (.sq (rg [qM 93 13,qM 1 93]) (.ex 1))) (.sk))) (.sq (rg [qM 95 0,qM 96 1,qM 97 2,qM 98 11,oo 99 (.ca .pure false (.f Xj) [.t 95,.t 96,.t 97,.t 98]),qM 94 99,qE 100 0 94,qE 101 1 94,qM 14 100,qM 15 101]) (.sq (rg [qM 102 15,qM 9 102]) (.sq (rg [qM 103 14,qM 104 1,qB 105 .sub 103 104,qM 106 2,qM 107 14,qB 108 .sub 106 107,qM 16 105,qM 17 108]) (.sq (rg [qM 109 10,oo 110 (.bi .quo 0 (.t 109) (i6 8)),qM 18 110]) (.sq (rg [qM 111 16,qM 112 17,qB 113 .lss 111 112]) (.cd (.t 113) (.sq (rg [qM 114 16,qM 115 18,qB 116 .geq 114 115,qM 8 116]) (.sq (rg [qM 117 0,qM 118 1,qM 119 14,qM 120 3,oo 121 (.ca .any false (.f ZW) [.t 117,.t 118,.t 119,.t 120])])
 (rg [qM 122 14,oo 123 (.bi .add 0 (.t 122) (i6 1)),qM 1 123]))) (.sq (rg [qM 124 17,qM 125 18,qB 126 .geq 124 125,qM 8 126]) (.sq (rg [qM 127 0,qM 128 14,oo 129 (.bi .add 0 (.t 128) (i6 1)),qM 130 2,qM 131 3,oo 132 (.ca .any false (.f ZW) [.t 127,.t 129,.t 130,.t 131])])
 (rg [qM 133 14,qM 2 133])))))))))))))))))))))) }
theorem WO:ZT Proofs.Tryz.prog ZW Vg=true:=by kernel_rfl
def JW:F2 :=
 { nt:=49,res:=[],body:=(.sq (rg [qM 8 1,oo 9 (.bi .add 0 (.t 8) (i6 1)),qM 6 9]) (.bl 0 (.lp [0,1,2,6] [] (.sq (.sq (rg [qM 10 6,qM 11 2,qB 12 .lss 10 11]) (.cd (.t 12) (.sk) (.ex 0))) (.sq (.bl 1 (.sq (rg [qM 15 6,qM 7 15]) (.bl 2 (.lp [0,1,2,6,7] [] (.sq (.sq (.rg (some 0) [qM 16 7,qM 17 1,qB 18 .gtr 16 17,qM 19 18,og 20 19 true (.mv (.t 0) none),og 21 19 true (.mv (.t 7) none),og 22 19 true (.ia 1 (.t 20) (.t 21)),og 23 19 true (.ld none (.t 22)),og 24 19 true (.mv (.t 0) none),og 25 19 true (.mv (.t 7) none),og 26 19 true (.bi .sub 0 (.t 25) (i6 1)),og 27 19 true (.ia 1 (.t 24) (.t 26)),og 28 19 true (.ld none (.t 27)),og 29 19 true (.ca .pure false (.f YD) [.t 23,.t 28]),oo 30 (.pk (.t 19) (.t 29) (.k (.bool false)))]) (.cd (.t 30) (.sk) (.ex 2))) (.sq (.bl 3 (.rg (some 0) [qM 33 0,qM 34 7,qM 35 0,qM 36 7,oo 37 (.bi .sub 0 (.t 36) (i6 1)),qM 38 0,qM 39 7,oo 40 (.bi .sub 0 (.t 39) (i6 1)),qI 41 1 38 40,qL 42 41,qM 43 0,qM 44 7,qI 45 1 43 44,qL 46 45,qI 47 1 33 34,on1 (.s0 1 (.t 47) (.t 42)),qI 48 1 35 37,on1 (.st 1 (.t 48) (.t 46))]))
 (rg [qM 31 7,oo 32 (.bi .sub 0 (.t 31) (i6 1)),qM 7 32])))))))
 (rg [qM 13 6,oo 14 (.bi .add 0 (.t 13) (i6 1)),qM 6 14])))))) }
theorem VX:ZT Proofs.Tryz.prog Z7 JW=true:=by kernel_rfl
def UR:F2 :=
 { nt:=17,res:=[.t 4 [0]],body:=(.sq (rg [om 4 (.k (.bool false))]) (.sq (rg [qM 5 0,oo 6 (.ca .pure false (.f Yh) [.t 5]),qM 7 6,og 8 7 true (.mv (.t 1) none),og 9 7 true (.ca .pure false (.f Yh) [.t 8]),og 10 7 true (.nt (.t 9)),oo 11 (.pk (.t 7) (.t 10) (.k (.bool false))),qM 12 11,og 13 12 false (.mv (.t 0) none),og 14 12 false (.mv (.t 1) none),og 15 12 false (.bi .lss 0 (.t 13) (.t 14)),oo 16 (.pk (.t 12) (.k (.bool true)) (.t 15)),qM 4 16]) (.rt))) }
theorem ZcS:ZT Proofs.Tryz.prog YD UR=true:=by kernel_rfl
def ZH:F2 :=
 { nt:=25,res:=[.t 2 [0]],body:=(.sq (rg [om 2 (i6 0)]) (.sq (.sq (rg [qM 3 0,oo 4 (.bi .geq 0 (.t 3) (.k (.int .u64 4294967296)))]) (.cd (.t 4) (.sq (rg [qM 5 0,oo 6 (.bi .shr 0 (.t 5) (.k (.int .u64 32))),qM 0 6])
 (rg [om 2 (i6 32)])) (.sk))) (.sq (.sq (rg [qM 7 0,oo 8 (.bi .geq 0 (.t 7) (.k (.int .u64 65536)))]) (.cd (.t 8) (.sq (rg [qM 9 0,oo 10 (.bi .shr 0 (.t 9) (.k (.int .u64 16))),qM 0 10])
 (rg [qM 11 2,oo 12 (.bi .add 0 (.t 11) (i6 16)),qM 2 12])) (.sk))) (.sq (.sq (rg [qM 13 0,oo 14 (.bi .geq 0 (.t 13) (.k (.int .u64 256)))]) (.cd (.t 14) (.sq (rg [qM 15 0,oo 16 (.bi .shr 0 (.t 15) (.k (.int .u64 8))),qM 0 16])
 (rg [qM 17 2,oo 18 (.bi .add 0 (.t 17) (i6 8)),qM 2 18])) (.sk))) (.sq (rg [qM 19 2,qM 20 0,oo 21 (.cv (.int .u8) (.t 20)),oo 22 (.ix (.k (.string ⟨#[0,1,2,2,3,3,3,3,4,4,4,4,4,4,4,4,5,5,5,5,5,5,5,5,5,5,5,5,5,5,5,5,6,6,6,6,6,6,6,6,6,6,6,6,6,6,6,6,6,6,6,6,6,6,6,6,6,6,6,6,6,6,6,6,7,7,7,7,7,7,7,7,7,7,7,7,7,7,7,7,7,7,7,7,7,7,7,7,7,7,7,7,7,7,7,7,7,7,7,7,7,7,7,7,7,7,7,7,7,7,7,7,7,7,7,7,7,7,7,7,7,7,7,7,7,7,7,7,8,8,8,8,8,8,8,8,8,8,8,8,8,8,8,8,8,8,8,8,8,8,8,8,8,8,8,8,8,8,8,8,8,8,8,8,8,8,8,8,8,8,8,8,8,8,8,8,8,8,8,8,8,8,8,8,8,8,8,8,8,8,8,8,8,8,8,8,8,8,8,8,8,8,8,8,8,8,8,8,8,8,8,8,8,8,8,8,8,8,8,8,8,8,8,8,8,8,8,8,8,8,8,8,8,8,8,8,8,8,8,8,8,8,8,8,8,8,8,8,8,8,8,8,8,8,8,8]⟩)) (.t 21)),oo 23 (.cv (.int .i64) (.t 22)),qB 24 .add 19 23,qM 2 24]) (.rt)))))) }
theorem ZJ:ZT Proofs.Tryz.prog V9 ZH=true:=by kernel_rfl
def Yb:F2 :=
 { nt:=49,res:=[],body:=(.sq (rg [qM 8 1,oo 9 (.bi .add 0 (.t 8) (i6 1)),qM 6 9]) (.bl 0 (.lp [0,1,2,6] [] (.sq (.sq (rg [qM 10 6,qM 11 2,qB 12 .lss 10 11]) (.cd (.t 12) (.sk) (.ex 0))) (.sq (.bl 1 (.sq (rg [qM 15 6,qM 7 15]) (.bl 2 (.lp [0,1,2,6,7] [] (.sq (.sq (.rg (some 0) [qM 16 7,qM 17 1,qB 18 .gtr 16 17,qM 19 18,og 20 19 true (.mv (.t 0) none),og 21 19 true (.mv (.t 7) none),og 22 19 true (.ia 1 (.t 20) (.t 21)),og 23 19 true (.ld none (.t 22)),og 24 19 true (.mv (.t 0) none),og 25 19 true (.mv (.t 7) none),og 26 19 true (.bi .sub 0 (.t 25) (i6 1)),og 27 19 true (.ia 1 (.t 24) (.t 26)),og 28 19 true (.ld none (.t 27)),og 29 19 true (.ca .pure false (.f V4) [.t 23,.t 28]),oo 30 (.pk (.t 19) (.t 29) (.k (.bool false)))]) (.cd (.t 30) (.sk) (.ex 2))) (.sq (.bl 3 (.rg (some 0) [qM 33 0,qM 34 7,qM 35 0,qM 36 7,oo 37 (.bi .sub 0 (.t 36) (i6 1)),qM 38 0,qM 39 7,oo 40 (.bi .sub 0 (.t 39) (i6 1)),qI 41 1 38 40,qL 42 41,qM 43 0,qM 44 7,qI 45 1 43 44,qL 46 45,qI 47 1 33 34,on1 (.s0 1 (.t 47) (.t 42)),qI 48 1 35 37,on1 (.st 1 (.t 48) (.t 46))]))
 (rg [qM 31 7,oo 32 (.bi .sub 0 (.t 31) (i6 1)),qM 7 32])))))))
 (rg [qM 13 6,oo 14 (.bi .add 0 (.t 13) (i6 1)),qM 6 14])))))) }
theorem QZ:ZT Proofs.Tryz.prog Jl Yb=true:=by kernel_rfl
def Za6:F2 :=
 { nt:=17,res:=[.t 4 [0]],body:=(.sq (rg [om 4 (.k (.bool false))]) (.sq (rg [qM 5 0,oo 6 (.ca .pure false (.f Vq) [.t 5]),qM 7 6,og 8 7 true (.mv (.t 1) none),og 9 7 true (.ca .pure false (.f Vq) [.t 8]),og 10 7 true (.nt (.t 9)),oo 11 (.pk (.t 7) (.t 10) (.k (.bool false))),qM 12 11,og 13 12 false (.mv (.t 0) none),og 14 12 false (.mv (.t 1) none),og 15 12 false (.bi .lss 0 (.t 13) (.t 14)),oo 16 (.pk (.t 12) (.k (.bool true)) (.t 15)),qM 4 16]) (.rt))) }
theorem Zfi:ZT Proofs.Tryz.prog V4 Za6=true:=by kernel_rfl
def Ue:F2 :=
 { nt:=6,res:=[.t 2 [0]],body:=(.sq (rg [om 2 (.k (.bool false))]) (.sq (rg [qM 3 0,qM 4 0,qB 5 .neq 3 4,qM 2 5]) (.rt))) }
theorem Zb9:ZT Proofs.Tryz.prog Yh Ue=true:=by kernel_rfl
def Zam:F2 :=
 { nt:=6,res:=[.t 2 [0]],body:=(.sq (rg [om 2 (.k (.bool false))]) (.sq (rg [qM 3 0,qM 4 0,qB 5 .neq 3 4,qM 2 5]) (.rt))) }
theorem ZeA:ZT Proofs.Tryz.prog Vq Zam=true:=by kernel_rfl
end Go.Fd

/-
  ANNOTATED CODES OF GO'S GENERIC FUNCTIONS ON SLICES, AT ANY ELEMENT (printed by generic.py out of one instance each). Own work.
-/
namespace Go.Fd
def ZnY(k:Nat)(m:Option Nat):F2 :=
 { nt:=19,res:=[.t 4 [0]],body:=(.sq (.rg none [⟨some 4,none,.mv (.k (.int .i64 0)) none⟩]) (.sq (.sq (.rg none [⟨some 6,none,.mv (.t 0) none⟩,
    ⟨some 7,none,.ln (.t 6)⟩,
    ⟨some 8,none,.mv (.k (.int .i64 0)) none⟩]) (.bl 0 (.lp [0,1,7,8] [] (.sq (.rg none [⟨some 9,none,.bi .lss 0 (.t 8) (.t 7)⟩]) (.sq (.cd (.t 9) (.sk) (.ex 0)) (.sq (.bl 1 (.sq (.rg none [⟨some 10,none,.mv (.t 8) none⟩,
      ⟨some 5,none,.mv (.t 10) none⟩]) (.sq (.rg none [⟨some 11,none,.mv (.t 1) none⟩,
      ⟨some 12,none,.mv (.t 0) none⟩,
      ⟨some 13,none,.mv (.t 5) none⟩,
      ⟨some 14,none,.ia k (.t 12) (.t 13)⟩,
      ⟨some 15,none,.ld m (.t 14)⟩,
      ⟨some 16,none,.ca .pure false (.t 11) [.t 15]⟩]) (.cd (.t 16) (.sq (.rg none [⟨some 17,none,.mv (.t 5) none⟩,
      ⟨some 4,none,.mv (.t 17) none⟩]) (.rt)) (.sk))))) (.rg none [⟨some 18,none,.bi .add 0 (.t 8) (.k (.int .i64 1))⟩,
    ⟨some 8,none,.mv (.t 18) none⟩]))))))) (.sq (.rg none [⟨some 4,none,.mv (.k (.int .i64 (-1))) none⟩]) (.rt)))) }
def ZqI(fi:FuncId):F2 :=
 { nt:=9,res:=[.t 4 [0]],body:=(.sq (.rg none [⟨some 4,none,.mv (.k (.bool false)) none⟩]) (.sq (.rg none [⟨some 5,none,.mv (.t 0) none⟩,
   ⟨some 6,none,.mv (.t 1) none⟩,
   ⟨some 7,none,.ca .pure false (.f fi) [.t 5,.t 6]⟩,
   ⟨some 8,none,.bi .geq 0 (.t 7) (.k (.int .i64 0))⟩,
   ⟨some 4,none,.mv (.t 8) none⟩]) (.rt))) }
def Zyz  : F2 :=
 { nt:=26,res:=[.t 4 [0]],body:=(.sq (.rg none [⟨some 4,none,.mv (.k (.bool false)) none⟩]) (.sq (.sq (.rg none [⟨some 6,none,.mv (.t 0) none⟩,
    ⟨some 7,none,.ln (.t 6)⟩,
    ⟨some 8,none,.mv (.t 1) none⟩,
    ⟨some 9,none,.ln (.t 8)⟩,
    ⟨some 10,none,.bi .neq 0 (.t 7) (.t 9)⟩]) (.cd (.t 10) (.sq (.rg none [⟨some 4,none,.mv (.k (.bool false)) none⟩]) (.rt)) (.sk))) (.sq (.sq (.rg none [⟨some 11,none,.mv (.t 0) none⟩,
    ⟨some 12,none,.ln (.t 11)⟩,
    ⟨some 13,none,.mv (.k (.int .i64 0)) none⟩]) (.bl 0 (.lp [0,1,12,13] [] (.sq (.rg none [⟨some 14,none,.bi .lss 0 (.t 13) (.t 12)⟩]) (.sq (.cd (.t 14) (.sk) (.ex 0)) (.sq (.bl 1 (.sq (.rg none [⟨some 15,none,.mv (.t 13) none⟩,
      ⟨some 5,none,.mv (.t 15) none⟩]) (.sq (.rg (some 0) [⟨some 16,none,.mv (.t 0) none⟩,
      ⟨some 17,none,.mv (.t 5) none⟩,
      ⟨some 18,none,.ia 1 (.t 16) (.t 17)⟩,
      ⟨some 19,none,.ld none (.t 18)⟩,
      ⟨some 20,none,.mv (.t 1) none⟩,
      ⟨some 21,none,.mv (.t 5) none⟩,
      ⟨some 22,none,.ia 1 (.t 20) (.t 21)⟩,
      ⟨some 23,none,.ld none (.t 22)⟩,
      ⟨some 24,none,.bi .neq 0 (.t 19) (.t 23)⟩]) (.cd (.t 24) (.sq (.rg none [⟨some 4,none,.mv (.k (.bool false)) none⟩]) (.rt)) (.sk))))) (.rg none [⟨some 25,none,.bi .add 0 (.t 13) (.k (.int .i64 1))⟩,
    ⟨some 13,none,.mv (.t 25) none⟩]))))))) (.sq (.rg none [⟨some 4,none,.mv (.k (.bool true)) none⟩]) (.rt))))) }
def ZyA  : F2 :=
 { nt:=19,res:=[.t 4 [0]],body:=(.sq (.rg none [⟨some 4,none,.mv (.k (.int .i64 0)) none⟩]) (.sq (.sq (.rg none [⟨some 6,none,.mv (.t 0) none⟩,
    ⟨some 7,none,.ln (.t 6)⟩,
    ⟨some 8,none,.mv (.k (.int .i64 0)) none⟩]) (.bl 0 (.lp [0,1,7,8] [] (.sq (.rg none [⟨some 9,none,.bi .lss 0 (.t 8) (.t 7)⟩]) (.sq (.cd (.t 9) (.sk) (.ex 0)) (.sq (.bl 1 (.sq (.rg none [⟨some 10,none,.mv (.t 8) none⟩,
      ⟨some 5,none,.mv (.t 10) none⟩]) (.sq (.rg none [⟨some 11,none,.mv (.t 1) none⟩,
      ⟨some 12,none,.mv (.t 0) none⟩,
      ⟨some 13,none,.mv (.t 5) none⟩,
      ⟨some 14,none,.ia 1 (.t 12) (.t 13)⟩,
      ⟨some 15,none,.ld none (.t 14)⟩,
      ⟨some 16,none,.bi .eql 0 (.t 11) (.t 15)⟩]) (.cd (.t 16) (.sq (.rg none [⟨some 17,none,.mv (.t 5) none⟩,
      ⟨some 4,none,.mv (.t 17) none⟩]) (.rt)) (.sk))))) (.rg none [⟨some 18,none,.bi .add 0 (.t 8) (.k (.int .i64 1))⟩,
    ⟨some 8,none,.mv (.t 18) none⟩]))))))) (.sq (.rg none [⟨some 4,none,.mv (.k (.int .i64 (-1))) none⟩]) (.rt)))) }
end Go.Fd

/-
  GO'S GENERIC FUNCTIONS ON SLICES, AT ANY ELEMENT. Own work.
-/
namespace Go.Fd
set_option maxRecDepth 20000
section rules
variable {L:Sto} {F:List IV->Prop} {lvl:Nat}
theorem Zh9:∀{l:List (List Tr)} {F:List IV->Prop},Jy L (l.map IV.ta) F=F (l.map IV.ta)
 | [],F=>ZpS
 | x::r,F=>by
  simp only[List.map_cons]
  rw[Zsw,Zh9]
  rfl
theorem X9{Pd:Oid->Prop}:∀{l:List (List Tr)},Zd Pd (l.map IV.ta)=True
 | []=>rfl
 | x::r=>by
  simp only[List.map_cons,Zd,men,true_and]
  exact X9
theorem Q0{js:List Nat}{l:List (List Tr)}:ZjG lvl js (l.map IV.ta)=True:=X9
end rules
section
variable {P:Program} {α:Type}
theorem Wh{α β:Type}{c:α->β}{l:List α}{j:Nat}(h:j<l.length):(l.map c)[j]? = some (c l[j]):=by simp [h]
theorem Zl6{α:Type}{c:α->List Tr}{l:List α}{j:Nat}:cut (l.map c) 0 (j-0)=(l.take j).map c:=by
 simp only[cut,List.drop_zero,Nat.sub_zero,List.map_take]
theorem ZeB{α:Type}{l:List α}{j:Nat}(h:j<l.length):l.drop j=l[j]::l.drop (j+1):=List.drop_eq_getElem_cons h
def ixF(f:α->Bool):List α->Int->Int
 | [],_=>-1
 | x::r,j=>if f x=true then j else ixF f r (j+1)
theorem Uf{f:α->Bool}{x:α}{r:List α}{j:Int}:ixF f (x::r) j=if f x=true then j else ixF f r (j+1):=rfl
theorem Zjg{f:α->Bool}:∀{l:List α} {j:Int},0<=j->(0<=ixF f l j↔l.any f=true)
 | [],j,_=>by simp [ixF]
 | x::r,j,h=>by
  rw[Uf,List.any_cons]
  cases hx:f x with
  | true=>simp [h]
  | false =>
   simp only[Bool.false_eq_true,if_false,Bool.false_or]
   exact Zjg (by omega)
theorem ZnZ{fid:FuncId}(hc:ZT P fid (ZnY 1 none)=true){t:α->Tr}{f:α->Bool}{fe:FuncId}{cs:List (List Tr)}(l:List α)(hl:l.length<=9223372036854775807)
  (hf:∀ x∈l,∀ lvl S,Sem P fe lvl (.tr (t x)::cs.map IV.ta) S (iB (f x)) S) (lvl:Nat) (S:Sto):Sem P fid lvl [.tr (.sl (l.map fun x=>[t x])),.fn fe (cs.map IV.ta)] S (iI (ixF f l 0)) S:=by
 refine Zc hc trivial ?_
 simp only[ZnY,List.length_map,Q0,EVA,seval,Zd,men]
 refine ZO (α:=Unit) l.length (fun j _=>[(8,iI j)]) (fun _ _=>[]) (fun j _=>ixF f (l.drop j) j=ixF f l 0) () (by simp only[Q0,EVA,seval,Zd,men]) (by (simp only[EVA,seval,Zd,men]) <;> rfl) rfl ?_
 intro j _ hj hA
 simp only[List.length_map,Q0,EVA,seval,Zd,men]
 refine Zn (fun hlt=>?_) (fun hge=>?_)
 ·have hja:j<l.length:=by omega
  have ga:=Wh (c:=fun x=>[t x]) hja
  rw[ZeB hja,Uf] at hA
  simp only[ga,Q0,Zh9,X9,EVA,seval,Zd,men]
  refine Zb (hf _ (List.getElem_mem hja)) ?_
  simp only[X9,Q0,EVA,seval,Zd,men]
  refine Zn (fun h=>?_) (fun h=>?_)
  ·rw[if_pos h] at hA
   rw[<-hA]
  ·rw[if_neg h] at hA
   exact⟨by rw[Ze];omega,Zf () hja rfl hA⟩
 ·have:j=l.length:=by omega
  subst this
  rw[List.drop_length] at hA
  rw[<-hA]
  rfl
theorem Zn0{k:Nat}{fid:FuncId}(hc:ZT P fid (ZnY k (some k))=true){c:α->List Tr}(hk:∀ x,(c x).length=k){f:α->Bool}{fe:FuncId}{cs:List (List Tr)}(l:List α)(hl:l.length<=9223372036854775807)
  (hf:∀ x∈l,∀ lvl S,Sem P fe lvl (.ag ((c x).map .tr)::cs.map IV.ta) S (iB (f x)) S) (lvl:Nat) (S:Sto):Sem P fid lvl [.tr (.sl (l.map c)),.fn fe (cs.map IV.ta)] S (iI (ixF f l 0)) S:=by
 refine Zc hc trivial ?_
 simp only[ZnY,List.length_map,Q0,EVA,seval,Zd,men]
 refine ZO (α:=Unit) l.length (fun j _=>[(8,iI j)]) (fun _ _=>[]) (fun j _=>ixF f (l.drop j) j=ixF f l 0) () (by simp only[Q0,EVA,seval,Zd,men]) (by (simp only[EVA,seval,Zd,men]) <;> rfl) rfl ?_
 intro j _ hj hA
 simp only[List.length_map,Q0,EVA,seval,Zd,men]
 refine Zn (fun hlt=>?_) (fun hge=>?_)
 ·have hja:j<l.length:=by omega
  have ga:=Wh (c:=c) hja
  have hkk:=hk l[j]
  have htk:(c l[j]).take k=c l[j]:=List.take_of_length_le (by omega)
  rw[ZeB hja,Uf] at hA
  simp only[ga,hkk,htk,Q0,Zh9,Zqq,X9,Zgt,EVA,seval,Zd,men]
  refine Zb (hf _ (List.getElem_mem hja)) ?_
  simp only[X9,Zgt,Q0,EVA,seval,Zd,men]
  refine Zn (fun h=>?_) (fun h=>?_)
  ·rw[if_pos h] at hA
   rw[<-hA]
  ·rw[if_neg h] at hA
   exact⟨by rw[Ze];omega,Zf () hja rfl hA⟩
 ·have:j=l.length:=by omega
  subst this
  rw[List.drop_length] at hA
  rw[<-hA]
  rfl
theorem Zl7{fid fi:FuncId}(hc:ZT P fid (ZqI fi)=true){es:Row}{f:α->Bool}{fe:FuncId}{cs:List (List Tr)}{l:List α}
  (hi:∀ lvl S,Sem P fi lvl [.tr (.sl es),.fn fe (cs.map IV.ta)] S (iI (ixF f l 0)) S) (lvl:Nat) (S:Sto):Sem P fid lvl [.tr (.sl es),.fn fe (cs.map IV.ta)] S (iB (l.any f)) S:=by
 refine Zc hc trivial ?_
 simp only[ZqI,Zh9,X9,Q0,EVA,seval,Zd,men]
 refine Zb hi ?_
 simp only[Zh9,X9,EVA,seval,Zd,men]
 have:=Zjg (f:=f) (l:=l) (Int.le_refl 0)
 by_cases h:l.any f=true
 ·simp [h,this.2 h]
 ·simp [h,mt this.1 h]
theorem Zka{fid fi:FuncId}(hc:ZT P fid (ZqI fi)=true)(hi:ZT P fi (ZnY 1 none)=true){t:α->Tr}{f:α->Bool}{fe:FuncId}{cs:List (List Tr)}(l:List α)(hl:l.length<=9223372036854775807)
  (hf:∀ x∈l,∀ lvl S,Sem P fe lvl (.tr (t x)::cs.map IV.ta) S (iB (f x)) S) (lvl:Nat) (S:Sto):Sem P fid lvl [.tr (.sl (l.map fun x=>[t x])),.fn fe (cs.map IV.ta)] S (iB (l.any f)) S :=
 Zl7 hc (ZnZ hi l hl hf) lvl S
theorem Zkb{k:Nat}{fid fi:FuncId}(hc:ZT P fid (ZqI fi)=true)(hi:ZT P fi (ZnY k (some k))=true){c:α->List Tr}(hk:∀ x,(c x).length=k){f:α->Bool}{fe:FuncId}{cs:List (List Tr)}(l:List α)(hl:l.length<=9223372036854775807)
  (hf:∀ x∈l,∀ lvl S,Sem P fe lvl (.ag ((c x).map .tr)::cs.map IV.ta) S (iB (f x)) S) (lvl:Nat) (S:Sto):Sem P fid lvl [.tr (.sl (l.map c)),.fn fe (cs.map IV.ta)] S (iB (l.any f)) S :=
 Zl7 hc (Zn0 hi hk l hl hf) lvl S
structure Cmp (t:α->Tr):Prop where
 neq:∀(x y:α) (F:IV->Prop),bi2 .neq 0 (.tr (t x)) (.tr (t y)) F=F (iB (!(@decide (x=y) (Classical.propDecidable _))))
 eql:∀(x y:α) (F:IV->Prop),bi2 .eql 0 (.tr (t x)) (.tr (t y)) F=F (iB (@decide (x=y) (Classical.propDecidable _)))
theorem Zt8:Cmp ts:=⟨fun x y F=>by rw[Zse];congr 2;by_cases h:x=y <;> simp [h],fun x y F=>by rw[Zsd];congr 2;by_cases h:x=y <;> simp [h]⟩
theorem ZqJ{fid:FuncId}(hc:ZT P fid Zyz=true)[DecidableEq α]{t:α->Tr}(hT:Cmp t)(a b:List α)(ha:a.length<=9223372036854775807)(lvl:Nat)(S:Sto):Sem P fid lvl [.tr (.sl (a.map fun x=>[t x])),.tr (.sl (b.map fun x=>[t x]))] S (iB (decide (a=b))) S:=by
 refine Zc hc trivial ?_
 simp only[Zyz,List.length_map,EVA,seval,Zd,men]
 refine Zn (fun h=>?_) (fun h=>?_)
 ·have:¬ a=b:=fun e=>h (by rw[e])
  simp [this]
 have hlen:a.length=b.length:=by omega
 refine ZO (α:=Unit) a.length (fun j _=>[(13,iI j)]) (fun _ _=>[]) (fun j _=>a.take j=b.take j) () (by simp only[EVA,seval,Zd,men]) (by (simp only[EVA,seval,Zd,men]) <;> rfl) rfl ?_
 intro j _ hj hA
 simp only[List.length_map,EVA,seval,Zd,men]
 refine Zn (fun hlt=>?_) (fun hge=>?_)
 ·have hja:j<a.length:=by omega
  have hjb:j<b.length:=by omega
  have ga:=Wh (c:=fun x=>[t x]) hja
  have gb:=Wh (c:=fun x=>[t x]) hjb
  have hq:=hT.neq a[j] b[j]
  simp only[ga,gb,hq,EVA,seval,Zd,men]
  refine Zn (fun hne=>?_) (fun he=>?_)
  ·have:¬ a=b:=ZaL hja hjb (by simpa using hne)
   simp [this]
  ·exact⟨by rw[Ze];omega,Zf () hja rfl (W6 hja hjb hA (by simpa using he))⟩
 ·have:j=a.length:=by omega
  subst this
  have:a=b:=Db hlen hA
  simp [this]
theorem ZqK{fid:FuncId}(hc:ZT P fid ZyA=true)[DecidableEq α]{t:α->Tr}(hT:Cmp t)(l:List α)(v:α)(hl:l.length<=9223372036854775807)(lvl:Nat)(S:Sto):Sem P fid lvl [.tr (.sl (l.map fun x=>[t x])),.tr (t v)] S (iI (ixF (fun x=>decide (v=x)) l 0)) S:=by
 refine Zc hc trivial ?_
 simp only[ZyA,List.length_map,EVA,seval,Zd,men]
 refine ZO (α:=Unit) l.length (fun j _=>[(8,iI j)]) (fun _ _=>[]) (fun j _=>ixF (fun x=>decide (v=x)) (l.drop j) j=ixF (fun x=>decide (v=x)) l 0) () (by simp only[EVA,seval,Zd,men]) (by (simp only[EVA,seval,Zd,men]) <;> rfl) rfl ?_
 intro j _ hj hA
 simp only[List.length_map,EVA,seval,Zd,men]
 refine Zn (fun hlt=>?_) (fun hge=>?_)
 ·have hja:j<l.length:=by omega
  have ga:=Wh (c:=fun x=>[t x]) hja
  have hq:=hT.eql v l[j]
  rw[ZeB hja,Uf] at hA
  simp only[ga,hq,EVA,seval,Zd,men]
  refine Zn (fun h=>?_) (fun h=>?_)
  ·rw[if_pos (by simpa using h)] at hA
   rw[<-hA]
  ·rw[if_neg (by simpa using h)] at hA
   exact⟨by rw[Ze];omega,Zf () hja rfl hA⟩
 ·have:j=l.length:=by omega
  subst this
  rw[List.drop_length] at hA
  rw[<-hA]
  rfl
end
end Go.Fd

/-
  WHAT HOLDS OF THE PROGRAM'S AND THE REFERENCE'S SMALL FUNCTIONS ON NUMBERS. Own work.
-/
namespace Go.Fd
set_option maxRecDepth 20000
noncomputable def dc(p:Prop):Bool:=@decide p (Classical.propDecidable p)
theorem dc_iff{p:Prop}:dc p=true↔p:=by unfold dc;simp
theorem Z5{p:Prop}(h:p):dc p=true:=dc_iff.2 h
theorem Zk{p:Prop}(h:¬ p):dc p=false:=by
 cases hh:dc p with
 | false=>rfl
 | true=>exact absurd (dc_iff.1 hh) h
theorem dc_not{p:Prop}:dc p=false ↔ ¬ p:=⟨fun h hp=>(by rw[Z5 hp] at h;cases h),Zk⟩
theorem Yi{p q:Prop}(h:p↔q):dc p=dc q:=by rw[propext h]
theorem Yr{p:Prop}[Decidable p]:dc p=decide p:=by
 by_cases h:p
 ·rw[Z5 h];simp [h]
 ·rw[Zk h];simp [h]
abbrev g0(l:List Int)(i:Nat):Int:=l.getD i 0
abbrev A3:=Int×Int×Int
abbrev g3(l:List A3)(i:Nat):A3:=l.getD i (0,0,0)
theorem Jv{l:List Int}{i:Nat}(h:i<l.length):(rI l)[i]? = some [tv (g0 l i)]:=by simp [h]
def inB(n a b:Int):Bool:=decide (a<=n)&&decide (n<=b)
theorem inB_iff{n a b:Int}:inB n a b=true↔a<=n/\n<=b:=by simp [inB]
theorem inB_not{n a b:Int}:inB n a b=false ↔ ¬ (a<=n/\n<=b):=by
 rw[<-inB_iff];cases inB n a b <;> simp
theorem Wa(n a b:Int)(lvl:Nat)(S:Sto):Sem Proofs.Tryz.prog Jp lvl [iI n,iI a,iI b] S (iB (inB n a b)) S:=by
 refine Zc Zjf trivial ?_
 simp only[Zex,EVA,seval,Zd,men]
 refine Zn (fun h=>?_) (fun h=>?_) <;> simp [inB,h]
theorem Qh(n a b:Int)(lvl:Nat)(S:Sto):Sem Proofs.Tryz.prog Jg lvl [iI n,iI a,iI b] S (iB (inB n a b)) S:=by
 refine Zc ZgD trivial ?_
 simp only[ZbV,EVA,seval,Zd,men]
 refine Zn (fun h=>?_) (fun h=>?_) <;> simp [inB,h]
theorem Zca(l:List Int)(n:Int)(hl:l.length<=9223372036854775807)(lvl:Nat)(S:Sto):Sem Proofs.Tryz.prog Xq lvl [tI l,iI n] S (iB (decide (n∈l))) S:=by
 refine Zc Zh6 trivial ?_
 simp only[Zdn,EVA,seval,Zd,men]
 refine ZP (α:=Unit) l.length (fun j _=>⟨lvl,[(0,tI l),(1,iI n),(5,iI j)],[],S⟩) (fun j _=>n ∉ l.take j) () ⟨by simp only[EVA,seval,Zd,men],by (simp only[EVA,seval,Zd,men]) <;> rfl⟩ (by simp) ?_
 intro j _ hj hA
 simp only[List.length_map,EVA,seval,Zd,men]
 refine Zn (fun hlt=>?_) (fun hge=>?_)
 ·have hja:j<l.length:=by omega
  have ga:=Jv hja
  simp only[ga,EVA,seval,Zd,men]
  have hg:g0 l j=l[j]:=by simp [hja]
  refine Zn (fun he=>?_) (fun hne=>?_)
  ·have:n∈l:=by rw[<-he,hg];exact List.getElem_mem hja
   simp [this]
  ·refine⟨by rw[Ze];omega,Zf () hja rfl ?_⟩
   rw[List.take_succ_eq_append_getElem hja]
   simp only[List.mem_append,List.mem_singleton,not_or]
   exact⟨hA,fun e=>hne (by rw[hg,e])⟩
 ·have:j=l.length:=by omega
  subst this
  rw[List.take_length] at hA
  simp [hA]
def Zn1(l:List Int)(v:Int):Int:=if v∈l then (l.idxOf v:Int) else -1
theorem Zn2{l:List Int}{v:Int}:0<=Zn1 l v↔v∈l:=by
 unfold Zn1;split
 ·rename_i h;simp [h]
 ·rename_i h;simp [h]
theorem Zia(l:List Int)(n:Int)(hl:l.length<=9223372036854775807)(lvl:Nat)(S:Sto):Sem Proofs.Tryz.prog JO lvl [tI l,iI n] S (iI (Zn1 l n)) S:=by
 refine Zc DP trivial ?_
 simp only[Xf,List.length_map,EVA,seval,Zd,men]
 refine ZP (α:=Unit) l.length (fun j _=>⟨lvl,[(0,tI l),(1,iI n),(7,iI l.length),(8,iI j)],[],S⟩) (fun j _=>n ∉ l.take j) () ⟨by simp only[EVA,seval,Zd,men],by (simp only[EVA,seval,Zd,men]) <;> rfl⟩ (by simp) ?_
 intro j _ hj hA
 simp only[List.length_map,EVA,seval,Zd,men]
 refine Zn (fun hlt=>?_) (fun hge=>?_)
 ·have hja:j<l.length:=by omega
  have ga:=Jv hja
  simp only[ga,EVA,seval,Zd,men]
  have hg:g0 l j=l[j]:=by simp [hja]
  refine Zn (fun he=>?_) (fun hne=>?_)
  ·have hm:n∈l:=by rw[he,hg];exact List.getElem_mem hja
   unfold Zn1
   rw[if_pos hm]
   have:l.idxOf n=j:=by
    have h1:l.take j++l.drop j=l:=List.take_append_drop j l
    rw[<-h1,List.idxOf_append,if_neg hA,List.drop_eq_getElem_cons hja,List.idxOf_cons]
    rw[he,hg]
    simp
    omega
   rw[this]
  ·refine⟨by rw[Ze];omega,Zf () hja rfl ?_⟩
   rw[List.take_succ_eq_append_getElem hja]
   simp only[List.mem_append,List.mem_singleton,not_or]
   exact⟨hA,fun e=>hne (by rw[hg,e])⟩
 ·have:j=l.length:=by omega
  subst this
  rw[List.take_length] at hA
  simp [Zn1,hA]
theorem Zan(l:List Int)(n:Int)(hl:l.length<=9223372036854775807)(lvl:Nat)(S:Sto):Sem Proofs.Tryz.prog Z4 lvl [tI l,iI n] S (iB (decide (n∈l))) S:=by
 refine Zc Us trivial ?_
 simp only[VV,EVA,seval,Zd,men]
 refine Zb (Zia l n hl) ?_
 simp only[Zn2,EVA,seval,Zd,men]
theorem Zl8(x:Int)(lvl:Nat)(S:Sto):Sem Proofs.Tryz.prog Vq lvl [iI x] S (iB false) S:=by
 refine Zc ZeA trivial ?_
 simp only[Zam,EVA,seval,Zd,men]
end Go.Fd

/-
  NUMBERS OF LIBRARY FUNCTIONS IN THIS PROGRAM, as the guide's shelf lays them (printed by lay.py out of the kit's own command).
-/
namespace Go.Proofs
open Go.Shelf
def Tryz.lays160_ren:Go.Shelf.Ren:=⟨fun | 160=>127 | 232=>141 | 231=>140 | 227=>142 | 234=>144 | 233=>143 | 236=>146 | 235=>145 | 228=>151 | 271=>154 | 151=>153 | 197=>152 | 120=>171 | 152=>170 | 260=>169 | 137=>187 | 119=>188 | 224=>189 | 225=>190 | 217=>196 | 266=>198 | n=>n,fun | 9=>9 | 4=>4 | 3=>3 | 5=>5 | 117=>154 | 116=>153 | 0=>0 | 124=>157 | 21=>21 | 105=>165 | 46=>159 | 119=>197 | 139=>200 | 138=>199 | n=>n,fun | 3=>0 | 4=>1 | n=>n⟩
theorem Tryz.lays160:Go.Proofs.Lays.n160 Tryz.prog Tryz.lays160_ren:={
  mixed:=by kernel_rfl,
  f119:=Tryz.func188.trans (congrArg some (by kernel_rfl)),
  f120:=Tryz.func171.trans (congrArg some (by kernel_rfl)),
  f137:=Tryz.func187.trans (congrArg some (by kernel_rfl)),
  f151:=Tryz.func153.trans (congrArg some (by kernel_rfl)),
  f152:=Tryz.func170.trans (congrArg some (by kernel_rfl)),
  f160:=Tryz.func127.trans (congrArg some (by kernel_rfl)),
  f197:=Tryz.func152.trans (congrArg some (by kernel_rfl)),
  f217:=Tryz.func196.trans (congrArg some (by kernel_rfl)),
  f224:=Tryz.func189.trans (congrArg some (by kernel_rfl)),
  f225:=Tryz.func190.trans (congrArg some (by kernel_rfl)),
  f227:=Tryz.func142.trans (congrArg some (by kernel_rfl)),
  f228:=Tryz.func151.trans (congrArg some (by kernel_rfl)),
  f231:=Tryz.func140.trans (congrArg some (by kernel_rfl)),
  f232:=Tryz.func141.trans (congrArg some (by kernel_rfl)),
  f233:=Tryz.func143.trans (congrArg some (by kernel_rfl)),
  f234:=Tryz.func144.trans (congrArg some (by kernel_rfl)),
  f235:=Tryz.func145.trans (congrArg some (by kernel_rfl)),
  f236:=Tryz.func146.trans (congrArg some (by kernel_rfl)),
  f260:=Tryz.func169.trans (congrArg some (by kernel_rfl)),
  f266:=Tryz.func198.trans (congrArg some (by kernel_rfl)),
  f271:=Tryz.func154.trans (congrArg some (by kernel_rfl)),
  t0:=Tryz.underlying0,
  a0:=Tryz.isAgg0,
  z0:=Tryz.sizeOf0,
  v0:=Tryz.zeroValue0,
  t3:=Tryz.underlying3,
  a3:=Tryz.isAgg3,
  z3:=Tryz.sizeOf3,
  v3:=Tryz.zeroValue3,
  t4:=Tryz.underlying4,
  a4:=Tryz.isAgg4,
  z4:=Tryz.sizeOf4,
  v4:=Tryz.zeroValue4,
  t5:=Tryz.underlying5,
  a5:=Tryz.isAgg5,
  z5:=Tryz.sizeOf5,
  v5:=Tryz.zeroValue5,
  t9:=Tryz.underlying9,
  a9:=Tryz.isAgg9,
  z9:=Tryz.sizeOf9,
  v9:=Tryz.zeroValue9,
  t21:=Tryz.underlying21,
  a21:=Tryz.isAgg21,
  z21:=Tryz.sizeOf21,
  v21:=Tryz.zeroValue21,
  t46:=Tryz.underlying159,
  a46:=Tryz.isAgg159,
  z46:=Tryz.sizeOf159,
  v46:=Tryz.zeroValue159,
  t105:=Tryz.underlying165,
  a105:=Tryz.isAgg165,
  z105:=Tryz.sizeOf165,
  v105:=Tryz.zeroValue165,
  t116:=Tryz.underlying153,
  a116:=Tryz.isAgg153,
  z116:=Tryz.sizeOf153,
  t117:=Tryz.underlying154,
  a117:=Tryz.isAgg154,
  z117:=Tryz.sizeOf154,
  v117:=Tryz.zeroValue154,
  t119:=Tryz.underlying197,
  a119:=Tryz.isAgg197,
  z119:=Tryz.sizeOf197,
  t124:=Tryz.underlying157,
  a124:=Tryz.isAgg157,
  z124:=Tryz.sizeOf157,
  v124:=Tryz.zeroValue157,
  t138:=Tryz.underlying199,
  a138:=Tryz.isAgg199,
  z138:=Tryz.sizeOf199,
  v138:=Tryz.zeroValue199,
  t139:=Tryz.underlying200,
  a139:=Tryz.isAgg200,
  z139:=Tryz.sizeOf200,
  v139:=Tryz.zeroValue200,
  g3:=by kernel_rfl,
  g4:=by kernel_rfl }
def Tryz.lays190_ren:Go.Shelf.Ren:=⟨fun | 190=>138 | 125=>150 | 258=>149 | 128=>167 | 129=>168 | 302=>158 | 303=>159 | 304=>160 | 305=>161 | 306=>162 | 307=>163 | 308=>164 | 309=>165 | 310=>166 | 333=>181 | 329=>182 | 330=>183 | 334=>184 | 335=>185 | 336=>186 | 344=>195 | n=>n,fun | 31=>25 | 9=>9 | 3=>3 | 46=>159 | 0=>0 | 51=>169 | 53=>172 | 4=>4 | 183=>177 | 182=>176 | 131=>31 | 5=>5 | 218=>191 | 222=>195 | 228=>206 | 229=>207 | n=>n,fun | n=>n⟩
theorem Tryz.lays190:Go.Proofs.Lays.n190 Tryz.prog Tryz.lays190_ren:={
  mixed:=by kernel_rfl,
  f125:=Tryz.func150.trans (congrArg some (by kernel_rfl)),
  f128:=Tryz.func167.trans (congrArg some (by kernel_rfl)),
  f129:=Tryz.func168.trans (congrArg some (by kernel_rfl)),
  f190:=Tryz.func138.trans (congrArg some (by kernel_rfl)),
  f258:=Tryz.func149.trans (congrArg some (by kernel_rfl)),
  f302:=Tryz.func158.trans (congrArg some (by kernel_rfl)),
  f303:=Tryz.func159.trans (congrArg some (by kernel_rfl)),
  f304:=Tryz.func160.trans (congrArg some (by kernel_rfl)),
  f305:=Tryz.func161.trans (congrArg some (by kernel_rfl)),
  f306:=Tryz.func162.trans (congrArg some (by kernel_rfl)),
  f307:=Tryz.func163.trans (congrArg some (by kernel_rfl)),
  f308:=Tryz.func164.trans (congrArg some (by kernel_rfl)),
  f309:=Tryz.func165.trans (congrArg some (by kernel_rfl)),
  f310:=Tryz.func166.trans (congrArg some (by kernel_rfl)),
  f329:=Tryz.func182.trans (congrArg some (by kernel_rfl)),
  f330:=Tryz.func183.trans (congrArg some (by kernel_rfl)),
  f333:=Tryz.func181.trans (congrArg some (by kernel_rfl)),
  f334:=Tryz.func184.trans (congrArg some (by kernel_rfl)),
  f335:=Tryz.func185.trans (congrArg some (by kernel_rfl)),
  f336:=Tryz.func186.trans (congrArg some (by kernel_rfl)),
  f344:=Tryz.func195.trans (congrArg some (by kernel_rfl)),
  t0:=Tryz.underlying0,
  a0:=Tryz.isAgg0,
  z0:=Tryz.sizeOf0,
  v0:=Tryz.zeroValue0,
  t3:=Tryz.underlying3,
  a3:=Tryz.isAgg3,
  z3:=Tryz.sizeOf3,
  v3:=Tryz.zeroValue3,
  t4:=Tryz.underlying4,
  a4:=Tryz.isAgg4,
  z4:=Tryz.sizeOf4,
  v4:=Tryz.zeroValue4,
  t5:=Tryz.underlying5,
  a5:=Tryz.isAgg5,
  z5:=Tryz.sizeOf5,
  v5:=Tryz.zeroValue5,
  t9:=Tryz.underlying9,
  a9:=Tryz.isAgg9,
  z9:=Tryz.sizeOf9,
  v9:=Tryz.zeroValue9,
  t31:=Tryz.underlying25,
  a31:=Tryz.isAgg25,
  z31:=Tryz.sizeOf25,
  v31:=Tryz.zeroValue25,
  t46:=Tryz.underlying159,
  a46:=Tryz.isAgg159,
  z46:=Tryz.sizeOf159,
  v46:=Tryz.zeroValue159,
  t51:=Tryz.underlying169,
  a51:=Tryz.isAgg169,
  z51:=Tryz.sizeOf169,
  v51:=Tryz.zeroValue169,
  t53:=Tryz.underlying172,
  a53:=Tryz.isAgg172,
  z53:=Tryz.sizeOf172,
  v53:=Tryz.zeroValue172,
  t131:=Tryz.underlying31,
  a131:=Tryz.isAgg31,
  z131:=Tryz.sizeOf31,
  v131:=Tryz.zeroValue31,
  t182:=Tryz.underlying176,
  a182:=Tryz.isAgg176,
  z182:=Tryz.sizeOf176,
  v182:=Tryz.zeroValue176,
  t183:=Tryz.underlying177,
  a183:=Tryz.isAgg177,
  z183:=Tryz.sizeOf177,
  v183:=Tryz.zeroValue177,
  t218:=Tryz.underlying191,
  a218:=Tryz.isAgg191,
  z218:=Tryz.sizeOf191,
  v218:=Tryz.zeroValue191,
  t222:=Tryz.underlying195,
  a222:=Tryz.isAgg195,
  z222:=Tryz.sizeOf195,
  v222:=Tryz.zeroValue195,
  t228:=Tryz.underlying206,
  a228:=Tryz.isAgg206,
  z228:=Tryz.sizeOf206,
  v228:=Tryz.zeroValue206,
  t229:=Tryz.underlying207,
  a229:=Tryz.isAgg207,
  z229:=Tryz.sizeOf207,
  v229:=Tryz.zeroValue207 }
end Go.Proofs

/-
  NAMES AND SIGNATURES, BOTH SIDES. Own work.
-/
namespace Go.Fd
set_option maxRecDepth 20000
def Zt9(P:Program)(f:FuncId):Bool:=match P.funcs[f]? with | some fn=>fn.body.isSome && !(fn.name == "runtime.NumGoroutine") | none=>false
theorem Zd1{P:Program}{f:FuncId}(h:Zt9 P f=true):U5 P f:=by
 unfold Zt9 at h
 split at h
 ·rename_i fn hf
  simp only[Bool.and_eq_true,Bool.not_eq_true'] at h
  exact⟨fn,hf,h.1,h.2⟩
 ·cases h
abbrev AZ:ByteArray:=⟨#[97,98,99,100,101,102,103,104,105,106,107,108,109,110,111,112,113,114,115,116,117,118,119,120,121,122]⟩
theorem Zn3(s:ByteArray)(hs:s.size<=9223372036854775807)(lvl:Nat)(S:Sto):Sem Proofs.Tryz.prog Dv lvl [iS s,iS AZ] S (iS ⟨(Lib.trimS s.data.toList AZ.data.toList).toArray⟩) S :=
 Zjd (xs:=[.string s,.string AZ]) (Zd1 (by kernel_rfl)) rfl (fun w=>Go.Proofs.Any.strings_Trim_laid Proofs.Tryz.lays160 (by kernel_rfl) s AZ w hs (by decide) (Go.Proofs.ascii_of_all (by decide)))
def Zl9(s:ByteArray):Prop:=(∀ b∈s.data.toList,97<=b.toNat/\b.toNat<=122)/\1<=s.size/\s.size<=4
theorem Zib(s:ByteArray):s.size=s.data.toList.length:=by rw[Array.length_toList];rfl
theorem Zo5(b:UInt8):b∈AZ.data.toList↔97<=b.toNat/\b.toNat<=122:=by
 have:∀ n:Fin 256,(UInt8.ofNat n.val)∈AZ.data.toList↔97<=n.val/\n.val<=122:=by decide +kernel
 have h:UInt8.ofNat b.toNat∈AZ.data.toList↔97<=b.toNat/\b.toNat<=122:=this ⟨b.toNat,b.toNat_lt⟩
 rw[show UInt8.ofNat b.toNat=b from UInt8.ofNat_toNat] at h
 exact h
theorem Zma{p:UInt8->Bool}:∀{l:List UInt8},l.dropWhile p=[]↔∀ b∈l,p b=true
 | []=>by simp
 | x::r=>by
  simp only[List.dropWhile_cons,List.mem_cons,forall_eq_or_imp]
  cases h:p x with
  | true=>simp [Zma (l:=r)]
  | false=>simp
theorem Zo6{p:UInt8->Bool}{b:UInt8}:∀{l:List UInt8},b∈l.takeWhile p->p b=true
 | [],h=>by simp at h
 | x::r,h=>by
  rw[List.takeWhile_cons] at h
  split at h
  ·rename_i hx
   rcases List.mem_cons.1 h with rfl | h
   ·exact hx
   ·exact Zo6 h
  ·cases h
theorem Zn4{l cs:List UInt8}(h:∀ b∈l,b∈cs):l.dropWhile (cs.contains ·)=[]:=by
 rw[Zma]
 intro b hb
 simpa using h b hb
theorem trimS_nil{l cs:List UInt8}:Lib.trimS l cs=[]↔∀ b∈l,b∈cs:=by
 unfold Lib.trimS Lib.trimLeftS Lib.trimRightS
 constructor
 ·intro h b hb
  rw[Zma] at h
  have hrev:∀ x∈(l.reverse.dropWhile (cs.contains ·)),x∈cs:=fun x hx=>by
   have:=h x (by simpa using hx)
   simpa using this
  have hsplit:l.reverse=l.reverse.takeWhile (cs.contains ·)++l.reverse.dropWhile (cs.contains ·):=(List.takeWhile_append_dropWhile).symm
  have hb2:b∈l.reverse:=by simpa using hb
  rw[hsplit] at hb2
  rcases List.mem_append.1 hb2 with h1 | h1
  ·have:=Zo6 h1
   simpa using this
  ·exact hrev b h1
 ·intro h
  rw[Zn4 (l:=l.reverse) (fun b hb=>h b (by simpa using hb))]
  rfl
theorem ZfD(s:ByteArray)(hs:s.size<=9223372036854775807)(lvl:Nat)(S:Sto):Sem Proofs.Tryz.prog QM lvl [iS s] S (iB (dc (Zl9 s))) S:=by
 refine Zc ZgF trivial ?_
 simp only[Zb0,EVA,seval,Zd,men]
 refine ZO (α:=Unit) s.size (fun j _=>[(3,iI j)]) (fun _ _=>[]) (fun j _=>∀ b∈s.data.toList.take j,97<=b.toNat/\b.toNat<=122) () (by simp only[EVA,seval,Zd,men]) (by (simp only[EVA,seval,Zd,men]) <;> rfl) (fun b hb=>by simp at hb) ?_
 intro j _ hj hA
 simp only[EVA,seval,Zd,men]
 refine Zn (fun hlt=>?_) (fun hge=>?_)
 ·have hja:j<s.data.toList.length:=by rw[<-Zib];omega
  have ga:s.data.toList[j]? = some (s.data.toList[j]):=List.getElem?_eq_getElem hja
  have hno:¬ (97<=(s.data.toList[j]).toNat/\(s.data.toList[j]).toNat<=122) -> ¬ Zl9 s:=fun h hn=>h (hn.1 _ (List.getElem_mem hja))
  by_cases h1:((s.data.toList[j]).toNat:Int)<97
  ·simp only[ga,h1,EVA,seval,Zd,men]
   rw[Zk (hno (by omega))]
  by_cases h2:(122:Int)<(s.data.toList[j]).toNat
  ·simp only[ga,h1,h2,EVA,seval,Zd,men]
   rw[Zk (hno (by omega))]
  ·simp only[ga,h1,h2,EVA,seval,Zd,men]
   refine⟨by rw[Ze];omega,Zf () (by omega) rfl ?_⟩
   intro b hb
   rw[List.take_succ_eq_append_getElem hja] at hb
   rcases List.mem_append.1 hb with h | h
   ·exact hA b h
   ·have:b=s.data.toList[j]:=by simpa using h
    subst this
    omega
 ·have:j=s.size:=by omega
  subst this
  rw[Zib,List.take_length] at hA
  refine Zb (Wa s.size 1 4) ?_
  simp only[EVA,seval,Zd,men]
  rw[Yi (q:=1<=s.size/\s.size<=4) ⟨fun h=>h.2,fun h=>⟨hA,h⟩⟩]
  by_cases h:1<=s.size/\s.size<=4
  ·rw[Z5 h,inB_iff.2 (by omega)]
  ·rw[Zk h,inB_not.2 (by omega)]
theorem ZfE(s:ByteArray)(hs:s.size<=9223372036854775807)(lvl:Nat)(S:Sto):Sem Proofs.Tryz.prog QO lvl [iS s] S (iB (dc (Zl9 s))) S:=by
 refine Zc ZgJ trivial ?_
 simp only[Zb4,EVA,seval,Zd,men]
 refine Zb (Qh s.size 1 4) ?_
 simp only[EVA,seval,Zd,men]
 cases hin:inB (s.size:Int) 1 4 with
 | false =>
  have:¬ Zl9 s:=fun h=>(inB_not.1 hin) (by have:=h.2;omega)
  rw[Zk this]
  simp only[EVA,seval,Zd,men]
 | true =>
  have hin':=inB_iff.1 hin
  simp only[EVA,seval,Zd,men]
  refine Zb (Zn3 s hs) ?_
  simp only[EVA,seval,Zd,men]
  by_cases h:Zl9 s
  ·have:Lib.trimS s.data.toList AZ.data.toList=[]:=trimS_nil.2 (fun b hb=>(Zo5 b).2 (h.1 b hb))
   rw[Z5 h,this]
   rfl
  ·have:¬ Lib.trimS s.data.toList AZ.data.toList=[]:=fun e=>h ⟨fun b hb=>(Zo5 b).1 (trimS_nil.1 e b hb),by omega,by omega⟩
   rw[Zk h]
   have h2:¬ (⟨(Lib.trimS s.data.toList AZ.data.toList).toArray⟩:ByteArray)=⟨#[]⟩:=fun e=>this (by
    have:=congrArg (fun b:ByteArray=>b.data.toList) e
    simpa using this)
   simp [h2]
def ZqL(c:TControl):Prop:=Zl9 c.name/\(0<=c.ports/\c.ports<=3)/\0<=c.kind_/\c.kind_<=2
def Zmb(sig:List TControl)(i:Nat):Prop:=∀ h:i<sig.length,ZqL sig[i]/\∀ k (hk:k<i),(sig[k]'(by omega)).name≠sig[i].name
def ZdB(sig:List TControl):Prop:=(∀ i,Zmb sig i)/\1<=sig.length/\sig.length<=6
theorem ZcT(c d:TControl)(lvl:Nat)(S:Sto):Sem Proofs.Tryz.prog J3 lvl [.ag ((Zj d).map .tr),.ta (Zj c)] S (iB (decide (d.name=c.name))) S:=by
 refine Zc ZaT trivial ?_
 simp only[X1,Zj,EVA,seval,Zd,men]
theorem Zic:ZT Proofs.Tryz.prog Ji (ZnY 3 (some 3))=true:=by kernel_rfl
theorem Zid:ZT Proofs.Tryz.prog Z9 (ZqI Ji)=true:=by kernel_rfl
theorem Zmc(sig:List TControl)(hl:sig.length<=9223372036854775807)(hb:∀ y∈sig,ZC 9223372036854775807 y)(lvl:Nat)(S:Sto):Sem Proofs.Tryz.prog Um lvl [.tr (.sl (sig.map Zj))] S (iB (dc (ZdB sig))) S:=by
 refine Zc Zh3 trivial ?_
 simp only[Zdk,List.length_map,EVA,seval,Zd,men]
 refine ZO (α:=Unit) sig.length (fun j _=>[(3,iI j)]) (fun _ _=>[]) (fun j _=>∀ i,i<j->Zmb sig i) () (by simp only[EVA,seval,Zd,men]) (by (simp only[EVA,seval,Zd,men]) <;> rfl) (fun i hi=>by omega) ?_
 intro j _ hj hA
 simp only[List.length_map,EVA,seval,Zd,men]
 refine Zn (fun hlt=>?_) (fun hge=>?_)
 ·have hja:j<sig.length:=by omega
  have ga:=Wh (c:=Zj) hja
  have hbj:sig[j].name.size<=9223372036854775807:=hb _ (List.getElem_mem hja)
  have hno:¬ ZqL sig[j] -> ¬ ZdB sig:=fun h hs=>h (hs.1 j hja).1
  simp only[ga,Zj,EVA,seval,Zd,men]
  refine Zb (ZfD sig[j].name hbj) ?_
  simp only[ga,Zj,EVA,seval,Zd,men]
  cases hn:dc (Zl9 sig[j].name) with
  | false =>
   simp only[EVA,seval,Zd,men]
   rw[Zk (hno fun h=>dc_not.1 hn h.1)]
  | true =>
   have hn':=dc_iff.1 hn
   simp only[ga,Zj,EVA,seval,Zd,men]
   refine Zb (Wa sig[j].ports 0 3) ?_
   simp only[ga,Zj,EVA,seval,Zd,men]
   cases hp:inB sig[j].ports 0 3 with
   | false =>
    simp only[EVA,seval,Zd,men]
    rw[Zk (hno fun h=>inB_not.1 hp h.2.1)]
   | true =>
    have hp':=inB_iff.1 hp
    simp only[ga,Zj,EVA,seval,Zd,men]
    refine Zb (Wa sig[j].kind_ 0 2) ?_
    simp only[ga,Zj,EVA,seval,Zd,men]
    cases hk:inB sig[j].kind_ 0 2 with
    | false =>
     simp only[EVA,seval,Zd,men]
     rw[Zk (hno fun h=>inB_not.1 hk h.2.2)]
    | true =>
     have hk':=inB_iff.1 hk
     simp only[EVA,seval,Zd,men]
     refine ZO (α:=Unit) j (fun k _=>[(4,iI k)]) (fun _ _=>[]) (fun k _=>∀ i (hi:i<k),k<=j->∀ hi2:i<sig.length,(sig[i]'hi2).name≠sig[j].name) () (by simp only[EVA,seval,Zd,men]) (by (simp only[EVA,seval,Zd,men]) <;> rfl) (fun i hi=>by omega) ?_
     intro k _ hkj hB
     simp only[List.length_map,EVA,seval,Zd,men]
     refine Zn (fun hlt2=>?_) (fun hge2=>?_)
     ·have hka:k<sig.length:=by omega
      have gb:=Wh (c:=Zj) hka
      simp only[ga,gb,Zj,EVA,seval,Zd,men]
      refine Zn (fun he=>?_) (fun hne=>?_)
      ·rw[Zk (fun hs:ZdB sig=>(hs.1 j hja).2 k (by omega) he)]
      ·refine⟨by rw[Ze];omega,Zf () (by omega) rfl (fun i hi _ hi2=>?_)⟩
       by_cases e:i=k
       ·subst e;exact hne
       ·exact hB i (by omega) (by omega) hi2
     ·have:k=j:=by omega
      subst this
      refine⟨by rw[Ze];omega,Zf () hja rfl (fun i hi=>?_)⟩
      by_cases e:i=k
      ·subst e
       exact fun h=>⟨⟨hn',hp',hk'⟩,fun q hq=>hB q hq (Nat.le_refl _) (by omega)⟩
      ·exact hA i (by omega)
 ·have:j=sig.length:=by omega
  subst this
  refine Zb (Wa sig.length 1 6) ?_
  simp only[EVA,seval,Zd,men]
  have hall:∀ i,Zmb sig i:=fun i h=>hA i h h
  rw[Yi (q:=1<=sig.length/\sig.length<=6) ⟨fun h=>h.2,fun h=>⟨hall,h⟩⟩]
  by_cases h:1<=sig.length/\sig.length<=6
  ·rw[Z5 h,inB_iff.2 (by omega)]
  ·rw[Zk h,inB_not.2 (by omega)]
theorem ZaV(sig:List TControl)(hl:sig.length<=9223372036854775807)(hb:∀ y∈sig,ZC 9223372036854775807 y)(lvl:Nat)(S:Sto):Sem Proofs.Tryz.prog VB lvl [.tr (.sl (sig.map Zj))] S (iB (dc (ZdB sig))) S:=by
 refine Zc ZbU trivial ?_
 simp only[W8,List.length_map,EVA,seval,Zd,men]
 refine Zb (Qh sig.length 1 6) ?_
 simp only[List.length_map,EVA,seval,Zd,men]
 refine Zn (fun h=>?_) (fun h=>?_)
 ·rw[Zk (fun hs:ZdB sig=>(inB_not.1 h) (by have:=hs.2;omega))]
 have hln:=inB_iff.1 (by simpa using h)
 refine ZO (α:=Unit) sig.length (fun j _=>[(11,iI j)]) (fun _ _=>[]) (fun j _=>∀ i,i<j->Zmb sig i) () (by simp only[EVA,seval,Zd,men]) (by (simp only[EVA,seval,Zd,men]) <;> rfl) (fun i hi=>by omega) ?_
 intro j _ hj hA
 simp only[List.length_map,EVA,seval,Zd,men]
 refine Zn (fun hlt=>?_) (fun hge=>?_)
 ·have hja:j<sig.length:=by omega
  have ga:=Wh (c:=Zj) hja
  have hbj:sig[j].name.size<=9223372036854775807:=hb _ (List.getElem_mem hja)
  have hno:¬ ZqL sig[j] -> ¬ ZdB sig:=fun h hs=>h (hs.1 j hja).1
  simp only[ga,Zj,EVA,seval,Zd,men]
  refine Zb (ZfE sig[j].name hbj) ?_
  simp only[ga,Zj,EVA,seval,Zd,men]
  cases hn:dc (Zl9 sig[j].name) with
  | false =>
   simp only[EVA,seval,Zd,men]
   rw[Zk (hno fun h=>dc_not.1 hn h.1)]
  | true =>
   have hn':=dc_iff.1 hn
   simp only[ga,Zj,EVA,seval,Zd,men]
   refine Zb (Qh sig[j].ports 0 3) ?_
   simp only[ga,Zj,EVA,seval,Zd,men]
   cases hp:inB sig[j].ports 0 3 with
   | false =>
    simp only[EVA,seval,Zd,men]
    rw[Zk (hno fun h=>inB_not.1 hp h.2.1)]
   | true =>
    have hp':=inB_iff.1 hp
    simp only[ga,Zj,EVA,seval,Zd,men]
    refine Zb (Qh sig[j].kind_ 0 2) ?_
    simp only[ga,Zj,EVA,seval,Zd,men]
    cases hk:inB sig[j].kind_ 0 2 with
    | false =>
     simp only[EVA,seval,Zd,men]
     rw[Zk (hno fun h=>inB_not.1 hk h.2.2)]
    | true =>
     have hk':=inB_iff.1 hk
     have hjl:j<=sig.length:=by omega
     simp only[List.length_map,hjl,EVA,seval,Zd,men]
     have hc:=Zkb (P:=Proofs.Tryz.prog) Zid Zic Zdg (f:=fun d:TControl=>decide (d.name=sig[j].name)) (fe:=J3) (cs:=[Zj sig[j]]) (sig.take j) (by rw[List.length_take];omega) (fun d _ lvl S=>ZcT sig[j] d lvl S)
     rw[<-Zl6] at hc
     refine⟨fun h=>h.elim,Nat.zero_le _,Zb hc ?_⟩
     simp only[EVA,seval,Zd,men]
     cases ha:(sig.take j).any (fun d:TControl=>decide (d.name=sig[j].name)) with
     | true =>
      simp only[EVA,seval,Zd,men]
      obtain⟨d,hd,he⟩:=List.any_eq_true.1 ha
      obtain⟨q,hq,rfl⟩:=List.getElem_of_mem hd
      rw[List.length_take] at hq
      rw[Zk (fun hs:ZdB sig=>(hs.1 j hja).2 q (by omega) (by simpa using he))]
     | false =>
      simp only[EVA,seval,Zd,men]
      refine⟨by rw[Ze];omega,Zf () hja rfl (fun i hi=>?_)⟩
      by_cases e:i=j
      ·subst e
       refine fun h=>⟨⟨hn',hp',hk'⟩,fun q hq=>?_⟩
       have:=(List.any_eq_false.1 ha) sig[q] (by
        rw[List.mem_take_iff_getElem]
        exact⟨q,by omega,rfl⟩)
       simpa using this
      ·exact hA i (by omega)
 ·have:j=sig.length:=by omega
  subst this
  have hall:∀ i,Zmb sig i:=fun i h=>hA i h h
  rw[Z5 (p:=ZdB sig) ⟨hall,by omega,by omega⟩]
theorem Zdp(a b:List Int):rI (a++b)=rI a++rI b:=List.map_append
theorem Zo7:ZT Proofs.Tryz.prog Y2 (ZnY 1 none)=true:=by kernel_rfl
theorem Zo8:ZT Proofs.Tryz.prog JB (ZqI Y2)=true:=by kernel_rfl
end Go.Fd

/-
  WHAT A SIZE THAT IS LEFT SAYS OF BOUNDS (printed by lawgen.py). Own work.
-/
namespace Go.Fd
def Zm(s:Int->Int)(P:Prop):Prop:=∀ l:Int,0<=l->l<=1048576->s l<=l/\(0<=s l->P)
theorem Zn5:Zm (fun l=>l) True:=fun _ _ _=>⟨Int.le_refl _,fun _=>trivial⟩
theorem Zjh{s g:Int->Int}{P Q:Prop}(hs:Zm s P)(hg:Zm g Q):Zm (fun l=>ZbM (s l) g) (P/\Q):=fun l h0 h1=>by
 have a:=hs l h0 h1
 by_cases h:s l<0
 ·simp only[ZbM,if_pos h]
  exact⟨by omega,fun h=>by omega⟩
 ·simp only[ZbM,if_neg h]
  have b:=hg (s l) (by omega) (by omega)
  exact⟨by omega,fun h2=>⟨a.2 (by omega),b.2 h2⟩⟩
theorem Zzh(n:Nat):Zm (fun l=>szN n l) (n<=4294967296):=fun l h0 h1=>by
 simp only[szN]
 split
 ·exact⟨by omega,fun h=>by omega⟩
 ·exact⟨by omega,fun h=>by omega⟩
theorem Zmd(n:Nat):Zm (fun l=>l-n) (n<=4294967296):=fun l h0 h1=>⟨by simp only;omega,fun h=>by simp only at h;omega⟩
theorem Zzi{α:Type}{f:α->Int->Int}{P:α->Prop}(hf:∀ x,Zm (f x) (P x)):∀(a:List α),Zm (fun l=>szF f a l) (∀ y∈a,P y)
 | []=>fun l _ _=>⟨Int.le_refl l,fun _ y hy=>by cases hy⟩
 | x::r=>fun l h0 h1=>by
  simp only[szF]
  have a:=hf x l h0 h1
  split
  ·exact⟨by omega,fun h=>by omega⟩
  ·have b:=Zzi hf r (f x l) (by omega) (by omega)
   refine⟨by simp only at b;omega,fun h y hy=>?_⟩
   cases hy with
   | head=>exact a.2 (by omega)
   | tail _ hy=>exact b.2 h y hy
theorem Zo9{α:Type}{f:α->Int->Int}{P:α->Prop}(hf:∀ x,Zm (f x) (P x))(a:List α):Zm (fun l=>szL f a l) (a.length<=4294967296/\∀ y∈a,P y):=fun l h0 h1=>by
 simp only[szL]
 split
 ·exact⟨by omega,fun h=>by omega⟩
 ·have b:=Zzi hf a (l-a.length) (by omega) (by omega)
  simp only at b
  exact⟨by omega,fun h=>⟨by omega,b.2 h⟩⟩
theorem Zkc{s:Int->Int}{P Q:Prop}(h:Zm s P)(hq:P->Q):Zm s Q:=fun l h0 h1=>⟨(h l h0 h1).1,fun h2=>hq ((h l h0 h1).2 h2)⟩
theorem Zua(x:TNode):Zm (fun l=>Dt x l) (Ds 4294967296 x):=by
 unfold Dt
 exact Zkc (Zjh (Zzh _) Zn5) (fun h=>by unfold Ds;simp only[and_assoc,and_true,true_and,implies_true,forall_const] at h ⊢;try exact h)
theorem Zub(x:TWire):Zm (fun l=>Du x l) (W7 4294967296 x):=by
 unfold Du
 exact Zkc (Zjh (Zmd _) Zn5) (fun h=>by unfold W7;simp only[and_assoc,and_true,true_and,implies_true,forall_const] at h ⊢;try exact h)
theorem WP(x:TBigraph):Zm (fun l=>YL x l) (Zw 4294967296 x):=by
 unfold YL
 exact Zkc (Zjh (Zo9 (fun y=>(Zua _)) _) (Zjh (Zzh _) (Zjh (Zo9 (fun y=>(Zmd _)) _) (Zjh (Zo9 (fun y=>(Zub _)) _) Zn5)))) (fun h=>by unfold Zw;simp only[and_assoc,and_true,true_and,implies_true,forall_const] at h ⊢;try exact h)
theorem Zao(x:TControl):Zm (fun l=>ZE x l) (ZC 4294967296 x):=by
 unfold ZE
 exact Zkc (Zjh (Zmd _) Zn5) (fun h=>by unfold ZC;simp only[and_assoc,and_true,true_and,implies_true,forall_const] at h ⊢;try exact h)
theorem Zme{a:Nat}(h:a<=4294967296):a<=9223372036854775807:=by omega
theorem ZgL{α:Type}{l:List (List α)}(h:∀ y∈l,y.length<=4294967296):∀ y∈l,y.length<=9223372036854775807:=fun y hy=>Zme (h y hy)
theorem ZeC{x:TControl}(h:ZC 4294967296 x):ZC 9223372036854775807 x:=by
 exact(Zme h)
end Go.Fd

/-
  WHAT A VALID BIGRAPH IS, BOTH SIDES. Own work.
-/
namespace Go.Fd
set_option maxRecDepth 20000
theorem Zm8{P:Nat->Prop}{j:Nat}(h:∀ k,k<j->P k)(hj:P j):∀ k,k<j+1->P k:=fun k hk=>by
 by_cases e:k=j
 ·subst e;exact hj
 ·exact h k (by omega)
theorem Zmf{n a b:Int}:inB n a b=dc (a<=n/\n<=b):=by
 unfold inB
 rw[Yr,Bool.decide_and]
theorem Zmg:∀(x y:List UInt8),(!Op.bytesLess x y)=(Op.bytesLess y x || decide (x=y))
 | [],[]=>by simp [Op.bytesLess]
 | [],_::_=>by simp [Op.bytesLess]
 | _::_,[]=>by simp [Op.bytesLess]
 | a::x,b::y=>by
  have ih:=Zmg x y
  simp only[Op.bytesLess]
  by_cases h:a=b
  ·subst h
   have e:¬ a<a:=UInt8.lt_irrefl a
   simp [e,ih]
  ·by_cases h1:a<b
   ·have h2:¬ b<a:=fun h2=>UInt8.lt_irrefl a (UInt8.lt_trans h1 h2)
    have h3:¬ b=a:=fun e=>h e.symm
    simp [h,h1,h2,h3]
   ·have h2:b<a:=by
     rcases UInt8.lt_or_lt_of_ne h with h | h
     ·exact absurd h h1
     ·exact h
    simp [h,h1,h2]
def ltS(s t:ByteArray):Prop:=Op.bytesLess s.data.toList t.data.toList=true
theorem ZqM{s t:ByteArray}:(!Op.bytesLess s.data.toList t.data.toList) = !dc (ltS s t):=by
 unfold ltS
 rw[Yr,Bool.decide_eq_true]
theorem ZqN{s t:ByteArray}:(Op.bytesLess t.data.toList s.data.toList || decide (t=s)) = !dc (ltS s t):=by
 rw[<-ZqM,Zmg]
 congr 1
 have:t=s↔s.data.toList=t.data.toList:=⟨fun h=>by rw[h],fun h=>by
  cases s with | mk s=>cases t with | mk t=>exact congrArg ByteArray.mk (Array.toList_inj.1 h.symm)⟩
 simp only[this]
def Zuc(l:List ByteArray)(i:Nat):Prop:=∀ h:i<l.length,Zl9 l[i]/\∀ _:0<i,ltS (l[i-1]'(by omega)) l[i]
def Qc(l:List ByteArray):Prop:=(∀ i,Zuc l i)/\l.length<=16
theorem ZeD(l:List ByteArray)(hl:l.length<=4294967296)(hb:∀ y∈l,y.size<=4294967296)(lvl:Nat)(S:Sto):Sem Proofs.Tryz.prog V2 lvl [.tr (.sl (rS l))] S (iB (dc (Qc l))) S:=by
 refine Zc Zfb trivial ?_
 simp only[Za1,List.length_map,EVA,seval,Zd,men]
 refine ZO (α:=Unit) l.length (fun j _=>[(3,iI j)]) (fun j _=>[]) (fun j _=>∀ k,k<j->Zuc l k) () (by simp only[EVA,seval,Zd,men]) (by (simp only[EVA,seval,Zd,men]) <;> rfl) (fun k hk=>absurd hk (Nat.not_lt_zero k)) ?_
 intro j _ hj hA
 simp only[List.length_map,EVA,seval,Zd,men]
 refine Zn (fun hlt=>?_) (fun hge=>?_)
 ·have hja:j<l.length:=by omega
  have ga:=Wh (c:=fun s=>[ts s]) hja
  have hno:¬ Zuc l j->dc (Qc l)=false:=fun h=>Zk fun g=>h (g.1 j)
  simp only[ga,List.length_map,EVA,seval,Zd,men]
  refine Zb (ZfD l[j] (by have:=hb _ (List.getElem_mem hja);omega)) ?_
  cases h1:dc (Zl9 l[j])
  ·simp only[EVA,seval,Zd,men]
   rw[hno fun h=>dc_not.1 h1 (h hja).1]
  by_cases q:0<j
  ·have e1:((j:Int)-1).toNat=j-1:=by omega
   have e2:(0:Int)<=j-1:=by omega
   have q5:(0:Int)<j:=by omega
   have gb:=Wh (c:=fun s=>[ts s]) (l:=l) (j:=j-1) (by omega)
   simp only[q5,e1,e2,ga,gb,List.length_map,EVA,seval,Zd,men]
   cases hc:Op.bytesLess (l[j-1]'(by omega)).data.toList l[j].data.toList
   ·simp only[EVA,seval,Zd,men]
    exact⟨by rw[Ze];omega,by rw[hno fun h=>by have:=(h hja).2 q;unfold ltS at this;rw[this] at hc;cases hc]⟩
   ·simp only[EVA,seval,Zd,men]
    exact⟨by rw[Ze];omega,by rw[Ze];omega,Zf () hja rfl (Zm8 hA fun _=>⟨dc_iff.1 h1,fun _=>hc⟩)⟩
  ·have q5:¬ (0:Int)<j:=by omega
   simp only[q5,ga,List.length_map,EVA,seval,Zd,men]
   exact⟨by rw[Ze];omega,Zf () hja rfl (Zm8 hA fun _=>⟨dc_iff.1 h1,fun h=>absurd h q⟩)⟩
 ·have hj1:j=l.length:=by omega
  subst hj1
  rw[Yi (p:=Qc l) (q:=(l.length:Int)<=16) ⟨fun g=>by have:=g.2;omega,fun g=>⟨fun i h=>hA i h h,by omega⟩⟩,Yr]
theorem Zdq(l:List ByteArray)(hl:l.length<=4294967296)(hb:∀ y∈l,y.size<=4294967296)(lvl:Nat)(S:Sto):Sem Proofs.Tryz.prog Vn lvl [.tr (.sl (rS l))] S (iB (dc (Qc l))) S:=by
 refine Zc Zey trivial ?_
 simp only[Zaf,List.length_map,EVA,seval,Zd,men]
 refine ZO (α:=Unit) l.length (fun j _=>[(7,iI j)]) (fun j _=>[]) (fun j _=>∀ k,k<j->Zuc l k) () (by simp only[EVA,seval,Zd,men]) (by (simp only[EVA,seval,Zd,men]) <;> rfl) (fun k hk=>absurd hk (Nat.not_lt_zero k)) ?_
 intro j _ hj hA
 simp only[List.length_map,EVA,seval,Zd,men]
 refine Zn (fun hlt=>?_) (fun hge=>?_)
 ·have hja:j<l.length:=by omega
  have ga:=Wh (c:=fun s=>[ts s]) hja
  have hno:¬ Zuc l j->dc (Qc l)=false:=fun h=>Zk fun g=>h (g.1 j)
  simp only[ga,List.length_map,EVA,seval,Zd,men]
  refine Zb (ZfE l[j] (by have:=hb _ (List.getElem_mem hja);omega)) ?_
  cases h1:dc (Zl9 l[j])
  ·simp only[EVA,seval,Zd,men]
   rw[hno fun h=>dc_not.1 h1 (h hja).1]
  by_cases q:0<j
  ·have e1:((j:Int)-1).toNat=j-1:=by omega
   have e2:(0:Int)<=j-1:=by omega
   have q5:(0:Int)<j:=by omega
   have gb:=Wh (c:=fun s=>[ts s]) (l:=l) (j:=j-1) (by omega)
   simp only[q5,e1,e2,ga,gb,List.length_map,EVA,seval,Zd,men]
   rw[ZqN]
   cases hc:dc (ltS (l[j-1]'(by omega)) l[j])
   ·simp only[EVA,seval,Zd,men]
    exact⟨by rw[Ze];omega,by rw[hno fun h=>dc_not.1 hc ((h hja).2 q)]⟩
   ·simp only[EVA,seval,Zd,men]
    exact⟨by rw[Ze];omega,by rw[Ze];omega,Zf () hja rfl (Zm8 hA fun _=>⟨dc_iff.1 h1,fun _=>dc_iff.1 hc⟩)⟩
  ·have q5:¬ (0:Int)<j:=by omega
   simp only[q5,ga,List.length_map,EVA,seval,Zd,men]
   exact⟨by rw[Ze];omega,Zf () hja rfl (Zm8 hA fun _=>⟨dc_iff.1 h1,fun h=>absurd h q⟩)⟩
 ·have hj1:j=l.length:=by omega
  subst hj1
  rw[Yi (p:=Qc l) (q:=(l.length:Int)<=16) ⟨fun g=>by have:=g.2;omega,fun g=>⟨fun i h=>hA i h h,by omega⟩⟩,Yr]
def Jx(b:TBigraph)(l:Int):Prop:=0<=l/\l<=b.edges+b.outer.length-1
theorem ZfF(b:TBigraph)(l:Int)(he:0<=b.edges/\b.edges<=8)(ho:b.outer.length<=4294967296)(lvl:Nat)(S:Sto):Sem Proofs.Tryz.prog QK lvl [.ag ((Za b).map .tr),iI l] S (iB (dc (Jx b l))) S:=by
 refine Zc ZgB trivial ?_
 simp only[ZbR,Za,List.length_map,EVA,seval,Zd,men]
 refine⟨by rw[Ze];omega,by rw[Ze];omega,?_⟩
 refine Zb (Wa l 0 (b.edges+b.outer.length-1)) ?_
 simp only[EVA,seval,Zd,men]
 rw[Zmf]
 rfl
theorem ZfG(b:TBigraph)(l:Int)(he:0<=b.edges/\b.edges<=8)(ho:b.outer.length<=4294967296)(lvl:Nat)(S:Sto):Sem Proofs.Tryz.prog JR lvl [.ag ((Za b).map .tr),iI l] S (iB (dc (Jx b l))) S:=by
 refine Zc Zag trivial ?_
 simp only[Xx,Za,List.length_map,EVA,seval,Zd,men]
 refine⟨by rw[Ze];omega,by rw[Ze];omega,?_⟩
 refine Zb (Qh l 0 (b.edges+b.outer.length-1)) ?_
 simp only[EVA,seval,Zd,men]
 rw[Zmf]
 rfl
def Zie(sig:List TControl)(c:Int):Int:=((sig[c.toNat]?).map TControl.kind_).getD 0
def Zbi(sig:List TControl)(c:Int):Int:=((sig[c.toNat]?).map TControl.ports).getD 0
def Zif(b:TBigraph)(p:Int):Int:=((b.nodes[p.toNat]?).map TNode.control).getD 0
def Uu(sig:List TControl)(b:TBigraph)(p Zba:Int):Prop:=(p<0/\-b.roots<=p)\/(0<=p/\p<Zba/\¬ Zie sig (Zif b p)=2)
def Zig(sig:List TControl)(b:TBigraph)(n:Nat):Prop:=∀ i,i<n->∀ h:i<b.nodes.length,0<=b.nodes[i].control/\b.nodes[i].control<=(sig.length:Int)-1
theorem ZeE(sig:List TControl)(b:TBigraph)(p:Int)(k:Nat)(hp:Wd .i64 p)(hr:0<=b.roots/\b.roots<=4)(hk:k<=b.nodes.length)(hc:Zig sig b k)(lvl:Nat)(S:Sto):Sem Proofs.Tryz.prog V3 lvl [.tr (.sl (sig.map Zj)),.ag ((Za b).map .tr),iI p,iI k] S (iB (dc (Uu sig b p k))) S:=by
 rw[Ze] at hp
 refine Zc Zfd trivial ?_
 simp only[Za3,Za,List.length_map,EVA,seval,Zd,men]
 refine Zn (fun hneg=>?_) (fun hpos=>?_)
 ·refine⟨by rw[Ze];omega,by rw[Ze];omega,?_⟩
  refine Zb (Wa (-1-p) 0 (b.roots-1)) ?_
  simp only[EVA,seval,Zd,men]
  have hiff:(0 <= -1-p/\-1-p<=b.roots-1)↔Uu sig b p k:=⟨fun h=>.inl (by omega),fun h=>by rcases h with h | h <;> omega⟩
  rw[Zmf,Yi hiff]
 ·refine Zn (fun hb=>?_) (fun hb=>?_)
  ·obtain⟨q,rfl⟩:∃ q:Nat,p=q:=⟨p.toNat,by omega⟩
   have hq:q<b.nodes.length:=by omega
   have ga:=Wh (c:=ZG) hq
   obtain⟨m1,m2⟩:=hc q (by omega) hq
   obtain⟨m,hm⟩:∃ m:Nat,b.nodes[q].control=m:=⟨b.nodes[q].control.toNat,by omega⟩
   have hms:m<sig.length:=by omega
   have gs:=Wh (c:=Zj) hms
   simp only[hb,ga,gs,ZG,Zj,hm,Int.toNat_natCast,Int.natCast_nonneg,List.length_map,EVA,seval,Zd,men]
   have e:Zie sig (Zif b q)=sig[m].kind_:=by simp [Zie,Zif,hq,hm,hms]
   have hiff:Uu sig b q k ↔ ¬ sig[m].kind_=2:=by
    constructor
    ·intro h
     rcases h with h | h
     ·omega
     ·rw[<-e];exact h.2.2
    ·intro h
     exact .inr ⟨by omega,hb,by rw[e];exact h⟩
   rw[Yi hiff,Yr]
  ·rw[Zk fun h:Uu sig b p k=>by rcases h with h | h <;> omega]
theorem Zdr(sig:List TControl)(b:TBigraph)(p:Int)(k:Nat)(hr:0<=b.roots/\b.roots<=4)(hk:k<=b.nodes.length)(hc:Zig sig b k)(lvl:Nat)(S:Sto):Sem Proofs.Tryz.prog JG lvl [.ag ((Za b).map .tr),.tr (.sl (sig.map Zj)),iI p,iI k] S (iB (dc (Uu sig b p k))) S:=by
 refine Zc Df trivial ?_
 simp only[QV,Za,List.length_map,EVA,seval,Zd,men]
 refine Zn (fun hneg=>?_) (fun hpos=>?_)
 ·refine⟨by rw[Ze];omega,?_⟩
  have hiff:Uu sig b p k ↔ -b.roots<=p:=⟨fun h=>by rcases h with h | h <;> omega,fun h=>.inl (by omega)⟩
  rw[Yi hiff,Yr]
 ·refine Zn (fun hb=>?_) (fun hb=>?_)
  ·obtain⟨q,rfl⟩:∃ q:Nat,p=q:=⟨p.toNat,by omega⟩
   have hq:q<b.nodes.length:=by omega
   have ga:=Wh (c:=ZG) hq
   obtain⟨m1,m2⟩:=hc q (by omega) hq
   obtain⟨m,hm⟩:∃ m:Nat,b.nodes[q].control=m:=⟨b.nodes[q].control.toNat,by omega⟩
   have hms:m<sig.length:=by omega
   have gs:=Wh (c:=Zj) hms
   simp only[hb,ga,gs,ZG,Zj,hm,Int.toNat_natCast,Int.natCast_nonneg,List.length_map,EVA,seval,Zd,men]
   have e:Zie sig (Zif b q)=sig[m].kind_:=by simp [Zie,Zif,hq,hm,hms]
   have hiff:Uu sig b q k ↔ ¬ sig[m].kind_=2:=by
    constructor
    ·intro h
     rcases h with h | h
     ·omega
     ·rw[<-e];exact h.2.2
    ·intro h
     exact .inr ⟨by omega,hb,by rw[e];exact h⟩
   rw[Yi hiff,Yr]
  ·rw[Zk fun h:Uu sig b p k=>by rcases h with h | h <;> omega]
structure nodeOK (sig:List TControl) (b:TBigraph) (x:TNode) (i:Nat):Prop where
 ctl:0<=x.control/\x.control<=(sig.length:Int)-1
 par:Uu sig b x.parent i
 ports:(x.links.length:Int)=Zbi sig x.control
 links:∀ l∈x.links,Jx b l
theorem ZkN(sig:List TControl)(b:TBigraph)(i:Nat)(hi:i<b.nodes.length)(hn:sig.length<=4294967296)(hl:b.nodes[i].links.length<=4294967296)(hp:Wd .i64 b.nodes[i].parent)(hr:0<=b.roots/\b.roots<=4)(he:0<=b.edges/\b.edges<=8)(ho:b.outer.length<=4294967296)(hc:Zig sig b i)(lvl:Nat)(S:Sto):Sem Proofs.Tryz.prog Wx lvl [.tr (.sl (sig.map Zj)),.ag ((Za b).map .tr),iI i] S (iB (dc (nodeOK sig b b.nodes[i] i))) S:=by
 refine Zc ZgA trivial ?_
 have ga:=Wh (c:=ZG) hi
 simp only[ZbQ,Za,List.length_map,ga,ZG,EVA,seval,Zd,men]
 refine⟨by rw[Ze];omega,?_⟩
 refine Zb (Wa b.nodes[i].control 0 ((sig.length:Int)-1)) ?_
 cases h1:inB b.nodes[i].control 0 ((sig.length:Int)-1)
 ·simp only[EVA,seval,Zd,men]
  rw[Zk fun h:nodeOK sig b b.nodes[i] i=>inB_not.1 h1 h.ctl]
 have r1:=inB_iff.1 h1
 simp only[Za,List.length_map,ZG,EVA,seval,Zd,men]
 refine Zb (ZeE sig b b.nodes[i].parent i hp hr (by omega) hc) ?_
 cases h2:dc (Uu sig b b.nodes[i].parent i)
 ·simp only[EVA,seval,Zd,men]
  rw[Zk fun h:nodeOK sig b b.nodes[i] i=>dc_not.1 h2 h.par]
 obtain⟨m,hm⟩:∃ m:Nat,b.nodes[i].control=m:=⟨b.nodes[i].control.toNat,by omega⟩
 have hms:m<sig.length:=by omega
 have gs:=Wh (c:=Zj) hms
 have e:Zbi sig b.nodes[i].control=sig[m].ports:=by simp [Zbi,hm,hms]
 simp only[hm,gs,Zj,Za,List.length_map,ZG,EVA,seval,Zd,men]
 refine Zn (fun hne=>?_) (fun heq=>?_)
 ·rw[Zk fun h:nodeOK sig b b.nodes[i] i=>by have:=h.ports;rw[e] at this;exact hne this]
 refine ZO (α:=Unit) b.nodes[i].links.length (fun j _=>[(8,iI j)]) (fun j _=>[]) (fun j _=>∀ k,k<j->Jx b (g0 b.nodes[i].links k)) () (by simp only[EVA,seval,Zd,men]) (by (simp only[EVA,seval,Zd,men]) <;> rfl) (fun k hk=>absurd hk (Nat.not_lt_zero k)) ?_
 intro j _ hj hA
 simp only[List.length_map,EVA,seval,Zd,men]
 refine Zn (fun hlt=>?_) (fun hge=>?_)
 ·have hja:j<b.nodes[i].links.length:=by omega
  have gl:=Jv hja
  simp only[gl,List.length_map,EVA,seval,Zd,men]
  refine Zb (ZfF b (g0 b.nodes[i].links j) he ho) ?_
  cases hc:dc (Jx b (g0 b.nodes[i].links j))
  ·simp only[EVA,seval,Zd,men]
   rw[Zk fun h:nodeOK sig b b.nodes[i] i=>dc_not.1 hc (h.links _ (by simp [hja]))]
  ·simp only[EVA,seval,Zd,men]
   exact⟨by rw[Ze];omega,Zf () hja rfl (Zm8 hA (dc_iff.1 hc))⟩
 ·have hj1:j=b.nodes[i].links.length:=by omega
  subst hj1
  have:nodeOK sig b b.nodes[i] i:=⟨r1,dc_iff.1 h2,by rw[e];omega,fun l hl=>by
   obtain⟨k,hk,rfl⟩:=List.getElem_of_mem hl
   have:=hA k hk
   simpa [hk] using this⟩
  rw[Z5 this]
def inn(b:TBigraph):List ByteArray:=b.inner.map TWire.name
theorem Zkd(a b:List ByteArray):rS (a++b)=rS a++rS b:=List.map_append
theorem Zbj(b:TBigraph)(hn:b.inner.length<=4294967296)(lvl:Nat)(S:Sto):Sem Proofs.Tryz.prog YN lvl [.ag ((Za b).map .tr)] S (.ow 1 (rS (inn b)) true) S:=by
 refine Zc Zfc trivial ?_
 simp only[Za2,List.length_map,Za,EVA,seval,Zd,men]
 refine ZO (α:=Unit) b.inner.length (fun j _=>[(3,.hd (lvl,160) [] 0 j none j),(4,iI j)]) (fun j _=>[(160,.ar 1 (rS ((inn b).take j)) true j 0)]) (fun _ _=>True) () (by simp only[EVA,seval,Zd,men]) (by (simp only[EVA,seval,Zd,men]) <;> rfl) trivial ?_
 intro j _ hj _
 have hil:(inn b).length=b.inner.length:=by simp [inn]
 simp only[List.length_map,EVA,seval,Zd,men]
 refine Zn (fun hlt=>?_) (fun hge=>?_)
 ·have hja:j<b.inner.length:=by omega
  have ga:=Wh (c:=ZX) hja
  have hlN:(rS ((inn b).take j)).length=j:=by rw[List.length_map,List.length_take];omega
  simp only[ga,ZX,hlN,List.length_map,EVA,seval,Zd,men]
  have hstep:rS ((inn b).take j)++[[ts b.inner[j].name]]=rS ((inn b).take (j+1)):=by
   rw[List.take_succ_eq_append_getElem (by omega),Zkd]
   simp [inn]
  refine⟨by omega,by rw[Ze];omega,Zf () hja ?_ trivial⟩
  rw[<-hstep]
  rfl
 ·have:j=b.inner.length:=by omega
  subst this
  rw[List.take_of_length_le (by omega)]
  exact⟨hil.symm,rfl⟩
end Go.Fd

/-
  A VALID BIGRAPH: THE WHOLE, BOTH SIDES. Own work.
-/
namespace Go.Fd
set_option maxRecDepth 20000
theorem Uv(b:TBigraph)(hn:b.inner.length<=4294967296)(lvl:Nat)(S:Sto):Sem Proofs.Tryz.prog Z3 lvl [.ag ((Za b).map .tr)] S (.ow 1 (rS (inn b)) true) S:=by
 refine Zc Up trivial ?_
 simp only[VT,List.length_map,Za,EVA,seval,Zd,men]
 refine ZO (α:=Unit) b.inner.length (fun j _=>[(3,.hd (lvl,192) [] 0 j none j),(10,iI j)]) (fun j _=>[(192,.ar 1 (rS ((inn b).take j)) true j 0)]) (fun _ _=>True) () (by simp only[EVA,seval,Zd,men]) (by (simp only[EVA,seval,Zd,men]) <;> rfl) trivial ?_
 intro j _ hj _
 have hil:(inn b).length=b.inner.length:=by simp [inn]
 simp only[List.length_map,EVA,seval,Zd,men]
 refine Zn (fun hlt=>?_) (fun hge=>?_)
 ·have hja:j<b.inner.length:=by omega
  have ga:=Wh (c:=ZX) hja
  have hlN:(rS ((inn b).take j)).length=j:=by rw[List.length_map,List.length_take];omega
  simp only[ga,ZX,hlN,List.length_map,EVA,seval,Zd,men]
  have hstep:rS ((inn b).take j)++[[ts b.inner[j].name]]=rS ((inn b).take (j+1)):=by
   rw[List.take_succ_eq_append_getElem (by omega),Zkd]
   simp [inn]
  refine⟨by omega,by rw[Ze];omega,Zf () hja ?_ trivial⟩
  rw[<-hstep]
  rfl
 ·have:j=b.inner.length:=by omega
  subst this
  rw[List.take_of_length_le (by omega)]
  exact⟨hil.symm,rfl⟩
def Zke(sig:List TControl)(b:TBigraph)(i:Nat):Prop:=∀ h:i<b.nodes.length,nodeOK sig b b.nodes[i] i
structure bigOK (sig:List TControl) (b:TBigraph):Prop where
 sg:ZdB sig
 roots:0<=b.roots/\b.roots<=4
 nodesL:b.nodes.length<=8
 sitesL:b.sites.length<=4
 edges:0<=b.edges/\b.edges<=8
 outer:Qc b.outer
 inn:Qc (inn b)
 nodes:∀ i,Zke sig b i
 sites:∀ p∈b.sites,Uu sig b p b.nodes.length
 inner:∀ w∈b.inner,Jx b w.link
theorem ZgM{sig:List TControl}{b:TBigraph}{j:Nat}(h:∀ k,k<j->Zke sig b k):Zig sig b j:=fun i hi hl=>(h i hi hl).ctl
theorem Zbk{b:TBigraph}:(inn b).length=b.inner.length:=by simp [inn]
theorem Zmh{b:TBigraph}{n:Nat}(h:∀ y∈b.inner,W7 n y):∀ y∈inn b,y.size<=n:=fun y hy=>by
 obtain⟨w,hw,rfl⟩:=List.mem_map.1 hy
 exact h w hw
theorem US(sig:List TControl)(b:TBigraph)(hn:sig.length<=4294967296)(hbs:∀ y∈sig,ZC 4294967296 y)(hb:Zw 4294967296 b)(hf:ZR b)(lvl:Nat)(S:Sto):Sem Proofs.Tryz.prog J0 lvl [.tr (.sl (sig.map Zj)),.ag ((Za b).map .tr)] S (iB (dc (bigOK sig b))) S:=by
 obtain⟨b1,b2,b3,b4,b5,b6,b7⟩:=hb
 obtain⟨f1,f2,f3,f4,f5⟩:=hf
 refine Zc Zgy trivial ?_
 simp only[ZbO,List.length_map,Za,EVA,seval,Zd,men]
 refine Zb (Zmc sig (by omega) (fun y hy=>ZeC (hbs y hy))) ?_
 cases h1:dc (ZdB sig)
 ·simp only[EVA,seval,Zd,men]
  rw[Zk fun h:bigOK sig b=>dc_not.1 h1 h.sg]
 simp only[List.length_map,Za,EVA,seval,Zd,men]
 refine Zb (Wa b.roots 0 4) ?_
 cases h2:inB b.roots 0 4
 ·simp only[EVA,seval,Zd,men]
  rw[Zk fun h:bigOK sig b=>inB_not.1 h2 h.roots]
 by_cases h3:(8:Int)<b.nodes.length
 ·simp only[h3,List.length_map,Za,EVA,seval,Zd,men]
  rw[Zk fun h:bigOK sig b=>by have:=h.nodesL;omega]
 by_cases h4:(4:Int)<b.sites.length
 ·simp only[h3,h4,List.length_map,Za,EVA,seval,Zd,men]
  rw[Zk fun h:bigOK sig b=>by have:=h.sitesL;omega]
 simp only[h3,h4,List.length_map,Za,EVA,seval,Zd,men]
 refine Zb (Wa b.edges 0 8) ?_
 cases h5:inB b.edges 0 8
 ·simp only[EVA,seval,Zd,men]
  rw[Zk fun h:bigOK sig b=>inB_not.1 h5 h.edges]
 have r2:=inB_iff.1 h2
 have r5:=inB_iff.1 h5
 simp only[List.length_map,Za,EVA,seval,Zd,men]
 refine Zb (ZeD b.outer (by assumption) (by assumption)) ?_
 cases h6:dc (Qc b.outer)
 ·simp only[EVA,seval,Zd,men]
  rw[Zk fun h:bigOK sig b=>dc_not.1 h6 h.outer]
 by_cases h7:(16:Int)<b.inner.length
 ·simp only[h7,List.length_map,Za,EVA,seval,Zd,men]
  rw[Zk fun h:bigOK sig b=>by have:=h.inn.2;rw[Zbk] at this;omega]
 simp only[h7,List.length_map,Za,EVA,seval,Zd,men]
 refine Zb (Zbj b (by omega)) ?_
 simp only[List.length_map,Za,EVA,seval,Zd,men]
 refine Zb (ZeD (inn b) (by rw[Zbk];omega) (Zmh (by assumption))) ?_
 cases h8:dc (Qc (inn b))
 ·simp only[EVA,seval,Zd,men]
  rw[Zk fun h:bigOK sig b=>dc_not.1 h8 h.inn]
 simp only[List.length_map,Za,EVA,seval,Zd,men]
 have ho:=(dc_iff.1 h6).2
 refine ZO (α:=Unit) b.nodes.length (fun j _=>[(5,iI j)]) (fun j _=>[]) (fun j _=>∀ k,k<j->Zke sig b k) () (by simp only[EVA,seval,Zd,men]) (by (simp only[EVA,seval,Zd,men]) <;> rfl) (fun k hk=>absurd hk (Nat.not_lt_zero k)) ?_
 intro j _ hj hA
 simp only[List.length_map,Za,EVA,seval,Zd,men]
 refine Zn (fun hlt=>?_) (fun hge=>?_)
 ·have hja:j<b.nodes.length:=by omega
  have hm:=List.getElem_mem hja
  refine Zb (ZkN sig b j hja hn (by first | exact(b2 _ hm) | exact(b3 _ hm)) (by first | exact(f1 _ hm).2.1 | exact(f2 _ hm).2.1) r2 r5 (by omega) (ZgM hA)) ?_
  cases hc:dc (nodeOK sig b b.nodes[j] j)
  ·simp only[EVA,seval,Zd,men]
   rw[Zk fun h:bigOK sig b=>dc_not.1 hc (h.nodes j hja)]
  ·simp only[EVA,seval,Zd,men]
   exact⟨by rw[Ze];omega,Zf () hja rfl (Zm8 hA fun _=>dc_iff.1 hc)⟩
 have hj1:j=b.nodes.length:=by omega
 subst hj1
 refine ZO (α:=Unit) b.sites.length (fun j _=>[(6,iI j)]) (fun j _=>[]) (fun j _=>∀ k,k<j->Uu sig b (g0 b.sites k) b.nodes.length) () (by simp only[EVA,seval,Zd,men]) (by (simp only[EVA,seval,Zd,men]) <;> rfl) (fun k hk=>absurd hk (Nat.not_lt_zero k)) ?_
 intro j _ hj hB
 simp only[List.length_map,Za,EVA,seval,Zd,men]
 refine Zn (fun hlt=>?_) (fun hge=>?_)
 ·have hja:j<b.sites.length:=by omega
  have ga:=Jv hja
  have hg:g0 b.sites j∈b.sites:=by simp [hja]
  simp only[ga,List.length_map,Za,EVA,seval,Zd,men]
  refine Zb (ZeE sig b (g0 b.sites j) b.nodes.length (by first | exact f3 _ hg | exact f2 _ hg | exact f4 _ hg) r2 (Nat.le_refl _) (ZgM hA)) ?_
  cases hc:dc (Uu sig b (g0 b.sites j) b.nodes.length)
  ·simp only[EVA,seval,Zd,men]
   rw[Zk fun h:bigOK sig b=>dc_not.1 hc (h.sites _ hg)]
  ·simp only[EVA,seval,Zd,men]
   exact⟨by rw[Ze];omega,Zf () hja rfl (Zm8 hB (dc_iff.1 hc))⟩
 have hj1:j=b.sites.length:=by omega
 subst hj1
 refine ZO (α:=Unit) b.inner.length (fun j _=>[(7,iI j)]) (fun j _=>[]) (fun j _=>∀ k,k<j->∀ h:k<b.inner.length,Jx b b.inner[k].link) () (by simp only[EVA,seval,Zd,men]) (by (simp only[EVA,seval,Zd,men]) <;> rfl) (fun k hk=>absurd hk (Nat.not_lt_zero k)) ?_
 intro j _ hj hC
 simp only[List.length_map,Za,EVA,seval,Zd,men]
 refine Zn (fun hlt=>?_) (fun hge=>?_)
 ·have hja:j<b.inner.length:=by omega
  have ga:=Wh (c:=ZX) hja
  simp only[ga,ZX,List.length_map,Za,EVA,seval,Zd,men]
  refine Zb (ZfF b b.inner[j].link r5 (by omega)) ?_
  cases hc:dc (Jx b b.inner[j].link)
  ·simp only[EVA,seval,Zd,men]
   rw[Zk fun h:bigOK sig b=>dc_not.1 hc (h.inner _ (List.getElem_mem hja))]
  ·simp only[EVA,seval,Zd,men]
   exact⟨by rw[Ze];omega,Zf () hja rfl (Zm8 hC fun _=>dc_iff.1 hc)⟩
 have hj1:j=b.inner.length:=by omega
 subst hj1
 have:bigOK sig b:=⟨dc_iff.1 h1,r2,by omega,by omega,r5,dc_iff.1 h6,dc_iff.1 h8,fun i h=>hA i h h,fun p hp=>by
  obtain⟨k,hk,rfl⟩:=List.getElem_of_mem hp
  have:=hB k hk
  simpa [hk] using this,fun w hw=>by
  obtain⟨k,hk,rfl⟩:=List.getElem_of_mem hw
  exact hC k hk hk⟩
 rw[Z5 this]
theorem ZeF(l:Int)(b:TBigraph)(he:0<=b.edges/\b.edges<=8)(ho:b.outer.length<=4294967296)(lvl:Nat)(S:Sto):Sem Proofs.Tryz.prog VC lvl [iI l,.ta (Za b)] S (iB (!dc (Jx b l))) S:=by
 refine Zc ZbW trivial ?_
 simp only[W9,Za,EVA,seval,Zd,men]
 refine Zb (ZfG b l he ho) ?_
 simp only[EVA,seval,Zd,men]
theorem ZeG(p:Int)(sig:List TControl)(b:TBigraph)(hr:0<=b.roots/\b.roots<=4)(hc:Zig sig b b.nodes.length)(lvl:Nat)(S:Sto):Sem Proofs.Tryz.prog VD lvl [iI p,.ta (Za b),.ta [Tr.sl (sig.map Zj)]] S (iB (!dc (Uu sig b p b.nodes.length))) S:=by
 refine Zc ZbX trivial ?_
 simp only[Ua,Za,List.length_map,EVA,seval,Zd,men]
 refine Zb (Zdr sig b p b.nodes.length hr (Nat.le_refl _) hc) ?_
 simp only[EVA,seval,Zd,men]
theorem ZeH(w:TWire)(b:TBigraph)(he:0<=b.edges/\b.edges<=8)(ho:b.outer.length<=4294967296)(lvl:Nat)(S:Sto):Sem Proofs.Tryz.prog VE lvl [.ag ((ZX w).map .tr),.ta (Za b)] S (iB (!dc (Jx b w.link))) S:=by
 refine Zc ZbY trivial ?_
 simp only[Ub,Za,ZX,EVA,seval,Zd,men]
 refine Zb (ZfG b w.link he ho) ?_
 simp only[EVA,seval,Zd,men]
theorem Zud:ZT Proofs.Tryz.prog JC (ZnY 2 (some 2))=true:=by kernel_rfl
theorem Zue:ZT Proofs.Tryz.prog Jq (ZqI JC)=true:=by kernel_rfl
theorem any_no{α:Type}{l:List α}{p:α->Prop}:(l.any fun n=>!dc (p n))=false↔∀ n∈l,p n:=by
 simp only[List.any_eq_false,Bool.not_eq_true',Bool.not_eq_false,dc_iff]
theorem Yc(sig:List TControl)(b:TBigraph)(hn:sig.length<=4294967296)(hbs:∀ y∈sig,ZC 4294967296 y)(hb:Zw 4294967296 b)(lvl:Nat)(S:Sto):Sem Proofs.Tryz.prog Jo lvl [.tr (.sl (sig.map Zj)),.ag ((Za b).map .tr)] S (iB (dc (bigOK sig b))) S:=by
 obtain⟨b1,b2,b3,b4,b5,b6,b7⟩:=hb
 refine Zc Zdx trivial ?_
 simp only[Dw,List.length_map,Za,EVA,seval,Zd,men]
 refine Zb (ZaV sig (by omega) (fun y hy=>ZeC (hbs y hy))) ?_
 cases h1:dc (ZdB sig)
 ·simp only[EVA,seval,Zd,men]
  rw[Zk fun h:bigOK sig b=>dc_not.1 h1 h.sg]
 simp only[List.length_map,Za,EVA,seval,Zd,men]
 refine Zb (Qh b.roots 0 4) ?_
 cases h2:inB b.roots 0 4
 ·simp only[EVA,seval,Zd,men]
  rw[Zk fun h:bigOK sig b=>inB_not.1 h2 h.roots]
 by_cases h3:(8:Int)<b.nodes.length
 ·simp only[h3,List.length_map,Za,EVA,seval,Zd,men]
  rw[Zk fun h:bigOK sig b=>by have:=h.nodesL;omega]
 by_cases h4:(4:Int)<b.sites.length
 ·simp only[h3,h4,List.length_map,Za,EVA,seval,Zd,men]
  rw[Zk fun h:bigOK sig b=>by have:=h.sitesL;omega]
 simp only[h3,h4,List.length_map,Za,EVA,seval,Zd,men]
 refine Zb (Qh b.edges 0 8) ?_
 cases h5:inB b.edges 0 8
 ·simp only[EVA,seval,Zd,men]
  rw[Zk fun h:bigOK sig b=>inB_not.1 h5 h.edges]
 have r2:=inB_iff.1 h2
 have r5:=inB_iff.1 h5
 simp only[List.length_map,Za,EVA,seval,Zd,men]
 refine Zb (Zdq b.outer (by assumption) (by assumption)) ?_
 cases h6:dc (Qc b.outer)
 ·simp only[EVA,seval,Zd,men]
  rw[Zk fun h:bigOK sig b=>dc_not.1 h6 h.outer]
 simp only[List.length_map,Za,EVA,seval,Zd,men]
 refine Zb (Uv b (by omega)) ?_
 simp only[List.length_map,Za,EVA,seval,Zd,men]
 refine Zb (Zdq (inn b) (by rw[Zbk];omega) (Zmh (by assumption))) ?_
 cases h8:dc (Qc (inn b))
 ·simp only[EVA,seval,Zd,men]
  rw[Zk fun h:bigOK sig b=>dc_not.1 h8 h.inn]
 simp only[List.length_map,Za,EVA,seval,Zd,men]
 have ho:=(dc_iff.1 h6).2
 refine ZO (α:=Unit) b.nodes.length (fun j _=>[(49,iI j)]) (fun j _=>[]) (fun j _=>∀ k,k<j->Zke sig b k) () (by simp only[EVA,seval,Zd,men]) (by (simp only[EVA,seval,Zd,men]) <;> rfl) (fun k hk=>absurd hk (Nat.not_lt_zero k)) ?_
 intro j _ hj hA
 simp only[List.length_map,Za,EVA,seval,Zd,men]
 refine Zn (fun hlt=>?_) (fun hge=>?_)
 ·have hja:j<b.nodes.length:=by omega
  have hm:=List.getElem_mem hja
  have ga:=Wh (c:=ZG) hja
  have hll:b.nodes[j].links.length<=4294967296:=by first | exact(b2 _ hm) | exact(b3 _ hm)
  have hno:¬ nodeOK sig b b.nodes[j] j->dc (bigOK sig b)=false:=fun h=>Zk fun g=>h (g.nodes j hja)
  simp only[ga,ZG,List.length_map,Za,EVA,seval,Zd,men]
  refine⟨by rw[Ze];omega,?_⟩
  refine Zb (Qh b.nodes[j].control 0 ((sig.length:Int)-1)) ?_
  cases p1:inB b.nodes[j].control 0 ((sig.length:Int)-1)
  ·simp only[EVA,seval,Zd,men]
   rw[hno fun h=>inB_not.1 p1 h.ctl]
  have q1:=inB_iff.1 p1
  simp only[ZG,List.length_map,Za,EVA,seval,Zd,men]
  refine Zb (Zdr sig b b.nodes[j].parent j r2 (by omega) (ZgM hA)) ?_
  cases p2:dc (Uu sig b b.nodes[j].parent j)
  ·simp only[EVA,seval,Zd,men]
   rw[hno fun h=>dc_not.1 p2 h.par]
  obtain⟨m,hmm⟩:∃ m:Nat,b.nodes[j].control=m:=⟨b.nodes[j].control.toNat,by omega⟩
  have hms:m<sig.length:=by omega
  have gs:=Wh (c:=Zj) hms
  have e:Zbi sig b.nodes[j].control=sig[m].ports:=by simp [Zbi,hmm,hms]
  by_cases p3:(b.nodes[j].links.length:Int)=sig[m].ports
  case neg =>
   simp only[p3,hmm,gs,Int.toNat_natCast,Int.natCast_nonneg,Zj,ZG,List.length_map,Za,EVA,seval,Zd,men]
   rw[hno fun h=>p3 (by rw[<-e];exact h.ports)]
  simp only[p3,hmm,gs,Int.toNat_natCast,Int.natCast_nonneg,Zj,ZG,List.length_map,Za,EVA,seval,Zd,men]
  refine Zb (Zka (t:=tv) (cs:=[Za b]) Zo8 Zo7 b.nodes[j].links (by omega) (fun x _ lvl S=>ZeF x b r5 (by omega) lvl S)) ?_
  cases p4:b.nodes[j].links.any fun l=>!dc (Jx b l)
  ·simp only[EVA,seval,Zd,men]
   exact⟨by rw[Ze];omega,Zf () hja rfl (Zm8 hA fun _=>⟨q1,dc_iff.1 p2,by rw[e];exact p3,any_no.1 p4⟩)⟩
  ·simp only[EVA,seval,Zd,men]
   rw[hno fun h=>by rw[any_no.2 h.links] at p4;cases p4]
 have hj1:j=b.nodes.length:=by omega
 subst hj1
 refine Zb (Zka (t:=tv) (cs:=[Za b,[Tr.sl (sig.map Zj)]]) Zo8 Zo7 b.sites (by omega) (fun x _ lvl S=>ZeG x sig b r2 (ZgM hA) lvl S)) ?_
 cases h9:b.sites.any fun p=>!dc (Uu sig b p b.nodes.length)
 case true =>
  simp only[EVA,seval,Zd,men]
  rw[Zk fun h:bigOK sig b=>by rw[any_no.2 h.sites] at h9;cases h9]
 simp only[List.length_map,Za,EVA,seval,Zd,men]
 refine Zb (Zkb (cs:=[Za b]) Zue Zud (fun x=>rfl) b.inner (by omega) (fun x _ lvl S=>ZeH x b r5 (by omega) lvl S)) ?_
 cases h10:b.inner.any fun w=>!dc (Jx b w.link)
 case true =>
  simp only[EVA,seval,Zd,men]
  rw[Zk fun h:bigOK sig b=>by rw[(any_no (p:=fun w:TWire=>Jx b w.link)).2 h.inner] at h10;cases h10]
 simp only[EVA,seval,Zd,men]
 have:bigOK sig b:=⟨dc_iff.1 h1,r2,by omega,by omega,r5,dc_iff.1 h6,dc_iff.1 h8,fun i h=>hA i h h,any_no.1 h9,any_no.1 h10⟩
 rw[Z5 this]
end Go.Fd

/-
  LISTS IN ORDER, OF ANY KIND: SORTED, EACH ONCE; CALLS THAT CHANGE ONE OBJECT. Own work.
-/
namespace Go.Fd
set_option maxRecDepth 20000
def cz{α:Type}[DecidableEq α](g:Nat->α):Nat->List α
 | 0=>[]
 | m+1=>cz g m++if m≠0/\g m=g (m-1) then [] else [g m]
theorem Zuf{α:Type}[DecidableEq α](g:Nat->α):∀ m,(cz g m).length<=m
 | 0=>Nat.le_refl _
 | m+1=>by
  have:=Zuf g m
  simp only[cz,List.length_append]
  split <;> simp <;> omega
theorem ZqO{α:Type}[DecidableEq α]{g:Nat->α}{m:Nat}(h0:m≠0)(h:g m=g (m-1)):cz g (m+1)=cz g m:=by
 rw[cz,if_pos ⟨h0,h⟩,List.append_nil]
theorem ZyB{α:Type}[DecidableEq α]{g:Nat->α}{m:Nat}(h:g m≠g (m-1)):cz g (m+1)=cz g m++[g m]:=by
 rw[cz,if_neg (fun e=>h e.2)]
theorem ZgN{α:Type}{y:List α}{i:Nat}{v:α}(h:i<y.length):(y.set i v).take (i+1)=y.take i++[v]:=by
 rw[List.take_succ_eq_append_getElem (by rw[List.length_set];exact h),List.getElem_set_self,List.take_set_of_le (Nat.le_refl i)]
theorem ZyC{lvl:Nat}{S:Sto}{id:Oid}{k hw ver:Nat}{es:Row}{u:Bool}(hne:id.1≠lvl)(hS:S id=some (.ar k es u hw ver)):wid (Zy lvl [] S) id [] k:=by
 unfold wid
 rw[ZD hne,hS]
theorem ZcU{C:Zo}{env:List (Nat×IV)}{loc:List (Nat×Ob)}{out:Sto}{d:Option Nat}{K:St->Prop}{fid:FuncId}{imp:Bool}{lvl:Nat}{args:List IV}{r:IV}(key:Nat)(o:Ob)(h:C fid (lvl+1) args (Zy lvl loc out) r (ZK (Zy lvl loc out) (lvl,key) o))
  (hk:freshK (keyOf d) (ptO key o loc) (impv imp lvl (keyOf d) 0 r).2.length/\K ⟨lvl,ptd d (impv imp lvl (keyOf d) 0 r).1 env,addO (keyOf d) (impv imp lvl (keyOf d) 0 r).2 (ptO key o loc),out⟩):kcy C fid imp lvl env loc out d K args :=
 YK (ptO key o loc) out (fun _ _=>rfl) (by rw[VN];exact h) hk
theorem Zn6{C:Zo}{env:List (Nat×IV)}{loc:List (Nat×Ob)}{out:Sto}{d:Option Nat}{K:St->Prop}{fid:FuncId}{imp:Bool}{lvl:Nat}{args:List IV}{r:IV}(key:Nat)(o:Nat->Ob)(h:∃ v,C fid (lvl+1) args (Zy lvl loc out) r (ZK (Zy lvl loc out) (lvl,key) (o v)))
  (hk:∀ v,freshK (keyOf d) (ptO key (o v) loc) (impv imp lvl (keyOf d) 0 r).2.length/\K ⟨lvl,ptd d (impv imp lvl (keyOf d) 0 r).1 env,addO (keyOf d) (impv imp lvl (keyOf d) 0 r).2 (ptO key (o v) loc),out⟩):kcy C fid imp lvl env loc out d K args:=by
 obtain⟨v,h⟩:=h
 exact ZcU key (o v) h (hk v)
section
variable {α:Type} {e0:α} {lt:α->α->Prop}
def gx(e0:α)(l:List α)(i:Nat):α:=l.getD i e0
theorem ZdC{l:List α}{i:Nat}(h:i<l.length):gx e0 l i=l[i]:=by
 unfold gx
 rw[List.getD_eq_getElem?_getD,List.getElem?_eq_getElem h]
 rfl
def ZgO(e0:α)(lt:α->α->Prop)(x:List α)(i:Nat):Prop:=∀ p q,p<q->q<i -> ¬ lt (gx e0 x q) (gx e0 x p)
def Zih(e0:α)(lt:α->α->Prop)(x:List α)(i j:Nat):Prop:=(∀ p q,p<q->q<=i->p≠j->q≠j -> ¬ lt (gx e0 x q) (gx e0 x p))/\∀ q,j<q->q<=i -> ¬ lt (gx e0 x q) (gx e0 x j)
def Zrq(e0:α)(x:List α)(j:Nat):List α:=(x.set j (gx e0 x (j-1))).set (j-1) (gx e0 x j)
theorem Zmi{y:List α}{a b:Nat}{v:α}(h:a<y.length):gx e0 (y.set a v) b=if a=b then v else gx e0 y b:=by
 show (y.set a v).getD b e0=if a=b then v else y.getD b e0
 rw[List.getD_eq_getElem?_getD,List.getElem?_set,List.getD_eq_getElem?_getD]
 by_cases e:a=b
 ·rw[if_pos e,if_pos e,if_pos (by omega)];rfl
 ·rw[if_neg e,if_neg e]
theorem Zji{y:List α}{i:Nat}(h:Zih e0 lt y i 0):ZgO e0 lt y (i+1):=fun p q h1 h2=>by
 by_cases e:p=0
 ·subst e;exact h.2 q h1 (by omega)
 ·exact h.1 p q h1 (by omega) e (by omega)
theorem Zjj(tr:∀ a b c,¬ lt b a -> ¬ lt c b -> ¬ lt c a){y:List α}{i j:Nat}(h:Zih e0 lt y i j)(hj:0<j)(hji:j<=i)(hle:¬ lt (gx e0 y j) (gx e0 y (j-1))):ZgO e0 lt y (i+1):=fun p q h1 h2=>by
 by_cases e:p=j
 ·subst e;exact h.2 q h1 (by omega)
 ·by_cases e2:q=j
  ·subst e2
   by_cases e3:p=q-1
   ·subst e3;exact hle
   ·exact tr _ _ _ (h.1 p (q-1) (by omega) (by omega) e (by omega)) hle
  ·exact h.1 p q h1 (by omega) e e2
theorem ZkO(asym:∀ a b,lt a b -> ¬ lt b a){y:List α}{i j:Nat}(h:Zih e0 lt y i j)(hj:0<j)(hji:j<=i)(hi:i<y.length)(hlt:lt (gx e0 y j) (gx e0 y (j-1))):Zih e0 lt (Zrq e0 y j) i (j-1):=by
 have e:∀ b,gx e0 (Zrq e0 y j) b=if j-1=b then gx e0 y j else if j=b then gx e0 y (j-1) else gx e0 y b:=fun b=>by
  unfold Zrq
  rw[Zmi (by rw[List.length_set];omega),Zmi (by omega)]
 refine⟨fun p q h1 h2 h3 h4=>?_,fun q h1 h2=>?_⟩
 ·rw[e p,e q,if_neg (show ¬ j-1=p from fun g=>h3 g.symm),if_neg (show ¬ j-1=q from fun g=>h4 g.symm)]
  by_cases ep:j=p
  ·rw[if_pos ep,if_neg (show ¬ j=q by omega)]
   exact h.1 (j-1) q (by omega) h2 (by omega) (by omega)
  ·rw[if_neg ep]
   by_cases eq:j=q
   ·rw[if_pos eq]
    exact h.1 p (j-1) (by omega) (by omega) (by omega) (by omega)
   ·rw[if_neg eq]
    exact h.1 p q h1 h2 (fun g=>ep g.symm) (fun g=>eq g.symm)
 ·rw[e (j-1),e q,if_pos rfl,if_neg (show ¬ j-1=q by omega)]
  by_cases eq:j=q
  ·rw[if_pos eq];exact asym _ _ hlt
  ·rw[if_neg eq]
   exact h.2 q (by omega) h2
theorem Zmj{y:List α}{j:Nat}(hj:0<j)(hi:j<y.length):(Zrq e0 y j).Perm y:=by
 have h:=@List.set_set_perm _ y j (j-1) hi (by omega)
 unfold Zrq
 rw[ZdC hi,ZdC (by omega)]
 exact h
theorem Zli{γ:Type}{c:α->γ}{l:List α}{i:Nat}(h:i<l.length):(l.map c)[i]? = some (c (gx e0 l i)):=by
 rw[ZdC h];simp [h]
end
theorem ZgP{α:Type}[DecidableEq α]{e0:α}{l:List α}:∀{n:Nat},n<=l.length->(∀ m,0<m->m<n->gx e0 l m≠gx e0 l (m-1))->cz (gx e0 l) n=l.take n
 | 0,_,_=>by simp [cz]
 | n+1,hn,h=>by
  have ih:=ZgP (n:=n) (by omega) fun m h0 h1=>h m h0 (by omega)
  have hx:cz (gx e0 l) (n+1)=cz (gx e0 l) n++[gx e0 l n]:=by
   rw[cz,if_neg (fun e=>h n (by omega) (by omega) e.2)]
  rw[hx,ih,List.take_succ_eq_append_getElem (by omega)]
  rw[ZdC (by omega)]
structure Ords {α:Type} (lt:α->α->Prop):Prop where
 irr:∀ a,¬ lt a a
 tr:∀ a b c,lt a b->lt b c->lt a c
 tri:∀ a b,lt a b\/a=b\/lt b a
theorem Ords.asym{α:Type}{lt:α->α->Prop}(O:Ords lt)(a b:α)(h:lt a b):¬ lt b a:=fun g=>O.irr a (O.tr _ _ _ h g)
section
variable {α:Type} {e0:α} {lt:α->α->Prop}
theorem Zii(O:Ords lt):∀{x y:List α},x.Pairwise lt->y.Pairwise lt->(∀ c,c∈x↔c∈y)->x=y
 | [],[],_,_,_=>rfl
 | [],b::s,_,_,h=>by have:=(h b).2 (by simp);simp at this
 | a::r,[],_,_,h=>by have:=(h a).1 (by simp);simp at this
 | a::r,b::s,hx,hy,h=>by
  rw[List.pairwise_cons] at hx hy
  have e:a=b:=by
   rcases List.mem_cons.1 ((h a).1 (by simp)) with e | h1
   ·exact e
   ·rcases List.mem_cons.1 ((h b).2 (by simp)) with e | h2
    ·exact e.symm
    ·exact absurd (hy.1 a h1) (O.asym _ _ (hx.1 b h2))
  subst e
  congr 1
  refine Zii O hx.2 hy.2 fun c=>⟨fun hc=>?_,fun hc=>?_⟩
  ·rcases List.mem_cons.1 ((h c).1 (by simp [hc])) with e | h1
   ·subst e;exact absurd (hx.1 c hc) (O.irr c)
   ·exact h1
  ·rcases List.mem_cons.1 ((h c).2 (by simp [hc])) with e | h1
   ·subst e;exact absurd (hy.1 c hc) (O.irr c)
   ·exact h1
theorem ZcV(O:Ords lt):∀{x y:List α},x.Pairwise (fun a b=>¬ lt b a)->y.Pairwise (fun a b=>¬ lt b a)->x.Perm y->x=y
 | [],y,_,_,h=>by rw[List.nil_perm.1 h]
 | a::r,[],_,_,h=>by have:=h.length_eq;simp at this
 | a::r,b::s,hx,hy,h=>by
  rw[List.pairwise_cons] at hx hy
  have e:a=b:=by
   rcases List.mem_cons.1 (h.mem_iff.1 (List.mem_cons_self (a:=a) (l:=r))) with e | h1
   ·exact e
   ·rcases List.mem_cons.1 (h.mem_iff.2 (List.mem_cons_self (a:=b) (l:=s))) with e | h2
    ·exact e.symm
    ·rcases O.tri a b with g | g | g
     ·exact absurd g (hy.1 a h1)
     ·exact g
     ·exact absurd g (hx.1 b h2)
  subst e
  congr 1
  exact ZcV O hx.2 hy.2 h.cons_inv
theorem Zn7{x:List α}(h:ZgO e0 lt x x.length):x.Pairwise (fun a b=>¬ lt b a):=List.pairwise_iff_getElem.2 fun i j hi hj hij=>by
 have:=h i j hij hj
 rwa [ZdC hi,ZdC hj] at this
noncomputable def Zhr(lt:α->α->Prop)(l:List α):List α:=l.mergeSort fun a b=>@decide (¬ lt b a) (Classical.propDecidable _)
theorem srtG_perm{l:List α}:(Zhr lt l).Perm l:=List.mergeSort_perm ..
theorem ZcW(O:Ords lt){l:List α}:(Zhr lt l).Pairwise (fun a b=>¬ lt b a):=by
 classical
 have h:=List.pairwise_mergeSort (le:=fun a b=>@decide (¬ lt b a) (Classical.propDecidable _)) (fun a b c h1 h2=>by
  simp only[decide_eq_true_eq] at *
  intro g
  rcases O.tri a b with k | k | k
  ·exact h2 (O.tr _ _ _ g k)
  ·subst k;exact h2 g
  ·exact h1 k) (fun a b=>by
  simp only[Bool.or_eq_true,decide_eq_true_eq]
  by_cases g:lt b a
  ·exact .inr (O.asym _ _ g)
  ·exact .inl g) l
 exact h.imp (fun h=>by simpa using h)
theorem Zn8(O:Ords lt){l x:List α}(hp:x.Perm l)(hu:ZgO e0 lt x l.length):x=Zhr lt l:=by
 rw[<-hp.length_eq] at hu
 exact ZcV O (Zn7 hu) (ZcW O) (hp.trans srtG_perm.symm)
theorem cz_mem[DecidableEq α]{g:Nat->α}{c:α}:∀{n:Nat},c∈cz g n↔∃ i,i<n/\g i=c
 | 0=>by simp [cz]
 | n+1=>by
  rw[cz,List.mem_append,cz_mem (n:=n)]
  constructor
  ·rintro(⟨i,h1,h2⟩ | h)
   ·exact⟨i,by omega,h2⟩
   ·split at h
    ·cases h
    ·exact⟨n,by omega,(List.mem_singleton.1 h).symm⟩
  ·rintro⟨i,h1,h2⟩
   by_cases e:i=n
   ·subst e
    by_cases k:i≠0/\g i=g (i-1)
    ·exact .inl ⟨i-1,by omega,k.2.symm.trans h2⟩
    ·rw[if_neg k];exact .inr (by simp [h2])
   ·exact .inl ⟨i,by omega,h2⟩
theorem Zug(O:Ords lt)[DecidableEq α]{g:Nat->α}:∀{n:Nat},(∀ i j,i<j->j<n -> ¬ lt (g j) (g i))->(cz g n).Pairwise lt
 | 0,_=>by simp [cz]
 | n+1,h=>by
  have ih:=Zug O (n:=n) fun i j h1 h2=>h i j h1 (by omega)
  by_cases k:n≠0/\g n=g (n-1)
  ·rw[ZqO k.1 k.2];exact ih
  ·have hx:cz g (n+1)=cz g n++[g n]:=by rw[cz,if_neg k]
   rw[hx,List.pairwise_append]
   refine⟨ih,by simp,fun c hc d hd=>?_⟩
   rw[List.mem_singleton] at hd
   subst hd
   obtain⟨i,h1,rfl⟩:=cz_mem.1 hc
   have hn0:n≠0:=by omega
   rcases O.tri (g i) (g n) with e | e | e
   ·exact e
   ·exfalso
    have e1:¬ lt (g n) (g (n-1)):=h (n-1) n (by omega) (by omega)
    have e2:¬ lt (g (n-1)) (g i):=by
     by_cases q:i=n-1
     ·subst q;exact O.irr _
     ·exact h i (n-1) (by omega) (by omega)
    rw[e] at e2
    rcases O.tri (g n) (g (n-1)) with q | q | q
    ·exact e1 q
    ·exact k ⟨hn0,q⟩
    ·exact e2 q
   ·exact absurd e (h i n h1 (by omega))
noncomputable def Zrr[DecidableEq α](e0:α)(lt:α->α->Prop)(l:List α):List α:=cz (gx e0 (Zhr lt l)) (Zhr lt l).length
theorem ZqP(O:Ords lt)[DecidableEq α]{l:List α}:(Zrr e0 lt l).Pairwise lt:=Zug O fun i j h1 h2=>by
 rw[ZdC h2,ZdC (Nat.lt_trans h1 h2)]
 exact List.pairwise_iff_getElem.1 (ZcW O) i j _ _ h1
theorem setG_mem[DecidableEq α]{l:List α}{c:α}:c∈Zrr e0 lt l↔c∈l:=by
 unfold Zrr
 rw[cz_mem,<-(srtG_perm (lt:=lt) (l:=l)).mem_iff]
 constructor
 ·rintro⟨i,h1,h2⟩
  rw[ZdC h1] at h2
  rw[<-h2];exact List.getElem_mem h1
 ·intro h
  obtain⟨i,h1,h2⟩:=List.getElem_of_mem h
  exact⟨i,h1,by rw[ZdC h1];exact h2⟩
theorem ZqQ(O:Ords lt)[DecidableEq α]{l y:List α}(hy:y.Pairwise lt)(h:∀ c,c∈l↔c∈y):Zrr e0 lt l=y:=Zii O (ZqP O) hy fun c=>setG_mem.trans (h c)
theorem ZqR[DecidableEq α]{l:List α}:(Zrr e0 lt l).length<=l.length:=Nat.le_trans (Zuf _ _) (Nat.le_of_eq srtG_perm.length_eq)
end
end Go.Fd
