/-
  The annotated codes of the functions, printed by a program of mine (gen.py), and the check that they belong to the program.
-/
import Derived.Test.YtdbgdhmmdhbjbaaGreatDoorT04
import Derived.KernelRfl
import Derived.Shelf.Sort.AssemblysIn
import Derived.Shelf.Strings.SlTrimAscii
import Derived.Test.YtdbgdhmmdhbjbaaGreatDoorProg
set_option linter.all false
namespace Go.Fd
def Xj:F2 :=
 { nt:=34,res:=[.c 8 (some 6) [0,4,2,0,2,3],.t 9 [0]],body:=(.sq (rg [oo 5 (.bt (.t 1)),oo 6 (.bt (.t 2)),oo 7 (.bt (.t 3)),oo 8 (.al [.int .i64 0,.slice none 0 0,.slice none 0 0,.int .i64 0,.slice none 0 0,.slice none 0 0] []),om 9 (.k (.bool false))]) (.sq (.sq (rg [qM 10 0,qS 11 6 5,oo 12 (.ca .pure false (.f Xx) [.t 10,.t 11]),oo 13 (.nt (.t 12)),qM 14 13,og 15 14 false (.mv (.t 0) none),og 16 14 false (.ld (some 6) (.t 6)),og 17 14 false (.ca .pure false (.f Jh) [.t 15,.t 16]),og 18 14 false (.nt (.t 17)),oo 19 (.pk (.t 14) (.k (.bool true)) (.t 18)),qM 20 19,og 21 20 false (.mv (.t 0) none),og 22 20 false (.ld (some 6) (.t 7)),og 23 20 false (.ca .pure false (.f Jh) [.t 21,.t 22]),og 24 20 false (.nt (.t 23)),oo 25 (.pk (.t 20) (.k (.bool true)) (.t 24))]) (.cd (.t 25) (.sq (rg [oo 26 (.bd [.int .i64 0,.slice none 0 0,.slice none 0 0,.int .i64 0,.slice none 0 0,.slice none 0 0] [] []),on1 (.st 6 (.t 8) (.t 26)),om 9 (.k (.bool false))]) (.rt)) (.sk))) (.sq (rg [qM 27 0,qS 28 6 5,qS 29 6 6,qS 30 6 7,oo 31 (.ca .pure true (.f Q1) [.t 27,.t 28,.t 29,.t 30]),qE 32 0 31,qE 33 1 31,on1 (.st 6 (.t 8) (.t 32)),qM 9 33]) (.rt)))) }
theorem Dy:ZP Proofs.Tryz.prog Jq Xj=true:=by kernel_rfl
def Xk:F2 :=
 { nt:=35,res:=[.c 8 (some 6) [0,4,2,0,2,3],.t 9 [0]],body:=(.sq (rg [oo 5 (.bt (.t 1)),oo 6 (.bt (.t 2)),oo 7 (.bt (.t 3)),oo 8 (.al [.int .i64 0,.slice none 0 0,.slice none 0 0,.int .i64 0,.slice none 0 0,.slice none 0 0] []),om 9 (.k (.bool false))]) (.sq (.sq (rg [qM 10 0,qS 11 6 5,oo 12 (.ca .pure false (.f ZT) [.t 10,.t 11]),oo 13 (.nt (.t 12)),qM 14 13,og 15 14 false (.ld (some 6) (.t 5)),og 16 14 false (.ca .pure false (.f XA) [.t 15]),og 17 14 false (.nt (.t 16)),oo 18 (.pk (.t 14) (.k (.bool true)) (.t 17)),qM 19 18,og 20 19 false (.mv (.t 0) none),og 21 19 false (.ld (some 6) (.t 6)),og 22 19 false (.ld (some 6) (.t 7)),og 23 19 false (.ca .pure false (.f Wd) [.t 20,.t 21,.t 22]),og 24 19 false (.nt (.t 23)),oo 25 (.pk (.t 19) (.k (.bool true)) (.t 24))]) (.cd (.t 25) (.sq (rg [oo 26 (.bd [.int .i64 0,.slice none 0 0,.slice none 0 0,.int .i64 0,.slice none 0 0,.slice none 0 0] [] []),on1 (.st 6 (.t 8) (.t 26)),om 9 (.k (.bool false))]) (.rt)) (.sk))) (.sq (rg [qM 27 0,qS 28 6 6,qS 29 6 5,qS 30 6 5,qS 31 6 7,oo 32 (.ca .pure true (.f V6) [.t 27,.t 28,.t 29,.t 30,.t 31]),qE 33 0 32,qE 34 1 32,on1 (.st 6 (.t 8) (.t 33)),qM 9 34]) (.rt)))) }
theorem Dz:ZP Proofs.Tryz.prog JV Xk=true:=by kernel_rfl
def Zar:F2 :=
 { nt:=12,res:=[.t 4 [0]],body:=(.sq (rg [oo 3 (.bt (.t 1)),om 4 (.k (.bool false))]) (.sq (rg [qM 5 0,qS 6 6 3,oo 7 (.ca .pure false (.f Jh) [.t 5,.t 6]),qM 8 7,og 9 8 true (.ld (some 6) (.t 3)),og 10 8 true (.ca .pure false (.f XD) [.t 9]),oo 11 (.pk (.t 8) (.t 10) (.k (.bool false))),qM 4 11]) (.rt))) }
theorem ZeN:ZP Proofs.Tryz.prog Xx Zar=true:=by kernel_rfl
def Zbn:F2 :=
 { nt:=98,res:=[.t 4 [0]],body:=(.sq (rg [oo 3 (.bt (.t 1)),om 4 (.k (.bool false))]) (.sq (.sq (rg [qM 8 0,oo 9 (.ca .pure false (.f WY) [.t 8]),oo 10 (.nt (.t 9)),qM 11 10,og 12 11 false (.fa 0 (.t 3)),og 13 11 false (.ld none (.t 12)),og 14 11 false (.ca .pure false (.f Jr) [.t 13,i6 0,i6 4]),og 15 11 false (.nt (.t 14)),oo 16 (.pk (.t 11) (.k (.bool true)) (.t 15)),qM 17 16,og 18 17 false (.fa 1 (.t 3)),og 19 17 false (.ld none (.t 18)),og 20 17 false (.ln (.t 19)),og 21 17 false (.bi .gtr 0 (.t 20) (i6 8)),oo 22 (.pk (.t 17) (.k (.bool true)) (.t 21)),qM 23 22,og 24 23 false (.fa 2 (.t 3)),og 25 23 false (.ld none (.t 24)),og 26 23 false (.ln (.t 25)),og 27 23 false (.bi .gtr 0 (.t 26) (i6 4)),oo 28 (.pk (.t 23) (.k (.bool true)) (.t 27)),qM 29 28,og 30 29 false (.fa 3 (.t 3)),og 31 29 false (.ld none (.t 30)),og 32 29 false (.ca .pure false (.f Jr) [.t 31,i6 0,i6 8]),og 33 29 false (.nt (.t 32)),oo 34 (.pk (.t 29) (.k (.bool true)) (.t 33))]) (.cd (.t 34) (.sq (rg [om 4 (.k (.bool false))]) (.rt)) (.sk))) (.sq (.sq (rg [qF 35 4 3,qL 36 35,oo 37 (.ca .pure false (.f VZ) [.t 36]),oo 38 (.nt (.t 37)),qM 39 38,og 40 39 false (.fa 5 (.t 3)),og 41 39 false (.ld none (.t 40)),og 42 39 false (.ln (.t 41)),og 43 39 false (.bi .gtr 0 (.t 42) (i6 16)),oo 44 (.pk (.t 39) (.k (.bool true)) (.t 43)),qM 45 44,og 46 45 false (.ld (some 6) (.t 3)),og 47 45 false (.ca .pure false (.f JO) [.t 46]),og 48 45 false (.ca .pure false (.f VZ) [.t 47]),og 49 45 false (.nt (.t 48)),oo 50 (.pk (.t 45) (.k (.bool true)) (.t 49))]) (.cd (.t 50) (.sq (rg [om 4 (.k (.bool false))]) (.rt)) (.sk))) (.sq (.sq (rg [om 5 (i6 0)]) (.bl 0 (.lp [0,3,5] [] (.sq (.sq (rg [qM 51 5,qF 52 1 3,qL 53 52,qN 54 53,qB 55 .lss 51 54]) (.cd (.t 55) (.sk) (.ex 0))) (.sq (.bl 1 (.sq (rg [qM 58 0,qS 59 6 3,qM 60 5,oo 61 (.ca .pure false (.f Wg) [.t 58,.t 59,.t 60]),oo 62 (.nt (.t 61))]) (.cd (.t 62) (.sq (rg [om 4 (.k (.bool false))]) (.rt)) (.sk))))
 (rg [qM 56 5,oo 57 (.bi .add 0 (.t 56) (i6 1)),qM 5 57])))))) (.sq (.sq (rg [om 6 (i6 0)]) (.bl 2 (.lp [0,3,6] [] (.sq (.sq (rg [qM 63 6,qF 64 2 3,qL 65 64,qN 66 65,qB 67 .lss 63 66]) (.cd (.t 67) (.sk) (.ex 2))) (.sq (.bl 3 (.sq (.rg (some 0) [qM 70 0,qS 71 6 3,qF 72 2 3,qL 73 72,qM 74 6,qI 75 1 73 74,qL 76 75,qF 77 1 3,qL 78 77,qN 79 78,oo 80 (.ca .pure false (.f V0) [.t 70,.t 71,.t 76,.t 79]),oo 81 (.nt (.t 80))]) (.cd (.t 81) (.sq (rg [om 4 (.k (.bool false))]) (.rt)) (.sk))))
 (rg [qM 68 6,oo 69 (.bi .add 0 (.t 68) (i6 1)),qM 6 69])))))) (.sq (.sq (rg [om 7 (i6 0)]) (.bl 4 (.lp [3,7] [] (.sq (.sq (rg [qM 82 7,qF 83 5 3,qL 84 83,qN 85 84,qB 86 .lss 82 85]) (.cd (.t 86) (.sk) (.ex 4))) (.sq (.bl 5 (.sq (.rg (some 0) [qS 89 6 3,qF 90 5 3,qL 91 90,qM 92 7,qI 93 2 91 92,qF 94 1 93,qL 95 94,oo 96 (.ca .pure false (.f QH) [.t 89,.t 95]),oo 97 (.nt (.t 96))]) (.cd (.t 97) (.sq (rg [om 4 (.k (.bool false))]) (.rt)) (.sk))))
 (rg [qM 87 7,oo 88 (.bi .add 0 (.t 87) (i6 1)),qM 7 88])))))) (.sq (rg [om 4 (.k (.bool true))]) (.rt)))))))) }
theorem Zge:ZP Proofs.Tryz.prog Jh Zbn=true:=by kernel_rfl
def DA:F2 :=
 { nt:=40,res:=[.c 8 (some 6) [0,4,2,0,2,3],.t 9 [0]],body:=(.sq (rg [oo 5 (.bt (.t 1)),oo 6 (.bt (.t 2)),oo 7 (.bt (.t 3)),oo 8 (.al [.int .i64 0,.slice none 0 0,.slice none 0 0,.int .i64 0,.slice none 0 0,.slice none 0 0] []),om 9 (.k (.bool false))]) (.sq (rg [qM 15 0,qS 16 6 5,qS 17 6 6,oo 18 (.ca .pure true (.f Q3) [.t 15,.t 16,.t 17]),qM 14 18,qE 19 0 14,qE 20 1 14,oo 10 (.al [.int .i64 0,.slice none 0 0,.slice none 0 0,.int .i64 0,.slice none 0 0,.slice none 0 0] []),on1 (.st 6 (.t 10) (.t 19)),qM 11 20]) (.sq (.sq (rg [qM 21 11,oo 22 (.nt (.t 21))]) (.cd (.t 22) (.sq (rg [oo 23 (.bd [.int .i64 0,.slice none 0 0,.slice none 0 0,.int .i64 0,.slice none 0 0,.slice none 0 0] [] []),on1 (.st 6 (.t 8) (.t 23)),om 9 (.k (.bool false))]) (.rt)) (.sk))) (.sq (rg [qM 25 0,qS 26 6 6,qS 27 6 10,oo 28 (.ca .pure true (.f YY) [.t 25,.t 26,.t 27]),qM 24 28,qE 29 0 24,qE 30 1 24,oo 12 (.al [.int .i64 0,.slice none 0 0,.slice none 0 0,.int .i64 0,.slice none 0 0,.slice none 0 0] []),on1 (.st 6 (.t 12) (.t 29)),qM 13 30]) (.sq (.sq (rg [qM 31 13,oo 32 (.nt (.t 31))]) (.cd (.t 32) (.sq (rg [oo 33 (.bd [.int .i64 0,.slice none 0 0,.slice none 0 0,.int .i64 0,.slice none 0 0,.slice none 0 0] [] []),on1 (.st 6 (.t 8) (.t 33)),om 9 (.k (.bool false))]) (.rt)) (.sk))) (.sq (rg [qM 34 0,qS 35 6 12,qS 36 6 7,oo 37 (.ca .pure true (.f YY) [.t 34,.t 35,.t 36]),qE 38 0 37,qE 39 1 37,on1 (.st 6 (.t 8) (.t 38)),qM 9 39]) (.rt))))))) }
theorem Zd3:ZP Proofs.Tryz.prog Q1 DA=true:=by kernel_rfl
def U4:F2 :=
 { nt:=101,res:=[.t 4 [0]],body:=(.sq (rg [oo 2 (.bt (.t 0)),oo 3 (.bt (.t 1)),om 4 (.k (.bool false))]) (.sq (.sq (rg [qL 7 2,oo 8 (.ca .pure false (.f VB) [.t 7]),oo 9 (.nt (.t 8)),qM 10 9,og 11 10 false (.fa 0 (.t 3)),og 12 10 false (.ld none (.t 11)),og 13 10 false (.ca .pure false (.f Ji) [.t 12,i6 0,i6 4]),og 14 10 false (.nt (.t 13)),oo 15 (.pk (.t 10) (.k (.bool true)) (.t 14)),qM 16 15,og 17 16 false (.fa 1 (.t 3)),og 18 16 false (.ld none (.t 17)),og 19 16 false (.ln (.t 18)),og 20 16 false (.bi .gtr 0 (.t 19) (i6 8)),oo 21 (.pk (.t 16) (.k (.bool true)) (.t 20)),qM 22 21,og 23 22 false (.fa 2 (.t 3)),og 24 22 false (.ld none (.t 23)),og 25 22 false (.ln (.t 24)),og 26 22 false (.bi .gtr 0 (.t 25) (i6 4)),oo 27 (.pk (.t 22) (.k (.bool true)) (.t 26)),qM 28 27,og 29 28 false (.fa 3 (.t 3)),og 30 28 false (.ld none (.t 29)),og 31 28 false (.ca .pure false (.f Ji) [.t 30,i6 0,i6 8]),og 32 28 false (.nt (.t 31)),oo 33 (.pk (.t 28) (.k (.bool true)) (.t 32)),qM 34 33,og 35 34 false (.fa 4 (.t 3)),og 36 34 false (.ld none (.t 35)),og 37 34 false (.ca .pure false (.f Vq) [.t 36]),og 38 34 false (.nt (.t 37)),oo 39 (.pk (.t 34) (.k (.bool true)) (.t 38)),qM 40 39,og 41 40 false (.ld (some 6) (.t 3)),og 42 40 false (.ca .pure false (.f ZB) [.t 41]),og 43 40 false (.ca .pure false (.f Vq) [.t 42]),og 44 40 false (.nt (.t 43)),oo 45 (.pk (.t 40) (.k (.bool true)) (.t 44))]) (.cd (.t 45) (.sq (rg [om 4 (.k (.bool false))]) (.rt)) (.sk))) (.sq (.sq (rg [qF 46 1 3,qL 47 46,qN 48 47,om 49 (i6 0)]) (.bl 0 (.lp [2,3,47,48,49] [] (.sq (rg [qB 50 .lss 49 48]) (.sq (.cd (.t 50) (.sk) (.ex 0)) (.sq (.bl 1 (.sq (rg [qM 51 49,qI 52 3 47 49,qS 53 3 52,oo 6 (.al [.int .i64 0,.int .i64 0,.slice none 0 0] []),qM 5 51,on1 (.st 3 (.t 6) (.t 53))]) (.sq (.rg (some 0) [qF 54 0 6,qL 55 54,qL 56 2,qN 57 56,oo 58 (.bi .sub 0 (.t 57) (i6 1)),oo 59 (.ca .pure false (.f Ji) [.t 55,i6 0,.t 58]),oo 60 (.nt (.t 59)),qM 61 60,og 62 61 false (.ld (some 6) (.t 3)),og 63 61 false (.ld none (.t 2)),og 64 61 false (.fa 1 (.t 6)),og 65 61 false (.ld none (.t 64)),og 66 61 false (.mv (.t 5) none),og 67 61 false (.ca .pure false (.f JD) [.t 62,.t 63,.t 65,.t 66]),og 68 61 false (.nt (.t 67)),oo 69 (.pk (.t 61) (.k (.bool true)) (.t 68)),qM 70 69,og 71 70 false (.fa 2 (.t 6)),og 72 70 false (.ld none (.t 71)),og 73 70 false (.ln (.t 72)),og 74 70 false (.ld none (.t 2)),og 75 70 false (.fa 0 (.t 6)),og 76 70 false (.ld none (.t 75)),og 77 70 false (.ia 3 (.t 74) (.t 76)),og 78 70 false (.fa 1 (.t 77)),og 79 70 false (.ld none (.t 78)),og 80 70 false (.bi .neq 0 (.t 73) (.t 79)),oo 81 (.pk (.t 70) (.k (.bool true)) (.t 80)),qM 82 81,og 83 82 false (.fa 2 (.t 6)),og 84 82 false (.ld none (.t 83)),og 85 82 false (.mf VC [.t 3]),og 86 82 false (.ca .pure false (.f Jz) [.t 84,.t 85]),oo 87 (.pk (.t 82) (.k (.bool true)) (.t 86))]) (.cd (.t 87) (.sq (rg [om 4 (.k (.bool false))]) (.rt)) (.sk)))))
 (rg [oo 88 (.bi .add 0 (.t 49) (i6 1)),qM 49 88]))))))) (.sq (rg [qF 89 2 3,qL 90 89,oo 91 (.mf VD [.t 3,.t 2]),oo 92 (.ca .pure false (.f Jz) [.t 90,.t 91]),oo 93 (.nt (.t 92)),qM 94 93,og 95 94 true (.fa 5 (.t 3)),og 96 94 true (.ld none (.t 95)),og 97 94 true (.mf VE [.t 3]),og 98 94 true (.ca .pure false (.f Js) [.t 96,.t 97]),og 99 94 true (.nt (.t 98)),oo 100 (.pk (.t 94) (.t 99) (.k (.bool false))),qM 4 100]) (.rt))))) }
theorem Zc0:ZP Proofs.Tryz.prog ZT U4=true:=by kernel_rfl
def Zas:F2 :=
 { nt:=62,res:=[.t 2 [0]],body:=(.sq (rg [oo 1 (.bt (.t 0)),om 2 (.k (.bool false))]) (.sq (.sq (rg [qF 7 5 1,qL 8 7,qN 9 8,oo 10 (.bi .gtr 0 (.t 9) (i6 0)),qM 11 10,og 12 11 false (.fa 0 (.t 1)),og 13 11 false (.ld none (.t 12)),og 14 11 false (.bi .eql 0 (.t 13) (i6 0)),oo 15 (.pk (.t 11) (.k (.bool true)) (.t 14))]) (.cd (.t 15) (.sq (rg [om 2 (.k (.bool false))]) (.rt)) (.sk))) (.sq (.sq (rg [qF 16 0 1,qL 17 16,oo 18 (.ng (.t 17)),qM 3 18]) (.bl 0 (.lp [1,3] [] (.sq (.sq (rg [qM 19 3,qF 20 1 1,qL 21 20,qN 22 21,qB 23 .lss 19 22]) (.cd (.t 23) (.sk) (.ex 0))) (.sq (.bl 1 (.sq (rg [qS 27 6 1,qM 28 3,oo 29 (.ca .pure false (.f J3) [.t 27,.t 28]),qM 26 29,qE 30 0 26,qE 31 1 26,qM 4 30,qM 5 31]) (.sq (rg [qM 32 3,oo 33 (.bi .lss 0 (.t 32) (i6 0)),qM 34 33,og 35 34 true (.mv (.t 4) none),og 36 34 true (.ln (.t 35)),og 37 34 true (.bi .eql 0 (.t 36) (i6 0)),og 38 34 true (.mv (.t 37) none),og 39 38 false (.mv (.t 5) none),og 40 38 false (.ln (.t 39)),og 41 38 false (.bi .gtr 0 (.t 40) (i6 0)),og 42 34 true (.pk (.t 38) (.k (.bool true)) (.t 41)),oo 43 (.pk (.t 34) (.t 42) (.k (.bool false))),qM 44 43,og 45 44 false (.mv (.t 5) none),og 46 44 false (.ln (.t 45)),og 47 44 false (.bi .gtr 0 (.t 46) (i6 1)),oo 48 (.pk (.t 44) (.k (.bool true)) (.t 47))]) (.cd (.t 48) (.sq (rg [om 2 (.k (.bool false))]) (.rt)) (.sk)))))
 (rg [qM 24 3,oo 25 (.bi .add 0 (.t 24) (i6 1)),qM 3 25])))))) (.sq (.sq (rg [qF 49 3 1,qL 50 49,qF 51 4 1,qL 52 51,qN 53 52,qB 54 .add 50 53,om 55 (i6 0)]) (.bl 2 (.lp [1,54,55] [] (.sq (rg [qB 56 .lss 55 54]) (.sq (.cd (.t 56) (.sk) (.ex 2)) (.sq (.bl 3 (.sq (rg [qM 57 55,qM 6 57]) (.sq (rg [qS 58 6 1,qM 59 6,oo 60 (.ca .pure false (.f Yz) [.t 58,.t 59])]) (.cd (.t 60) (.sq (rg [om 2 (.k (.bool false))]) (.rt)) (.sk)))))
 (rg [oo 61 (.bi .add 0 (.t 55) (i6 1)),qM 55 61]))))))) (.sq (rg [om 2 (.k (.bool true))]) (.rt)))))) }
theorem ZeO:ZP Proofs.Tryz.prog XA Zas=true:=by kernel_rfl
def Zbo:F2 :=
 { nt:=15,res:=[.t 6 [0]],body:=(.sq (rg [oo 4 (.bt (.t 1)),oo 5 (.bt (.t 2)),om 6 (.k (.bool false))]) (.sq (rg [qM 7 0,qS 8 6 4,oo 9 (.ca .pure false (.f ZT) [.t 7,.t 8]),qM 10 9,og 11 10 true (.mv (.t 0) none),og 12 10 true (.ld (some 6) (.t 5)),og 13 10 true (.ca .pure false (.f ZT) [.t 11,.t 12]),oo 14 (.pk (.t 10) (.t 13) (.k (.bool false))),qM 6 14]) (.rt))) }
theorem Zgf:ZP Proofs.Tryz.prog Wd Zbo=true:=by kernel_rfl
def Uh:F2 :=
 { nt:=47,res:=[.c 10 (some 6) [0,4,2,0,2,3],.t 11 [0]],body:=(.sq (rg [oo 6 (.bt (.t 1)),oo 7 (.bt (.t 2)),oo 8 (.bt (.t 3)),oo 9 (.bt (.t 4)),oo 10 (.al [.int .i64 0,.slice none 0 0,.slice none 0 0,.int .i64 0,.slice none 0 0,.slice none 0 0] []),om 11 (.k (.bool false))]) (.sq (rg [qS 16 6 6,oo 17 (.ca .pure true (.f ZB) [.t 16]),oo 18 (.mf JE [.t 7]),oo 19 (.ca .any false (.f ZW) [.t 17,.t 18]),qM 12 19]) (.sq (.rg (some 0) [qM 21 0,qS 22 6 8,qM 23 12,oo 24 (.ca .pure false (.f Q4) [i6 0,.t 23]),oo 25 (.ca .pure true (.f QI) [.t 21,.t 22,.t 24]),qM 20 25,qE 26 0 20,qE 27 1 20,oo 13 (.al [.int .i64 0,.slice none 0 0,.slice none 0 0,.int .i64 0,.slice none 0 0,.slice none 0 0] []),on1 (.s0 6 (.t 13) (.t 26)),qM 14 27]) (.sq (.sq (rg [qM 28 14,oo 29 (.nt (.t 28))]) (.cd (.t 29) (.sq (rg [oo 30 (.bd [.int .i64 0,.slice none 0 0,.slice none 0 0,.int .i64 0,.slice none 0 0,.slice none 0 0] [] []),on1 (.st 6 (.t 10) (.t 30)),om 11 (.k (.bool false))]) (.rt)) (.sk))) (.sq (rg [qM 32 0,qS 33 6 6,qS 34 6 13,oo 35 (.ca .pure true (.f JM) [.t 32,.t 33,.t 34]),qM 31 35,qE 36 0 31,qE 37 1 31,oo 15 (.al [.int .i64 0,.slice none 0 0,.slice none 0 0,.int .i64 0,.slice none 0 0,.slice none 0 0] []),on1 (.st 6 (.t 15) (.t 36)),qM 14 37]) (.sq (.sq (rg [qM 38 14,oo 39 (.nt (.t 38))]) (.cd (.t 39) (.sq (rg [oo 40 (.bd [.int .i64 0,.slice none 0 0,.slice none 0 0,.int .i64 0,.slice none 0 0,.slice none 0 0] [] []),on1 (.st 6 (.t 10) (.t 40)),om 11 (.k (.bool false))]) (.rt)) (.sk))) (.sq (rg [qM 41 0,qS 42 6 15,qS 43 6 9,oo 44 (.ca .pure true (.f JM) [.t 41,.t 42,.t 43]),qE 45 0 44,qE 46 1 44,on1 (.st 6 (.t 10) (.t 45)),qM 11 46]) (.rt)))))))) }
theorem Zcq:ZP Proofs.Tryz.prog V6 Uh=true:=by kernel_rfl
def Zat:F2 :=
 { nt:=60,res:=[.t 2 [0]],body:=(.sq (rg [oo 1 (.bt (.t 0)),om 2 (.k (.bool false))]) (.sq (.sq (rg [qF 6 5 1,qL 7 6,qN 8 7,oo 9 (.bi .gtr 0 (.t 8) (i6 0)),qM 10 9,og 11 10 false (.fa 0 (.t 1)),og 12 10 false (.ld none (.t 11)),og 13 10 false (.bi .eql 0 (.t 12) (i6 0)),oo 14 (.pk (.t 10) (.k (.bool true)) (.t 13))]) (.cd (.t 14) (.sq (rg [om 2 (.k (.bool false))]) (.rt)) (.sk))) (.sq (.sq (rg [om 3 (i6 0)]) (.bl 0 (.lp [1,3] [] (.sq (.sq (rg [qM 15 3,qF 16 0 1,qL 17 16,qB 18 .lss 15 17]) (.cd (.t 18) (.sk) (.ex 0))) (.sq (.bl 1 (.sq (rg [qS 21 6 1,qM 22 3,oo 23 (.bi .sub 0 (i6 (-1)) (.t 22)),oo 24 (.ca .pure false (.f Wm) [.t 21,.t 23]),qN 25 24,oo 26 (.bi .eql 0 (.t 25) (i6 0)),qM 27 26,og 28 27 false (.ld (some 6) (.t 1)),og 29 27 false (.mv (.t 3) none),og 30 27 false (.bi .sub 0 (i6 (-1)) (.t 29)),og 31 27 false (.ca .pure false (.f V1) [.t 28,.t 30]),og 32 27 false (.ln (.t 31)),og 33 27 false (.bi .gtr 0 (.t 32) (i6 0)),oo 34 (.pk (.t 27) (.k (.bool true)) (.t 33))]) (.cd (.t 34) (.sq (rg [om 2 (.k (.bool false))]) (.rt)) (.sk))))
 (rg [qM 19 3,oo 20 (.bi .add 0 (.t 19) (i6 1)),qM 3 20])))))) (.sq (.sq (rg [om 4 (i6 0)]) (.bl 2 (.lp [1,4] [] (.sq (.sq (rg [qM 35 4,qF 36 1 1,qL 37 36,qN 38 37,qB 39 .lss 35 38]) (.cd (.t 39) (.sk) (.ex 2))) (.sq (.bl 3 (.sq (rg [qS 42 6 1,qM 43 4,oo 44 (.ca .pure false (.f V1) [.t 42,.t 43]),qN 45 44,oo 46 (.bi .gtr 0 (.t 45) (i6 1))]) (.cd (.t 46) (.sq (rg [om 2 (.k (.bool false))]) (.rt)) (.sk))))
 (rg [qM 40 4,oo 41 (.bi .add 0 (.t 40) (i6 1)),qM 4 41])))))) (.sq (.sq (rg [om 5 (i6 0)]) (.bl 4 (.lp [1,5] [] (.sq (.sq (rg [qM 47 5,qF 48 3 1,qL 49 48,qF 50 4 1,qL 51 50,qN 52 51,qB 53 .add 49 52,qB 54 .lss 47 53]) (.cd (.t 54) (.sk) (.ex 4))) (.sq (.bl 5 (.sq (rg [qS 57 6 1,qM 58 5,oo 59 (.ca .pure false (.f Wn) [.t 57,.t 58])]) (.cd (.t 59) (.sq (rg [om 2 (.k (.bool false))]) (.rt)) (.sk))))
 (rg [qM 55 5,oo 56 (.bi .add 0 (.t 55) (i6 1)),qM 5 56])))))) (.sq (rg [om 2 (.k (.bool true))]) (.rt))))))) }
theorem ZeP:ZP Proofs.Tryz.prog XD Zat=true:=by kernel_rfl
def ZcO:F2 :=
 { nt:=55,res:=[.t 2 [0]],body:=(.sq (rg [om 2 (.k (.bool false))]) (.sq (.sq (rg [om 3 (i6 0)]) (.bl 0 (.lp [0,3] [] (.sq (.sq (rg [qM 5 3,qM 6 0,qN 7 6,qB 8 .lss 5 7]) (.cd (.t 8) (.sk) (.ex 0))) (.sq (.bl 1 (.sq (.sq (rg [qM 11 0,qM 12 3,qI 13 3 11 12,qF 14 0 13,qL 15 14,oo 16 (.ca .pure false (.f QJ) [.t 15]),oo 17 (.nt (.t 16)),qM 18 17,og 19 18 false (.mv (.t 0) none),og 20 18 false (.mv (.t 3) none),og 21 18 false (.ia 3 (.t 19) (.t 20)),og 22 18 false (.fa 1 (.t 21)),og 23 18 false (.ld none (.t 22)),og 24 18 false (.ca .pure false (.f Jr) [.t 23,i6 0,i6 3]),og 25 18 false (.nt (.t 24)),oo 26 (.pk (.t 18) (.k (.bool true)) (.t 25)),qM 27 26,og 28 27 false (.mv (.t 0) none),og 29 27 false (.mv (.t 3) none),og 30 27 false (.ia 3 (.t 28) (.t 29)),og 31 27 false (.fa 2 (.t 30)),og 32 27 false (.ld none (.t 31)),og 33 27 false (.ca .pure false (.f Jr) [.t 32,i6 0,i6 2]),og 34 27 false (.nt (.t 33)),oo 35 (.pk (.t 27) (.k (.bool true)) (.t 34))]) (.cd (.t 35) (.sq (rg [om 2 (.k (.bool false))]) (.rt)) (.sk))) (.sq (rg [om 4 (i6 0)]) (.bl 2 (.lp [0,3,4] [] (.sq (.sq (rg [qM 36 4,qM 37 3,qB 38 .lss 36 37]) (.cd (.t 38) (.sk) (.ex 2))) (.sq (.bl 3 (.sq (.rg (some 0) [qM 41 0,qM 42 4,qI 43 3 41 42,qF 44 0 43,qL 45 44,qM 46 0,qM 47 3,qI 48 3 46 47,qF 49 0 48,qL 50 49,qB 51 .eql 45 50]) (.cd (.t 51) (.sq (rg [om 2 (.k (.bool false))]) (.rt)) (.sk))))
 (rg [qM 39 4,oo 40 (.bi .add 0 (.t 39) (i6 1)),qM 4 40]))))))))
 (rg [qM 9 3,oo 10 (.bi .add 0 (.t 9) (i6 1)),qM 3 10])))))) (.sq (rg [qM 52 0,qN 53 52,oo 54 (.ca .pure false (.f Jr) [.t 53,i6 1,i6 6]),qM 2 54]) (.rt)))) }
theorem ZhD:ZP Proofs.Tryz.prog WY ZcO=true:=by kernel_rfl
def Zd4:F2 :=
 { nt:=15,res:=[.t 6 [0]],body:=(.sq (rg [om 6 (.k (.bool false))]) (.sq (rg [qM 7 0,qM 8 1,qB 9 .geq 7 8,qM 10 9,og 11 10 true (.mv (.t 0) none),og 12 10 true (.mv (.t 2) none),og 13 10 true (.bi .leq 0 (.t 11) (.t 12)),oo 14 (.pk (.t 10) (.t 13) (.k (.bool false))),qM 6 14]) (.rt))) }
theorem ZiJ:ZP Proofs.Tryz.prog Jr Zd4=true:=by kernel_rfl
def Zau:F2 :=
 { nt:=35,res:=[.t 2 [0]],body:=(.sq (rg [om 2 (.k (.bool false))]) (.sq (.sq (rg [om 3 (i6 0)]) (.bl 0 (.lp [0,3] [] (.sq (.sq (rg [qM 4 3,qM 5 0,qN 6 5,qB 7 .lss 4 6]) (.cd (.t 7) (.sk) (.ex 0))) (.sq (.bl 1 (.sq (.rg (some 0) [qM 10 0,qM 11 3,qI 12 1 10 11,qL 13 12,oo 14 (.ca .pure false (.f QJ) [.t 13]),oo 15 (.nt (.t 14)),qM 16 15,og 17 16 false (.mv (.t 3) none),og 18 16 false (.bi .gtr 0 (.t 17) (i6 0)),og 19 16 false (.mv (.t 18) none),og 20 19 true (.mv (.t 0) none),og 21 19 true (.mv (.t 3) none),og 22 19 true (.bi .sub 0 (.t 21) (i6 1)),og 23 19 true (.ia 1 (.t 20) (.t 22)),og 24 19 true (.ld none (.t 23)),og 25 19 true (.mv (.t 0) none),og 26 19 true (.mv (.t 3) none),og 27 19 true (.ia 1 (.t 25) (.t 26)),og 28 19 true (.ld none (.t 27)),og 29 19 true (.bi .geq 0 (.t 24) (.t 28)),og 30 16 false (.pk (.t 19) (.t 29) (.k (.bool false))),oo 31 (.pk (.t 16) (.k (.bool true)) (.t 30))]) (.cd (.t 31) (.sq (rg [om 2 (.k (.bool false))]) (.rt)) (.sk))))
 (rg [qM 8 3,oo 9 (.bi .add 0 (.t 8) (i6 1)),qM 3 9])))))) (.sq (rg [qM 32 0,qN 33 32,oo 34 (.bi .leq 0 (.t 33) (i6 16)),qM 2 34]) (.rt)))) }
theorem ZeQ:ZP Proofs.Tryz.prog VZ Zau=true:=by kernel_rfl
def Zav:F2 :=
 { nt:=23,res:=[.t 2 [2]],body:=(.sq (rg [oo 1 (.bt (.t 0)),om 2 (.k (.slice none 0 0))]) (.sq (rg [oo 5 (.bs 1 0 [] []),qM 3 5]) (.sq (.sq (rg [om 4 (i6 0)]) (.bl 0 (.lp [1,3,4] [160,672] (.sq (.sq (rg [qM 6 4,qF 7 5 1,qL 8 7,qN 9 8,qB 10 .lss 6 9]) (.cd (.t 10) (.sk) (.ex 0))) (.sq (.bl 1 (rg [qM 13 3,qF 14 5 1,qL 15 14,qM 16 4,qI 17 2 15 16,qF 18 0 17,qL 19 18,oo 20 (.bs 1 1 [.string ⟨#[]⟩] [(0,.t 19)]),oo 21 (.ap 1 0 (.t 13) (.t 20)),qM 3 21]))
 (rg [qM 11 4,oo 12 (.bi .add 0 (.t 11) (i6 1)),qM 4 12])))))) (.sq (rg [qM 22 3,qM 2 22]) (.rt))))) }
theorem ZeR:ZP Proofs.Tryz.prog JO Zav=true:=by kernel_rfl
def Zbp:F2 :=
 { nt:=57,res:=[.t 6 [0]],body:=(.sq (rg [oo 4 (.bt (.t 1)),om 6 (.k (.bool false))]) (.sq (rg [qF 9 1 4,qL 10 9,qM 11 2,qI 12 3 10 11,qS 13 3 12,oo 7 (.al [.int .i64 0,.int .i64 0,.slice none 0 0] []),on1 (.st 3 (.t 7) (.t 13))]) (.sq (.sq (.rg (some 0) [qF 14 0 7,qL 15 14,qM 16 0,qN 17 16,oo 18 (.bi .sub 0 (.t 17) (i6 1)),oo 19 (.ca .pure false (.f Jr) [.t 15,i6 0,.t 18]),oo 20 (.nt (.t 19)),qM 21 20,og 22 21 false (.mv (.t 0) none),og 23 21 false (.ld (some 6) (.t 4)),og 24 21 false (.fa 1 (.t 7)),og 25 21 false (.ld none (.t 24)),og 26 21 false (.mv (.t 2) none),og 27 21 false (.ca .pure false (.f V0) [.t 22,.t 23,.t 25,.t 26]),og 28 21 false (.nt (.t 27)),oo 29 (.pk (.t 21) (.k (.bool true)) (.t 28)),qM 30 29,og 31 30 false (.fa 2 (.t 7)),og 32 30 false (.ld none (.t 31)),og 33 30 false (.ln (.t 32)),og 34 30 false (.mv (.t 0) none),og 35 30 false (.fa 0 (.t 7)),og 36 30 false (.ld none (.t 35)),og 37 30 false (.ia 3 (.t 34) (.t 36)),og 38 30 false (.fa 1 (.t 37)),og 39 30 false (.ld none (.t 38)),og 40 30 false (.bi .neq 0 (.t 33) (.t 39)),oo 41 (.pk (.t 30) (.k (.bool true)) (.t 40))]) (.cd (.t 41) (.sq (rg [om 6 (.k (.bool false))]) (.rt)) (.sk))) (.sq (.sq (rg [om 8 (i6 0)]) (.bl 0 (.lp [4,7,8] [224] (.sq (.sq (rg [qM 42 8,qF 43 2 7,qL 44 43,qN 45 44,qB 46 .lss 42 45]) (.cd (.t 46) (.sk) (.ex 0))) (.sq (.bl 1 (.sq (.rg (some 0) [qS 49 6 4,qF 50 2 7,qL 51 50,qM 52 8,qI 53 1 51 52,qL 54 53,oo 55 (.ca .pure false (.f QH) [.t 49,.t 54]),oo 56 (.nt (.t 55))]) (.cd (.t 56) (.sq (rg [om 6 (.k (.bool false))]) (.rt)) (.sk))))
 (rg [qM 47 8,oo 48 (.bi .add 0 (.t 47) (i6 1)),qM 8 48])))))) (.sq (rg [om 6 (.k (.bool true))]) (.rt)))))) }
theorem Zgg:ZP Proofs.Tryz.prog Wg Zbp=true:=by kernel_rfl
def Zaw:F2 :=
 { nt:=33,res:=[.t 8 [0]],body:=(.sq (rg [oo 5 (.bt (.t 1)),om 8 (.k (.bool false))]) (.sq (.sq (rg [qM 9 2,oo 10 (.bi .lss 0 (.t 9) (i6 0))]) (.cd (.t 10) (.sq (rg [qM 11 2,oo 12 (.bi .sub 0 (i6 (-1)) (.t 11)),qF 13 0 5,qL 14 13,oo 15 (.bi .sub 0 (.t 14) (i6 1)),oo 16 (.ca .pure false (.f Jr) [.t 12,i6 0,.t 15]),qM 8 16]) (.rt)) (.sk))) (.sq (rg [qM 17 2,qM 18 3,qB 19 .lss 17 18,qM 20 19,og 21 20 true (.mv (.t 0) none),og 22 20 true (.fa 1 (.t 5)),og 23 20 true (.ld none (.t 22)),og 24 20 true (.mv (.t 2) none),og 25 20 true (.ia 3 (.t 23) (.t 24)),og 26 20 true (.fa 0 (.t 25)),og 27 20 true (.ld none (.t 26)),og 28 20 true (.ia 3 (.t 21) (.t 27)),og 29 20 true (.fa 2 (.t 28)),og 30 20 true (.ld none (.t 29)),og 31 20 true (.bi .neq 0 (.t 30) (i6 2)),oo 32 (.pk (.t 20) (.t 31) (.k (.bool false))),qM 8 32]) (.rt)))) }
theorem ZeS:ZP Proofs.Tryz.prog V0 Zaw=true:=by kernel_rfl
def Zbq:F2 :=
 { nt:=14,res:=[.t 4 [0]],body:=(.sq (rg [oo 2 (.bt (.t 0)),om 4 (.k (.bool false))]) (.sq (rg [qM 5 1,qF 6 3 2,qL 7 6,qF 8 4 2,qL 9 8,qN 10 9,qB 11 .add 7 10,oo 12 (.bi .sub 0 (.t 11) (i6 1)),oo 13 (.ca .pure false (.f Jr) [.t 5,i6 0,.t 12]),qM 4 13]) (.rt))) }
theorem Zgh:ZP Proofs.Tryz.prog QH Zbq=true:=by kernel_rfl
def DB:F2 :=
 { nt:=42,res:=[.c 6 (some 6) [0,4,2,0,2,3],.t 7 [0]],body:=(.sq (rg [oo 4 (.bt (.t 1)),oo 5 (.bt (.t 2)),oo 6 (.al [.int .i64 0,.slice none 0 0,.slice none 0 0,.int .i64 0,.slice none 0 0,.slice none 0 0] []),om 7 (.k (.bool false))]) (.sq (rg [oo 11 (.bs 1 0 [] []),qS 12 6 5,oo 13 (.ca .pure false (.f JO) [.t 12]),qM 8 11,qM 9 13]) (.sq (.sq (rg [om 10 (i6 0)]) (.bl 0 (.lp [0,4,6,8,9,10] [192,352,1088,1248,1249,1250,1251] (.sq (.sq (rg [qM 14 10,qM 15 9,qN 16 15,qB 17 .lss 14 16]) (.cd (.t 17) (.sk) (.ex 0))) (.sq (.bl 1 (.sq (.rg (some 0) [qF 20 4 4,qL 21 20,qM 22 9,qM 23 10,qI 24 1 22 23,qL 25 24,oo 26 (.ca .pure false (.f QK) [.t 21,.t 25]),oo 27 (.bi .lss 0 (.t 26) (i6 0))]) (.cd (.t 27) (rg [qM 28 8,qM 29 9,qM 30 10,qI 31 1 29 30,qL 32 31,oo 33 (.bs 1 1 [.string ⟨#[]⟩] [(0,.t 32)]),oo 34 (.ap 1 0 (.t 28) (.t 33)),qM 8 34]) (.sk))))
 (rg [qM 18 10,oo 19 (.bi .add 0 (.t 18) (i6 1)),qM 10 19])))))) (.sq (.rg (some 0) [qM 35 0,qS 36 6 4,qM 37 8,oo 38 (.ca .pure false (.f V7) [i6 0,.t 37]),oo 39 (.ca .pure true (.f Q5) [.t 35,.t 36,.t 38]),qE 40 0 39,qE 41 1 39,on1 (.st 6 (.t 6) (.t 40)),qM 7 41]) (.rt))))) }
theorem Zd5:ZP Proofs.Tryz.prog Q3 DB=true:=by kernel_rfl
def U5:F2 :=
 { nt:=32,res:=[.c 6 (some 6) [0,4,2,0,2,3],.t 7 [0]],body:=(.sq (rg [oo 4 (.bt (.t 1)),oo 5 (.bt (.t 2)),oo 6 (.al [.int .i64 0,.slice none 0 0,.slice none 0 0,.int .i64 0,.slice none 0 0,.slice none 0 0] []),om 7 (.k (.bool false))]) (.sq (.sq (rg [qM 8 0,qS 9 6 4,oo 10 (.ca .pure false (.f Jh) [.t 8,.t 9]),oo 11 (.nt (.t 10)),qM 12 11,og 13 12 false (.mv (.t 0) none),og 14 12 false (.ld (some 6) (.t 5)),og 15 12 false (.ca .pure false (.f Jh) [.t 13,.t 14]),og 16 12 false (.nt (.t 15)),oo 17 (.pk (.t 12) (.k (.bool true)) (.t 16)),qM 18 17,og 19 18 false (.ld (some 6) (.t 4)),og 20 18 false (.ld (some 6) (.t 5)),og 21 18 false (.ca .pure false (.f Wo) [.t 19,.t 20]),og 22 18 false (.nt (.t 21)),oo 23 (.pk (.t 18) (.k (.bool true)) (.t 22))]) (.cd (.t 23) (.sq (rg [oo 24 (.bd [.int .i64 0,.slice none 0 0,.slice none 0 0,.int .i64 0,.slice none 0 0,.slice none 0 0] [] []),on1 (.st 6 (.t 6) (.t 24)),om 7 (.k (.bool false))]) (.rt)) (.sk))) (.sq (rg [qM 25 0,qS 26 6 4,qS 27 6 5,oo 28 (.ca .pure false (.f XE) [.t 26,.t 27]),oo 29 (.ca .pure true (.f Vc) [.t 25,.t 28]),qE 30 0 29,qE 31 1 29,on1 (.st 6 (.t 6) (.t 30)),qM 7 31]) (.rt)))) }
theorem Zc1:ZP Proofs.Tryz.prog YY U5=true:=by kernel_rfl
def WL:F2 :=
 { nt:=40,res:=[.t 2 [0]],body:=(.sq (rg [om 2 (.k (.bool false))]) (.sq (.sq (rg [qM 5 0,qN 6 5,oo 7 (.ca .pure false (.f Ji) [.t 6,i6 1,i6 6]),oo 8 (.nt (.t 7))]) (.cd (.t 8) (.sq (rg [om 2 (.k (.bool false))]) (.rt)) (.sk))) (.sq (.sq (rg [qM 9 0,qN 10 9,om 11 (i6 0)]) (.bl 0 (.lp [0,9,10,11] [] (.sq (rg [qB 12 .lss 11 10]) (.sq (.cd (.t 12) (.sk) (.ex 0)) (.sq (.bl 1 (.sq (rg [qM 13 11,qI 14 3 9 11,qS 15 3 14,oo 4 (.al [.string ⟨#[]⟩,.int .i64 0,.int .i64 0] []),qM 3 13,on1 (.st 3 (.t 4) (.t 15))]) (.sq (rg [qF 16 0 4,qL 17 16,oo 18 (.ca .pure false (.f QL) [.t 17]),oo 19 (.nt (.t 18)),qM 20 19,og 21 20 false (.fa 1 (.t 4)),og 22 20 false (.ld none (.t 21)),og 23 20 false (.ca .pure false (.f Ji) [.t 22,i6 0,i6 3]),og 24 20 false (.nt (.t 23)),oo 25 (.pk (.t 20) (.k (.bool true)) (.t 24)),qM 26 25,og 27 26 false (.fa 2 (.t 4)),og 28 26 false (.ld none (.t 27)),og 29 26 false (.ca .pure false (.f Ji) [.t 28,i6 0,i6 2]),og 30 26 false (.nt (.t 29)),oo 31 (.pk (.t 26) (.k (.bool true)) (.t 30)),qM 32 31,og 33 32 false (.mv (.t 0) none),og 34 32 false (.mv (.t 3) none),og 35 32 false (.sx 3 (.t 33) none (some (.t 34)) none),og 36 32 false (.mf J4 [.t 4]),og 37 32 false (.ca .pure false (.f Z9) [.t 35,.t 36]),oo 38 (.pk (.t 32) (.k (.bool true)) (.t 37))]) (.cd (.t 38) (.sq (rg [om 2 (.k (.bool false))]) (.rt)) (.sk)))))
 (rg [oo 39 (.bi .add 0 (.t 11) (i6 1)),qM 11 39]))))))) (.sq (rg [om 2 (.k (.bool true))]) (.rt))))) }
theorem Zbr:ZP Proofs.Tryz.prog VB WL=true:=by kernel_rfl
def Zbs:F2 :=
 { nt:=15,res:=[.t 6 [0]],body:=(.sq (rg [om 6 (.k (.bool false))]) (.sq (rg [qM 7 0,qM 8 1,qB 9 .geq 7 8,qM 10 9,og 11 10 true (.mv (.t 0) none),og 12 10 true (.mv (.t 2) none),og 13 10 true (.bi .leq 0 (.t 11) (.t 12)),oo 14 (.pk (.t 10) (.t 13) (.k (.bool false))),qM 6 14]) (.rt))) }
theorem Zgi:ZP Proofs.Tryz.prog Ji Zbs=true:=by kernel_rfl
def DC:F2 :=
 { nt:=32,res:=[.t 2 [0]],body:=(.sq (rg [om 2 (.k (.bool false))]) (.sq (.sq (rg [qM 5 0,qN 6 5,om 7 (i6 0)]) (.bl 0 (.lp [0,5,6,7] [] (.sq (rg [qB 8 .lss 7 6]) (.sq (.cd (.t 8) (.sk) (.ex 0)) (.sq (.bl 1 (.sq (rg [qM 9 7,qI 10 1 5 7,qL 11 10,qM 3 9,qM 4 11]) (.sq (rg [qM 12 4,oo 13 (.ca .pure false (.f QL) [.t 12]),oo 14 (.nt (.t 13)),qM 15 14,og 16 15 false (.mv (.t 3) none),og 17 15 false (.bi .gtr 0 (.t 16) (i6 0)),og 18 15 false (.mv (.t 17) none),og 19 18 true (.mv (.t 4) none),og 20 18 true (.mv (.t 0) none),og 21 18 true (.mv (.t 3) none),og 22 18 true (.bi .sub 0 (.t 21) (i6 1)),og 23 18 true (.ia 1 (.t 20) (.t 22)),og 24 18 true (.ld none (.t 23)),og 25 18 true (.bi .leq 0 (.t 19) (.t 24)),og 26 15 false (.pk (.t 18) (.t 25) (.k (.bool false))),oo 27 (.pk (.t 15) (.k (.bool true)) (.t 26))]) (.cd (.t 27) (.sq (rg [om 2 (.k (.bool false))]) (.rt)) (.sk)))))
 (rg [oo 28 (.bi .add 0 (.t 7) (i6 1)),qM 7 28]))))))) (.sq (rg [qM 29 0,qN 30 29,oo 31 (.bi .leq 0 (.t 30) (i6 16)),qM 2 31]) (.rt)))) }
theorem Zd6:ZP Proofs.Tryz.prog Vq DC=true:=by kernel_rfl
def VS:F2 :=
 { nt:=21,res:=[.t 2 [2]],body:=(.sq (rg [oo 1 (.bt (.t 0)),om 2 (.k (.slice none 0 0))]) (.sq (rg [oo 6 (.bs 1 0 [] []),qM 3 6]) (.sq (.sq (rg [qF 7 5 1,qL 8 7,qN 9 8,om 10 (i6 0)]) (.bl 0 (.lp [3,8,9,10] [192,576] (.sq (rg [qB 11 .lss 10 9]) (.sq (.cd (.t 11) (.sk) (.ex 0)) (.sq (.bl 1 (.sq (rg [qI 12 2 8 10,qS 13 2 12,oo 5 (.al [.string ⟨#[]⟩,.int .i64 0] []),on1 (.st 2 (.t 5) (.t 13))])
 (rg [qM 14 3,qF 15 0 5,qL 16 15,oo 17 (.bs 1 1 [.string ⟨#[]⟩] [(0,.t 16)]),oo 18 (.ap 1 0 (.t 14) (.t 17)),qM 3 18])))
 (rg [oo 19 (.bi .add 0 (.t 10) (i6 1)),qM 10 19]))))))) (.sq (rg [qM 20 3,qM 2 20]) (.rt))))) }
theorem WZ:ZP Proofs.Tryz.prog ZB VS=true:=by kernel_rfl
def QO:F2 :=
 { nt:=32,res:=[.t 8 [0]],body:=(.sq (rg [oo 4 (.bt (.t 0)),om 8 (.k (.bool false))]) (.sq (.sq (rg [qM 9 2,oo 10 (.bi .lss 0 (.t 9) (i6 0))]) (.cd (.t 10) (.sq (rg [qM 11 2,qF 12 0 4,qL 13 12,oo 14 (.ng (.t 13)),qB 15 .geq 11 14,qM 8 15]) (.rt)) (.sk))) (.sq (rg [qM 16 2,qM 17 3,qB 18 .lss 16 17,qM 19 18,og 20 19 true (.mv (.t 1) none),og 21 19 true (.fa 1 (.t 4)),og 22 19 true (.ld none (.t 21)),og 23 19 true (.mv (.t 2) none),og 24 19 true (.ia 3 (.t 22) (.t 23)),og 25 19 true (.fa 0 (.t 24)),og 26 19 true (.ld none (.t 25)),og 27 19 true (.ia 3 (.t 20) (.t 26)),og 28 19 true (.fa 2 (.t 27)),og 29 19 true (.ld none (.t 28)),og 30 19 true (.bi .neq 0 (.t 29) (i6 2)),oo 31 (.pk (.t 19) (.t 30) (.k (.bool false))),qM 8 31]) (.rt)))) }
theorem UN:ZP Proofs.Tryz.prog JD QO=true:=by kernel_rfl
def WM:F2 :=
 { nt:=8,res:=[.t 3 [0]],body:=(.sq (rg [om 3 (.k (.bool false))]) (.sq (rg [qS 4 6 1,qM 5 0,oo 6 (.ca .pure false (.f JW) [.t 4,.t 5]),oo 7 (.nt (.t 6)),qM 3 7]) (.rt))) }
theorem Zbt:ZP Proofs.Tryz.prog VC WM=true:=by kernel_rfl
def Xl:F2 :=
 { nt:=14,res:=[.t 4 [0]],body:=(.sq (rg [oo 2 (.bt (.t 0)),om 4 (.k (.bool false))]) (.sq (rg [qM 5 1,qF 6 3 2,qL 7 6,qF 8 4 2,qL 9 8,qN 10 9,qB 11 .add 7 10,oo 12 (.bi .sub 0 (.t 11) (i6 1)),oo 13 (.ca .pure false (.f Ji) [.t 5,i6 0,.t 12]),qM 4 13]) (.rt))) }
theorem DD:ZP Proofs.Tryz.prog JW Xl=true:=by kernel_rfl
def WN:F2 :=
 { nt:=13,res:=[.t 4 [0]],body:=(.sq (rg [om 4 (.k (.bool false))]) (.sq (rg [qS 5 6 1,qL 6 2,qM 7 0,qF 8 1 1,qL 9 8,qN 10 9,oo 11 (.ca .pure false (.f JD) [.t 5,.t 6,.t 7,.t 10]),oo 12 (.nt (.t 11)),qM 4 12]) (.rt))) }
theorem Zbu:ZP Proofs.Tryz.prog VD WN=true:=by kernel_rfl
def WO:F2 :=
 { nt:=9,res:=[.t 3 [0]],body:=(.sq (rg [oo 2 (.bt (.t 0)),om 3 (.k (.bool false))]) (.sq (rg [qS 4 6 1,qF 5 1 2,qL 6 5,oo 7 (.ca .pure false (.f JW) [.t 4,.t 6]),oo 8 (.nt (.t 7)),qM 3 8]) (.rt))) }
theorem Zbv:ZP Proofs.Tryz.prog VE WO=true:=by kernel_rfl
def VT:F2 :=
 { nt:=49,res:=[.t 4 [2],.t 5 [2]],body:=(.sq (rg [oo 2 (.bt (.t 0)),om 4 (.k (.slice none 0 0)),om 5 (.k (.slice none 0 0))]) (.sq (rg [oo 12 (.bs 1 0 [] []),oo 13 (.bs 1 0 [] []),qM 6 12,qM 7 13]) (.sq (.sq (rg [qF 14 1 2,qL 15 14,qN 16 15,om 17 (i6 0)]) (.bl 0 (.lp [1,2,6,7,15,16,17] [384,416,928,1440] (.sq (rg [qB 18 .lss 17 16]) (.sq (.cd (.t 18) (.sk) (.ex 0)) (.sq (.bl 1 (.sq (rg [qM 19 17,qI 20 3 15 17,qS 21 3 20,oo 9 (.al [.int .i64 0,.int .i64 0,.slice none 0 0] []),qM 8 19,on1 (.st 3 (.t 9) (.t 21))]) (.sq (rg [qF 22 1 9,qL 23 22,qM 24 1,qB 25 .eql 23 24]) (.cd (.t 25) (rg [qM 26 6,qM 27 8,oo 28 (.bs 1 1 [.int .i64 0] [(0,.t 27)]),oo 29 (.ap 1 0 (.t 26) (.t 28)),qM 6 29]) (.sk)))))
 (rg [oo 30 (.bi .add 0 (.t 17) (i6 1)),qM 17 30]))))))) (.sq (.sq (rg [qF 31 2 2,qL 32 31,qN 33 32,om 34 (i6 0)]) (.bl 2 (.lp [1,6,7,32,33,34] [384,416,928,1440] (.sq (rg [qB 35 .lss 34 33]) (.sq (.cd (.t 35) (.sk) (.ex 2)) (.sq (.bl 3 (.sq (rg [qM 36 34,qI 37 1 32 34,qL 38 37,qM 10 36,qM 11 38]) (.sq (rg [qM 39 11,qM 40 1,qB 41 .eql 39 40]) (.cd (.t 41) (rg [qM 42 7,qM 43 10,oo 44 (.bs 1 1 [.int .i64 0] [(0,.t 43)]),oo 45 (.ap 1 0 (.t 42) (.t 44)),qM 7 45]) (.sk)))))
 (rg [oo 46 (.bi .add 0 (.t 34) (i6 1)),qM 34 46]))))))) (.sq (rg [qM 47 6,qM 48 7,qM 4 47,qM 5 48]) (.rt)))))) }
theorem W0:ZP Proofs.Tryz.prog J3 VT=true:=by kernel_rfl
def Xm:F2 :=
 { nt:=19,res:=[.t 4 [0]],body:=(.sq (rg [oo 2 (.bt (.t 0)),om 4 (.k (.bool false))]) (.sq (rg [qS 8 6 2,qM 9 1,oo 10 (.ca .pure false (.f Yi) [.t 8,.t 9]),qM 7 10,qE 11 0 7,qE 12 1 7,qM 5 11,qM 6 12]) (.sq (rg [qM 13 5,qN 14 13,qM 15 6,qN 16 15,qB 17 .add 14 16,oo 18 (.bi .eql 0 (.t 17) (i6 0)),qM 4 18]) (.rt)))) }
theorem DE:ZP Proofs.Tryz.prog Yz Xm=true:=by kernel_rfl
def Ju:F2 :=
 { nt:=42,res:=[.t 4 [2]],body:=(.sq (rg [om 4 (.k (.slice none 0 0))]) (.sq (rg [qM 8 0,qM 9 1,oo 10 (.ca .pure false (.f ZZ) [.t 8,.t 9]),qM 5 10]) (.sq (.sq (rg [qM 11 5,oo 12 (.bi .eql 0 (.t 11) (i6 (-1)))]) (.cd (.t 12) (.sq (rg [qM 13 0,qM 4 13]) (.rt)) (.sk))) (.sq (.sq (rg [qM 14 5,oo 15 (.bi .add 0 (.t 14) (i6 1)),qM 6 15]) (.bl 0 (.lp [0,1,5,6] [] (.sq (.sq (rg [qM 16 6,qM 17 0,qN 18 17,qB 19 .lss 16 18]) (.cd (.t 19) (.sk) (.ex 0))) (.sq (.bl 1 (.sq (rg [qM 22 0,qM 23 6,qI 24 1 22 23,qL 25 24,qM 7 25]) (.sq (rg [qM 26 1,qM 27 7,oo 28 (.ca .pure false (.t 26) [.t 27]),oo 29 (.nt (.t 28))]) (.cd (.t 29) (.sq (rg [qM 30 0,qM 31 5,qM 32 7,qI 33 1 30 31,on1 (.st 1 (.t 33) (.t 32))])
 (rg [qM 34 5,oo 35 (.bi .add 0 (.t 34) (i6 1)),qM 5 35])) (.sk)))))
 (rg [qM 20 6,oo 21 (.bi .add 0 (.t 20) (i6 1)),qM 6 21])))))) (.sq (rg [qM 36 0,qM 37 5,oo 38 (.sx 1 (.t 36) (some (.t 37)) none none),on1 (.cl 1 [.string ⟨#[]⟩] (.t 38))]) (.sq (rg [qM 39 0,qM 40 5,oo 41 (.sx 1 (.t 39) none (some (.t 40)) none),qM 4 41]) (.rt))))))) }
theorem Yg:ZP Proofs.Tryz.prog ZW Ju=true:=by kernel_rfl
def Wr:F2 :=
 { nt:=8,res:=[.t 3 [0]],body:=(.sq (rg [om 3 (.k (.bool false))]) (.sq (rg [qF 4 4 1,qL 5 4,qM 6 0,oo 7 (.ca .pure false (.f Z3) [.t 5,.t 6]),qM 3 7]) (.rt))) }
theorem ZaQ:ZP Proofs.Tryz.prog JE Wr=true:=by kernel_rfl
def U6:F2 :=
 { nt:=20,res:=[.c 6 (some 6) [0,4,2,0,2,3],.t 7 [0]],body:=(.sq (rg [oo 4 (.bt (.t 1)),oo 5 (.bt (.t 2)),oo 6 (.al [.int .i64 0,.slice none 0 0,.slice none 0 0,.int .i64 0,.slice none 0 0,.slice none 0 0] []),om 7 (.k (.bool false))]) (.sq (.sq (rg [qF 8 4 4,qL 9 8,qF 10 4 5,qL 11 10,oo 12 (.ca .pure false (.f YA) [.t 9,.t 11])]) (.cd (.t 12) (.sq (rg [oo 13 (.bd [.int .i64 0,.slice none 0 0,.slice none 0 0,.int .i64 0,.slice none 0 0,.slice none 0 0] [] []),on1 (.st 6 (.t 6) (.t 13)),om 7 (.k (.bool false))]) (.rt)) (.sk))) (.sq (rg [qM 14 0,qS 15 6 4,qS 16 6 5,oo 17 (.ca .pure true (.f Yp) [.t 14,.t 15,.t 16]),qE 18 0 17,qE 19 1 17,on1 (.st 6 (.t 6) (.t 18)),qM 7 19]) (.rt)))) }
theorem Zc2:ZP Proofs.Tryz.prog QI U6=true:=by kernel_rfl
def DF:F2 :=
 { nt:=42,res:=[.c 4 (some 6) [0,4,2,0,2,3]],body:=(.sq (rg [oo 4 (.al [.int .i64 0,.slice none 0 0,.slice none 0 0,.int .i64 0,.slice none 0 0,.slice none 0 0] [])]) (.sq (rg [qM 9 0,qM 10 1,oo 11 (.ca .pure true (.f ZV) [.t 10]),oo 12 (.bd [.int .i64 0,.slice none 0 0,.slice none 0 0,.int .i64 0,.slice none 0 0,.slice none 0 0] [(0,1,.t 9),(4,1,.t 11)] [(2,1),(5,2)]),oo 5 (.al [.int .i64 0,.slice none 0 0,.slice none 0 0,.int .i64 0,.slice none 0 0,.slice none 0 0] []),on1 (.st 6 (.t 5) (.t 12))]) (.sq (.sq (rg [qM 13 0,om 14 (i6 0)]) (.bl 0 (.lp [1,4,5,13,14] [128,160,352,384,385,704,1216] (.sq (rg [qB 15 .lss 14 13]) (.sq (.cd (.t 15) (.sk) (.ex 0)) (.sq (.bl 1 (.sq (rg [qM 16 14,qM 6 16])
 (rg [qF 17 2 5,qL 18 17,qM 19 6,oo 20 (.bi .sub 0 (i6 (-1)) (.t 19)),oo 21 (.bs 1 1 [.int .i64 0] [(0,.t 20)]),oo 22 (.ap 1 0 (.t 18) (.t 21)),qF 23 2 5,on1 (.st 1 (.t 23) (.t 22))])))
 (rg [oo 24 (.bi .add 0 (.t 14) (i6 1)),qM 14 24]))))))) (.sq (.sq (rg [qM 25 1,qN 26 25,om 27 (i6 0)]) (.bl 2 (.lp [4,5,25,26,27] [128,160,352,384,385,704,1216] (.sq (rg [qB 28 .lss 27 26]) (.sq (.cd (.t 28) (.sk) (.ex 2)) (.sq (.bl 3 (.sq (rg [qM 29 27,qI 30 1 25 27,qL 31 30,qM 7 29,qM 8 31])
 (rg [qF 32 5 5,qL 33 32,qM 34 8,qM 35 7,oo 36 (.bd [.string ⟨#[]⟩,.int .i64 0] [(0,1,.t 34),(1,1,.t 35)] []),oo 37 (.bs 2 1 [.string ⟨#[]⟩,.int .i64 0] [(0,.t 36)]),oo 38 (.ap 2 0 (.t 33) (.t 37)),qF 39 5 5,on1 (.st 1 (.t 39) (.t 38))])))
 (rg [oo 40 (.bi .add 0 (.t 27) (i6 1)),qM 27 40]))))))) (.sq (rg [qS 41 6 5,on1 (.st 6 (.t 4) (.t 41))]) (.rt)))))) }
theorem Zd7:ZP Proofs.Tryz.prog Q4 DF=true:=by kernel_rfl
def QX:F2 :=
 { nt:=32,res:=[.c 6 (some 6) [0,4,2,0,2,3],.t 7 [0]],body:=(.sq (rg [oo 4 (.bt (.t 1)),oo 5 (.bt (.t 2)),oo 6 (.al [.int .i64 0,.slice none 0 0,.slice none 0 0,.int .i64 0,.slice none 0 0,.slice none 0 0] []),om 7 (.k (.bool false))]) (.sq (.sq (rg [qM 8 0,qS 9 6 4,oo 10 (.ca .pure false (.f ZT) [.t 8,.t 9]),oo 11 (.nt (.t 10)),qM 12 11,og 13 12 false (.mv (.t 0) none),og 14 12 false (.ld (some 6) (.t 5)),og 15 12 false (.ca .pure false (.f ZT) [.t 13,.t 14]),og 16 12 false (.nt (.t 15)),oo 17 (.pk (.t 12) (.k (.bool true)) (.t 16)),qM 18 17,og 19 18 false (.ld (some 6) (.t 4)),og 20 18 false (.ld (some 6) (.t 5)),og 21 18 false (.ca .pure false (.f UM) [.t 19,.t 20]),og 22 18 false (.nt (.t 21)),oo 23 (.pk (.t 18) (.k (.bool true)) (.t 22))]) (.cd (.t 23) (.sq (rg [oo 24 (.bd [.int .i64 0,.slice none 0 0,.slice none 0 0,.int .i64 0,.slice none 0 0,.slice none 0 0] [] []),on1 (.st 6 (.t 6) (.t 24)),om 7 (.k (.bool false))]) (.rt)) (.sk))) (.sq (rg [qM 25 0,qS 26 6 4,qS 27 6 5,oo 28 (.ca .pure false (.f Q6) [.t 26,.t 27]),oo 29 (.ca .pure true (.f Xe) [.t 25,.t 28]),qE 30 0 29,qE 31 1 29,on1 (.st 6 (.t 6) (.t 30)),qM 7 31]) (.rt)))) }
theorem Di:ZP Proofs.Tryz.prog JM QX=true:=by kernel_rfl
def Zbw:F2 :=
 { nt:=28,res:=[.t 4 [2]],body:=(.sq (rg [oo 2 (.bt (.t 0)),om 4 (.k (.slice none 0 0))]) (.sq (rg [oo 7 (.bs 1 0 [] []),qM 5 7]) (.sq (.sq (rg [om 6 (i6 0)]) (.bl 0 (.lp [1,2,5,6] [224,832] (.sq (.sq (rg [qM 8 6,qF 9 1 2,qL 10 9,qN 11 10,qB 12 .lss 8 11]) (.cd (.t 12) (.sk) (.ex 0))) (.sq (.bl 1 (.sq (rg [qF 15 1 2,qL 16 15,qM 17 6,qI 18 3 16 17,qF 19 1 18,qL 20 19,qM 21 1,qB 22 .eql 20 21]) (.cd (.t 22) (rg [qM 23 5,qM 24 6,oo 25 (.bs 1 1 [.int .i64 0] [(0,.t 24)]),oo 26 (.ap 1 0 (.t 23) (.t 25)),qM 5 26]) (.sk))))
 (rg [qM 13 6,oo 14 (.bi .add 0 (.t 13) (i6 1)),qM 6 14])))))) (.sq (rg [qM 27 5,qM 4 27]) (.rt))))) }
theorem Zgj:ZP Proofs.Tryz.prog Wm Zbw=true:=by kernel_rfl
def Zax:F2 :=
 { nt:=27,res:=[.t 4 [2]],body:=(.sq (rg [oo 2 (.bt (.t 0)),om 4 (.k (.slice none 0 0))]) (.sq (rg [oo 7 (.bs 1 0 [] []),qM 5 7]) (.sq (.sq (rg [om 6 (i6 0)]) (.bl 0 (.lp [1,2,5,6] [224,800] (.sq (.sq (rg [qM 8 6,qF 9 2 2,qL 10 9,qN 11 10,qB 12 .lss 8 11]) (.cd (.t 12) (.sk) (.ex 0))) (.sq (.bl 1 (.sq (rg [qF 15 2 2,qL 16 15,qM 17 6,qI 18 1 16 17,qL 19 18,qM 20 1,qB 21 .eql 19 20]) (.cd (.t 21) (rg [qM 22 5,qM 23 6,oo 24 (.bs 1 1 [.int .i64 0] [(0,.t 23)]),oo 25 (.ap 1 0 (.t 22) (.t 24)),qM 5 25]) (.sk))))
 (rg [qM 13 6,oo 14 (.bi .add 0 (.t 13) (i6 1)),qM 6 14])))))) (.sq (rg [qM 26 5,qM 4 26]) (.rt))))) }
theorem ZeT:ZP Proofs.Tryz.prog V1 Zax=true:=by kernel_rfl
def Zbx:F2 :=
 { nt:=17,res:=[.t 4 [0]],body:=(.sq (rg [oo 2 (.bt (.t 0)),om 4 (.k (.bool false))]) (.sq (rg [qS 5 6 2,qM 6 1,oo 7 (.ca .pure false (.f XF) [.t 5,.t 6]),qN 8 7,oo 9 (.bi .eql 0 (.t 8) (i6 0)),qM 10 9,og 11 10 true (.ld (some 6) (.t 2)),og 12 10 true (.mv (.t 1) none),og 13 10 true (.ca .pure false (.f Wp) [.t 11,.t 12]),og 14 10 true (.ln (.t 13)),og 15 10 true (.bi .eql 0 (.t 14) (i6 0)),oo 16 (.pk (.t 10) (.t 15) (.k (.bool false))),qM 4 16]) (.rt))) }
theorem Zgk:ZP Proofs.Tryz.prog Wn Zbx=true:=by kernel_rfl
def Zby:F2 :=
 { nt:=23,res:=[.t 2 [0]],body:=(.sq (rg [om 2 (.k (.bool false))]) (.sq (.sq (rg [om 3 (i6 0)]) (.bl 0 (.lp [0,3] [] (.sq (.sq (rg [qM 4 3,qM 5 0,oo 6 (.lg (.t 5)),qB 7 .lss 4 6]) (.cd (.t 7) (.sk) (.ex 0))) (.sq (.bl 1 (.sq (rg [qM 10 0,qM 11 3,oo 12 (.ix (.t 10) (.t 11)),oo 13 (.bi .lss 0 (.t 12) (.k (.int .u8 97))),qM 14 13,og 15 14 false (.mv (.t 0) none),og 16 14 false (.mv (.t 3) none),og 17 14 false (.ix (.t 15) (.t 16)),og 18 14 false (.bi .gtr 0 (.t 17) (.k (.int .u8 122))),oo 19 (.pk (.t 14) (.k (.bool true)) (.t 18))]) (.cd (.t 19) (.sq (rg [om 2 (.k (.bool false))]) (.rt)) (.sk))))
 (rg [qM 8 3,oo 9 (.bi .add 0 (.t 8) (i6 1)),qM 3 9])))))) (.sq (rg [qM 20 0,oo 21 (.lg (.t 20)),oo 22 (.ca .pure false (.f Jr) [.t 21,i6 1,i6 4]),qM 2 22]) (.rt)))) }
theorem Zgl:ZP Proofs.Tryz.prog QJ Zby=true:=by kernel_rfl
def Zd8:F2 :=
 { nt:=19,res:=[.t 4 [0]],body:=(.sq (rg [om 4 (i6 0)]) (.sq (.sq (rg [om 5 (i6 0)]) (.bl 0 (.lp [0,1,5] [] (.sq (.sq (rg [qM 6 5,qM 7 0,qN 8 7,qB 9 .lss 6 8]) (.cd (.t 9) (.sk) (.ex 0))) (.sq (.bl 1 (.sq (rg [qM 12 0,qM 13 5,qI 14 1 12 13,qL 15 14,qM 16 1,qB 17 .eql 15 16]) (.cd (.t 17) (.sq (rg [qM 18 5,qM 4 18]) (.rt)) (.sk))))
 (rg [qM 10 5,oo 11 (.bi .add 0 (.t 10) (i6 1)),qM 5 11])))))) (.sq (rg [om 4 (i6 (-1))]) (.rt)))) }
theorem ZiK:ZP Proofs.Tryz.prog QK Zd8=true:=by kernel_rfl
def DG:F2 :=
 { nt:=42,res:=[.c 6 (some 6) [0,4,2,0,2,3],.t 7 [0]],body:=(.sq (rg [oo 4 (.bt (.t 1)),oo 5 (.bt (.t 2)),oo 6 (.al [.int .i64 0,.slice none 0 0,.slice none 0 0,.int .i64 0,.slice none 0 0,.slice none 0 0] []),om 7 (.k (.bool false))]) (.sq (.sq (.rg (some 0) [qM 8 0,qS 9 6 4,oo 10 (.ca .pure false (.f Jh) [.t 8,.t 9]),oo 11 (.nt (.t 10)),qM 12 11,og 13 12 false (.mv (.t 0) none),og 14 12 false (.ld (some 6) (.t 5)),og 15 12 false (.ca .pure false (.f Jh) [.t 13,.t 14]),og 16 12 false (.nt (.t 15)),oo 17 (.pk (.t 12) (.k (.bool true)) (.t 16)),qM 18 17,og 19 18 false (.fa 4 (.t 4)),og 20 18 false (.ld none (.t 19)),og 21 18 false (.fa 4 (.t 5)),og 22 18 false (.ld none (.t 21)),og 23 18 false (.ca .pure false (.f V2) [.t 20,.t 22]),og 24 18 false (.nt (.t 23)),oo 25 (.pk (.t 18) (.k (.bool true)) (.t 24)),qM 26 25,og 27 26 false (.ld (some 6) (.t 4)),og 28 26 false (.ca .pure false (.f JO) [.t 27]),og 29 26 false (.ld (some 6) (.t 5)),og 30 26 false (.ca .pure false (.f JO) [.t 29]),og 31 26 false (.ca .pure false (.f V2) [.t 28,.t 30]),og 32 26 false (.nt (.t 31)),oo 33 (.pk (.t 26) (.k (.bool true)) (.t 32))]) (.cd (.t 33) (.sq (rg [oo 34 (.bd [.int .i64 0,.slice none 0 0,.slice none 0 0,.int .i64 0,.slice none 0 0,.slice none 0 0] [] []),on1 (.st 6 (.t 6) (.t 34)),om 7 (.k (.bool false))]) (.rt)) (.sk))) (.sq (rg [qM 35 0,qS 36 6 4,qS 37 6 5,oo 38 (.ca .pure false (.f Wq) [.t 36,.t 37]),oo 39 (.ca .pure true (.f Vc) [.t 35,.t 38]),qE 40 0 39,qE 41 1 39,on1 (.st 6 (.t 6) (.t 40)),qM 7 41]) (.rt)))) }
theorem Zd9:ZP Proofs.Tryz.prog Q5 DG=true:=by kernel_rfl
def Ui:F2 :=
 { nt:=43,res:=[.c 4 (some 6) [0,4,2,0,2,3]],body:=(.sq (rg [oo 4 (.al [.int .i64 0,.slice none 0 0,.slice none 0 0,.int .i64 0,.slice none 0 0,.slice none 0 0] [])]) (.sq (rg [qM 8 0,oo 9 (.bs 1 0 [] []),qM 10 1,oo 11 (.ap 1 0 (.t 9) (.t 10)),oo 12 (.bd [.int .i64 0,.slice none 0 0,.slice none 0 0,.int .i64 0,.slice none 0 0,.slice none 0 0] [(0,1,.t 8),(4,1,.t 11)] [(2,1),(5,2)]),oo 5 (.al [.int .i64 0,.slice none 0 0,.slice none 0 0,.int .i64 0,.slice none 0 0,.slice none 0 0] []),on1 (.st 6 (.t 5) (.t 12))]) (.sq (.sq (rg [om 6 (i6 0)]) (.bl 0 (.lp [0,1,4,5,6] [128,160,288,352,384,385,736,1280] (.sq (.sq (rg [qM 13 6,qM 14 0,qB 15 .lss 13 14]) (.cd (.t 15) (.sk) (.ex 0))) (.sq (.bl 1 (rg [qF 18 2 5,qL 19 18,qM 20 6,oo 21 (.bi .sub 0 (i6 (-1)) (.t 20)),oo 22 (.bs 1 1 [.int .i64 0] [(0,.t 21)]),oo 23 (.ap 1 0 (.t 19) (.t 22)),qF 24 2 5,on1 (.st 1 (.t 24) (.t 23))]))
 (rg [qM 16 6,oo 17 (.bi .add 0 (.t 16) (i6 1)),qM 6 17])))))) (.sq (.sq (rg [om 7 (i6 0)]) (.bl 2 (.lp [1,4,5,7] [128,160,288,352,384,385,736,1280] (.sq (.sq (rg [qM 25 7,qM 26 1,qN 27 26,qB 28 .lss 25 27]) (.cd (.t 28) (.sk) (.ex 2))) (.sq (.bl 3 (.rg (some 0) [qF 31 5 5,qL 32 31,qM 33 1,qM 34 7,qI 35 1 33 34,qL 36 35,qM 37 7,oo 38 (.bd [.string ⟨#[]⟩,.int .i64 0] [(0,1,.t 36),(1,1,.t 37)] []),oo 39 (.bs 2 1 [.string ⟨#[]⟩,.int .i64 0] [(0,.t 38)]),oo 40 (.ap 2 0 (.t 32) (.t 39)),qF 41 5 5,on1 (.st 1 (.t 41) (.t 40))]))
 (rg [qM 29 7,oo 30 (.bi .add 0 (.t 29) (i6 1)),qM 7 30])))))) (.sq (rg [qS 42 6 5,on1 (.st 6 (.t 4) (.t 42))]) (.rt)))))) }
theorem Zcr:ZP Proofs.Tryz.prog V7 Ui=true:=by kernel_rfl
def Zbz:F2 :=
 { nt:=18,res:=[.t 4 [0]],body:=(.sq (rg [oo 2 (.bt (.t 0)),oo 3 (.bt (.t 1)),om 4 (.k (.bool false))]) (.sq (.rg (some 0) [qF 5 2 2,qL 6 5,qN 7 6,qF 8 0 3,qL 9 8,qB 10 .eql 7 9,qM 11 10,og 12 11 true (.ld (some 6) (.t 2)),og 13 11 true (.ca .pure false (.f JO) [.t 12]),og 14 11 true (.fa 4 (.t 3)),og 15 11 true (.ld none (.t 14)),og 16 11 true (.ca .pure false (.f XG) [.t 13,.t 15]),oo 17 (.pk (.t 11) (.t 16) (.k (.bool false))),qM 4 17]) (.rt))) }
theorem Zgm:ZP Proofs.Tryz.prog Wo Zbz=true:=by kernel_rfl
def UO:F2 :=
 { nt:=12,res:=[.c 4 (some 6) [0,4,2,0,2,3],.t 5 [0]],body:=(.sq (rg [oo 3 (.bt (.t 1)),oo 4 (.al [.int .i64 0,.slice none 0 0,.slice none 0 0,.int .i64 0,.slice none 0 0,.slice none 0 0] []),om 5 (.k (.bool false))]) (.sq (.sq (rg [qM 6 0,qS 7 6 3,oo 8 (.ca .pure false (.f Jh) [.t 6,.t 7]),oo 9 (.nt (.t 8))]) (.cd (.t 9) (.sq (rg [oo 10 (.bd [.int .i64 0,.slice none 0 0,.slice none 0 0,.int .i64 0,.slice none 0 0,.slice none 0 0] [] []),on1 (.st 6 (.t 4) (.t 10)),om 5 (.k (.bool false))]) (.rt)) (.sk))) (.sq (rg [qS 11 6 3,on1 (.st 6 (.t 4) (.t 11)),om 5 (.k (.bool true))]) (.rt)))) }
theorem ZbA:ZP Proofs.Tryz.prog Vc UO=true:=by kernel_rfl
def Zay:F2 :=
 { nt:=51,res:=[.c 4 (some 6) [0,4,2,0,2,3]],body:=(.sq (rg [oo 2 (.bt (.t 0)),oo 3 (.bt (.t 1)),oo 4 (.al [.int .i64 0,.slice none 0 0,.slice none 0 0,.int .i64 0,.slice none 0 0,.slice none 0 0] [])]) (.sq (rg [qF 9 4 2,qL 10 9,qF 11 3 2,qL 12 11,qF 13 3 3,qL 14 13,qB 15 .add 12 14,qF 16 4 2,qL 17 16,oo 18 (.ca .pure false (.f YI) [.t 10,.t 15,.t 17]),qM 5 18]) (.sq (rg [qF 19 3 2,qL 20 19,oo 21 (.ca .pure true (.f JP) [i6 0,.t 20]),qM 22 5,oo 23 (.ap 1 0 (.t 21) (.t 22)),oo 24 (.bs 1 0 [] []),qM 6 23,qM 7 24]) (.sq (.sq (rg [om 8 (i6 0)]) (.bl 0 (.lp [2,3,4,5,6,7,8] [128,672,736,768,1376,1600,1601,1602,1603] (.sq (.sq (rg [qM 25 8,qF 26 5 2,qL 27 26,qN 28 27,qB 29 .lss 25 28]) (.cd (.t 29) (.sk) (.ex 0))) (.sq (.bl 1 (rg [qM 32 7,qM 33 6,qF 34 5 2,qL 35 34,qM 36 8,qI 37 2 35 36,qF 38 1 37,qL 39 38,qI 40 1 33 39,qL 41 40,oo 42 (.bs 1 1 [.int .i64 0] [(0,.t 41)]),oo 43 (.ap 1 0 (.t 32) (.t 42)),qM 7 43]))
 (rg [qM 30 8,oo 31 (.bi .add 0 (.t 30) (i6 1)),qM 8 31])))))) (.sq (rg [qS 44 6 2,qS 45 6 3,qF 46 4 2,qL 47 46,qM 48 5,oo 49 (.fz (.t 7)),oo 50 (.ca .pure true (.f XH) [.t 44,.t 45,.t 47,.t 48,.t 49]),on1 (.st 6 (.t 4) (.t 50))]) (.rt)))))) }
theorem ZeU:ZP Proofs.Tryz.prog XE Zay=true:=by kernel_rfl
def ZbB:F2 :=
 { nt:=11,res:=[.t 2 [0]],body:=(.sq (rg [om 2 (.k (.bool false))]) (.sq (rg [qM 3 0,oo 4 (.lg (.t 3)),oo 5 (.ca .pure false (.f Ji) [.t 4,i6 1,i6 4]),qM 6 5,og 7 6 true (.mv (.t 0) none),og 8 6 true (.ca .pure false (.f U3) [.t 7,.k (.string ⟨#[97,98,99,100,101,102,103,104,105,106,107,108,109,110,111,112,113,114,115,116,117,118,119,120,121,122]⟩)]),og 9 6 true (.bi .eql 0 (.t 8) (.k (.string ⟨#[]⟩))),oo 10 (.pk (.t 6) (.t 9) (.k (.bool false))),qM 2 10]) (.rt))) }
theorem Zgn:ZP Proofs.Tryz.prog QL ZbB=true:=by kernel_rfl
def XL:F2 :=
 { nt:=9,res:=[.t 3 [0]],body:=(.sq (rg [oo 2 (.bt (.t 0)),om 3 (.k (.bool false))]) (.sq (rg [qF 4 0 2,qL 5 4,qF 6 0 1,qL 7 6,qB 8 .eql 5 7,qM 3 8]) (.rt))) }
theorem Zak:ZP Proofs.Tryz.prog J4 XL=true:=by kernel_rfl
def QP:F2 :=
 { nt:=62,res:=[.t 4 [3],.t 5 [2]],body:=(.sq (rg [oo 2 (.bt (.t 0)),om 4 (.k (.slice none 0 0)),om 5 (.k (.slice none 0 0))]) (.sq (rg [oo 14 (.bs 2 0 [] []),oo 15 (.bs 1 0 [] []),qM 6 14,qM 7 15]) (.sq (.sq (rg [qF 16 1 2,qL 17 16,qN 18 17,om 19 (i6 0)]) (.bl 0 (.lp [1,2,6,7,17,18,19] [448,480,1280,1856] (.sq (rg [qB 20 .lss 19 18]) (.sq (.cd (.t 20) (.sk) (.ex 0)) (.sq (.bl 1 (.sq (rg [qM 21 19,qI 22 3 17 19,qS 23 3 22,oo 9 (.al [.int .i64 0,.int .i64 0,.slice none 0 0] []),qM 8 21,on1 (.st 3 (.t 9) (.t 23))]) (.sq (rg [qF 24 2 9,qL 25 24,qN 26 25,om 27 (i6 0)]) (.bl 2 (.lp [1,2,6,7,8,17,18,19,25,26,27] [288,448,480,1280,1856] (.sq (rg [qB 28 .lss 27 26]) (.sq (.cd (.t 28) (.sk) (.ex 2)) (.sq (.bl 3 (.sq (rg [qM 29 27,qI 30 1 25 27,qL 31 30,qM 10 29,qM 11 31]) (.sq (rg [qM 32 11,qM 33 1,qB 34 .eql 32 33]) (.cd (.t 34) (rg [qM 35 6,qM 36 8,qM 37 10,oo 38 (.bd [.int .i64 0,.int .i64 0] [(0,1,.t 36),(1,1,.t 37)] []),oo 39 (.bs 2 1 [.int .i64 0,.int .i64 0] [(0,.t 38)]),oo 40 (.ap 2 0 (.t 35) (.t 39)),qM 6 40]) (.sk)))))
 (rg [oo 41 (.bi .add 0 (.t 27) (i6 1)),qM 27 41])))))))))
 (rg [oo 42 (.bi .add 0 (.t 19) (i6 1)),qM 19 42]))))))) (.sq (.sq (rg [qF 43 5 2,qL 44 43,qN 45 44,om 46 (i6 0)]) (.bl 4 (.lp [1,6,7,44,45,46] [448,480,1280,1856] (.sq (rg [qB 47 .lss 46 45]) (.sq (.cd (.t 47) (.sk) (.ex 4)) (.sq (.bl 5 (.sq (rg [qI 48 2 44 46,qS 49 2 48,oo 13 (.al [.string ⟨#[]⟩,.int .i64 0] []),on1 (.st 2 (.t 13) (.t 49))]) (.sq (rg [qF 50 1 13,qL 51 50,qM 52 1,qB 53 .eql 51 52]) (.cd (.t 53) (rg [qM 54 7,qF 55 0 13,qL 56 55,oo 57 (.bs 1 1 [.string ⟨#[]⟩] [(0,.t 56)]),oo 58 (.ap 1 0 (.t 54) (.t 57)),qM 7 58]) (.sk)))))
 (rg [oo 59 (.bi .add 0 (.t 46) (i6 1)),qM 46 59]))))))) (.sq (rg [qM 60 6,qM 61 7,qM 4 60,qM 5 61]) (.rt)))))) }
theorem UP:ZP Proofs.Tryz.prog Yi QP=true:=by kernel_rfl
def Uj:F2 :=
 { nt:=8,res:=[.t 4 [0]],body:=(.sq (rg [oo 3 (.bt (.t 1)),om 4 (.k (.bool false))]) (.sq (rg [qM 5 0,oo 6 (.mf Ye [.t 3]),oo 7 (.ca .pure false (.f JT) [.t 5,.t 6]),qM 4 7]) (.rt))) }
theorem Zcs:ZP Proofs.Tryz.prog YA Uj=true:=by kernel_rfl
def QY:F2 :=
 { nt:=33,res:=[.c 6 (some 6) [0,4,2,0,2,3],.t 7 [0]],body:=(.sq (rg [oo 4 (.bt (.t 1)),oo 5 (.bt (.t 2)),oo 6 (.al [.int .i64 0,.slice none 0 0,.slice none 0 0,.int .i64 0,.slice none 0 0,.slice none 0 0] []),om 7 (.k (.bool false))]) (.sq (.sq (.rg (some 0) [qM 8 0,qS 9 6 4,oo 10 (.ca .pure false (.f ZT) [.t 8,.t 9]),oo 11 (.nt (.t 10)),qM 12 11,og 13 12 false (.mv (.t 0) none),og 14 12 false (.ld (some 6) (.t 5)),og 15 12 false (.ca .pure false (.f ZT) [.t 13,.t 14]),og 16 12 false (.nt (.t 15)),oo 17 (.pk (.t 12) (.k (.bool true)) (.t 16)),qM 18 17,og 19 18 false (.ld (some 6) (.t 4)),og 20 18 false (.ca .pure false (.f ZB) [.t 19]),og 21 18 false (.ld (some 6) (.t 5)),og 22 18 false (.ca .pure false (.f ZB) [.t 21]),og 23 18 false (.ca .pure false (.f YA) [.t 20,.t 22]),oo 24 (.pk (.t 18) (.k (.bool true)) (.t 23))]) (.cd (.t 24) (.sq (rg [oo 25 (.bd [.int .i64 0,.slice none 0 0,.slice none 0 0,.int .i64 0,.slice none 0 0,.slice none 0 0] [] []),on1 (.st 6 (.t 6) (.t 25)),om 7 (.k (.bool false))]) (.rt)) (.sk))) (.sq (rg [qM 26 0,qS 27 6 4,qS 28 6 5,oo 29 (.ca .pure false (.f Q7) [.t 27,.t 28]),oo 30 (.ca .pure true (.f Xe) [.t 26,.t 29]),qE 31 0 30,qE 32 1 30,on1 (.st 6 (.t 6) (.t 31)),qM 7 32]) (.rt)))) }
theorem Dj:ZP Proofs.Tryz.prog Yp QY=true:=by kernel_rfl
def Y0:F2 :=
 { nt:=8,res:=[.t 2 [2]],body:=(.sq (rg [om 2 (.k (.slice none 0 0))]) (.sq (.sq (rg [qM 3 0,oo 4 (.nl false (.t 3))]) (.cd (.t 4) (.sq (rg [om 2 (.k (.slice none 0 0))]) (.rt)) (.sk))) (.sq (rg [oo 5 (.bs 1 0 [] []),qM 6 0,oo 7 (.ap 1 0 (.t 5) (.t 6)),qM 2 7]) (.rt)))) }
theorem XT:ZP Proofs.Tryz.prog ZV Y0=true:=by kernel_rfl
def Zea:F2 :=
 { nt:=18,res:=[.t 4 [0]],body:=(.sq (rg [oo 2 (.bt (.t 0)),oo 3 (.bt (.t 1)),om 4 (.k (.bool false))]) (.sq (.rg (some 0) [qF 5 2 2,qL 6 5,qN 7 6,qF 8 0 3,qL 9 8,qB 10 .eql 7 9,qM 11 10,og 12 11 true (.ld (some 6) (.t 2)),og 13 11 true (.ca .pure false (.f ZB) [.t 12]),og 14 11 true (.fa 4 (.t 3)),og 15 11 true (.ld none (.t 14)),og 16 11 true (.ca .pure false (.f JF) [.t 13,.t 15]),oo 17 (.pk (.t 11) (.t 16) (.k (.bool false))),qM 4 17]) (.rt))) }
theorem ZiL:ZP Proofs.Tryz.prog UM Zea=true:=by kernel_rfl
def ZcP:F2 :=
 { nt:=13,res:=[.c 4 (some 6) [0,4,2,0,2,3],.t 5 [0]],body:=(.sq (rg [oo 3 (.bt (.t 1)),oo 4 (.al [.int .i64 0,.slice none 0 0,.slice none 0 0,.int .i64 0,.slice none 0 0,.slice none 0 0] []),om 5 (.k (.bool false))]) (.sq (.sq (rg [qM 6 0,qS 7 6 3,oo 8 (.ca .pure false (.f ZT) [.t 6,.t 7]),oo 9 (.nt (.t 8))]) (.cd (.t 9) (.sq (rg [oo 10 (.bd [.int .i64 0,.slice none 0 0,.slice none 0 0,.int .i64 0,.slice none 0 0,.slice none 0 0] [] []),on1 (.st 6 (.t 4) (.t 10)),om 5 (.k (.bool false))]) (.rt)) (.sk))) (.sq (rg [qS 11 6 3,oo 12 (.ca .pure true (.f YB) [.t 11]),on1 (.st 6 (.t 4) (.t 12)),om 5 (.k (.bool true))]) (.rt)))) }
theorem ZhE:ZP Proofs.Tryz.prog Xe ZcP=true:=by kernel_rfl
def DH:F2 :=
 { nt:=17,res:=[.c 4 (some 6) [0,0,0,0,0,0]],body:=(.sq (rg [oo 2 (.bt (.t 0)),oo 3 (.bt (.t 1)),oo 4 (.al [.int .i64 0,.slice none 0 0,.slice none 0 0,.int .i64 0,.slice none 0 0,.slice none 0 0] [])]) (.sq (rg [qS 6 6 2,oo 7 (.ca .pure false (.f ZB) [.t 6]),oo 5 (.al [.slice none 0 0] []),on1 (.st 1 (.t 5) (.t 7))]) (.sq (rg [qS 8 6 2,qS 9 6 3,qF 10 0 2,qL 11 10,qF 12 4 2,qL 13 12,oo 14 (.mf YC [.t 2]),oo 15 (.mz YD [.t 2,.t 5]),oo 16 (.ca .pure false (.f Vd) [.t 8,.t 9,.t 11,.k (.slice none 0 0),.t 13,.t 14,.t 15]),on1 (.st 6 (.t 4) (.t 16))]) (.rt)))) }
theorem Zeb:ZP Proofs.Tryz.prog Q6 DH=true:=by kernel_rfl
def Zaz:F2 :=
 { nt:=45,res:=[.t 4 [3]],body:=(.sq (rg [oo 2 (.bt (.t 0)),om 4 (.k (.slice none 0 0))]) (.sq (rg [oo 8 (.bs 2 0 [] []),qM 5 8]) (.sq (.sq (rg [om 6 (i6 0)]) (.bl 0 (.lp [1,2,5,6] [256,1376] (.sq (.sq (rg [qM 9 6,qF 10 1 2,qL 11 10,qN 12 11,qB 13 .lss 9 12]) (.cd (.t 13) (.sk) (.ex 0))) (.sq (.bl 1 (.sq (rg [om 7 (i6 0)]) (.bl 2 (.lp [1,2,5,6,7] [256,1376] (.sq (.sq (rg [qM 16 7,qF 17 1 2,qL 18 17,qM 19 6,qI 20 3 18 19,qF 21 2 20,qL 22 21,qN 23 22,qB 24 .lss 16 23]) (.cd (.t 24) (.sk) (.ex 2))) (.sq (.bl 3 (.sq (rg [qF 27 1 2,qL 28 27,qM 29 6,qI 30 3 28 29,qF 31 2 30,qL 32 31,qM 33 7,qI 34 1 32 33,qL 35 34,qM 36 1,qB 37 .eql 35 36]) (.cd (.t 37) (rg [qM 38 5,qM 39 6,qM 40 7,oo 41 (.bd [.int .i64 0,.int .i64 0] [(0,1,.t 39),(1,1,.t 40)] []),oo 42 (.bs 2 1 [.int .i64 0,.int .i64 0] [(0,.t 41)]),oo 43 (.ap 2 0 (.t 38) (.t 42)),qM 5 43]) (.sk))))
 (rg [qM 25 7,oo 26 (.bi .add 0 (.t 25) (i6 1)),qM 7 26])))))))
 (rg [qM 14 6,oo 15 (.bi .add 0 (.t 14) (i6 1)),qM 6 15])))))) (.sq (rg [qM 44 5,qM 4 44]) (.rt))))) }
theorem ZeV:ZP Proofs.Tryz.prog XF Zaz=true:=by kernel_rfl
def ZbC:F2 :=
 { nt:=33,res:=[.t 4 [2]],body:=(.sq (rg [oo 2 (.bt (.t 0)),om 4 (.k (.slice none 0 0))]) (.sq (rg [oo 7 (.bs 1 0 [] []),qM 5 7]) (.sq (.sq (rg [om 6 (i6 0)]) (.bl 0 (.lp [1,2,5,6] [224,992] (.sq (.sq (rg [qM 8 6,qF 9 5 2,qL 10 9,qN 11 10,qB 12 .lss 8 11]) (.cd (.t 12) (.sk) (.ex 0))) (.sq (.bl 1 (.sq (rg [qF 15 5 2,qL 16 15,qM 17 6,qI 18 2 16 17,qF 19 1 18,qL 20 19,qM 21 1,qB 22 .eql 20 21]) (.cd (.t 22) (rg [qM 23 5,qF 24 5 2,qL 25 24,qM 26 6,qI 27 2 25 26,qF 28 0 27,qL 29 28,oo 30 (.bs 1 1 [.string ⟨#[]⟩] [(0,.t 29)]),oo 31 (.ap 1 0 (.t 23) (.t 30)),qM 5 31]) (.sk))))
 (rg [qM 13 6,oo 14 (.bi .add 0 (.t 13) (i6 1)),qM 6 14])))))) (.sq (rg [qM 32 5,qM 4 32]) (.rt))))) }
theorem Zgo:ZP Proofs.Tryz.prog Wp ZbC=true:=by kernel_rfl
def ZaA:F2 :=
 { nt:=19,res:=[.t 4 [0]],body:=(.sq (rg [om 4 (.k (.bool false))]) (.sq (.sq (rg [om 5 (i6 0)]) (.bl 0 (.lp [0,1,5] [] (.sq (.sq (rg [qM 6 5,qM 7 0,qN 8 7,qB 9 .lss 6 8]) (.cd (.t 9) (.sk) (.ex 0))) (.sq (.bl 1 (.sq (rg [qM 12 1,qM 13 0,qM 14 5,qI 15 1 13 14,qL 16 15,oo 17 (.ca .pure false (.f QK) [.t 12,.t 16]),oo 18 (.bi .geq 0 (.t 17) (i6 0))]) (.cd (.t 18) (.sq (rg [om 4 (.k (.bool false))]) (.rt)) (.sk))))
 (rg [qM 10 5,oo 11 (.bi .add 0 (.t 10) (i6 1)),qM 5 11])))))) (.sq (rg [om 4 (.k (.bool true))]) (.rt)))) }
theorem ZeW:ZP Proofs.Tryz.prog V2 ZaA=true:=by kernel_rfl
def ZbD:F2 :=
 { nt:=89,res:=[.c 4 (some 6) [0,4,2,0,2,3]],body:=(.sq (rg [oo 2 (.bt (.t 0)),oo 3 (.bt (.t 1)),oo 4 (.al [.int .i64 0,.slice none 0 0,.slice none 0 0,.int .i64 0,.slice none 0 0,.slice none 0 0] [])]) (.sq (.rg (some 0) [oo 11 (.bs 1 0 [] []),qF 12 4 2,qL 13 12,oo 14 (.a0 1 (.t 11) (.t 13)),qF 15 4 3,oo 16 (.lt none (.t 15)),oo 17 (.a0 1 (.t 14) (.t 16)),oo 18 (.ca .pure true (.f Q8) [.t 17]),qF 19 3 2,oo 20 (.lt none (.t 19)),qF 21 3 3,oo 22 (.lt none (.t 21)),qB 23 .add 20 22,qM 5 18,qM 6 23]) (.sq (.rg (some 0) [qF 24 3 2,qL 25 24,oo 26 (.ca .pure true (.f JP) [i6 0,.t 25]),qF 27 4 2,qL 28 27,qM 29 6,qM 30 5,oo 31 (.ca .pure false (.f YI) [.t 28,.t 29,.t 30]),oo 32 (.ap 1 0 (.t 26) (.t 31)),qM 7 32]) (.sq (.rg (some 0) [qF 33 3 2,qL 34 33,qF 35 3 3,qL 36 35,oo 37 (.ca .pure true (.f JP) [.t 34,.t 36]),qF 38 4 3,qL 39 38,qM 40 6,qM 41 5,oo 42 (.ca .pure false (.f YI) [.t 39,.t 40,.t 41]),oo 43 (.ap 1 0 (.t 37) (.t 42)),qM 8 43]) (.sq (.rg (some 0) [qF 44 0 2,qL 45 44,oo 46 (.ca .pure false (.f YJ) [i6 0,.t 45]),qF 47 0 2,qL 48 47,qF 49 0 3,qL 50 49,oo 51 (.ca .pure false (.f YJ) [.t 48,.t 50]),qM 9 46,qM 10 51]) (.sq (.rg (some 0) [qF 52 0 2,oo 53 (.lt none (.t 52)),qF 54 0 3,oo 55 (.lt none (.t 54)),qB 56 .add 53 55,qS 57 6 2,qM 58 9,qM 59 7,oo 60 (.ca .pure true (.f J9) [.t 57,i6 0,.t 58,.t 59]),qS 61 6 3,qF 62 1 2,qL 63 62,qN 64 63,qM 65 10,qM 66 8,oo 67 (.ca .pure false (.f J9) [.t 61,.t 64,.t 65,.t 66]),oo 68 (.a1 3 (.t 60) (.t 67)),oo 69 (.lt (some 6) (.t 2)),qM 70 9,oo 71 (.ca .pure true (.f Ya) [.t 69,i6 0,.t 70]),oo 72 (.lt (some 6) (.t 3)),qF 73 1 2,oo 74 (.lt none (.t 73)),qN 75 74,qM 76 10,oo 77 (.ca .pure false (.f Ya) [.t 72,.t 75,.t 76]),oo 78 (.a0 1 (.t 71) (.t 77)),qM 79 6,qM 80 5,oo 81 (.lt (some 6) (.t 2)),qM 82 7,oo 83 (.ca .pure false (.f YK) [.t 81,.t 82]),oo 84 (.lt (some 6) (.t 3)),qM 85 8,oo 86 (.ca .pure false (.f YK) [.t 84,.t 85]),oo 87 (.ca .pure true (.f XI) [.t 83,.t 86]),oo 88 (.bd [.int .i64 0,.slice none 0 0,.slice none 0 0,.int .i64 0,.slice none 0 0,.slice none 0 0] [(0,1,.t 56),(1,1,.t 68),(2,1,.t 78),(3,1,.t 79),(4,1,.t 80),(5,1,.t 87)] []),on1 (.st 6 (.t 4) (.t 88))]) (.rt))))))) }
theorem Zgp:ZP Proofs.Tryz.prog Wq ZbD=true:=by kernel_rfl
def ZaB:F2 :=
 { nt:=26,res:=[.t 4 [0]],body:=(.sq (rg [om 4 (.k (.bool false))]) (.sq (.sq (rg [qM 6 0,qN 7 6,qM 8 1,qN 9 8,qB 10 .neq 7 9]) (.cd (.t 10) (.sq (rg [om 4 (.k (.bool false))]) (.rt)) (.sk))) (.sq (.sq (rg [om 5 (i6 0)]) (.bl 0 (.lp [0,1,5] [] (.sq (.sq (rg [qM 11 5,qM 12 0,qN 13 12,qB 14 .lss 11 13]) (.cd (.t 14) (.sk) (.ex 0))) (.sq (.bl 1 (.sq (.rg (some 0) [qM 17 0,qM 18 5,qI 19 1 17 18,qL 20 19,qM 21 1,qM 22 5,qI 23 1 21 22,qL 24 23,qB 25 .neq 20 24]) (.cd (.t 25) (.sq (rg [om 4 (.k (.bool false))]) (.rt)) (.sk))))
 (rg [qM 15 5,oo 16 (.bi .add 0 (.t 15) (i6 1)),qM 5 16])))))) (.sq (rg [om 4 (.k (.bool true))]) (.rt))))) }
theorem ZeX:ZP Proofs.Tryz.prog XG ZaB=true:=by kernel_rfl
def ZaC:F2 :=
 { nt:=28,res:=[.t 6 [2]],body:=(.sq (rg [om 6 (.k (.slice none 0 0))]) (.sq (rg [oo 9 (.bs 1 0 [] []),qM 7 9]) (.sq (.sq (rg [om 8 (i6 0)]) (.bl 0 (.lp [0,1,2,7,8] [288,832] (.sq (.sq (rg [qM 10 8,qM 11 0,qN 12 11,qB 13 .lss 10 12]) (.cd (.t 13) (.sk) (.ex 0))) (.sq (.bl 1 (rg [qM 16 7,qM 17 1,qM 18 2,qM 19 0,qM 20 8,qI 21 1 19 20,qL 22 21,oo 23 (.ca .pure false (.f QK) [.t 18,.t 22]),qB 24 .add 17 23,oo 25 (.bs 1 1 [.int .i64 0] [(0,.t 24)]),oo 26 (.ap 1 0 (.t 16) (.t 25)),qM 7 26]))
 (rg [qM 14 8,oo 15 (.bi .add 0 (.t 14) (i6 1)),qM 8 15])))))) (.sq (rg [qM 27 7,qM 6 27]) (.rt))))) }
theorem ZeY:ZP Proofs.Tryz.prog YI ZaC=true:=by kernel_rfl
def ZaD:F2 :=
 { nt:=20,res:=[.t 4 [2]],body:=(.sq (rg [om 4 (.k (.slice none 0 0))]) (.sq (rg [oo 7 (.bs 1 0 [] []),qM 5 7]) (.sq (.sq (rg [om 6 (i6 0)]) (.bl 0 (.lp [0,1,5,6] [224,576] (.sq (.sq (rg [qM 8 6,qM 9 1,qB 10 .lss 8 9]) (.cd (.t 10) (.sk) (.ex 0))) (.sq (.bl 1 (rg [qM 13 5,qM 14 0,qM 15 6,qB 16 .add 14 15,oo 17 (.bs 1 1 [.int .i64 0] [(0,.t 16)]),oo 18 (.ap 1 0 (.t 13) (.t 17)),qM 5 18]))
 (rg [qM 11 6,oo 12 (.bi .add 0 (.t 11) (i6 1)),qM 6 12])))))) (.sq (rg [qM 19 5,qM 4 19]) (.rt))))) }
theorem ZeZ:ZP Proofs.Tryz.prog JP ZaD=true:=by kernel_rfl
def ZaE:F2 :=
 { nt:=65,res:=[.c 10 (some 6) [0,4,2,0,2,3]],body:=(.sq (rg [oo 5 (.bt (.t 0)),oo 6 (.bt (.t 1)),oo 10 (.al [.int .i64 0,.slice none 0 0,.slice none 0 0,.int .i64 0,.slice none 0 0,.slice none 0 0] [])]) (.sq (rg [qF 15 0 5,qL 16 15,oo 17 (.ca .pure false (.f YJ) [i6 0,.t 16]),qM 11 17]) (.sq (.rg (some 0) [qF 18 3 5,qL 19 18,oo 20 (.ca .pure true (.f JP) [i6 0,.t 19]),qM 21 3,oo 22 (.a0 1 (.t 20) (.t 21)),qF 23 3 5,oo 24 (.lt none (.t 23)),qF 25 3 6,oo 26 (.lt none (.t 25)),oo 27 (.ca .pure true (.f JP) [.t 24,.t 26]),qM 28 4,oo 29 (.ap 1 0 (.t 27) (.t 28)),qM 12 22,qM 13 29]) (.sq (rg [qS 30 6 5,qM 31 11,oo 32 (.ca .pure false (.f Ya) [.t 30,i6 0,.t 31]),qM 14 32]) (.sq (.rg (some 0) [qF 33 0 5,oo 34 (.lt none (.t 33)),qS 35 6 5,qM 36 11,qM 37 12,oo 38 (.ca .pure true (.f J9) [.t 35,i6 0,.t 36,.t 37]),qS 39 6 6,qF 40 1 5,qL 41 40,qN 42 41,qM 43 14,qM 44 13,oo 45 (.ca .pure false (.f J9) [.t 39,.t 42,.t 43,.t 44]),oo 46 (.a1 3 (.t 38) (.t 45)),oo 47 (.lt (some 6) (.t 6)),qF 48 1 5,oo 49 (.lt none (.t 48)),qN 50 49,qM 51 14,oo 52 (.ca .pure true (.f Ya) [.t 47,.t 50,.t 51]),qF 53 3 5,oo 54 (.lt none (.t 53)),qF 55 3 6,oo 56 (.lt none (.t 55)),qB 57 .add 54 56,oo 58 (.bs 1 0 [] []),qM 59 2,oo 60 (.a0 1 (.t 58) (.t 59)),oo 61 (.lt (some 6) (.t 6)),qM 62 13,oo 63 (.ca .pure true (.f YK) [.t 61,.t 62]),oo 64 (.bd [.int .i64 0,.slice none 0 0,.slice none 0 0,.int .i64 0,.slice none 0 0,.slice none 0 0] [(0,1,.t 34),(1,1,.t 46),(2,1,.t 52),(3,1,.t 57),(4,1,.t 60),(5,1,.t 63)] []),on1 (.st 6 (.t 10) (.t 64))]) (.rt)))))) }
theorem Ze0:ZP Proofs.Tryz.prog XH ZaE=true:=by kernel_rfl
def Ws:F2 :=
 { nt:=7,res:=[.t 3 [0]],body:=(.sq (rg [om 3 (.k (.bool false))]) (.sq (rg [qL 4 1,qM 5 0,oo 6 (.ca .pure false (.f Z3) [.t 4,.t 5]),qM 3 6]) (.rt))) }
theorem ZaR:ZP Proofs.Tryz.prog Ye Ws=true:=by kernel_rfl
def DI:F2 :=
 { nt:=41,res:=[.c 4 (some 6) [0,4,2,0,2,3]],body:=(.sq (rg [oo 2 (.bt (.t 0)),oo 3 (.bt (.t 1)),oo 4 (.al [.int .i64 0,.slice none 0 0,.slice none 0 0,.int .i64 0,.slice none 0 0,.slice none 0 0] [])]) (.sq (rg [qF 8 4 2,qL 9 8,qF 10 4 3,qL 11 10,oo 12 (.bs 1 2 [.slice none 0 0] [(0,.t 9),(1,.t 11)]),oo 13 (.ca .pure false (.f JA) [.t 12]),qM 5 13]) (.sq (rg [qS 14 6 2,qS 15 6 3,qF 16 0 2,qL 17 16,qF 18 0 3,qL 19 18,qB 20 .add 17 19,qF 21 2 2,qL 22 21,qM 23 5,oo 24 (.mf YE [.t 2]),oo 25 (.ca .pure true (.f Vd) [.t 14,.t 15,.t 20,.t 22,.t 23,.t 24,.f QM]),oo 6 (.al [.int .i64 0,.slice none 0 0,.slice none 0 0,.int .i64 0,.slice none 0 0,.slice none 0 0] []),on1 (.st 6 (.t 6) (.t 25))]) (.sq (rg [qS 26 6 2,qF 27 3 6,qL 28 27,qM 29 5,oo 30 (.ca .pure true (.f ZO) [.t 26,.t 28,.t 29,.f YF]),oo 7 (.al [.int .i64 0,.slice none 0 0,.slice none 0 0,.int .i64 0,.slice none 0 0,.slice none 0 0] []),on1 (.st 6 (.t 7) (.t 30))]) (.sq (rg [qF 31 5 7,qL 32 31,qF 33 5 6,qL 34 33,oo 35 (.ap 2 0 (.t 32) (.t 34)),qF 36 5 6,on1 (.st 1 (.t 36) (.t 35))]) (.sq (rg [qF 37 5 6,qL 38 37,oo 39 (.ca .any false (.f ZN) [.t 38,.f Jn])]) (.sq (rg [qS 40 6 6,on1 (.st 6 (.t 4) (.t 40))]) (.rt)))))))) }
theorem Zec:ZP Proofs.Tryz.prog Q7 DI=true:=by kernel_rfl
def Uk:F2 :=
 { nt:=42,res:=[.c 2 (some 6) [0,4,2,0,2,3]],body:=(.sq (rg [oo 1 (.bt (.t 0)),oo 2 (.al [.int .i64 0,.slice none 0 0,.slice none 0 0,.int .i64 0,.slice none 0 0,.slice none 0 0] [])]) (.sq (.rg (some 0) [qF 6 0 1,qL 7 6,qF 8 2 1,qL 9 8,oo 10 (.ca .pure true (.f Jo) [.t 9]),qF 11 3 1,qL 12 11,qF 13 4 1,qL 14 13,oo 15 (.ca .pure true (.f ZV) [.t 14]),qF 16 5 1,qL 17 16,oo 18 (.ca .pure true (.f Jj) [.t 17]),oo 19 (.bd [.int .i64 0,.slice none 0 0,.slice none 0 0,.int .i64 0,.slice none 0 0,.slice none 0 0] [(0,1,.t 7),(2,1,.t 10),(3,1,.t 12),(4,1,.t 15),(5,1,.t 18)] [(1,3)]),oo 3 (.al [.int .i64 0,.slice none 0 0,.slice none 0 0,.int .i64 0,.slice none 0 0,.slice none 0 0] []),on1 (.st 6 (.t 3) (.t 19))]) (.sq (.sq (rg [qF 20 1 1,qL 21 20,qN 22 21,om 23 (i6 0)]) (.bl 0 (.lp [2,3,21,22,23] [64,96,320,480,576,608,1216] (.sq (rg [qB 24 .lss 23 22]) (.sq (.cd (.t 24) (.sk) (.ex 0)) (.sq (.bl 1 (.sq (rg [qI 25 3 21 23,qS 26 3 25,oo 5 (.al [.int .i64 0,.int .i64 0,.slice none 0 0] []),on1 (.st 3 (.t 5) (.t 26))]) (.rg (some 0) [qF 27 1 3,qL 28 27,qF 29 0 5,qL 30 29,qF 31 1 5,qL 32 31,qF 33 2 5,qL 34 33,oo 35 (.ca .pure true (.f Jo) [.t 34]),oo 36 (.bd [.int .i64 0,.int .i64 0,.slice none 0 0] [(0,1,.t 30),(1,1,.t 32),(2,1,.t 35)] []),oo 37 (.bv 3 1 [.int .i64 0,.int .i64 0,.slice none 0 0] [(0,.t 36)]),oo 38 (.ap 3 2 (.t 28) (.t 37)),qF 39 1 3,on1 (.st 1 (.t 39) (.t 38))])))
 (rg [oo 40 (.bi .add 0 (.t 23) (i6 1)),qM 23 40]))))))) (.sq (rg [qS 41 6 3,on1 (.st 6 (.t 2) (.t 41))]) (.rt))))) }
theorem Zct:ZP Proofs.Tryz.prog YB Uk=true:=by kernel_rfl
def ZbE:F2 :=
 { nt:=86,res:=[.c 14 (some 6) [0,4,2,0,2,0]],body:=(.sq (rg [oo 7 (.bt (.t 0)),oo 8 (.bt (.t 1)),oo 13 (.bx (.t 6)),oo 14 (.al [.int .i64 0,.slice none 0 0,.slice none 0 0,.int .i64 0,.slice none 0 0,.slice none 0 0] [])]) (.sq (rg [qF 23 3 7,qL 24 23,qF 25 3 8,qL 26 25,qB 27 .add 24 26,qM 15 27]) (.sq (rg [qS 28 6 7,qM 29 15,qM 30 4,oo 31 (.ca .pure true (.f ZO) [.t 28,.t 29,.t 30,.f Vr]),oo 16 (.al [.int .i64 0,.slice none 0 0,.slice none 0 0,.int .i64 0,.slice none 0 0,.slice none 0 0] []),on1 (.st 6 (.t 16) (.t 31))]) (.sq (rg [qS 32 6 8,qM 33 15,qM 34 4,oo 35 (.mf JZ [.t 7,.t 13]),oo 36 (.ca .see false (.f ZO) [.t 32,.t 33,.t 34,.t 35]),oo 17 (.al [.int .i64 0,.slice none 0 0,.slice none 0 0,.int .i64 0,.slice none 0 0,.slice none 0 0] []),on1 (.st 6 (.t 17) (.t 36))]) (.sq (.rg (some 0) [qM 37 2,qF 38 1 16,qL 39 38,qM 40 3,oo 41 (.ca .pure true (.f Jo) [.t 40]),qM 42 15,qF 43 4 16,qL 44 43,qF 45 5 17,qL 46 45,oo 47 (.bd [.int .i64 0,.slice none 0 0,.slice none 0 0,.int .i64 0,.slice none 0 0,.slice none 0 0] [(0,1,.t 37),(1,1,.t 39),(2,1,.t 41),(3,1,.t 42),(4,1,.t 44),(5,1,.t 46)] []),oo 18 (.al [.int .i64 0,.slice none 0 0,.slice none 0 0,.int .i64 0,.slice none 0 0,.slice none 0 0] []),on1 (.st 6 (.t 18) (.t 47))]) (.sq (.sq (rg [qF 48 1 17,qL 49 48,qN 50 49,om 51 (i6 0)]) (.bl 0 (.lp [5,7,8,14,18,49,50,51] [448,512,544,576,992,993,994,995,1312,2080,2624] (.sq (rg [qB 52 .lss 51 50]) (.sq (.cd (.t 52) (.sk) (.ex 0)) (.sq (.bl 1 (.sq (rg [qI 53 3 49 51,qS 54 3 53,oo 20 (.al [.int .i64 0,.int .i64 0,.slice none 0 0] []),on1 (.st 3 (.t 20) (.t 54))]) (.sq (rg [qS 55 6 7,qF 56 1 20,qL 57 56,qM 58 5,oo 59 (.ca .pure false (.f Xf) [.t 55,.t 57,.t 58]),qF 60 1 20,on1 (.st 1 (.t 60) (.t 59))])
 (rg [qF 61 1 18,qL 62 61,qS 63 3 20,oo 64 (.bw 3 1 [.int .i64 0,.int .i64 0,.slice none 0 0] [(0,.t 63)]),oo 65 (.ap 3 2 (.t 62) (.t 64)),qF 66 1 18,on1 (.st 1 (.t 66) (.t 65))]))))
 (rg [oo 67 (.bi .add 0 (.t 51) (i6 1)),qM 51 67]))))))) (.sq (.sq (rg [qF 68 2 8,qL 69 68,qN 70 69,om 71 (i6 0)]) (.bl 2 (.lp [5,7,14,18,69,70,71] [448,512,544,576,992,993,994,995,1312,2080,2624] (.sq (rg [qB 72 .lss 71 70]) (.sq (.cd (.t 72) (.sk) (.ex 2)) (.sq (.bl 3 (.sq (rg [qI 73 1 69 71,qL 74 73,qM 22 74]) (.rg (some 0) [qF 75 2 18,qL 76 75,qS 77 6 7,qM 78 22,qM 79 5,oo 80 (.ca .pure false (.f Xf) [.t 77,.t 78,.t 79]),oo 81 (.bs 1 1 [.int .i64 0] [(0,.t 80)]),oo 82 (.ap 1 0 (.t 76) (.t 81)),qF 83 2 18,on1 (.st 1 (.t 83) (.t 82))])))
 (rg [oo 84 (.bi .add 0 (.t 71) (i6 1)),qM 71 84]))))))) (.sq (rg [qS 85 6 18,on1 (.st 6 (.t 14) (.t 85))]) (.rt))))))))) }
theorem Zgq:ZP Proofs.Tryz.prog Vd ZbE=true:=by kernel_rfl
def Ul:F2 :=
 { nt:=10,res:=[.t 3 [0]],body:=(.sq (rg [om 3 (i6 0)]) (.sq (rg [qF 4 2 1,qL 5 4,qM 6 0,oo 7 (.bi .sub 0 (i6 (-1)) (.t 6)),qI 8 1 5 7,qL 9 8,qM 3 9]) (.rt))) }
theorem Zcu:ZP Proofs.Tryz.prog YC Ul=true:=by kernel_rfl
def Um:F2 :=
 { nt:=15,res:=[.c 4 (some 2) [0,0]],body:=(.sq (rg [oo 4 (.al [.int .i64 0,.string ⟨#[]⟩] [])]) (.sq (.rg (some 0) [qS 5 6 1,qF 6 5 1,qL 7 6,qL 8 2,qM 9 0,oo 10 (.ca .pure false (.f ZU) [.t 8,.t 9]),qI 11 2 7 10,qF 12 1 11,qL 13 12,oo 14 (.ca .pure false (.f J5) [.t 5,.t 13]),on1 (.st 2 (.t 4) (.t 14))]) (.rt))) }
theorem Zcv:ZP Proofs.Tryz.prog YD Um=true:=by kernel_rfl
def XM:F2 :=
 { nt:=20,res:=[.c 4 (some 2) [0,0]],body:=(.sq (rg [oo 2 (.bt (.t 0)),oo 4 (.al [.int .i64 0,.string ⟨#[]⟩] [])]) (.sq (.sq (rg [qM 5 1,qF 6 3 2,qL 7 6,qB 8 .lss 5 7]) (.cd (.t 8) (.sq (rg [qM 9 1,oo 10 (.bd [.int .i64 0,.string ⟨#[]⟩] [(0,1,.t 9)] []),on1 (.st 2 (.t 4) (.t 10))]) (.rt)) (.sk))) (.sq (rg [qF 11 4 2,qL 12 11,qM 13 1,qF 14 3 2,qL 15 14,qB 16 .sub 13 15,qI 17 1 12 16,qL 18 17,oo 19 (.bd [.int .i64 0,.string ⟨#[]⟩] [(1,1,.t 18)] []),on1 (.st 2 (.t 4) (.t 19))]) (.rt)))) }
theorem Zal:ZP Proofs.Tryz.prog J5 XM=true:=by kernel_rfl
def DJ:F2 :=
 { nt:=61,res:=[.t 2 [2]],body:=(.sq (rg [om 2 (.k (.slice none 0 0))]) (.sq (rg [oo 6 (.bs 1 0 [] []),oo 3 (.rk (.t 6))]) (.sq (.sq (rg [om 4 (i6 0)]) (.bl 0 (.lp [0,3,4] [96] (.sq (.sq (rg [qM 7 4,qM 8 0,qN 9 8,qB 10 .lss 7 9]) (.cd (.t 10) (.sk) (.ex 0))) (.sq (.bl 1 (.sq (rg [om 5 (i6 0)]) (.sq (.bl 2 (.lp [0,3,4,5] [96] (.sq (.sq (.rg (some 0) [qM 13 5,qM 14 3,qN 15 14,qB 16 .lss 13 15,qM 17 16,og 18 17 true (.mv (.t 3) none),og 19 17 true (.mv (.t 5) none),og 20 17 true (.ia 1 (.t 18) (.t 19)),og 21 17 true (.ld none (.t 20)),og 22 17 true (.mv (.t 0) none),og 23 17 true (.mv (.t 4) none),og 24 17 true (.ia 1 (.t 22) (.t 23)),og 25 17 true (.ld none (.t 24)),og 26 17 true (.bi .lss 0 (.t 21) (.t 25)),oo 27 (.pk (.t 17) (.t 26) (.k (.bool false)))]) (.cd (.t 27) (.sk) (.ex 2))) (.bl 3 (rg [qM 28 5,oo 29 (.bi .add 0 (.t 28) (i6 1)),qM 5 29]))))) (.sq (.rg (some 0) [qM 30 5,qM 31 3,qN 32 31,qB 33 .eql 30 32,qM 34 33,og 35 34 false (.mv (.t 3) none),og 36 34 false (.mv (.t 5) none),og 37 34 false (.ia 1 (.t 35) (.t 36)),og 38 34 false (.ld none (.t 37)),og 39 34 false (.mv (.t 0) none),og 40 34 false (.mv (.t 4) none),og 41 34 false (.ia 1 (.t 39) (.t 40)),og 42 34 false (.ld none (.t 41)),og 43 34 false (.bi .neq 0 (.t 38) (.t 42)),oo 44 (.pk (.t 34) (.k (.bool true)) (.t 43))]) (.cd (.t 44) (.rg (some 0) [oo 45 (.bs 1 0 [] []),qM 46 3,qM 47 5,oo 48 (.sx 1 (.t 46) none (some (.t 47)) none),oo 49 (.a0 1 (.t 45) (.t 48)),qM 50 0,qM 51 4,oo 52 (.it 1 (.t 50) (.t 51)),oo 53 (.lt none (.t 52)),oo 54 (.bs 1 1 [.string ⟨#[]⟩] [(0,.t 53)]),oo 55 (.a0 1 (.t 49) (.t 54)),qM 56 3,qM 57 5,oo 58 (.sw 1 (.t 56) (some (.t 57)) none none),oo 59 (.ap 1 0 (.t 55) (.t 58)),oo 3 (.rk (.t 59))]) (.sk))))))
 (rg [qM 11 4,oo 12 (.bi .add 0 (.t 11) (i6 1)),qM 4 12])))))) (.sq (rg [qM 60 3,qM 2 60]) (.rt))))) }
theorem Zed:ZP Proofs.Tryz.prog Q8 DJ=true:=by kernel_rfl
def ZaF:F2 :=
 { nt:=21,res:=[.t 4 [2]],body:=(.sq (rg [om 4 (.k (.slice none 0 0))]) (.sq (rg [oo 7 (.bs 1 0 [] []),qM 5 7]) (.sq (.sq (rg [om 6 (i6 0)]) (.bl 0 (.lp [0,1,5,6] [224,608] (.sq (.sq (rg [qM 8 6,qM 9 1,qB 10 .lss 8 9]) (.cd (.t 10) (.sk) (.ex 0))) (.sq (.bl 1 (rg [qM 13 5,qM 14 0,oo 15 (.bi .sub 0 (i6 (-1)) (.t 14)),qM 16 6,qB 17 .sub 15 16,oo 18 (.bs 1 1 [.int .i64 0] [(0,.t 17)]),oo 19 (.ap 1 0 (.t 13) (.t 18)),qM 5 19]))
 (rg [qM 11 6,oo 12 (.bi .add 0 (.t 11) (i6 1)),qM 6 12])))))) (.sq (rg [qM 20 5,qM 4 20]) (.rt))))) }
theorem Ze1:ZP Proofs.Tryz.prog YJ ZaF=true:=by kernel_rfl
def ZaG:F2 :=
 { nt:=69,res:=[.t 8 [4]],body:=(.sq (rg [oo 4 (.bt (.t 0)),om 8 (.k (.slice none 0 0))]) (.sq (rg [oo 13 (.bs 3 0 [] []),qM 9 13]) (.sq (.sq (rg [om 10 (i6 0)]) (.bl 0 (.lp [1,2,3,4,9,10] [416,2144] (.sq (.sq (rg [qM 14 10,qF 15 1 4,qL 16 15,qN 17 16,qB 18 .lss 14 17]) (.cd (.t 18) (.sk) (.ex 0))) (.sq (.bl 1 (.sq (rg [oo 21 (.bs 1 0 [] []),qM 11 21]) (.sq (.sq (rg [om 12 (i6 0)]) (.bl 2 (.lp [1,2,3,4,9,10,11,12] [416,672,1504,2144] (.sq (.sq (rg [qM 22 12,qF 23 1 4,qL 24 23,qM 25 10,qI 26 3 24 25,qF 27 2 26,qL 28 27,qN 29 28,qB 30 .lss 22 29]) (.cd (.t 30) (.sk) (.ex 2))) (.sq (.bl 3 (rg [qM 33 11,qM 34 3,qF 35 1 4,qL 36 35,qM 37 10,qI 38 3 36 37,qF 39 2 38,qL 40 39,qM 41 12,qI 42 1 40 41,qL 43 42,qI 44 1 34 43,qL 45 44,oo 46 (.bs 1 1 [.int .i64 0] [(0,.t 45)]),oo 47 (.ap 1 0 (.t 33) (.t 46)),qM 11 47]))
 (rg [qM 31 12,oo 32 (.bi .add 0 (.t 31) (i6 1)),qM 12 32])))))) (.rg (some 0) [qM 48 9,qF 49 1 4,qL 50 49,qM 51 10,qI 52 3 50 51,qF 53 0 52,qL 54 53,qF 55 1 4,qL 56 55,qM 57 10,qI 58 3 56 57,qF 59 1 58,qL 60 59,qM 61 1,qM 62 2,oo 63 (.ca .pure false (.f Vs) [.t 60,.t 61,.t 62]),qM 64 11,oo 65 (.bd [.int .i64 0,.int .i64 0,.slice none 0 0] [(0,1,.t 54),(1,1,.t 63),(2,1,.t 64)] []),oo 66 (.bv 3 1 [.int .i64 0,.int .i64 0,.slice none 0 0] [(0,.t 65)]),oo 67 (.ap 3 2 (.t 48) (.t 66)),qM 9 67]))))
 (rg [qM 19 10,oo 20 (.bi .add 0 (.t 19) (i6 1)),qM 10 20])))))) (.sq (rg [qM 68 9,qM 8 68]) (.rt))))) }
theorem Ze2:ZP Proofs.Tryz.prog J9 ZaG=true:=by kernel_rfl
def ZaH:F2 :=
 { nt:=29,res:=[.t 6 [2]],body:=(.sq (rg [oo 3 (.bt (.t 0)),om 6 (.k (.slice none 0 0))]) (.sq (rg [oo 9 (.bs 1 0 [] []),qM 7 9]) (.sq (.sq (rg [om 8 (i6 0)]) (.bl 0 (.lp [1,2,3,7,8] [288,864] (.sq (.sq (rg [qM 10 8,qF 11 2 3,qL 12 11,qN 13 12,qB 14 .lss 10 13]) (.cd (.t 14) (.sk) (.ex 0))) (.sq (.bl 1 (rg [qM 17 7,qF 18 2 3,qL 19 18,qM 20 8,qI 21 1 19 20,qL 22 21,qM 23 1,qM 24 2,oo 25 (.ca .pure false (.f Vs) [.t 22,.t 23,.t 24]),oo 26 (.bs 1 1 [.int .i64 0] [(0,.t 25)]),oo 27 (.ap 1 0 (.t 17) (.t 26)),qM 7 27]))
 (rg [qM 15 8,oo 16 (.bi .add 0 (.t 15) (i6 1)),qM 8 16])))))) (.sq (rg [qM 28 7,qM 6 28]) (.rt))))) }
theorem Ze3:ZP Proofs.Tryz.prog Ya ZaH=true:=by kernel_rfl
def ZaI:F2 :=
 { nt:=52,res:=[.t 4 [3]],body:=(.sq (rg [om 4 (.k (.slice none 0 0))]) (.sq (rg [oo 8 (.bs 2 0 [] []),qM 9 0,oo 10 (.ap 2 0 (.t 8) (.t 9)),oo 5 (.rk (.t 10))]) (.sq (.sq (rg [om 6 (i6 0)]) (.bl 0 (.lp [1,5,6] [160] (.sq (.sq (rg [qM 11 6,qM 12 1,qN 13 12,qB 14 .lss 11 13]) (.cd (.t 14) (.sk) (.ex 0))) (.sq (.bl 1 (.sq (rg [om 7 (i6 0)]) (.sq (.bl 2 (.lp [1,5,6,7] [160] (.sq (.sq (.rg (some 0) [qM 17 7,qM 18 5,qN 19 18,qB 20 .lss 17 19,qM 21 20,og 22 21 true (.mv (.t 5) none),og 23 21 true (.mv (.t 7) none),og 24 21 true (.ia 2 (.t 22) (.t 23)),og 25 21 true (.fa 0 (.t 24)),og 26 21 true (.ld none (.t 25)),og 27 21 true (.mv (.t 1) none),og 28 21 true (.mv (.t 6) none),og 29 21 true (.ia 2 (.t 27) (.t 28)),og 30 21 true (.fa 0 (.t 29)),og 31 21 true (.ld none (.t 30)),og 32 21 true (.bi .lss 0 (.t 26) (.t 31)),oo 33 (.pk (.t 21) (.t 32) (.k (.bool false)))]) (.cd (.t 33) (.sk) (.ex 2))) (.bl 3 (rg [qM 34 7,oo 35 (.bi .add 0 (.t 34) (i6 1)),qM 7 35]))))) (.rg (some 0) [oo 36 (.bs 2 0 [] []),qM 37 5,qM 38 7,oo 39 (.sx 2 (.t 37) none (some (.t 38)) none),oo 40 (.a0 2 (.t 36) (.t 39)),qM 41 1,qM 42 6,oo 43 (.it 2 (.t 41) (.t 42)),oo 44 (.lt (some 2) (.t 43)),oo 45 (.bs 2 1 [.string ⟨#[]⟩,.int .i64 0] [(0,.t 44)]),oo 46 (.a0 2 (.t 40) (.t 45)),qM 47 5,qM 48 7,oo 49 (.sw 2 (.t 47) (some (.t 48)) none none),oo 50 (.ap 2 0 (.t 46) (.t 49)),oo 5 (.rk (.t 50))]))))
 (rg [qM 15 6,oo 16 (.bi .add 0 (.t 15) (i6 1)),qM 6 16])))))) (.sq (rg [qM 51 5,qM 4 51]) (.rt))))) }
theorem Ze4:ZP Proofs.Tryz.prog XI ZaI=true:=by kernel_rfl
def ZaJ:F2 :=
 { nt:=35,res:=[.t 4 [3]],body:=(.sq (rg [oo 2 (.bt (.t 0)),om 4 (.k (.slice none 0 0))]) (.sq (rg [oo 7 (.bs 2 0 [] []),qM 5 7]) (.sq (.sq (rg [om 6 (i6 0)]) (.bl 0 (.lp [1,2,5,6] [224,1056] (.sq (.sq (rg [qM 8 6,qF 9 5 2,qL 10 9,qN 11 10,qB 12 .lss 8 11]) (.cd (.t 12) (.sk) (.ex 0))) (.sq (.bl 1 (.rg (some 0) [qM 15 5,qF 16 5 2,qL 17 16,qM 18 6,qI 19 2 17 18,qF 20 0 19,qL 21 20,qM 22 1,qF 23 5 2,qL 24 23,qM 25 6,qI 26 2 24 25,qF 27 1 26,qL 28 27,qI 29 1 22 28,qL 30 29,oo 31 (.bd [.string ⟨#[]⟩,.int .i64 0] [(0,1,.t 21),(1,1,.t 30)] []),oo 32 (.bs 2 1 [.string ⟨#[]⟩,.int .i64 0] [(0,.t 31)]),oo 33 (.ap 2 0 (.t 15) (.t 32)),qM 5 33]))
 (rg [qM 13 6,oo 14 (.bi .add 0 (.t 13) (i6 1)),qM 6 14])))))) (.sq (rg [qM 34 5,qM 4 34]) (.rt))))) }
theorem Ze5:ZP Proofs.Tryz.prog YK ZaJ=true:=by kernel_rfl
def YM:F2 :=
 { nt:=36,res:=[.t 2 [2]],body:=(.sq (rg [om 2 (.k (.slice none 0 0))]) (.sq (rg [om 3 (i6 0)]) (.sq (.sq (rg [qM 9 0,qN 10 9,om 11 (i6 0)]) (.bl 0 (.lp [0,3,9,10,11] [] (.sq (rg [qB 12 .lss 11 10]) (.sq (.cd (.t 12) (.sk) (.ex 0)) (.sq (.bl 1 (.sq (rg [qI 13 1 9 11,qL 14 13,qM 5 14]) (.sq (rg [qM 15 3,qM 16 5,qN 17 16,qB 18 .add 15 17,qM 3 18]) (.sq (rg [qM 19 3,oo 20 (.bi .lss 0 (.t 19) (i6 0))]) (.cd (.t 20) (rg [oo 21 (.xx),on1 (.xx)]) (.sk))))))
 (rg [oo 22 (.bi .add 0 (.t 11) (i6 1)),qM 11 22]))))))) (.sq (rg [qM 23 3,oo 24 (.ca .keep true (.f JQ) [.k (.slice none 0 0),.t 23]),qM 6 24]) (.sq (.sq (rg [qM 25 0,qN 26 25,om 27 (i6 0)]) (.bl 2 (.lp [6,25,26,27] [768,1056] (.sq (rg [qB 28 .lss 27 26]) (.sq (.cd (.t 28) (.sk) (.ex 2)) (.sq (.bl 3 (.sq (rg [qI 29 1 25 27,qL 30 29,qM 8 30])
 (rg [qM 31 6,qM 32 8,oo 33 (.ap 1 0 (.t 31) (.t 32)),qM 6 33])))
 (rg [oo 34 (.bi .add 0 (.t 27) (i6 1)),qM 27 34]))))))) (.sq (rg [qM 35 6,qM 2 35]) (.rt))))))) }
theorem XJ:ZP Proofs.Tryz.prog JA YM=true:=by kernel_rfl
def Un:F2 :=
 { nt:=8,res:=[.t 3 [0]],body:=(.sq (rg [om 3 (i6 0)]) (.sq (rg [qM 4 0,qF 5 0 1,qL 6 5,qB 7 .sub 4 6,qM 3 7]) (.rt))) }
theorem Zcw:ZP Proofs.Tryz.prog YE Un=true:=by kernel_rfl
def ZbF:F2 :=
 { nt:=5,res:=[.c 2 (some 2) [0,0]],body:=(.sq (rg [oo 2 (.al [.int .i64 0,.string ⟨#[]⟩] [])]) (.sq (rg [qM 3 0,oo 4 (.bd [.int .i64 0,.string ⟨#[]⟩] [(1,1,.t 3)] []),on1 (.st 2 (.t 2) (.t 4))]) (.rt))) }
theorem Zgr:ZP Proofs.Tryz.prog QM ZbF=true:=by kernel_rfl
def QQ:F2 :=
 { nt:=68,res:=[.c 8 (some 6) [0,4,2,0,2,3]],body:=(.sq (rg [oo 4 (.bt (.t 0)),oo 5 (.bt (.t 1)),oo 7 (.bx (.t 3)),oo 8 (.al [.int .i64 0,.slice none 0 0,.slice none 0 0,.int .i64 0,.slice none 0 0,.slice none 0 0] [])]) (.sq (rg [qS 17 6 4,oo 18 (.ca .pure true (.f YB) [.t 17]),oo 9 (.al [.int .i64 0,.slice none 0 0,.slice none 0 0,.int .i64 0,.slice none 0 0,.slice none 0 0] []),on1 (.st 6 (.t 9) (.t 18))]) (.sq (.rg (some 0) [qL 19 5,qM 20 2,oo 21 (.ca .pure true (.f VF) [.t 20]),qF 22 3 9,on1 (.st 1 (.t 22) (.t 19)),qF 23 4 9,on1 (.st 1 (.t 23) (.t 21))]) (.sq (rg [oo 24 (.mf Jt [.t 7,.t 4,.t 5,.t 9]),qM 10 24]) (.sq (.sq (rg [qF 25 1 9,qL 26 25,qN 27 26,om 28 (i6 0)]) (.bl 0 (.lp [8,9,10,26,27,28] [224,256,288,576,577,578,579,672] (.sq (rg [qB 29 .lss 28 27]) (.sq (.cd (.t 29) (.sk) (.ex 0)) (.sq (.bl 1 (.sq (rg [qI 30 3 26 28,qS 31 3 30,oo 12 (.al [.int .i64 0,.int .i64 0,.slice none 0 0] []),on1 (.st 3 (.t 12) (.t 31))]) (.sq (rg [qF 32 2 12,qL 33 32,qN 34 33,om 35 (i6 0)]) (.bl 2 (.lp [8,9,10,12,26,27,28,33,34,35] [224,256,288,384,576,577,578,579,672] (.sq (rg [qB 36 .lss 35 34]) (.sq (.cd (.t 36) (.sk) (.ex 2)) (.sq (.bl 3 (.sq (rg [qM 37 35,qI 38 1 33 35,qL 39 38,qM 13 37,qM 14 39]) (.rg (some 0) [qF 40 2 12,qL 41 40,qM 42 13,qM 43 10,qM 44 14,oo 45 (.ca .see false (.t 43) [.t 44]),qI 46 1 41 42,on1 (.st 1 (.t 46) (.t 45))])))
 (rg [oo 47 (.bi .add 0 (.t 35) (i6 1)),qM 35 47])))))))))
 (rg [oo 48 (.bi .add 0 (.t 28) (i6 1)),qM 28 48]))))))) (.sq (.sq (rg [qF 49 5 9,qL 50 49,qN 51 50,om 52 (i6 0)]) (.bl 4 (.lp [8,9,10,50,51,52] [224,256,288,576,577,578,579,672] (.sq (rg [qB 53 .lss 52 51]) (.sq (.cd (.t 53) (.sk) (.ex 4)) (.sq (.bl 5 (.sq (rg [qM 54 52,qI 55 2 50 52,qS 56 2 55,oo 16 (.al [.string ⟨#[]⟩,.int .i64 0] []),qM 15 54,on1 (.st 2 (.t 16) (.t 56))]) (.rg (some 0) [qF 57 5 9,qL 58 57,qM 59 15,qM 60 10,qF 61 1 16,qL 62 61,oo 63 (.ca .see false (.t 60) [.t 62]),qI 64 2 58 59,qF 65 1 64,on1 (.st 1 (.t 65) (.t 63))])))
 (rg [oo 66 (.bi .add 0 (.t 52) (i6 1)),qM 52 66]))))))) (.sq (rg [qS 67 6 9,on1 (.st 6 (.t 8) (.t 67))]) (.rt)))))))) }
theorem UQ:ZP Proofs.Tryz.prog ZO QQ=true:=by kernel_rfl
def Uo:F2 :=
 { nt:=4,res:=[.c 2 (some 2) [0,0]],body:=(.sq (rg [oo 1 (.bt (.t 0)),oo 2 (.al [.int .i64 0,.string ⟨#[]⟩] [])]) (.sq (rg [qS 3 2 1,on1 (.st 2 (.t 2) (.t 3))]) (.rt))) }
theorem Zcx:ZP Proofs.Tryz.prog YF Uo=true:=by kernel_rfl
def JU:F2 :=
 { nt:=14,res:=[],body:=(.sq (rg [qM 5 0,qN 6 5,qM 4 6])
 (rg [qM 7 0,qM 8 4,qM 9 4,oo 10 (.cv (.int .u64) (.t 9)),oo 11 (.ca .pure false (.f Vt) [.t 10]),qM 12 1,oo 13 (.ca .any false (.f ZJ) [.t 7,i6 0,.t 8,.t 11,.t 12])])) }
theorem VI:ZP Proofs.Tryz.prog ZN JU=true:=by kernel_rfl
def QZ:F2 :=
 { nt:=8,res:=[.t 2 [2]],body:=(.sq (rg [om 2 (.k (.slice none 0 0))]) (.sq (.sq (rg [qM 3 0,oo 4 (.nl false (.t 3))]) (.cd (.t 4) (.sq (rg [om 2 (.k (.slice none 0 0))]) (.rt)) (.sk))) (.sq (rg [oo 5 (.bs 1 0 [] []),qM 6 0,oo 7 (.ap 1 0 (.t 5) (.t 6)),qM 2 7]) (.rt)))) }
theorem Dk:ZP Proofs.Tryz.prog Jo QZ=true:=by kernel_rfl
def J7:F2 :=
 { nt:=8,res:=[.t 2 [3]],body:=(.sq (rg [om 2 (.k (.slice none 0 0))]) (.sq (.sq (rg [qM 3 0,oo 4 (.nl false (.t 3))]) (.cd (.t 4) (.sq (rg [om 2 (.k (.slice none 0 0))]) (.rt)) (.sk))) (.sq (rg [oo 5 (.bs 2 0 [] []),qM 6 0,oo 7 (.ap 2 0 (.t 5) (.t 6)),qM 2 7]) (.rt)))) }
theorem Qj:ZP Proofs.Tryz.prog Jj J7=true:=by kernel_rfl
def DK:F2 :=
 { nt:=4,res:=[.c 2 (some 2) [0,0]],body:=(.sq (rg [oo 1 (.bt (.t 0)),oo 2 (.al [.int .i64 0,.string ⟨#[]⟩] [])]) (.sq (rg [qS 3 2 1,on1 (.st 2 (.t 2) (.t 3))]) (.rt))) }
theorem Zee:ZP Proofs.Tryz.prog Vr DK=true:=by kernel_rfl
def DL:F2 :=
 { nt:=18,res:=[.c 4 (some 2) [0,0]],body:=(.sq (rg [oo 3 (.bt (.t 0)),oo 4 (.al [.int .i64 0,.string ⟨#[]⟩] [])]) (.sq (.sq (rg [qF 5 1 3,qL 6 5,oo 7 (.bi .eql 0 (.t 6) (.k (.string ⟨#[]⟩)))]) (.cd (.t 7) (.sq (rg [qF 8 0 3,qL 9 8,qF 10 3 1,qL 11 10,qB 12 .add 9 11,oo 13 (.bd [.int .i64 0,.string ⟨#[]⟩] [(0,1,.t 12)] []),on1 (.st 2 (.t 4) (.t 13))]) (.rt)) (.sk))) (.sq (rg [qL 14 2,qF 15 1 3,qL 16 15,oo 17 (.ca .pure false (.t 14) [.t 16]),on1 (.st 2 (.t 4) (.t 17))]) (.rt)))) }
theorem Zef:ZP Proofs.Tryz.prog JZ DL=true:=by kernel_rfl
def ZcQ:F2 :=
 { nt:=17,res:=[.t 6 [0]],body:=(.sq (rg [oo 3 (.bt (.t 0)),om 6 (i6 0)]) (.sq (.sq (rg [qM 7 1,oo 8 (.bi .geq 0 (.t 7) (i6 0))]) (.cd (.t 8) (.sq (rg [qM 9 1,qF 10 1 3,qL 11 10,qN 12 11,qB 13 .add 9 12,qM 6 13]) (.rt)) (.sk))) (.sq (rg [qM 14 2,qM 15 1,oo 16 (.ca .pure false (.t 14) [.t 15]),qM 6 16]) (.rt)))) }
theorem ZhF:ZP Proofs.Tryz.prog Xf ZcQ=true:=by kernel_rfl
def DM:F2 :=
 { nt:=17,res:=[.t 6 [0]],body:=(.sq (rg [om 6 (i6 0)]) (.sq (.sq (rg [qM 7 0,oo 8 (.bi .lss 0 (.t 7) (i6 0))]) (.cd (.t 8) (.sq (rg [qM 9 2,qM 10 0,oo 11 (.bi .sub 0 (i6 (-1)) (.t 10)),qI 12 1 9 11,qL 13 12,qM 6 13]) (.rt)) (.sk))) (.sq (rg [qM 14 0,qM 15 1,qB 16 .add 14 15,qM 6 16]) (.rt)))) }
theorem Zeg:ZP Proofs.Tryz.prog Vs DM=true:=by kernel_rfl
def Vg:F2 :=
 { nt:=27,res:=[.t 4 [2]],body:=(.sq (rg [om 4 (.k (.slice none 0 0))]) (.sq (.sq (rg [qM 5 1,oo 6 (.bi .lss 0 (.t 5) (i6 0))]) (.cd (.t 6) (rg [oo 7 (.xx),on1 (.xx)]) (.sk))) (.sq (.sq (rg [qM 8 1,qM 9 0,oo 10 (.cp (.t 9)),qM 11 0,qN 12 11,qB 13 .sub 10 12,qB 14 .sub 8 13,qM 1 14]) (.sq (rg [qM 15 1,oo 16 (.bi .gtr 0 (.t 15) (i6 0))]) (.cd (.t 16) (rg [qM 17 0,qM 18 0,oo 19 (.cp (.t 18)),oo 20 (.sh 1 (.t 17) (.t 19)),qM 21 1,oo 22 (.az 1 [.string ⟨#[]⟩] (.t 20) (.t 21)),qM 23 0,qN 24 23,oo 25 (.sh 1 (.t 22) (.t 24)),qM 0 25]) (.sk)))) (.sq (rg [qM 26 0,qM 4 26]) (.rt))))) }
theorem Wt:ZP Proofs.Tryz.prog JQ Vg=true:=by kernel_rfl
def WP:F2 :=
 { nt:=10,res:=[.t 2 [2]],body:=(.sq (rg [om 2 (.k (.slice none 0 0))]) (.sq (rg [qM 4 0,oo 5 (.ca .pure true (.f ZV) [.t 4]),qM 3 5]) (.sq (rg [qM 6 3,oo 7 (.ca .any false (.f ZX) [.t 6])]) (.sq (rg [qM 8 3,oo 9 (.ca .any false (.f Jv) [.t 8]),qM 2 9]) (.rt))))) }
theorem ZbG:ZP Proofs.Tryz.prog VF WP=true:=by kernel_rfl
def VU:F2 :=
 { nt:=25,res:=[.t 6 [0]],body:=(.sq (rg [om 6 (i6 0)]) (.sq (.rg (some 0) [qL 8 1,qS 9 6 2,qM 10 0,oo 11 (.ca .pure false (.f J5) [.t 9,.t 10]),oo 12 (.ca .see false (.t 8) [.t 11]),oo 7 (.al [.int .i64 0,.string ⟨#[]⟩] []),on1 (.st 2 (.t 7) (.t 12))]) (.sq (.sq (rg [qF 13 1 7,qL 14 13,oo 15 (.bi .eql 0 (.t 14) (.k (.string ⟨#[]⟩)))]) (.cd (.t 15) (.sq (rg [qF 16 0 7,qL 17 16,qM 6 17]) (.rt)) (.sk))) (.sq (.rg (some 0) [qL 18 3,qF 19 4 4,qL 20 19,qF 21 1 7,qL 22 21,oo 23 (.ca .pure false (.f ZU) [.t 20,.t 22]),qB 24 .add 18 23,qM 6 24]) (.rt))))) }
theorem W1:ZP Proofs.Tryz.prog Jt VU=true:=by kernel_rfl
def Yh:F2 :=
 { nt:=148,res:=[],body:=(.sq (rg [om 10 (.k (.bool true))]) (.sq (rg [om 11 (.k (.bool true))]) (.bl 0 (.lp [0,1,2,3,4,10,11] [] (.bl 1 (.sq (rg [qM 21 2,qM 22 1,qB 23 .sub 21 22,qM 12 23]) (.sq (.sq (rg [qM 24 12,oo 25 (.bi .leq 0 (.t 24) (i6 12))]) (.cd (.t 25) (.sq (rg [qM 26 0,qM 27 1,qM 28 2,qM 29 4,oo 30 (.ca .any false (.f Z2) [.t 26,.t 27,.t 28,.t 29])]) (.rt)) (.sk))) (.sq (.sq (rg [qM 31 3,oo 32 (.bi .eql 0 (.t 31) (i6 0))]) (.cd (.t 32) (.sq (rg [qM 33 0,qM 34 1,qM 35 2,qM 36 4,oo 37 (.ca .any false (.f VP) [.t 33,.t 34,.t 35,.t 36])]) (.rt)) (.sk))) (.sq (.sq (rg [qM 38 10,oo 39 (.nt (.t 38))]) (.cd (.t 39) (.sq (rg [qM 40 0,qM 41 1,qM 42 2,qM 43 4,oo 44 (.ca .any false (.f YT) [.t 40,.t 41,.t 42,.t 43])])
 (rg [qM 45 3,oo 46 (.bi .sub 0 (.t 45) (i6 1)),qM 3 46])) (.sk))) (.sq (rg [qM 48 0,qM 49 1,qM 50 2,qM 51 4,oo 52 (.ca .pure false (.f Ve) [.t 48,.t 49,.t 50,.t 51]),qM 47 52,qE 53 0 47,qE 54 1 47,qM 13 53,qM 14 54]) (.sq (.sq (rg [qM 55 14,oo 56 (.bi .eql 0 (.t 55) (i6 2))]) (.cd (.t 56) (.sq (rg [qM 57 0,qM 58 1,qM 59 2,qM 60 4,oo 61 (.ca .any false (.f Y8) [.t 57,.t 58,.t 59,.t 60])]) (.sq (rg [qM 62 2,oo 63 (.bi .sub 0 (.t 62) (i6 1)),qM 64 13,qM 65 1,qB 66 .sub 64 65,qB 67 .sub 63 66,qM 13 67])
 (rg [om 14 (i6 1)]))) (.sk))) (.sq (.sq (rg [qM 68 10,qM 69 68,og 70 69 true (.mv (.t 11) none),oo 71 (.pk (.t 69) (.t 70) (.k (.bool false))),qM 72 71,og 73 72 true (.mv (.t 14) none),og 74 72 true (.bi .eql 0 (.t 73) (i6 1)),oo 75 (.pk (.t 72) (.t 74) (.k (.bool false)))]) (.cd (.t 75) (.sq (rg [qM 76 0,qM 77 1,qM 78 2,qM 79 4,oo 80 (.ca .any false (.f Yf) [.t 76,.t 77,.t 78,.t 79])]) (.cd (.t 80) (.rt) (.sk))) (.sk))) (.sq (.sq (.rg (some 0) [qM 81 1,oo 82 (.bi .gtr 0 (.t 81) (i6 0)),qM 83 82,og 84 83 true (.mv (.t 4) none),og 85 83 true (.mv (.t 0) none),og 86 83 true (.mv (.t 1) none),og 87 83 true (.bi .sub 0 (.t 86) (i6 1)),og 88 83 true (.ia 2 (.t 85) (.t 87)),og 89 83 true (.ld (some 2) (.t 88)),og 90 83 true (.mv (.t 0) none),og 91 83 true (.mv (.t 13) none),og 92 83 true (.ia 2 (.t 90) (.t 91)),og 93 83 true (.ld (some 2) (.t 92)),og 94 83 true (.ca .pure false (.t 84) [.t 89,.t 93]),og 95 83 true (.bi .lss 0 (.t 94) (i6 0)),og 96 83 true (.nt (.t 95)),oo 97 (.pk (.t 83) (.t 96) (.k (.bool false)))]) (.cd (.t 97) (.sq (rg [qM 98 0,qM 99 1,qM 100 2,qM 101 13,qM 102 4,oo 103 (.ca .any false (.f YL) [.t 98,.t 99,.t 100,.t 101,.t 102]),qM 15 103]) (.sq (rg [qM 104 15,qM 1 104]) (.ex 1))) (.sk))) (.sq (rg [qM 106 0,qM 107 1,qM 108 2,qM 109 13,qM 110 4,oo 111 (.ca .any false (.f VG) [.t 106,.t 107,.t 108,.t 109,.t 110]),qM 105 111,qE 112 0 105,qE 113 1 105,qM 16 112,qM 17 113]) (.sq (rg [qM 114 17,qM 11 114]) (.sq (rg [qM 115 16,qM 116 1,qB 117 .sub 115 116,qM 118 2,qM 119 16,qB 120 .sub 118 119,qM 18 117,qM 19 120]) (.sq (rg [qM 121 12,oo 122 (.bi .quo 0 (.t 121) (i6 8)),qM 20 122]) (.sq (rg [qM 123 18,qM 124 19,qB 125 .lss 123 124]) (.cd (.t 125) (.sq (rg [qM 126 18,qM 127 20,qB 128 .geq 126 127,qM 10 128]) (.sq (rg [qM 129 0,qM 130 1,qM 131 16,qM 132 3,qM 133 4,oo 134 (.ca .any false (.f ZJ) [.t 129,.t 130,.t 131,.t 132,.t 133])])
 (rg [qM 135 16,oo 136 (.bi .add 0 (.t 135) (i6 1)),qM 1 136]))) (.sq (rg [qM 137 19,qM 138 20,qB 139 .geq 137 138,qM 10 139]) (.sq (rg [qM 140 0,qM 141 16,oo 142 (.bi .add 0 (.t 141) (i6 1)),qM 143 2,qM 144 3,qM 145 4,oo 146 (.ca .any false (.f ZJ) [.t 140,.t 142,.t 143,.t 144,.t 145])])
 (rg [qM 147 16,qM 2 147])))))))))))))))))))))) }
theorem QR:ZP Proofs.Tryz.prog ZJ Yh=true:=by kernel_rfl
def DN:F2 :=
 { nt:=8,res:=[.t 2 [0]],body:=(.sq (rg [om 2 (i6 0)]) (.sq (.cd (.k (.bool false)) (.sq (rg [qM 3 0,oo 4 (.cv (.int .u32) (.t 3)),oo 5 (.ca .pure false (.f ZaP) [.t 4]),qM 2 5]) (.rt)) (.sk)) (.sq (rg [qM 6 0,oo 7 (.ca .pure false (.f V8) [.t 6]),qM 2 7]) (.rt)))) }
theorem Zeh:ZP Proofs.Tryz.prog Vt DN=true:=by kernel_rfl
def Vh:F2 :=
 { nt:=11,res:=[],body:=(.sq (rg [qM 3 0,qN 4 3,qM 2 4])
 (rg [qM 5 0,qM 6 2,qM 7 2,oo 8 (.cv (.int .u64) (.t 7)),oo 9 (.ca .pure false (.f Vt) [.t 8]),oo 10 (.ca .any false (.f ZQ) [.t 5,i6 0,.t 6,.t 9])])) }
theorem Wu:ZP Proofs.Tryz.prog ZX Vh=true:=by kernel_rfl
def JG:F2 :=
 { nt:=61,res:=[.t 2 [2]],body:=(.sq (rg [om 2 (.k (.slice none 0 0))]) (.sq (.sq (rg [qM 6 0,qN 7 6,oo 8 (.bi .lss 0 (.t 7) (i6 2))]) (.cd (.t 8) (.sq (rg [qM 9 0,qM 2 9]) (.rt)) (.sk))) (.sq (.sq (rg [om 3 (i6 1)]) (.bl 0 (.lp [0,3] [] (.sq (.sq (rg [qM 10 3,qM 11 0,qN 12 11,qB 13 .lss 10 12]) (.cd (.t 13) (.sk) (.ex 0))) (.sq (.bl 1 (.sq (.rg (some 0) [qM 16 0,qM 17 3,qI 18 1 16 17,qL 19 18,qM 20 0,qM 21 3,oo 22 (.bi .sub 0 (.t 21) (i6 1)),qI 23 1 20 22,qL 24 23,qB 25 .eql 19 24]) (.cd (.t 25) (.sq (rg [qM 26 0,qM 27 3,oo 28 (.sx 1 (.t 26) (some (.t 27)) none none),qM 4 28]) (.sq (.sq (rg [om 5 (i6 1)]) (.bl 2 (.lp [0,3,4,5] [] (.sq (.sq (rg [qM 29 5,qM 30 4,qN 31 30,qB 32 .lss 29 31]) (.cd (.t 32) (.sk) (.ex 2))) (.sq (.bl 3 (.sq (.rg (some 0) [qM 35 4,qM 36 5,qI 37 1 35 36,qL 38 37,qM 39 4,qM 40 5,oo 41 (.bi .sub 0 (.t 40) (i6 1)),qI 42 1 39 41,qL 43 42,qB 44 .neq 38 43]) (.cd (.t 44) (.sq (rg [qM 45 0,qM 46 3,qM 47 4,qM 48 5,qI 49 1 47 48,qL 50 49,qI 51 1 45 46,on1 (.st 1 (.t 51) (.t 50))])
 (rg [qM 52 3,oo 53 (.bi .add 0 (.t 52) (i6 1)),qM 3 53])) (.sk))))
 (rg [qM 33 5,oo 34 (.bi .add 0 (.t 33) (i6 1)),qM 5 34])))))) (.sq (rg [qM 54 0,qM 55 3,oo 56 (.sx 1 (.t 54) (some (.t 55)) none none),on1 (.cl 1 [.string ⟨#[]⟩] (.t 56))]) (.sq (rg [qM 57 0,qM 58 3,oo 59 (.sx 1 (.t 57) none (some (.t 58)) none),qM 2 59]) (.rt))))) (.sk))))
 (rg [qM 14 3,oo 15 (.bi .add 0 (.t 14) (i6 1)),qM 3 15])))))) (.sq (rg [qM 60 0,qM 2 60]) (.rt))))) }
theorem Yu:ZP Proofs.Tryz.prog Jv JG=true:=by kernel_rfl
def JH:F2 :=
 { nt:=53,res:=[],body:=(.sq (rg [qM 10 1,oo 11 (.bi .add 0 (.t 10) (i6 1)),qM 8 11]) (.bl 0 (.lp [0,1,2,3,8] [] (.sq (.sq (rg [qM 12 8,qM 13 2,qB 14 .lss 12 13]) (.cd (.t 14) (.sk) (.ex 0))) (.sq (.bl 1 (.sq (rg [qM 17 8,qM 9 17]) (.bl 2 (.lp [0,1,2,3,8,9] [] (.sq (.sq (.rg (some 0) [qM 18 9,qM 19 1,qB 20 .gtr 18 19,qM 21 20,og 22 21 true (.mv (.t 3) none),og 23 21 true (.mv (.t 0) none),og 24 21 true (.mv (.t 9) none),og 25 21 true (.ia 2 (.t 23) (.t 24)),og 26 21 true (.ld (some 2) (.t 25)),og 27 21 true (.mv (.t 0) none),og 28 21 true (.mv (.t 9) none),og 29 21 true (.bi .sub 0 (.t 28) (i6 1)),og 30 21 true (.ia 2 (.t 27) (.t 29)),og 31 21 true (.ld (some 2) (.t 30)),og 32 21 true (.ca .pure false (.t 22) [.t 26,.t 31]),og 33 21 true (.bi .lss 0 (.t 32) (i6 0)),oo 34 (.pk (.t 21) (.t 33) (.k (.bool false)))]) (.cd (.t 34) (.sk) (.ex 2))) (.sq (.bl 3 (.rg (some 0) [qM 37 0,qM 38 9,qM 39 0,qM 40 9,oo 41 (.bi .sub 0 (.t 40) (i6 1)),qM 42 0,qM 43 9,oo 44 (.bi .sub 0 (.t 43) (i6 1)),qI 45 2 42 44,qS 46 2 45,qM 47 0,qM 48 9,qI 49 2 47 48,qS 50 2 49,qI 51 2 37 38,on1 (.s0 2 (.t 51) (.t 46)),qI 52 2 39 41,on1 (.st 2 (.t 52) (.t 50))]))
 (rg [qM 35 9,oo 36 (.bi .sub 0 (.t 35) (i6 1)),qM 9 36])))))))
 (rg [qM 15 8,oo 16 (.bi .add 0 (.t 15) (i6 1)),qM 8 16])))))) }
theorem Vi:ZP Proofs.Tryz.prog Z2 JH=true:=by kernel_rfl
def ZD:F2 :=
 { nt:=25,res:=[.t 2 [0]],body:=(.sq (rg [om 2 (i6 0)]) (.sq (.sq (rg [qM 3 0,oo 4 (.bi .geq 0 (.t 3) (.k (.int .u64 4294967296)))]) (.cd (.t 4) (.sq (rg [qM 5 0,oo 6 (.bi .shr 0 (.t 5) (.k (.int .u64 32))),qM 0 6])
 (rg [om 2 (i6 32)])) (.sk))) (.sq (.sq (rg [qM 7 0,oo 8 (.bi .geq 0 (.t 7) (.k (.int .u64 65536)))]) (.cd (.t 8) (.sq (rg [qM 9 0,oo 10 (.bi .shr 0 (.t 9) (.k (.int .u64 16))),qM 0 10])
 (rg [qM 11 2,oo 12 (.bi .add 0 (.t 11) (i6 16)),qM 2 12])) (.sk))) (.sq (.sq (rg [qM 13 0,oo 14 (.bi .geq 0 (.t 13) (.k (.int .u64 256)))]) (.cd (.t 14) (.sq (rg [qM 15 0,oo 16 (.bi .shr 0 (.t 15) (.k (.int .u64 8))),qM 0 16])
 (rg [qM 17 2,oo 18 (.bi .add 0 (.t 17) (i6 8)),qM 2 18])) (.sk))) (.sq (rg [qM 19 2,qM 20 0,oo 21 (.cv (.int .u8) (.t 20)),oo 22 (.ix (.k (.string ⟨#[0,1,2,2,3,3,3,3,4,4,4,4,4,4,4,4,5,5,5,5,5,5,5,5,5,5,5,5,5,5,5,5,6,6,6,6,6,6,6,6,6,6,6,6,6,6,6,6,6,6,6,6,6,6,6,6,6,6,6,6,6,6,6,6,7,7,7,7,7,7,7,7,7,7,7,7,7,7,7,7,7,7,7,7,7,7,7,7,7,7,7,7,7,7,7,7,7,7,7,7,7,7,7,7,7,7,7,7,7,7,7,7,7,7,7,7,7,7,7,7,7,7,7,7,7,7,7,7,8,8,8,8,8,8,8,8,8,8,8,8,8,8,8,8,8,8,8,8,8,8,8,8,8,8,8,8,8,8,8,8,8,8,8,8,8,8,8,8,8,8,8,8,8,8,8,8,8,8,8,8,8,8,8,8,8,8,8,8,8,8,8,8,8,8,8,8,8,8,8,8,8,8,8,8,8,8,8,8,8,8,8,8,8,8,8,8,8,8,8,8,8,8,8,8,8,8,8,8,8,8,8,8,8,8,8,8,8,8,8,8,8,8,8,8,8,8,8,8,8,8,8,8,8,8,8,8]⟩)) (.t 21)),oo 23 (.cv (.int .i64) (.t 22)),qB 24 .add 19 23,qM 2 24]) (.rt)))))) }
theorem ZH:ZP Proofs.Tryz.prog V8 ZD=true:=by kernel_rfl
def Yv:F2 :=
 { nt:=134,res:=[],body:=(.sq (rg [om 8 (.k (.bool true))]) (.sq (rg [om 9 (.k (.bool true))]) (.bl 0 (.lp [0,1,2,3,8,9] [] (.bl 1 (.sq (rg [qM 19 2,qM 20 1,qB 21 .sub 19 20,qM 10 21]) (.sq (.sq (rg [qM 22 10,oo 23 (.bi .leq 0 (.t 22) (i6 12))]) (.cd (.t 23) (.sq (rg [qM 24 0,qM 25 1,qM 26 2,oo 27 (.ca .any false (.f Z7) [.t 24,.t 25,.t 26])]) (.rt)) (.sk))) (.sq (.sq (rg [qM 28 3,oo 29 (.bi .eql 0 (.t 28) (i6 0))]) (.cd (.t 29) (.sq (rg [qM 30 0,qM 31 1,qM 32 2,oo 33 (.ca .pure false (.f QN) [.t 30,.t 31,.t 32])]) (.rt)) (.sk))) (.sq (.sq (rg [qM 34 8,oo 35 (.nt (.t 34))]) (.cd (.t 35) (.sq (rg [qM 36 0,qM 37 1,qM 38 2,oo 39 (.ca .pure false (.f Vu) [.t 36,.t 37,.t 38])])
 (rg [qM 40 3,oo 41 (.bi .sub 0 (.t 40) (i6 1)),qM 3 41])) (.sk))) (.sq (rg [qM 43 0,qM 44 1,qM 45 2,oo 46 (.ca .pure false (.f VQ) [.t 43,.t 44,.t 45]),qM 42 46,qE 47 0 42,qE 48 1 42,qM 11 47,qM 12 48]) (.sq (.sq (rg [qM 49 12,oo 50 (.bi .eql 0 (.t 49) (i6 2))]) (.cd (.t 50) (.sq (rg [qM 51 0,qM 52 1,qM 53 2,oo 54 (.ca .pure false (.f VH) [.t 51,.t 52,.t 53])]) (.sq (rg [qM 55 2,oo 56 (.bi .sub 0 (.t 55) (i6 1)),qM 57 11,qM 58 1,qB 59 .sub 57 58,qB 60 .sub 56 59,qM 11 60])
 (rg [om 12 (i6 1)]))) (.sk))) (.sq (.sq (rg [qM 61 8,qM 62 61,og 63 62 true (.mv (.t 9) none),oo 64 (.pk (.t 62) (.t 63) (.k (.bool false))),qM 65 64,og 66 65 true (.mv (.t 12) none),og 67 65 true (.bi .eql 0 (.t 66) (i6 1)),oo 68 (.pk (.t 65) (.t 67) (.k (.bool false)))]) (.cd (.t 68) (.sq (rg [qM 69 0,qM 70 1,qM 71 2,oo 72 (.ca .pure false (.f Yq) [.t 69,.t 70,.t 71])]) (.cd (.t 72) (.rt) (.sk))) (.sk))) (.sq (.sq (.rg (some 0) [qM 73 1,oo 74 (.bi .gtr 0 (.t 73) (i6 0)),qM 75 74,og 76 75 true (.mv (.t 0) none),og 77 75 true (.mv (.t 1) none),og 78 75 true (.bi .sub 0 (.t 77) (i6 1)),og 79 75 true (.ia 1 (.t 76) (.t 78)),og 80 75 true (.ld none (.t 79)),og 81 75 true (.mv (.t 0) none),og 82 75 true (.mv (.t 11) none),og 83 75 true (.ia 1 (.t 81) (.t 82)),og 84 75 true (.ld none (.t 83)),og 85 75 true (.ca .pure false (.f YG) [.t 80,.t 84]),og 86 75 true (.nt (.t 85)),oo 87 (.pk (.t 75) (.t 86) (.k (.bool false)))]) (.cd (.t 87) (.sq (rg [qM 88 0,qM 89 1,qM 90 2,qM 91 11,oo 92 (.ca .pure false (.f Vf) [.t 88,.t 89,.t 90,.t 91]),qM 13 92]) (.sq (rg [qM 93 13,qM 1 93]) (.ex 1))) (.sk))) (.sq (rg [qM 95 0,qM 96 1,qM 97 2,qM 98 11,oo 99 (.ca .pure false (.f Qi) [.t 95,.t 96,.t 97,.t 98]),qM 94 99,qE 100 0 94,qE 101 1 94,qM 14 100,qM 15 101]) (.sq (rg [qM 102 15,qM 9 102]) (.sq (rg [qM 103 14,qM 104 1,qB 105 .sub 103 104,qM 106 2,qM 107 14,qB 108 .sub 106 107,qM 16 105,qM 17 108]) (.sq (rg [qM 109 10,oo 110 (.bi .quo 0 (.t 109) (i6 8)),qM 18 110]) (.sq (rg [qM 111 16,qM 112 17,qB 113 .lss 111 112]) (.cd (.t 113) (.sq (rg [qM 114 16,qM 115 18,qB 116 .geq 114 115,qM 8 116]) (.sq (rg [qM 117 0,qM 118 1,qM 119 14,qM 120 3,oo 121 (.ca .any false (.f ZQ) [.t 117,.t 118,.t 119,.t 120])])
 (rg [qM 122 14,oo 123 (.bi .add 0 (.t 122) (i6 1)),qM 1 123]))) (.sq (rg [qM 124 17,qM 125 18,qB 126 .geq 124 125,qM 8 126]) (.sq (rg [qM 127 0,qM 128 14,oo 129 (.bi .add 0 (.t 128) (i6 1)),qM 130 2,qM 131 3,oo 132 (.ca .any false (.f ZQ) [.t 127,.t 129,.t 130,.t 131])])
 (rg [qM 133 14,qM 2 133])))))))))))))))))))))) }
theorem Xn:ZP Proofs.Tryz.prog ZQ Yv=true:=by kernel_rfl
def JY:F2 :=
 { nt:=49,res:=[],body:=(.sq (rg [qM 8 1,oo 9 (.bi .add 0 (.t 8) (i6 1)),qM 6 9]) (.bl 0 (.lp [0,1,2,6] [] (.sq (.sq (rg [qM 10 6,qM 11 2,qB 12 .lss 10 11]) (.cd (.t 12) (.sk) (.ex 0))) (.sq (.bl 1 (.sq (rg [qM 15 6,qM 7 15]) (.bl 2 (.lp [0,1,2,6,7] [] (.sq (.sq (.rg (some 0) [qM 16 7,qM 17 1,qB 18 .gtr 16 17,qM 19 18,og 20 19 true (.mv (.t 0) none),og 21 19 true (.mv (.t 7) none),og 22 19 true (.ia 1 (.t 20) (.t 21)),og 23 19 true (.ld none (.t 22)),og 24 19 true (.mv (.t 0) none),og 25 19 true (.mv (.t 7) none),og 26 19 true (.bi .sub 0 (.t 25) (i6 1)),og 27 19 true (.ia 1 (.t 24) (.t 26)),og 28 19 true (.ld none (.t 27)),og 29 19 true (.ca .pure false (.f YG) [.t 23,.t 28]),oo 30 (.pk (.t 19) (.t 29) (.k (.bool false)))]) (.cd (.t 30) (.sk) (.ex 2))) (.sq (.bl 3 (.rg (some 0) [qM 33 0,qM 34 7,qM 35 0,qM 36 7,oo 37 (.bi .sub 0 (.t 36) (i6 1)),qM 38 0,qM 39 7,oo 40 (.bi .sub 0 (.t 39) (i6 1)),qI 41 1 38 40,qL 42 41,qM 43 0,qM 44 7,qI 45 1 43 44,qL 46 45,qI 47 1 33 34,on1 (.s0 1 (.t 47) (.t 42)),qI 48 1 35 37,on1 (.st 1 (.t 48) (.t 46))]))
 (rg [qM 31 7,oo 32 (.bi .sub 0 (.t 31) (i6 1)),qM 7 32])))))))
 (rg [qM 13 6,oo 14 (.bi .add 0 (.t 13) (i6 1)),qM 6 14])))))) }
theorem VV:ZP Proofs.Tryz.prog Z7 JY=true:=by kernel_rfl
def Up:F2 :=
 { nt:=17,res:=[.t 4 [0]],body:=(.sq (rg [om 4 (.k (.bool false))]) (.sq (rg [qM 5 0,oo 6 (.ca .pure false (.f Yn) [.t 5]),qM 7 6,og 8 7 true (.mv (.t 1) none),og 9 7 true (.ca .pure false (.f Yn) [.t 8]),og 10 7 true (.nt (.t 9)),oo 11 (.pk (.t 7) (.t 10) (.k (.bool false))),qM 12 11,og 13 12 false (.mv (.t 0) none),og 14 12 false (.mv (.t 1) none),og 15 12 false (.bi .lss 0 (.t 13) (.t 14)),oo 16 (.pk (.t 12) (.k (.bool true)) (.t 15)),qM 4 16]) (.rt))) }
theorem Zcy:ZP Proofs.Tryz.prog YG Up=true:=by kernel_rfl
def WQ:F2 :=
 { nt:=6,res:=[.t 2 [0]],body:=(.sq (rg [om 2 (.k (.bool false))]) (.sq (rg [qM 3 0,qM 4 0,qB 5 .neq 3 4,qM 2 5]) (.rt))) }
theorem ZbH:ZP Proofs.Tryz.prog Yn WQ=true:=by kernel_rfl
end Go.Fd

/-
  ANNOTATED CODES OF GO'S GENERIC FUNCTIONS ON SLICES, AT ANY ELEMENT (printed by generic.py out of one instance each). Own work.
-/
namespace Go.Fd
def ZlV(k:Nat)(m:Option Nat):F2 :=
 { nt:=19,res:=[.t 4 [0]],body:=(.sq (.rg none [⟨some 4,none,.mv (.k (.int .i64 0)) none⟩]) (.sq (.sq (.rg none [⟨some 6,none,.mv (.t 0) none⟩,
    ⟨some 7,none,.ln (.t 6)⟩,
    ⟨some 8,none,.mv (.k (.int .i64 0)) none⟩]) (.bl 0 (.lp [0,1,7,8] [] (.sq (.rg none [⟨some 9,none,.bi .lss 0 (.t 8) (.t 7)⟩]) (.sq (.cd (.t 9) (.sk) (.ex 0)) (.sq (.bl 1 (.sq (.rg none [⟨some 10,none,.mv (.t 8) none⟩,
      ⟨some 5,none,.mv (.t 10) none⟩]) (.sq (.rg none [⟨some 11,none,.mv (.t 1) none⟩,
      ⟨some 12,none,.mv (.t 0) none⟩,
      ⟨some 13,none,.mv (.t 5) none⟩,
      ⟨some 14,none,.ia k (.t 12) (.t 13)⟩,
      ⟨some 15,none,.ld m (.t 14)⟩,
      ⟨some 16,none,.ca .pure false (.t 11) [.t 15]⟩]) (.cd (.t 16) (.sq (.rg none [⟨some 17,none,.mv (.t 5) none⟩,
      ⟨some 4,none,.mv (.t 17) none⟩]) (.rt)) (.sk))))) (.rg none [⟨some 18,none,.bi .add 0 (.t 8) (.k (.int .i64 1))⟩,
    ⟨some 8,none,.mv (.t 18) none⟩]))))))) (.sq (.rg none [⟨some 4,none,.mv (.k (.int .i64 (-1))) none⟩]) (.rt)))) }
def ZoB(fi:FuncId):F2 :=
 { nt:=9,res:=[.t 4 [0]],body:=(.sq (.rg none [⟨some 4,none,.mv (.k (.bool false)) none⟩]) (.sq (.rg none [⟨some 5,none,.mv (.t 0) none⟩,
   ⟨some 6,none,.mv (.t 1) none⟩,
   ⟨some 7,none,.ca .pure false (.f fi) [.t 5,.t 6]⟩,
   ⟨some 8,none,.bi .geq 0 (.t 7) (.k (.int .i64 0))⟩,
   ⟨some 4,none,.mv (.t 8) none⟩]) (.rt))) }
def Zx1  : F2 :=
 { nt:=26,res:=[.t 4 [0]],body:=(.sq (.rg none [⟨some 4,none,.mv (.k (.bool false)) none⟩]) (.sq (.sq (.rg none [⟨some 6,none,.mv (.t 0) none⟩,
    ⟨some 7,none,.ln (.t 6)⟩,
    ⟨some 8,none,.mv (.t 1) none⟩,
    ⟨some 9,none,.ln (.t 8)⟩,
    ⟨some 10,none,.bi .neq 0 (.t 7) (.t 9)⟩]) (.cd (.t 10) (.sq (.rg none [⟨some 4,none,.mv (.k (.bool false)) none⟩]) (.rt)) (.sk))) (.sq (.sq (.rg none [⟨some 11,none,.mv (.t 0) none⟩,
    ⟨some 12,none,.ln (.t 11)⟩,
    ⟨some 13,none,.mv (.k (.int .i64 0)) none⟩]) (.bl 0 (.lp [0,1,12,13] [] (.sq (.rg none [⟨some 14,none,.bi .lss 0 (.t 13) (.t 12)⟩]) (.sq (.cd (.t 14) (.sk) (.ex 0)) (.sq (.bl 1 (.sq (.rg none [⟨some 15,none,.mv (.t 13) none⟩,
      ⟨some 5,none,.mv (.t 15) none⟩]) (.sq (.rg (some 0) [⟨some 16,none,.mv (.t 0) none⟩,
      ⟨some 17,none,.mv (.t 5) none⟩,
      ⟨some 18,none,.ia 1 (.t 16) (.t 17)⟩,
      ⟨some 19,none,.ld none (.t 18)⟩,
      ⟨some 20,none,.mv (.t 1) none⟩,
      ⟨some 21,none,.mv (.t 5) none⟩,
      ⟨some 22,none,.ia 1 (.t 20) (.t 21)⟩,
      ⟨some 23,none,.ld none (.t 22)⟩,
      ⟨some 24,none,.bi .neq 0 (.t 19) (.t 23)⟩]) (.cd (.t 24) (.sq (.rg none [⟨some 4,none,.mv (.k (.bool false)) none⟩]) (.rt)) (.sk))))) (.rg none [⟨some 25,none,.bi .add 0 (.t 13) (.k (.int .i64 1))⟩,
    ⟨some 13,none,.mv (.t 25) none⟩]))))))) (.sq (.rg none [⟨some 4,none,.mv (.k (.bool true)) none⟩]) (.rt))))) }
def Zud  : F2 :=
 { nt:=19,res:=[.t 4 [0]],body:=(.sq (.rg none [⟨some 4,none,.mv (.k (.int .i64 0)) none⟩]) (.sq (.sq (.rg none [⟨some 6,none,.mv (.t 0) none⟩,
    ⟨some 7,none,.ln (.t 6)⟩,
    ⟨some 8,none,.mv (.k (.int .i64 0)) none⟩]) (.bl 0 (.lp [0,1,7,8] [] (.sq (.rg none [⟨some 9,none,.bi .lss 0 (.t 8) (.t 7)⟩]) (.sq (.cd (.t 9) (.sk) (.ex 0)) (.sq (.bl 1 (.sq (.rg none [⟨some 10,none,.mv (.t 8) none⟩,
      ⟨some 5,none,.mv (.t 10) none⟩]) (.sq (.rg none [⟨some 11,none,.mv (.t 1) none⟩,
      ⟨some 12,none,.mv (.t 0) none⟩,
      ⟨some 13,none,.mv (.t 5) none⟩,
      ⟨some 14,none,.ia 1 (.t 12) (.t 13)⟩,
      ⟨some 15,none,.ld none (.t 14)⟩,
      ⟨some 16,none,.bi .eql 0 (.t 11) (.t 15)⟩]) (.cd (.t 16) (.sq (.rg none [⟨some 17,none,.mv (.t 5) none⟩,
      ⟨some 4,none,.mv (.t 17) none⟩]) (.rt)) (.sk))))) (.rg none [⟨some 18,none,.bi .add 0 (.t 8) (.k (.int .i64 1))⟩,
    ⟨some 8,none,.mv (.t 18) none⟩]))))))) (.sq (.rg none [⟨some 4,none,.mv (.k (.int .i64 (-1))) none⟩]) (.rt)))) }
def Zx2(fi:FuncId):F2 :=
 { nt:=9,res:=[.t 4 [0]],body:=(.sq (.rg none [⟨some 4,none,.mv (.k (.bool false)) none⟩]) (.sq (.rg none [⟨some 5,none,.mv (.t 0) none⟩,
   ⟨some 6,none,.mv (.t 1) none⟩,
   ⟨some 7,none,.ca .pure false (.f fi) [.t 5,.t 6]⟩,
   ⟨some 8,none,.bi .geq 0 (.t 7) (.k (.int .i64 0))⟩,
   ⟨some 4,none,.mv (.t 8) none⟩]) (.rt))) }
end Go.Fd

/-
  GO'S GENERIC FUNCTIONS ON SLICES, AT ANY ELEMENT. Own work.
-/
namespace Go.Fd
set_option maxRecDepth 20000
section rules
variable {L:Sto} {F:List IV->Prop} {lvl:Nat}
theorem WR:∀{l:List (List Tr)} {F:List IV->Prop},Jw L (l.map IV.ta) F=F (l.map IV.ta)
 | [],F=>Zpo
 | x::r,F=>by
  simp only[List.map_cons]
  rw[ZrP,WR]
  rfl
theorem J6{Pd:Oid->Prop}:∀{l:List (List Tr)},Zd Pd (l.map IV.ta)=True
 | []=>rfl
 | x::r=>by
  simp only[List.map_cons,Zd,men,true_and]
  exact J6
theorem JN{js:List Nat}{l:List (List Tr)}:Zjm lvl js (l.map IV.ta)=True:=J6
end rules
section
variable {P:Program} {α:Type}
theorem U7{α β:Type}{c:α->β}{l:List α}{j:Nat}(h:j<l.length):(l.map c)[j]? = some (c l[j]):=by simp [h]
theorem ZlW{α:Type}{c:α->List Tr}{l:List α}{j:Nat}:cut (l.map c) 0 (j-0)=(l.take j).map c:=by
 simp only[cut,List.drop_zero,Nat.sub_zero,List.map_take]
theorem ZbI{α:Type}{l:List α}{j:Nat}(h:j<l.length):l.drop j=l[j]::l.drop (j+1):=List.drop_eq_getElem_cons h
def ixF(f:α->Bool):List α->Int->Int
 | [],_=>-1
 | x::r,j=>if f x=true then j else ixF f r (j+1)
theorem XU{f:α->Bool}{x:α}{r:List α}{j:Int}:ixF f (x::r) j=if f x=true then j else ixF f r (j+1):=rfl
theorem Zgs{f:α->Bool}:∀{l:List α} {j:Int},0<=j->(0<=ixF f l j↔l.any f=true)
 | [],j,_=>by simp [ixF]
 | x::r,j,h=>by
  rw[XU,List.any_cons]
  cases hx:f x with
  | true=>simp [h]
  | false =>
   simp only[Bool.false_eq_true,if_false,Bool.false_or]
   exact Zgs (by omega)
theorem ZjR{fid:FuncId}(hc:ZP P fid (ZlV 1 none)=true){t:α->Tr}{f:α->Bool}{fe:FuncId}{cs:List (List Tr)}(l:List α)(hl:l.length<=9223372036854775807)
  (hf:∀ x∈l,∀ lvl S,Sem P fe lvl (.tr (t x)::cs.map IV.ta) S (iB (f x)) S) (lvl:Nat) (S:Sto):Sem P fid lvl [.tr (.sl (l.map fun x=>[t x])),.fn fe (cs.map IV.ta)] S (iI (ixF f l 0)) S:=by
 refine Zc hc trivial ?_
 simp only[ZlV,List.length_map,JN,EVA,seval,Zd,men]
 refine ZL (α:=Unit) l.length (fun j _=>[(8,iI j)]) (fun _ _=>[]) (fun j _=>ixF f (l.drop j) j=ixF f l 0) () (by simp only[JN,EVA,seval,Zd,men]) (by (simp only[EVA,seval,Zd,men]) <;> rfl) rfl ?_
 intro j _ hj hA
 simp only[List.length_map,JN,EVA,seval,Zd,men]
 refine Zo (fun hlt=>?_) (fun hge=>?_)
 ·have hja:j<l.length:=by omega
  have ga:=U7 (c:=fun x=>[t x]) hja
  rw[ZbI hja,XU] at hA
  simp only[ga,JN,WR,J6,EVA,seval,Zd,men]
  refine Zb (hf _ (List.getElem_mem hja)) ?_
  simp only[J6,JN,EVA,seval,Zd,men]
  refine Zo (fun h=>?_) (fun h=>?_)
  ·rw[if_pos h] at hA
   rw[<-hA]
  ·rw[if_neg h] at hA
   exact⟨by rw[Ze];omega,Zf () hja rfl hA⟩
 ·have:j=l.length:=by omega
  subst this
  rw[List.drop_length] at hA
  rw[<-hA]
  rfl
theorem ZnT{k:Nat}{fid:FuncId}(hc:ZP P fid (ZlV k (some k))=true){c:α->List Tr}(hk:∀ x,(c x).length=k){f:α->Bool}{fe:FuncId}{cs:List (List Tr)}(l:List α)(hl:l.length<=9223372036854775807)
  (hf:∀ x∈l,∀ lvl S,Sem P fe lvl (.ag ((c x).map .tr)::cs.map IV.ta) S (iB (f x)) S) (lvl:Nat) (S:Sto):Sem P fid lvl [.tr (.sl (l.map c)),.fn fe (cs.map IV.ta)] S (iI (ixF f l 0)) S:=by
 refine Zc hc trivial ?_
 simp only[ZlV,List.length_map,JN,EVA,seval,Zd,men]
 refine ZL (α:=Unit) l.length (fun j _=>[(8,iI j)]) (fun _ _=>[]) (fun j _=>ixF f (l.drop j) j=ixF f l 0) () (by simp only[JN,EVA,seval,Zd,men]) (by (simp only[EVA,seval,Zd,men]) <;> rfl) rfl ?_
 intro j _ hj hA
 simp only[List.length_map,JN,EVA,seval,Zd,men]
 refine Zo (fun hlt=>?_) (fun hge=>?_)
 ·have hja:j<l.length:=by omega
  have ga:=U7 (c:=c) hja
  have hkk:=hk l[j]
  have htk:(c l[j]).take k=c l[j]:=List.take_of_length_le (by omega)
  rw[ZbI hja,XU] at hA
  simp only[ga,hkk,htk,JN,WR,ZpW,J6,Zf7,EVA,seval,Zd,men]
  refine Zb (hf _ (List.getElem_mem hja)) ?_
  simp only[J6,Zf7,JN,EVA,seval,Zd,men]
  refine Zo (fun h=>?_) (fun h=>?_)
  ·rw[if_pos h] at hA
   rw[<-hA]
  ·rw[if_neg h] at hA
   exact⟨by rw[Ze];omega,Zf () hja rfl hA⟩
 ·have:j=l.length:=by omega
  subst this
  rw[List.drop_length] at hA
  rw[<-hA]
  rfl
theorem ZlX{fid fi:FuncId}(hc:ZP P fid (ZoB fi)=true){es:Row}{f:α->Bool}{fe:FuncId}{cs:List (List Tr)}{l:List α}
  (hi:∀ lvl S,Sem P fi lvl [.tr (.sl es),.fn fe (cs.map IV.ta)] S (iI (ixF f l 0)) S) (lvl:Nat) (S:Sto):Sem P fid lvl [.tr (.sl es),.fn fe (cs.map IV.ta)] S (iB (l.any f)) S:=by
 refine Zc hc trivial ?_
 simp only[ZoB,WR,J6,JN,EVA,seval,Zd,men]
 refine Zb hi ?_
 simp only[WR,J6,EVA,seval,Zd,men]
 have:=Zgs (f:=f) (l:=l) (Int.le_refl 0)
 by_cases h:l.any f=true
 ·simp [h,this.2 h]
 ·simp [h,mt this.1 h]
theorem Zgt{fid fi:FuncId}(hc:ZP P fid (ZoB fi)=true)(hi:ZP P fi (ZlV 1 none)=true){t:α->Tr}{f:α->Bool}{fe:FuncId}{cs:List (List Tr)}(l:List α)(hl:l.length<=9223372036854775807)
  (hf:∀ x∈l,∀ lvl S,Sem P fe lvl (.tr (t x)::cs.map IV.ta) S (iB (f x)) S) (lvl:Nat) (S:Sto):Sem P fid lvl [.tr (.sl (l.map fun x=>[t x])),.fn fe (cs.map IV.ta)] S (iB (l.any f)) S :=
 ZlX hc (ZjR hi l hl hf) lvl S
theorem ZjS{k:Nat}{fid fi:FuncId}(hc:ZP P fid (ZoB fi)=true)(hi:ZP P fi (ZlV k (some k))=true){c:α->List Tr}(hk:∀ x,(c x).length=k){f:α->Bool}{fe:FuncId}{cs:List (List Tr)}(l:List α)(hl:l.length<=9223372036854775807)
  (hf:∀ x∈l,∀ lvl S,Sem P fe lvl (.ag ((c x).map .tr)::cs.map IV.ta) S (iB (f x)) S) (lvl:Nat) (S:Sto):Sem P fid lvl [.tr (.sl (l.map c)),.fn fe (cs.map IV.ta)] S (iB (l.any f)) S :=
 ZlX hc (ZnT hi hk l hl hf) lvl S
structure Cmp (t:α->Tr):Prop where
 neq:∀(x y:α) (F:IV->Prop),bi2 .neq 0 (.tr (t x)) (.tr (t y)) F=F (iB (!(@decide (x=y) (Classical.propDecidable _))))
 eql:∀(x y:α) (F:IV->Prop),bi2 .eql 0 (.tr (t x)) (.tr (t y)) F=F (iB (@decide (x=y) (Classical.propDecidable _)))
theorem Zqe:Cmp ts:=⟨fun x y F=>by rw[Zrx];congr 2;by_cases h:x=y <;> simp [h],fun x y F=>by rw[Zrw];congr 2;by_cases h:x=y <;> simp [h]⟩
theorem Zqf{fid:FuncId}(hc:ZP P fid Zx1=true)[DecidableEq α]{t:α->Tr}(hT:Cmp t)(a b:List α)(ha:a.length<=9223372036854775807)(lvl:Nat)(S:Sto):Sem P fid lvl [.tr (.sl (a.map fun x=>[t x])),.tr (.sl (b.map fun x=>[t x]))] S (iB (decide (a=b))) S:=by
 refine Zc hc trivial ?_
 simp only[Zx1,List.length_map,EVA,seval,Zd,men]
 refine Zo (fun h=>?_) (fun h=>?_)
 ·have:¬ a=b:=fun e=>h (by rw[e])
  simp [this]
 have hlen:a.length=b.length:=by omega
 refine ZL (α:=Unit) a.length (fun j _=>[(13,iI j)]) (fun _ _=>[]) (fun j _=>a.take j=b.take j) () (by simp only[EVA,seval,Zd,men]) (by (simp only[EVA,seval,Zd,men]) <;> rfl) rfl ?_
 intro j _ hj hA
 simp only[List.length_map,EVA,seval,Zd,men]
 refine Zo (fun hlt=>?_) (fun hge=>?_)
 ·have hja:j<a.length:=by omega
  have hjb:j<b.length:=by omega
  have ga:=U7 (c:=fun x=>[t x]) hja
  have gb:=U7 (c:=fun x=>[t x]) hjb
  have hq:=hT.neq a[j] b[j]
  simp only[ga,gb,hq,EVA,seval,Zd,men]
  refine Zo (fun hne=>?_) (fun he=>?_)
  ·have:¬ a=b:=Zad hja hjb (by simpa using hne)
   simp [this]
  ·exact⟨by rw[Ze];omega,Zf () hja rfl (WK hja hjb hA (by simpa using he))⟩
 ·have:j=a.length:=by omega
  subst this
  have:a=b:=UJ hlen hA
  simp [this]
theorem ZlY{fid:FuncId}(hc:ZP P fid Zud=true)[DecidableEq α]{t:α->Tr}(hT:Cmp t)(l:List α)(v:α)(hl:l.length<=9223372036854775807)(lvl:Nat)(S:Sto):Sem P fid lvl [.tr (.sl (l.map fun x=>[t x])),.tr (t v)] S (iI (ixF (fun x=>decide (v=x)) l 0)) S:=by
 refine Zc hc trivial ?_
 simp only[Zud,List.length_map,EVA,seval,Zd,men]
 refine ZL (α:=Unit) l.length (fun j _=>[(8,iI j)]) (fun _ _=>[]) (fun j _=>ixF (fun x=>decide (v=x)) (l.drop j) j=ixF (fun x=>decide (v=x)) l 0) () (by simp only[EVA,seval,Zd,men]) (by (simp only[EVA,seval,Zd,men]) <;> rfl) rfl ?_
 intro j _ hj hA
 simp only[List.length_map,EVA,seval,Zd,men]
 refine Zo (fun hlt=>?_) (fun hge=>?_)
 ·have hja:j<l.length:=by omega
  have ga:=U7 (c:=fun x=>[t x]) hja
  have hq:=hT.eql v l[j]
  rw[ZbI hja,XU] at hA
  simp only[ga,hq,EVA,seval,Zd,men]
  refine Zo (fun h=>?_) (fun h=>?_)
  ·rw[if_pos (by simpa using h)] at hA
   rw[<-hA]
  ·rw[if_neg (by simpa using h)] at hA
   exact⟨by rw[Ze];omega,Zf () hja rfl hA⟩
 ·have:j=l.length:=by omega
  subst this
  rw[List.drop_length] at hA
  rw[<-hA]
  rfl
theorem Zqg[DecidableEq α]{l:List α}{v:α}:l.any (fun x=>decide (v=x))=decide (v∈l):=by
 rw[Bool.eq_iff_iff]
 simp [List.any_eq_true]
theorem Zqh{fid fi:FuncId}(hc:ZP P fid (Zx2 fi)=true)(hi:ZP P fi Zud=true)[DecidableEq α]{t:α->Tr}(hT:Cmp t)(l:List α)(v:α)(hl:l.length<=9223372036854775807)(lvl:Nat)(S:Sto):Sem P fid lvl [.tr (.sl (l.map fun x=>[t x])),.tr (t v)] S (iB (decide (v∈l))) S:=by
 refine Zc hc trivial ?_
 simp only[Zx2,EVA,seval,Zd,men]
 refine Zb (ZlY hi hT l v hl) ?_
 simp only[EVA,seval,Zd,men]
 have:=Zgs (f:=fun x=>decide (v=x)) (l:=l) (Int.le_refl 0)
 rw[Zqg] at this
 by_cases h:v∈l
 ·simp [h,this.2 (by simpa using h)]
 ·have h2:¬ 0<=ixF (fun x=>decide (v=x)) l 0:=fun hh=>h (by simpa using this.1 hh)
  simp [h,h2]
end
end Go.Fd

/-
  WHAT HOLDS OF THE PROGRAM'S AND THE REFERENCE'S SMALL FUNCTIONS ON NUMBERS. Own work.
-/
namespace Go.Fd
set_option maxRecDepth 20000
noncomputable def dc(p:Prop):Bool:=@decide p (Classical.propDecidable p)
theorem dc_iff{p:Prop}:dc p=true↔p:=by unfold dc;simp
theorem ZK{p:Prop}(h:p):dc p=true:=dc_iff.2 h
theorem Zh{p:Prop}(h:¬ p):dc p=false:=by
 cases hh:dc p with
 | false=>rfl
 | true=>exact absurd (dc_iff.1 hh) h
theorem dc_not{p:Prop}:dc p=false ↔ ¬ p:=⟨fun h hp=>(by rw[ZK hp] at h;cases h),Zh⟩
theorem Y1{p q:Prop}(h:p↔q):dc p=dc q:=by rw[propext h]
theorem YN{p:Prop}[Decidable p]:dc p=decide p:=by
 by_cases h:p
 ·rw[ZK h];simp [h]
 ·rw[Zh h];simp [h]
abbrev g0(l:List Int)(i:Nat):Int:=l.getD i 0
abbrev A3:=Int×Int×Int
abbrev g3(l:List A3)(i:Nat):A3:=l.getD i (0,0,0)
theorem XN{l:List Int}{i:Nat}(h:i<l.length):(rI l)[i]? = some [tv (g0 l i)]:=by simp [h]
def inB(n a b:Int):Bool:=decide (a<=n)&&decide (n<=b)
theorem inB_iff{n a b:Int}:inB n a b=true↔a<=n/\n<=b:=by simp [inB]
theorem inB_not{n a b:Int}:inB n a b=false ↔ ¬ (a<=n/\n<=b):=by
 rw[<-inB_iff];cases inB n a b <;> simp
theorem XV(n a b:Int)(lvl:Nat)(S:Sto):Sem Proofs.Tryz.prog Jr lvl [iI n,iI a,iI b] S (iB (inB n a b)) S:=by
 refine Zc ZiJ trivial ?_
 simp only[Zd4,EVA,seval,Zd,men]
 refine Zo (fun h=>?_) (fun h=>?_) <;> simp [inB,h]
theorem Qf(n a b:Int)(lvl:Nat)(S:Sto):Sem Proofs.Tryz.prog Ji lvl [iI n,iI a,iI b] S (iB (inB n a b)) S:=by
 refine Zc Zgi trivial ?_
 simp only[Zbs,EVA,seval,Zd,men]
 refine Zo (fun h=>?_) (fun h=>?_) <;> simp [inB,h]
end Go.Fd

/-
  NUMBERS OF LIBRARY FUNCTIONS IN THIS PROGRAM, as the guide's shelf lays them (printed by lay.py out of the kit's own command).
-/
namespace Go.Proofs
open Go.Shelf
def Tryz.lays160_ren:Go.Shelf.Ren:=⟨fun | 160=>113 | 232=>131 | 231=>130 | 227=>132 | 234=>134 | 233=>133 | 236=>136 | 235=>135 | 228=>150 | 271=>153 | 151=>152 | 197=>151 | 120=>161 | 152=>160 | 260=>159 | 137=>174 | 119=>175 | 224=>176 | 225=>177 | 217=>184 | 266=>195 | n=>n,fun | 9=>9 | 4=>4 | 3=>3 | 5=>5 | 117=>138 | 116=>137 | 0=>0 | 124=>141 | 21=>21 | 105=>151 | 46=>158 | 119=>173 | 139=>176 | 138=>175 | n=>n,fun | 3=>0 | 4=>1 | n=>n⟩
theorem Tryz.lays160:Go.Proofs.Lays.n160 Tryz.prog Tryz.lays160_ren:={
  mixed:=by kernel_rfl,
  f119:=Tryz.func175.trans (congrArg some (by kernel_rfl)),
  f120:=Tryz.func161.trans (congrArg some (by kernel_rfl)),
  f137:=Tryz.func174.trans (congrArg some (by kernel_rfl)),
  f151:=Tryz.func152.trans (congrArg some (by kernel_rfl)),
  f152:=Tryz.func160.trans (congrArg some (by kernel_rfl)),
  f160:=Tryz.func113.trans (congrArg some (by kernel_rfl)),
  f197:=Tryz.func151.trans (congrArg some (by kernel_rfl)),
  f217:=Tryz.func184.trans (congrArg some (by kernel_rfl)),
  f224:=Tryz.func176.trans (congrArg some (by kernel_rfl)),
  f225:=Tryz.func177.trans (congrArg some (by kernel_rfl)),
  f227:=Tryz.func132.trans (congrArg some (by kernel_rfl)),
  f228:=Tryz.func150.trans (congrArg some (by kernel_rfl)),
  f231:=Tryz.func130.trans (congrArg some (by kernel_rfl)),
  f232:=Tryz.func131.trans (congrArg some (by kernel_rfl)),
  f233:=Tryz.func133.trans (congrArg some (by kernel_rfl)),
  f234:=Tryz.func134.trans (congrArg some (by kernel_rfl)),
  f235:=Tryz.func135.trans (congrArg some (by kernel_rfl)),
  f236:=Tryz.func136.trans (congrArg some (by kernel_rfl)),
  f260:=Tryz.func159.trans (congrArg some (by kernel_rfl)),
  f266:=Tryz.func195.trans (congrArg some (by kernel_rfl)),
  f271:=Tryz.func153.trans (congrArg some (by kernel_rfl)),
  t0:=Tryz.underlying0,
  a0:=Tryz.isAgg0,
  z0:=Tryz.sizeOf0,
  v0:=Tryz.zeroValue0,
  t3:=Tryz.underlying3,
  a3:=Tryz.isAgg3,
  z3:=Tryz.sizeOf3,
  v3:=Tryz.zeroValue3,
  t4:=Tryz.underlying4,
  a4:=Tryz.isAgg4,
  z4:=Tryz.sizeOf4,
  v4:=Tryz.zeroValue4,
  t5:=Tryz.underlying5,
  a5:=Tryz.isAgg5,
  z5:=Tryz.sizeOf5,
  v5:=Tryz.zeroValue5,
  t9:=Tryz.underlying9,
  a9:=Tryz.isAgg9,
  z9:=Tryz.sizeOf9,
  v9:=Tryz.zeroValue9,
  t21:=Tryz.underlying21,
  a21:=Tryz.isAgg21,
  z21:=Tryz.sizeOf21,
  v21:=Tryz.zeroValue21,
  t46:=Tryz.underlying158,
  a46:=Tryz.isAgg158,
  z46:=Tryz.sizeOf158,
  v46:=Tryz.zeroValue158,
  t105:=Tryz.underlying151,
  a105:=Tryz.isAgg151,
  z105:=Tryz.sizeOf151,
  v105:=Tryz.zeroValue151,
  t116:=Tryz.underlying137,
  a116:=Tryz.isAgg137,
  z116:=Tryz.sizeOf137,
  t117:=Tryz.underlying138,
  a117:=Tryz.isAgg138,
  z117:=Tryz.sizeOf138,
  v117:=Tryz.zeroValue138,
  t119:=Tryz.underlying173,
  a119:=Tryz.isAgg173,
  z119:=Tryz.sizeOf173,
  t124:=Tryz.underlying141,
  a124:=Tryz.isAgg141,
  z124:=Tryz.sizeOf141,
  v124:=Tryz.zeroValue141,
  t138:=Tryz.underlying175,
  a138:=Tryz.isAgg175,
  z138:=Tryz.sizeOf175,
  v138:=Tryz.zeroValue175,
  t139:=Tryz.underlying176,
  a139:=Tryz.isAgg176,
  z139:=Tryz.sizeOf176,
  v139:=Tryz.zeroValue176,
  g3:=by kernel_rfl,
  g4:=by kernel_rfl }
def Tryz.lays190_ren:Go.Shelf.Ren:=⟨fun | 190=>162 | 125=>158 | 258=>178 | 128=>172 | 129=>173 | 302=>185 | 303=>186 | 304=>187 | 305=>188 | 306=>189 | 307=>190 | 308=>191 | 309=>192 | 310=>193 | 333=>196 | 329=>180 | 330=>181 | 334=>197 | 335=>198 | 336=>199 | 344=>200 | n=>n,fun | 31=>25 | 9=>9 | 3=>3 | 46=>158 | 0=>0 | 51=>170 | 53=>172 | 4=>4 | 183=>163 | 182=>162 | 131=>167 | 5=>5 | 218=>181 | 222=>185 | 228=>193 | 229=>194 | n=>n,fun | n=>n⟩
theorem Tryz.lays190:Go.Proofs.Lays.n190 Tryz.prog Tryz.lays190_ren:={
  mixed:=by kernel_rfl,
  f125:=Tryz.func158.trans (congrArg some (by kernel_rfl)),
  f128:=Tryz.func172.trans (congrArg some (by kernel_rfl)),
  f129:=Tryz.func173.trans (congrArg some (by kernel_rfl)),
  f190:=Tryz.func162.trans (congrArg some (by kernel_rfl)),
  f258:=Tryz.func178.trans (congrArg some (by kernel_rfl)),
  f302:=Tryz.func185.trans (congrArg some (by kernel_rfl)),
  f303:=Tryz.func186.trans (congrArg some (by kernel_rfl)),
  f304:=Tryz.func187.trans (congrArg some (by kernel_rfl)),
  f305:=Tryz.func188.trans (congrArg some (by kernel_rfl)),
  f306:=Tryz.func189.trans (congrArg some (by kernel_rfl)),
  f307:=Tryz.func190.trans (congrArg some (by kernel_rfl)),
  f308:=Tryz.func191.trans (congrArg some (by kernel_rfl)),
  f309:=Tryz.func192.trans (congrArg some (by kernel_rfl)),
  f310:=Tryz.func193.trans (congrArg some (by kernel_rfl)),
  f329:=Tryz.func180.trans (congrArg some (by kernel_rfl)),
  f330:=Tryz.func181.trans (congrArg some (by kernel_rfl)),
  f333:=Tryz.func196.trans (congrArg some (by kernel_rfl)),
  f334:=Tryz.func197.trans (congrArg some (by kernel_rfl)),
  f335:=Tryz.func198.trans (congrArg some (by kernel_rfl)),
  f336:=Tryz.func199.trans (congrArg some (by kernel_rfl)),
  f344:=Tryz.func200.trans (congrArg some (by kernel_rfl)),
  t0:=Tryz.underlying0,
  a0:=Tryz.isAgg0,
  z0:=Tryz.sizeOf0,
  v0:=Tryz.zeroValue0,
  t3:=Tryz.underlying3,
  a3:=Tryz.isAgg3,
  z3:=Tryz.sizeOf3,
  v3:=Tryz.zeroValue3,
  t4:=Tryz.underlying4,
  a4:=Tryz.isAgg4,
  z4:=Tryz.sizeOf4,
  v4:=Tryz.zeroValue4,
  t5:=Tryz.underlying5,
  a5:=Tryz.isAgg5,
  z5:=Tryz.sizeOf5,
  v5:=Tryz.zeroValue5,
  t9:=Tryz.underlying9,
  a9:=Tryz.isAgg9,
  z9:=Tryz.sizeOf9,
  v9:=Tryz.zeroValue9,
  t31:=Tryz.underlying25,
  a31:=Tryz.isAgg25,
  z31:=Tryz.sizeOf25,
  v31:=Tryz.zeroValue25,
  t46:=Tryz.underlying158,
  a46:=Tryz.isAgg158,
  z46:=Tryz.sizeOf158,
  v46:=Tryz.zeroValue158,
  t51:=Tryz.underlying170,
  a51:=Tryz.isAgg170,
  z51:=Tryz.sizeOf170,
  v51:=Tryz.zeroValue170,
  t53:=Tryz.underlying172,
  a53:=Tryz.isAgg172,
  z53:=Tryz.sizeOf172,
  v53:=Tryz.zeroValue172,
  t131:=Tryz.underlying167,
  a131:=Tryz.isAgg167,
  z131:=Tryz.sizeOf167,
  v131:=Tryz.zeroValue167,
  t182:=Tryz.underlying162,
  a182:=Tryz.isAgg162,
  z182:=Tryz.sizeOf162,
  v182:=Tryz.zeroValue162,
  t183:=Tryz.underlying163,
  a183:=Tryz.isAgg163,
  z183:=Tryz.sizeOf163,
  v183:=Tryz.zeroValue163,
  t218:=Tryz.underlying181,
  a218:=Tryz.isAgg181,
  z218:=Tryz.sizeOf181,
  v218:=Tryz.zeroValue181,
  t222:=Tryz.underlying185,
  a222:=Tryz.isAgg185,
  z222:=Tryz.sizeOf185,
  v222:=Tryz.zeroValue185,
  t228:=Tryz.underlying193,
  a228:=Tryz.isAgg193,
  z228:=Tryz.sizeOf193,
  v228:=Tryz.zeroValue193,
  t229:=Tryz.underlying194,
  a229:=Tryz.isAgg194,
  z229:=Tryz.sizeOf194,
  v229:=Tryz.zeroValue194 }
end Go.Proofs

/-
  NAMES AND SIGNATURES, BOTH SIDES. Own work.
-/
namespace Go.Fd
set_option maxRecDepth 20000
def Ztp(P:Program)(f:FuncId):Bool:=match P.funcs[f]? with | some fn=>fn.body.isSome && !(fn.name == "runtime.NumGoroutine") | none=>false
theorem Zgu{P:Program}{f:FuncId}(h:Ztp P f=true):UD P f:=by
 unfold Ztp at h
 split at h
 ·rename_i fn hf
  simp only[Bool.and_eq_true,Bool.not_eq_true'] at h
  exact⟨fn,hf,h.1,h.2⟩
 ·cases h
abbrev AZ:ByteArray:=⟨#[97,98,99,100,101,102,103,104,105,106,107,108,109,110,111,112,113,114,115,116,117,118,119,120,121,122]⟩
theorem ZnU(s:ByteArray)(hs:s.size<=9223372036854775807)(lvl:Nat)(S:Sto):Sem Proofs.Tryz.prog U3 lvl [iS s,iS AZ] S (iS ⟨(Lib.trimS s.data.toList AZ.data.toList).toArray⟩) S :=
 ZiH (xs:=[.string s,.string AZ]) (Zgu (by kernel_rfl)) rfl (fun w=>Go.Proofs.Any.strings_Trim_laid Proofs.Tryz.lays160 (by kernel_rfl) s AZ w hs (by decide) (Go.Proofs.ascii_of_all (by decide)))
def ZlZ(s:ByteArray):Prop:=(∀ b∈s.data.toList,97<=b.toNat/\b.toNat<=122)/\1<=s.size/\s.size<=4
theorem ZhG(s:ByteArray):s.size=s.data.toList.length:=by rw[Array.length_toList];rfl
theorem ZoC(b:UInt8):b∈AZ.data.toList↔97<=b.toNat/\b.toNat<=122:=by
 have:∀ n:Fin 256,(UInt8.ofNat n.val)∈AZ.data.toList↔97<=n.val/\n.val<=122:=by decide +kernel
 have h:UInt8.ofNat b.toNat∈AZ.data.toList↔97<=b.toNat/\b.toNat<=122:=this ⟨b.toNat,b.toNat_lt⟩
 rw[show UInt8.ofNat b.toNat=b from UInt8.ofNat_toNat] at h
 exact h
theorem Zl0{p:UInt8->Bool}:∀{l:List UInt8},l.dropWhile p=[]↔∀ b∈l,p b=true
 | []=>by simp
 | x::r=>by
  simp only[List.dropWhile_cons,List.mem_cons,forall_eq_or_imp]
  cases h:p x with
  | true=>simp [Zl0 (l:=r)]
  | false=>simp
theorem ZoD{p:UInt8->Bool}{b:UInt8}:∀{l:List UInt8},b∈l.takeWhile p->p b=true
 | [],h=>by simp at h
 | x::r,h=>by
  rw[List.takeWhile_cons] at h
  split at h
  ·rename_i hx
   rcases List.mem_cons.1 h with rfl | h
   ·exact hx
   ·exact ZoD h
  ·cases h
theorem ZnV{l cs:List UInt8}(h:∀ b∈l,b∈cs):l.dropWhile (cs.contains ·)=[]:=by
 rw[Zl0]
 intro b hb
 simpa using h b hb
theorem trimS_nil{l cs:List UInt8}:Lib.trimS l cs=[]↔∀ b∈l,b∈cs:=by
 unfold Lib.trimS Lib.trimLeftS Lib.trimRightS
 constructor
 ·intro h b hb
  rw[Zl0] at h
  have hrev:∀ x∈(l.reverse.dropWhile (cs.contains ·)),x∈cs:=fun x hx=>by
   have:=h x (by simpa using hx)
   simpa using this
  have hsplit:l.reverse=l.reverse.takeWhile (cs.contains ·)++l.reverse.dropWhile (cs.contains ·):=(List.takeWhile_append_dropWhile).symm
  have hb2:b∈l.reverse:=by simpa using hb
  rw[hsplit] at hb2
  rcases List.mem_append.1 hb2 with h1 | h1
  ·have:=ZoD h1
   simpa using this
  ·exact hrev b h1
 ·intro h
  rw[ZnV (l:=l.reverse) (fun b hb=>h b (by simpa using hb))]
  rfl
theorem Zfs(s:ByteArray)(hs:s.size<=9223372036854775807)(lvl:Nat)(S:Sto):Sem Proofs.Tryz.prog QJ lvl [iS s] S (iB (dc (ZlZ s))) S:=by
 refine Zc Zgl trivial ?_
 simp only[Zby,EVA,seval,Zd,men]
 refine ZL (α:=Unit) s.size (fun j _=>[(3,iI j)]) (fun _ _=>[]) (fun j _=>∀ b∈s.data.toList.take j,97<=b.toNat/\b.toNat<=122) () (by simp only[EVA,seval,Zd,men]) (by (simp only[EVA,seval,Zd,men]) <;> rfl) (fun b hb=>by simp at hb) ?_
 intro j _ hj hA
 simp only[EVA,seval,Zd,men]
 refine Zo (fun hlt=>?_) (fun hge=>?_)
 ·have hja:j<s.data.toList.length:=by rw[<-ZhG];omega
  have ga:s.data.toList[j]? = some (s.data.toList[j]):=List.getElem?_eq_getElem hja
  have hno:¬ (97<=(s.data.toList[j]).toNat/\(s.data.toList[j]).toNat<=122) -> ¬ ZlZ s:=fun h hn=>h (hn.1 _ (List.getElem_mem hja))
  by_cases h1:((s.data.toList[j]).toNat:Int)<97
  ·simp only[ga,h1,EVA,seval,Zd,men]
   rw[Zh (hno (by omega))]
  by_cases h2:(122:Int)<(s.data.toList[j]).toNat
  ·simp only[ga,h1,h2,EVA,seval,Zd,men]
   rw[Zh (hno (by omega))]
  ·simp only[ga,h1,h2,EVA,seval,Zd,men]
   refine⟨by rw[Ze];omega,Zf () (by omega) rfl ?_⟩
   intro b hb
   rw[List.take_succ_eq_append_getElem hja] at hb
   rcases List.mem_append.1 hb with h | h
   ·exact hA b h
   ·have:b=s.data.toList[j]:=by simpa using h
    subst this
    omega
 ·have:j=s.size:=by omega
  subst this
  rw[ZhG,List.take_length] at hA
  refine Zb (XV s.size 1 4) ?_
  simp only[EVA,seval,Zd,men]
  rw[Y1 (q:=1<=s.size/\s.size<=4) ⟨fun h=>h.2,fun h=>⟨hA,h⟩⟩]
  by_cases h:1<=s.size/\s.size<=4
  ·rw[ZK h,inB_iff.2 (by omega)]
  ·rw[Zh h,inB_not.2 (by omega)]
theorem Zft(s:ByteArray)(hs:s.size<=9223372036854775807)(lvl:Nat)(S:Sto):Sem Proofs.Tryz.prog QL lvl [iS s] S (iB (dc (ZlZ s))) S:=by
 refine Zc Zgn trivial ?_
 simp only[ZbB,EVA,seval,Zd,men]
 refine Zb (Qf s.size 1 4) ?_
 simp only[EVA,seval,Zd,men]
 cases hin:inB (s.size:Int) 1 4 with
 | false =>
  have:¬ ZlZ s:=fun h=>(inB_not.1 hin) (by have:=h.2;omega)
  rw[Zh this]
  simp only[EVA,seval,Zd,men]
 | true =>
  have hin':=inB_iff.1 hin
  simp only[EVA,seval,Zd,men]
  refine Zb (ZnU s hs) ?_
  simp only[EVA,seval,Zd,men]
  by_cases h:ZlZ s
  ·have:Lib.trimS s.data.toList AZ.data.toList=[]:=trimS_nil.2 (fun b hb=>(ZoC b).2 (h.1 b hb))
   rw[ZK h,this]
   rfl
  ·have:¬ Lib.trimS s.data.toList AZ.data.toList=[]:=fun e=>h ⟨fun b hb=>(ZoC b).1 (trimS_nil.1 e b hb),by omega,by omega⟩
   rw[Zh h]
   have h2:¬ (⟨(Lib.trimS s.data.toList AZ.data.toList).toArray⟩:ByteArray)=⟨#[]⟩:=fun e=>this (by
    have:=congrArg (fun b:ByteArray=>b.data.toList) e
    simpa using this)
   simp [h2]
def Zqi(c:TControl):Prop:=ZlZ c.name/\(0<=c.ports/\c.ports<=3)/\0<=c.kind_/\c.kind_<=2
def Zl1(sig:List TControl)(i:Nat):Prop:=∀ h:i<sig.length,Zqi sig[i]/\∀ k (hk:k<i),(sig[k]'(by omega)).name≠sig[i].name
def Zc3(sig:List TControl):Prop:=(∀ i,Zl1 sig i)/\1<=sig.length/\sig.length<=6
theorem Zcz(c d:TControl)(lvl:Nat)(S:Sto):Sem Proofs.Tryz.prog J4 lvl [.ag ((Zk d).map .tr),.ta (Zk c)] S (iB (decide (d.name=c.name))) S:=by
 refine Zc Zak trivial ?_
 simp only[XL,Zk,EVA,seval,Zd,men]
theorem ZhH:ZP Proofs.Tryz.prog Jm (ZlV 3 (some 3))=true:=by kernel_rfl
theorem ZhI:ZP Proofs.Tryz.prog Z9 (ZoB Jm)=true:=by kernel_rfl
theorem Zl2(sig:List TControl)(hl:sig.length<=9223372036854775807)(hb:∀ y∈sig,Zy 9223372036854775807 y)(lvl:Nat)(S:Sto):Sem Proofs.Tryz.prog WY lvl [.tr (.sl (sig.map Zk))] S (iB (dc (Zc3 sig))) S:=by
 refine Zc ZhD trivial ?_
 simp only[ZcO,List.length_map,EVA,seval,Zd,men]
 refine ZL (α:=Unit) sig.length (fun j _=>[(3,iI j)]) (fun _ _=>[]) (fun j _=>∀ i,i<j->Zl1 sig i) () (by simp only[EVA,seval,Zd,men]) (by (simp only[EVA,seval,Zd,men]) <;> rfl) (fun i hi=>by omega) ?_
 intro j _ hj hA
 simp only[List.length_map,EVA,seval,Zd,men]
 refine Zo (fun hlt=>?_) (fun hge=>?_)
 ·have hja:j<sig.length:=by omega
  have ga:=U7 (c:=Zk) hja
  have hbj:sig[j].name.size<=9223372036854775807:=hb _ (List.getElem_mem hja)
  have hno:¬ Zqi sig[j] -> ¬ Zc3 sig:=fun h hs=>h (hs.1 j hja).1
  simp only[ga,Zk,EVA,seval,Zd,men]
  refine Zb (Zfs sig[j].name hbj) ?_
  simp only[ga,Zk,EVA,seval,Zd,men]
  cases hn:dc (ZlZ sig[j].name) with
  | false =>
   simp only[EVA,seval,Zd,men]
   rw[Zh (hno fun h=>dc_not.1 hn h.1)]
  | true =>
   have hn':=dc_iff.1 hn
   simp only[ga,Zk,EVA,seval,Zd,men]
   refine Zb (XV sig[j].ports 0 3) ?_
   simp only[ga,Zk,EVA,seval,Zd,men]
   cases hp:inB sig[j].ports 0 3 with
   | false =>
    simp only[EVA,seval,Zd,men]
    rw[Zh (hno fun h=>inB_not.1 hp h.2.1)]
   | true =>
    have hp':=inB_iff.1 hp
    simp only[ga,Zk,EVA,seval,Zd,men]
    refine Zb (XV sig[j].kind_ 0 2) ?_
    simp only[ga,Zk,EVA,seval,Zd,men]
    cases hk:inB sig[j].kind_ 0 2 with
    | false =>
     simp only[EVA,seval,Zd,men]
     rw[Zh (hno fun h=>inB_not.1 hk h.2.2)]
    | true =>
     have hk':=inB_iff.1 hk
     simp only[EVA,seval,Zd,men]
     refine ZL (α:=Unit) j (fun k _=>[(4,iI k)]) (fun _ _=>[]) (fun k _=>∀ i (hi:i<k),k<=j->∀ hi2:i<sig.length,(sig[i]'hi2).name≠sig[j].name) () (by simp only[EVA,seval,Zd,men]) (by (simp only[EVA,seval,Zd,men]) <;> rfl) (fun i hi=>by omega) ?_
     intro k _ hkj hB
     simp only[List.length_map,EVA,seval,Zd,men]
     refine Zo (fun hlt2=>?_) (fun hge2=>?_)
     ·have hka:k<sig.length:=by omega
      have gb:=U7 (c:=Zk) hka
      simp only[ga,gb,Zk,EVA,seval,Zd,men]
      refine Zo (fun he=>?_) (fun hne=>?_)
      ·rw[Zh (fun hs:Zc3 sig=>(hs.1 j hja).2 k (by omega) he)]
      ·refine⟨by rw[Ze];omega,Zf () (by omega) rfl (fun i hi _ hi2=>?_)⟩
       by_cases e:i=k
       ·subst e;exact hne
       ·exact hB i (by omega) (by omega) hi2
     ·have:k=j:=by omega
      subst this
      refine⟨by rw[Ze];omega,Zf () hja rfl (fun i hi=>?_)⟩
      by_cases e:i=k
      ·subst e
       exact fun h=>⟨⟨hn',hp',hk'⟩,fun q hq=>hB q hq (Nat.le_refl _) (by omega)⟩
      ·exact hA i (by omega)
 ·have:j=sig.length:=by omega
  subst this
  refine Zb (XV sig.length 1 6) ?_
  simp only[EVA,seval,Zd,men]
  have hall:∀ i,Zl1 sig i:=fun i h=>hA i h h
  rw[Y1 (q:=1<=sig.length/\sig.length<=6) ⟨fun h=>h.2,fun h=>⟨hall,h⟩⟩]
  by_cases h:1<=sig.length/\sig.length<=6
  ·rw[ZK h,inB_iff.2 (by omega)]
  ·rw[Zh h,inB_not.2 (by omega)]
theorem Zam(sig:List TControl)(hl:sig.length<=9223372036854775807)(hb:∀ y∈sig,Zy 9223372036854775807 y)(lvl:Nat)(S:Sto):Sem Proofs.Tryz.prog VB lvl [.tr (.sl (sig.map Zk))] S (iB (dc (Zc3 sig))) S:=by
 refine Zc Zbr trivial ?_
 simp only[WL,List.length_map,EVA,seval,Zd,men]
 refine Zb (Qf sig.length 1 6) ?_
 simp only[List.length_map,EVA,seval,Zd,men]
 refine Zo (fun h=>?_) (fun h=>?_)
 ·rw[Zh (fun hs:Zc3 sig=>(inB_not.1 h) (by have:=hs.2;omega))]
 have hln:=inB_iff.1 (by simpa using h)
 refine ZL (α:=Unit) sig.length (fun j _=>[(11,iI j)]) (fun _ _=>[]) (fun j _=>∀ i,i<j->Zl1 sig i) () (by simp only[EVA,seval,Zd,men]) (by (simp only[EVA,seval,Zd,men]) <;> rfl) (fun i hi=>by omega) ?_
 intro j _ hj hA
 simp only[List.length_map,EVA,seval,Zd,men]
 refine Zo (fun hlt=>?_) (fun hge=>?_)
 ·have hja:j<sig.length:=by omega
  have ga:=U7 (c:=Zk) hja
  have hbj:sig[j].name.size<=9223372036854775807:=hb _ (List.getElem_mem hja)
  have hno:¬ Zqi sig[j] -> ¬ Zc3 sig:=fun h hs=>h (hs.1 j hja).1
  simp only[ga,Zk,EVA,seval,Zd,men]
  refine Zb (Zft sig[j].name hbj) ?_
  simp only[ga,Zk,EVA,seval,Zd,men]
  cases hn:dc (ZlZ sig[j].name) with
  | false =>
   simp only[EVA,seval,Zd,men]
   rw[Zh (hno fun h=>dc_not.1 hn h.1)]
  | true =>
   have hn':=dc_iff.1 hn
   simp only[ga,Zk,EVA,seval,Zd,men]
   refine Zb (Qf sig[j].ports 0 3) ?_
   simp only[ga,Zk,EVA,seval,Zd,men]
   cases hp:inB sig[j].ports 0 3 with
   | false =>
    simp only[EVA,seval,Zd,men]
    rw[Zh (hno fun h=>inB_not.1 hp h.2.1)]
   | true =>
    have hp':=inB_iff.1 hp
    simp only[ga,Zk,EVA,seval,Zd,men]
    refine Zb (Qf sig[j].kind_ 0 2) ?_
    simp only[ga,Zk,EVA,seval,Zd,men]
    cases hk:inB sig[j].kind_ 0 2 with
    | false =>
     simp only[EVA,seval,Zd,men]
     rw[Zh (hno fun h=>inB_not.1 hk h.2.2)]
    | true =>
     have hk':=inB_iff.1 hk
     have hjl:j<=sig.length:=by omega
     simp only[List.length_map,hjl,EVA,seval,Zd,men]
     have hc:=ZjS (P:=Proofs.Tryz.prog) ZhI ZhH ZcN (f:=fun d:TControl=>decide (d.name=sig[j].name)) (fe:=J4) (cs:=[Zk sig[j]]) (sig.take j) (by rw[List.length_take];omega) (fun d _ lvl S=>Zcz sig[j] d lvl S)
     rw[<-ZlW] at hc
     refine⟨fun h=>h.elim,Nat.zero_le _,Zb hc ?_⟩
     simp only[EVA,seval,Zd,men]
     cases ha:(sig.take j).any (fun d:TControl=>decide (d.name=sig[j].name)) with
     | true =>
      simp only[EVA,seval,Zd,men]
      obtain⟨d,hd,he⟩:=List.any_eq_true.1 ha
      obtain⟨q,hq,rfl⟩:=List.getElem_of_mem hd
      rw[List.length_take] at hq
      rw[Zh (fun hs:Zc3 sig=>(hs.1 j hja).2 q (by omega) (by simpa using he))]
     | false =>
      simp only[EVA,seval,Zd,men]
      refine⟨by rw[Ze];omega,Zf () hja rfl (fun i hi=>?_)⟩
      by_cases e:i=j
      ·subst e
       refine fun h=>⟨⟨hn',hp',hk'⟩,fun q hq=>?_⟩
       have:=(List.any_eq_false.1 ha) sig[q] (by
        rw[List.mem_take_iff_getElem]
        exact⟨q,by omega,rfl⟩)
       simpa using this
      ·exact hA i (by omega)
 ·have:j=sig.length:=by omega
  subst this
  have hall:∀ i,Zl1 sig i:=fun i h=>hA i h h
  rw[ZK (p:=Zc3 sig) ⟨hall,by omega,by omega⟩]
theorem Xo(a b:List Int):rI (a++b)=rI a++rI b:=List.map_append
theorem ZoE:ZP Proofs.Tryz.prog YZ (ZlV 1 none)=true:=by kernel_rfl
theorem ZoF:ZP Proofs.Tryz.prog Jz (ZoB YZ)=true:=by kernel_rfl
end Go.Fd

/-
  WHAT A SIZE THAT IS LEFT SAYS OF BOUNDS (printed by lawgen.py). Own work.
-/
namespace Go.Fd
def Zm(s:Int->Int)(P:Prop):Prop:=∀ l:Int,0<=l->l<=1048576->s l<=l/\(0<=s l->P)
theorem ZnW:Zm (fun l=>l) True:=fun _ _ _=>⟨Int.le_refl _,fun _=>trivial⟩
theorem ZiM{s g:Int->Int}{P Q:Prop}(hs:Zm s P)(hg:Zm g Q):Zm (fun l=>Zbm (s l) g) (P/\Q):=fun l h0 h1=>by
 have a:=hs l h0 h1
 by_cases h:s l<0
 ·simp only[Zbm,if_pos h]
  exact⟨by omega,fun h=>by omega⟩
 ·simp only[Zbm,if_neg h]
  have b:=hg (s l) (by omega) (by omega)
  exact⟨by omega,fun h2=>⟨a.2 (by omega),b.2 h2⟩⟩
theorem ZyJ(n:Nat):Zm (fun l=>szN n l) (n<=4294967296):=fun l h0 h1=>by
 simp only[szN]
 split
 ·exact⟨by omega,fun h=>by omega⟩
 ·exact⟨by omega,fun h=>by omega⟩
theorem Zl3(n:Nat):Zm (fun l=>l-n) (n<=4294967296):=fun l h0 h1=>⟨by simp only;omega,fun h=>by simp only at h;omega⟩
theorem ZyK{α:Type}{f:α->Int->Int}{P:α->Prop}(hf:∀ x,Zm (f x) (P x)):∀(a:List α),Zm (fun l=>szF f a l) (∀ y∈a,P y)
 | []=>fun l _ _=>⟨Int.le_refl l,fun _ y hy=>by cases hy⟩
 | x::r=>fun l h0 h1=>by
  simp only[szF]
  have a:=hf x l h0 h1
  split
  ·exact⟨by omega,fun h=>by omega⟩
  ·have b:=ZyK hf r (f x l) (by omega) (by omega)
   refine⟨by simp only at b;omega,fun h y hy=>?_⟩
   cases hy with
   | head=>exact a.2 (by omega)
   | tail _ hy=>exact b.2 h y hy
theorem Zue{α:Type}{f:α->Int->Int}{P:α->Prop}(hf:∀ x,Zm (f x) (P x))(a:List α):Zm (fun l=>szL f a l) (a.length<=4294967296/\∀ y∈a,P y):=fun l h0 h1=>by
 simp only[szL]
 split
 ·exact⟨by omega,fun h=>by omega⟩
 ·have b:=ZyK hf a (l-a.length) (by omega) (by omega)
  simp only at b
  exact⟨by omega,fun h=>⟨by omega,b.2 h⟩⟩
theorem ZjT{s:Int->Int}{P Q:Prop}(h:Zm s P)(hq:P->Q):Zm s Q:=fun l h0 h1=>⟨(h l h0 h1).1,fun h2=>hq ((h l h0 h1).2 h2)⟩
theorem Ztq(x:TNode):Zm (fun l=>U1 x l) (Xi 4294967296 x):=by
 unfold U1
 exact ZjT (ZiM (ZyJ _) ZnW) (fun h=>by unfold Xi;simp only[and_assoc,and_true,true_and,implies_true,forall_const] at h ⊢;try exact h)
theorem Ztr(x:TWire):Zm (fun l=>U2 x l) (Qe 4294967296 x):=by
 unfold U2
 exact ZjT (ZiM (Zl3 _) ZnW) (fun h=>by unfold Qe;simp only[and_assoc,and_true,true_and,implies_true,forall_const] at h ⊢;try exact h)
theorem Zei(x:TBigraph):Zm (fun l=>JS x l) (Zl 4294967296 x):=by
 unfold JS
 exact ZjT (ZiM (Zue (fun y=>(Ztq _)) _) (ZiM (ZyJ _) (ZiM (Zue (fun y=>(Zl3 _)) _) (ZiM (Zue (fun y=>(Ztr _)) _) ZnW)))) (fun h=>by unfold Zl;simp only[and_assoc,and_true,true_and,implies_true,forall_const] at h ⊢;try exact h)
theorem Zl4(x:TControl):Zm (fun l=>Jg x l) (Zy 4294967296 x):=by
 unfold Jg
 exact ZjT (ZiM (Zl3 _) ZnW) (fun h=>by unfold Zy;simp only[and_assoc,and_true,true_and,implies_true,forall_const] at h ⊢;try exact h)
theorem DO{a:Nat}(h:a<=4294967296):a<=9223372036854775807:=by omega
theorem ZnX{x:TNode}(h:Xi 4294967296 x):Xi 9223372036854775807 x:=by
 exact(DO h)
theorem ZnY{x:TWire}(h:Qe 4294967296 x):Qe 9223372036854775807 x:=by
 exact(DO h)
theorem Q9{x:TBigraph}(h:Zl 4294967296 x):Zl 9223372036854775807 x:=by
 obtain⟨b0,b1,b2,b3,b4,b5,b6⟩:=h
 exact⟨(DO b0),(fun y0 hy0=>(ZnX (b1 y0 hy0))),(DO b2),(DO b3),(fun y0 hy0=>(DO (b4 y0 hy0))),(DO b5),(fun y0 hy0=>(ZnY (b6 y0 hy0)))⟩
theorem Zej{x:TControl}(h:Zy 4294967296 x):Zy 9223372036854775807 x:=by
 exact(DO h)
end Go.Fd

/-
  WHAT A VALID BIGRAPH IS, BOTH SIDES. Own work.
-/
namespace Go.Fd
set_option maxRecDepth 20000
theorem ZiN{P:Nat->Prop}{j:Nat}(h:∀ k,k<j->P k)(hj:P j):∀ k,k<j+1->P k:=fun k hk=>by
 by_cases e:k=j
 ·subst e;exact hj
 ·exact h k (by omega)
theorem Zl5{n a b:Int}:inB n a b=dc (a<=n/\n<=b):=by
 unfold inB
 rw[YN,Bool.decide_and]
theorem Zl6:∀(x y:List UInt8),(!Op.bytesLess x y)=(Op.bytesLess y x || decide (x=y))
 | [],[]=>by simp [Op.bytesLess]
 | [],_::_=>by simp [Op.bytesLess]
 | _::_,[]=>by simp [Op.bytesLess]
 | a::x,b::y=>by
  have ih:=Zl6 x y
  simp only[Op.bytesLess]
  by_cases h:a=b
  ·subst h
   have e:¬ a<a:=UInt8.lt_irrefl a
   simp [e,ih]
  ·by_cases h1:a<b
   ·have h2:¬ b<a:=fun h2=>UInt8.lt_irrefl a (UInt8.lt_trans h1 h2)
    have h3:¬ b=a:=fun e=>h e.symm
    simp [h,h1,h2,h3]
   ·have h2:b<a:=by
     rcases UInt8.lt_or_lt_of_ne h with h | h
     ·exact absurd h h1
     ·exact h
    simp [h,h1,h2]
def ltS(s t:ByteArray):Prop:=Op.bytesLess s.data.toList t.data.toList=true
theorem Zqj{s t:ByteArray}:(!Op.bytesLess s.data.toList t.data.toList) = !dc (ltS s t):=by
 unfold ltS
 rw[YN,Bool.decide_eq_true]
theorem Zqk{s t:ByteArray}:(Op.bytesLess t.data.toList s.data.toList || decide (t=s)) = !dc (ltS s t):=by
 rw[<-Zqj,Zl6]
 congr 1
 have:t=s↔s.data.toList=t.data.toList:=⟨fun h=>by rw[h],fun h=>by
  cases s with | mk s=>cases t with | mk t=>exact congrArg ByteArray.mk (Array.toList_inj.1 h.symm)⟩
 simp only[this]
def Zts(l:List ByteArray)(i:Nat):Prop:=∀ h:i<l.length,ZlZ l[i]/\∀ _:0<i,ltS (l[i-1]'(by omega)) l[i]
def V9(l:List ByteArray):Prop:=(∀ i,Zts l i)/\l.length<=16
theorem Zek(l:List ByteArray)(hl:l.length<=4294967296)(hb:∀ y∈l,y.size<=4294967296)(lvl:Nat)(S:Sto):Sem Proofs.Tryz.prog VZ lvl [.tr (.sl (rS l))] S (iB (dc (V9 l))) S:=by
 refine Zc ZeQ trivial ?_
 simp only[Zau,List.length_map,EVA,seval,Zd,men]
 refine ZL (α:=Unit) l.length (fun j _=>[(3,iI j)]) (fun j _=>[]) (fun j _=>∀ k,k<j->Zts l k) () (by simp only[EVA,seval,Zd,men]) (by (simp only[EVA,seval,Zd,men]) <;> rfl) (fun k hk=>absurd hk (Nat.not_lt_zero k)) ?_
 intro j _ hj hA
 simp only[List.length_map,EVA,seval,Zd,men]
 refine Zo (fun hlt=>?_) (fun hge=>?_)
 ·have hja:j<l.length:=by omega
  have ga:=U7 (c:=fun s=>[ts s]) hja
  have hno:¬ Zts l j->dc (V9 l)=false:=fun h=>Zh fun g=>h (g.1 j)
  simp only[ga,List.length_map,EVA,seval,Zd,men]
  refine Zb (Zfs l[j] (by have:=hb _ (List.getElem_mem hja);omega)) ?_
  cases h1:dc (ZlZ l[j])
  ·simp only[EVA,seval,Zd,men]
   rw[hno fun h=>dc_not.1 h1 (h hja).1]
  by_cases q:0<j
  ·have e1:((j:Int)-1).toNat=j-1:=by omega
   have e2:(0:Int)<=j-1:=by omega
   have q5:(0:Int)<j:=by omega
   have gb:=U7 (c:=fun s=>[ts s]) (l:=l) (j:=j-1) (by omega)
   simp only[q5,e1,e2,ga,gb,List.length_map,EVA,seval,Zd,men]
   cases hc:Op.bytesLess (l[j-1]'(by omega)).data.toList l[j].data.toList
   ·simp only[EVA,seval,Zd,men]
    exact⟨by rw[Ze];omega,by rw[hno fun h=>by have:=(h hja).2 q;unfold ltS at this;rw[this] at hc;cases hc]⟩
   ·simp only[EVA,seval,Zd,men]
    exact⟨by rw[Ze];omega,by rw[Ze];omega,Zf () hja rfl (ZiN hA fun _=>⟨dc_iff.1 h1,fun _=>hc⟩)⟩
  ·have q5:¬ (0:Int)<j:=by omega
   simp only[q5,ga,List.length_map,EVA,seval,Zd,men]
   exact⟨by rw[Ze];omega,Zf () hja rfl (ZiN hA fun _=>⟨dc_iff.1 h1,fun h=>absurd h q⟩)⟩
 ·have hj1:j=l.length:=by omega
  subst hj1
  rw[Y1 (p:=V9 l) (q:=(l.length:Int)<=16) ⟨fun g=>by have:=g.2;omega,fun g=>⟨fun i h=>hA i h h,by omega⟩⟩,YN]
theorem ZcR(l:List ByteArray)(hl:l.length<=4294967296)(hb:∀ y∈l,y.size<=4294967296)(lvl:Nat)(S:Sto):Sem Proofs.Tryz.prog Vq lvl [.tr (.sl (rS l))] S (iB (dc (V9 l))) S:=by
 refine Zc Zd6 trivial ?_
 simp only[DC,List.length_map,EVA,seval,Zd,men]
 refine ZL (α:=Unit) l.length (fun j _=>[(7,iI j)]) (fun j _=>[]) (fun j _=>∀ k,k<j->Zts l k) () (by simp only[EVA,seval,Zd,men]) (by (simp only[EVA,seval,Zd,men]) <;> rfl) (fun k hk=>absurd hk (Nat.not_lt_zero k)) ?_
 intro j _ hj hA
 simp only[List.length_map,EVA,seval,Zd,men]
 refine Zo (fun hlt=>?_) (fun hge=>?_)
 ·have hja:j<l.length:=by omega
  have ga:=U7 (c:=fun s=>[ts s]) hja
  have hno:¬ Zts l j->dc (V9 l)=false:=fun h=>Zh fun g=>h (g.1 j)
  simp only[ga,List.length_map,EVA,seval,Zd,men]
  refine Zb (Zft l[j] (by have:=hb _ (List.getElem_mem hja);omega)) ?_
  cases h1:dc (ZlZ l[j])
  ·simp only[EVA,seval,Zd,men]
   rw[hno fun h=>dc_not.1 h1 (h hja).1]
  by_cases q:0<j
  ·have e1:((j:Int)-1).toNat=j-1:=by omega
   have e2:(0:Int)<=j-1:=by omega
   have q5:(0:Int)<j:=by omega
   have gb:=U7 (c:=fun s=>[ts s]) (l:=l) (j:=j-1) (by omega)
   simp only[q5,e1,e2,ga,gb,List.length_map,EVA,seval,Zd,men]
   rw[Zqk]
   cases hc:dc (ltS (l[j-1]'(by omega)) l[j])
   ·simp only[EVA,seval,Zd,men]
    exact⟨by rw[Ze];omega,by rw[hno fun h=>dc_not.1 hc ((h hja).2 q)]⟩
   ·simp only[EVA,seval,Zd,men]
    exact⟨by rw[Ze];omega,by rw[Ze];omega,Zf () hja rfl (ZiN hA fun _=>⟨dc_iff.1 h1,fun _=>dc_iff.1 hc⟩)⟩
  ·have q5:¬ (0:Int)<j:=by omega
   simp only[q5,ga,List.length_map,EVA,seval,Zd,men]
   exact⟨by rw[Ze];omega,Zf () hja rfl (ZiN hA fun _=>⟨dc_iff.1 h1,fun h=>absurd h q⟩)⟩
 ·have hj1:j=l.length:=by omega
  subst hj1
  rw[Y1 (p:=V9 l) (q:=(l.length:Int)<=16) ⟨fun g=>by have:=g.2;omega,fun g=>⟨fun i h=>hA i h h,by omega⟩⟩,YN]
def Jk(b:TBigraph)(l:Int):Prop:=0<=l/\l<=b.edges+b.outer.length-1
theorem Zfu(b:TBigraph)(l:Int)(he:0<=b.edges/\b.edges<=8)(ho:b.outer.length<=4294967296)(lvl:Nat)(S:Sto):Sem Proofs.Tryz.prog QH lvl [.ag ((Za b).map .tr),iI l] S (iB (dc (Jk b l))) S:=by
 refine Zc Zgh trivial ?_
 simp only[Zbq,Za,List.length_map,EVA,seval,Zd,men]
 refine⟨by rw[Ze];omega,by rw[Ze];omega,?_⟩
 refine Zb (XV l 0 (b.edges+b.outer.length-1)) ?_
 simp only[EVA,seval,Zd,men]
 rw[Zl5]
 rfl
theorem Zfv(b:TBigraph)(l:Int)(he:0<=b.edges/\b.edges<=8)(ho:b.outer.length<=4294967296)(lvl:Nat)(S:Sto):Sem Proofs.Tryz.prog JW lvl [.ag ((Za b).map .tr),iI l] S (iB (dc (Jk b l))) S:=by
 refine Zc DD trivial ?_
 simp only[Xl,Za,List.length_map,EVA,seval,Zd,men]
 refine⟨by rw[Ze];omega,by rw[Ze];omega,?_⟩
 refine Zb (Qf l 0 (b.edges+b.outer.length-1)) ?_
 simp only[EVA,seval,Zd,men]
 rw[Zl5]
 rfl
def ZhJ(sig:List TControl)(c:Int):Int:=((sig[c.toNat]?).map TControl.kind_).getD 0
def ZaS(sig:List TControl)(c:Int):Int:=((sig[c.toNat]?).map TControl.ports).getD 0
def Zl7(b:TBigraph)(p:Int):Int:=((b.nodes[p.toNat]?).map TNode.control).getD 0
def DP(sig:List TControl)(b:TBigraph)(p below:Int):Prop:=(p<0/\-b.roots<=p)\/(0<=p/\p<below/\¬ ZhJ sig (Zl7 b p)=2)
def ZhK(sig:List TControl)(b:TBigraph)(n:Nat):Prop:=∀ i,i<n->∀ h:i<b.nodes.length,0<=b.nodes[i].control/\b.nodes[i].control<=(sig.length:Int)-1
theorem Zel(sig:List TControl)(b:TBigraph)(p:Int)(k:Nat)(hp:Xt .i64 p)(hr:0<=b.roots/\b.roots<=4)(hk:k<=b.nodes.length)(hc:ZhK sig b k)(lvl:Nat)(S:Sto):Sem Proofs.Tryz.prog V0 lvl [.tr (.sl (sig.map Zk)),.ag ((Za b).map .tr),iI p,iI k] S (iB (dc (DP sig b p k))) S:=by
 rw[Ze] at hp
 refine Zc ZeS trivial ?_
 simp only[Zaw,Za,List.length_map,EVA,seval,Zd,men]
 refine Zo (fun hneg=>?_) (fun hpos=>?_)
 ·refine⟨by rw[Ze];omega,by rw[Ze];omega,?_⟩
  refine Zb (XV (-1-p) 0 (b.roots-1)) ?_
  simp only[EVA,seval,Zd,men]
  have hiff:(0 <= -1-p/\-1-p<=b.roots-1)↔DP sig b p k:=⟨fun h=>.inl (by omega),fun h=>by rcases h with h | h <;> omega⟩
  rw[Zl5,Y1 hiff]
 ·refine Zo (fun hb=>?_) (fun hb=>?_)
  ·obtain⟨q,rfl⟩:∃ q:Nat,p=q:=⟨p.toNat,by omega⟩
   have hq:q<b.nodes.length:=by omega
   have ga:=U7 (c:=ZF) hq
   obtain⟨m1,m2⟩:=hc q (by omega) hq
   obtain⟨m,hm⟩:∃ m:Nat,b.nodes[q].control=m:=⟨b.nodes[q].control.toNat,by omega⟩
   have hms:m<sig.length:=by omega
   have gs:=U7 (c:=Zk) hms
   simp only[hb,ga,gs,ZF,Zk,hm,Int.toNat_natCast,Int.natCast_nonneg,List.length_map,EVA,seval,Zd,men]
   have e:ZhJ sig (Zl7 b q)=sig[m].kind_:=by simp [ZhJ,Zl7,hq,hm,hms]
   have hiff:DP sig b q k ↔ ¬ sig[m].kind_=2:=by
    constructor
    ·intro h
     rcases h with h | h
     ·omega
     ·rw[<-e];exact h.2.2
    ·intro h
     exact .inr ⟨by omega,hb,by rw[e];exact h⟩
   rw[Y1 hiff,YN]
  ·rw[Zh fun h:DP sig b p k=>by rcases h with h | h <;> omega]
theorem ZcS(sig:List TControl)(b:TBigraph)(p:Int)(k:Nat)(hr:0<=b.roots/\b.roots<=4)(hk:k<=b.nodes.length)(hc:ZhK sig b k)(lvl:Nat)(S:Sto):Sem Proofs.Tryz.prog JD lvl [.ag ((Za b).map .tr),.tr (.sl (sig.map Zk)),iI p,iI k] S (iB (dc (DP sig b p k))) S:=by
 refine Zc UN trivial ?_
 simp only[QO,Za,List.length_map,EVA,seval,Zd,men]
 refine Zo (fun hneg=>?_) (fun hpos=>?_)
 ·refine⟨by rw[Ze];omega,?_⟩
  have hiff:DP sig b p k ↔ -b.roots<=p:=⟨fun h=>by rcases h with h | h <;> omega,fun h=>.inl (by omega)⟩
  rw[Y1 hiff,YN]
 ·refine Zo (fun hb=>?_) (fun hb=>?_)
  ·obtain⟨q,rfl⟩:∃ q:Nat,p=q:=⟨p.toNat,by omega⟩
   have hq:q<b.nodes.length:=by omega
   have ga:=U7 (c:=ZF) hq
   obtain⟨m1,m2⟩:=hc q (by omega) hq
   obtain⟨m,hm⟩:∃ m:Nat,b.nodes[q].control=m:=⟨b.nodes[q].control.toNat,by omega⟩
   have hms:m<sig.length:=by omega
   have gs:=U7 (c:=Zk) hms
   simp only[hb,ga,gs,ZF,Zk,hm,Int.toNat_natCast,Int.natCast_nonneg,List.length_map,EVA,seval,Zd,men]
   have e:ZhJ sig (Zl7 b q)=sig[m].kind_:=by simp [ZhJ,Zl7,hq,hm,hms]
   have hiff:DP sig b q k ↔ ¬ sig[m].kind_=2:=by
    constructor
    ·intro h
     rcases h with h | h
     ·omega
     ·rw[<-e];exact h.2.2
    ·intro h
     exact .inr ⟨by omega,hb,by rw[e];exact h⟩
   rw[Y1 hiff,YN]
  ·rw[Zh fun h:DP sig b p k=>by rcases h with h | h <;> omega]
structure nodeOK (sig:List TControl) (b:TBigraph) (x:TNode) (i:Nat):Prop where
 ctl:0<=x.control/\x.control<=(sig.length:Int)-1
 par:DP sig b x.parent i
 ports:(x.links.length:Int)=ZaS sig x.control
 links:∀ l∈x.links,Jk b l
theorem Zky(sig:List TControl)(b:TBigraph)(i:Nat)(hi:i<b.nodes.length)(hn:sig.length<=4294967296)(hl:b.nodes[i].links.length<=4294967296)(hp:Xt .i64 b.nodes[i].parent)(hr:0<=b.roots/\b.roots<=4)(he:0<=b.edges/\b.edges<=8)(ho:b.outer.length<=4294967296)(hc:ZhK sig b i)(lvl:Nat)(S:Sto):Sem Proofs.Tryz.prog Wg lvl [.tr (.sl (sig.map Zk)),.ag ((Za b).map .tr),iI i] S (iB (dc (nodeOK sig b b.nodes[i] i))) S:=by
 refine Zc Zgg trivial ?_
 have ga:=U7 (c:=ZF) hi
 simp only[Zbp,Za,List.length_map,ga,ZF,EVA,seval,Zd,men]
 refine⟨by rw[Ze];omega,?_⟩
 refine Zb (XV b.nodes[i].control 0 ((sig.length:Int)-1)) ?_
 cases h1:inB b.nodes[i].control 0 ((sig.length:Int)-1)
 ·simp only[EVA,seval,Zd,men]
  rw[Zh fun h:nodeOK sig b b.nodes[i] i=>inB_not.1 h1 h.ctl]
 have r1:=inB_iff.1 h1
 simp only[Za,List.length_map,ZF,EVA,seval,Zd,men]
 refine Zb (Zel sig b b.nodes[i].parent i hp hr (by omega) hc) ?_
 cases h2:dc (DP sig b b.nodes[i].parent i)
 ·simp only[EVA,seval,Zd,men]
  rw[Zh fun h:nodeOK sig b b.nodes[i] i=>dc_not.1 h2 h.par]
 obtain⟨m,hm⟩:∃ m:Nat,b.nodes[i].control=m:=⟨b.nodes[i].control.toNat,by omega⟩
 have hms:m<sig.length:=by omega
 have gs:=U7 (c:=Zk) hms
 have e:ZaS sig b.nodes[i].control=sig[m].ports:=by simp [ZaS,hm,hms]
 simp only[hm,gs,Zk,Za,List.length_map,ZF,EVA,seval,Zd,men]
 refine Zo (fun hne=>?_) (fun heq=>?_)
 ·rw[Zh fun h:nodeOK sig b b.nodes[i] i=>by have:=h.ports;rw[e] at this;exact hne this]
 refine ZL (α:=Unit) b.nodes[i].links.length (fun j _=>[(8,iI j)]) (fun j _=>[]) (fun j _=>∀ k,k<j->Jk b (g0 b.nodes[i].links k)) () (by simp only[EVA,seval,Zd,men]) (by (simp only[EVA,seval,Zd,men]) <;> rfl) (fun k hk=>absurd hk (Nat.not_lt_zero k)) ?_
 intro j _ hj hA
 simp only[List.length_map,EVA,seval,Zd,men]
 refine Zo (fun hlt=>?_) (fun hge=>?_)
 ·have hja:j<b.nodes[i].links.length:=by omega
  have gl:=XN hja
  simp only[gl,List.length_map,EVA,seval,Zd,men]
  refine Zb (Zfu b (g0 b.nodes[i].links j) he ho) ?_
  cases hc:dc (Jk b (g0 b.nodes[i].links j))
  ·simp only[EVA,seval,Zd,men]
   rw[Zh fun h:nodeOK sig b b.nodes[i] i=>dc_not.1 hc (h.links _ (by simp [hja]))]
  ·simp only[EVA,seval,Zd,men]
   exact⟨by rw[Ze];omega,Zf () hja rfl (ZiN hA (dc_iff.1 hc))⟩
 ·have hj1:j=b.nodes[i].links.length:=by omega
  subst hj1
  have:nodeOK sig b b.nodes[i] i:=⟨r1,dc_iff.1 h2,by rw[e];omega,fun l hl=>by
   obtain⟨k,hk,rfl⟩:=List.getElem_of_mem hl
   have:=hA k hk
   simpa [hk] using this⟩
  rw[ZK this]
def inn(b:TBigraph):List ByteArray:=b.inner.map TWire.name
theorem Zem(a b:List ByteArray):rS (a++b)=rS a++rS b:=List.map_append
theorem Wv(b:TBigraph)(hn:b.inner.length<=4294967296)(lvl:Nat)(S:Sto):Sem Proofs.Tryz.prog JO lvl [.ag ((Za b).map .tr)] S (.ow 1 (rS (inn b)) true) S:=by
 refine Zc ZeR trivial ?_
 simp only[Zav,List.length_map,Za,EVA,seval,Zd,men]
 refine ZL (α:=Unit) b.inner.length (fun j _=>[(3,.hd (lvl,160) [] 0 j none j),(4,iI j)]) (fun j _=>[(160,.ar 1 (rS ((inn b).take j)) true j 0)]) (fun _ _=>True) () (by simp only[EVA,seval,Zd,men]) (by (simp only[EVA,seval,Zd,men]) <;> rfl) trivial ?_
 intro j _ hj _
 have hil:(inn b).length=b.inner.length:=by simp [inn]
 simp only[List.length_map,EVA,seval,Zd,men]
 refine Zo (fun hlt=>?_) (fun hge=>?_)
 ·have hja:j<b.inner.length:=by omega
  have ga:=U7 (c:=ZC) hja
  have hlN:(rS ((inn b).take j)).length=j:=by rw[List.length_map,List.length_take];omega
  simp only[ga,ZC,hlN,List.length_map,EVA,seval,Zd,men]
  have hstep:rS ((inn b).take j)++[[ts b.inner[j].name]]=rS ((inn b).take (j+1)):=by
   rw[List.take_succ_eq_append_getElem (by omega),Zem]
   simp [inn]
  refine⟨by omega,by rw[Ze];omega,Zf () hja ?_ trivial⟩
  rw[<-hstep]
  rfl
 ·have:j=b.inner.length:=by omega
  subst this
  rw[List.take_of_length_le (by omega)]
  exact⟨hil.symm,rfl⟩
end Go.Fd

/-
  A VALID BIGRAPH: THE WHOLE, BOTH SIDES. Own work.
-/
namespace Go.Fd
set_option maxRecDepth 20000
theorem YQ(b:TBigraph)(hn:b.inner.length<=4294967296)(lvl:Nat)(S:Sto):Sem Proofs.Tryz.prog ZB lvl [.ag ((Za b).map .tr)] S (.ow 1 (rS (inn b)) true) S:=by
 refine Zc WZ trivial ?_
 simp only[VS,List.length_map,Za,EVA,seval,Zd,men]
 refine ZL (α:=Unit) b.inner.length (fun j _=>[(3,.hd (lvl,192) [] 0 j none j),(10,iI j)]) (fun j _=>[(192,.ar 1 (rS ((inn b).take j)) true j 0)]) (fun _ _=>True) () (by simp only[EVA,seval,Zd,men]) (by (simp only[EVA,seval,Zd,men]) <;> rfl) trivial ?_
 intro j _ hj _
 have hil:(inn b).length=b.inner.length:=by simp [inn]
 simp only[List.length_map,EVA,seval,Zd,men]
 refine Zo (fun hlt=>?_) (fun hge=>?_)
 ·have hja:j<b.inner.length:=by omega
  have ga:=U7 (c:=ZC) hja
  have hlN:(rS ((inn b).take j)).length=j:=by rw[List.length_map,List.length_take];omega
  simp only[ga,ZC,hlN,List.length_map,EVA,seval,Zd,men]
  have hstep:rS ((inn b).take j)++[[ts b.inner[j].name]]=rS ((inn b).take (j+1)):=by
   rw[List.take_succ_eq_append_getElem (by omega),Zem]
   simp [inn]
  refine⟨by omega,by rw[Ze];omega,Zf () hja ?_ trivial⟩
  rw[<-hstep]
  rfl
 ·have:j=b.inner.length:=by omega
  subst this
  rw[List.take_of_length_le (by omega)]
  exact⟨hil.symm,rfl⟩
def ZjU(sig:List TControl)(b:TBigraph)(i:Nat):Prop:=∀ h:i<b.nodes.length,nodeOK sig b b.nodes[i] i
structure bigOK (sig:List TControl) (b:TBigraph):Prop where
 sg:Zc3 sig
 roots:0<=b.roots/\b.roots<=4
 nodesL:b.nodes.length<=8
 sitesL:b.sites.length<=4
 edges:0<=b.edges/\b.edges<=8
 outer:V9 b.outer
 inn:V9 (inn b)
 nodes:∀ i,ZjU sig b i
 sites:∀ p∈b.sites,DP sig b p b.nodes.length
 inner:∀ w∈b.inner,Jk b w.link
theorem Zgv{sig:List TControl}{b:TBigraph}{j:Nat}(h:∀ k,k<j->ZjU sig b k):ZhK sig b j:=fun i hi hl=>(h i hi hl).ctl
theorem Yr{b:TBigraph}:(inn b).length=b.inner.length:=by simp [inn]
theorem Zl8{b:TBigraph}{n:Nat}(h:∀ y∈b.inner,Qe n y):∀ y∈inn b,y.size<=n:=fun y hy=>by
 obtain⟨w,hw,rfl⟩:=List.mem_map.1 hy
 exact h w hw
theorem Vv(sig:List TControl)(b:TBigraph)(hn:sig.length<=4294967296)(hbs:∀ y∈sig,Zy 4294967296 y)(hb:Zl 4294967296 b)(hf:Zr b)(lvl:Nat)(S:Sto):Sem Proofs.Tryz.prog Jh lvl [.tr (.sl (sig.map Zk)),.ag ((Za b).map .tr)] S (iB (dc (bigOK sig b))) S:=by
 obtain⟨b1,b2,b3,b4,b5,b6,b7⟩:=hb
 obtain⟨f1,f2,f3,f4,f5⟩:=hf
 refine Zc Zge trivial ?_
 simp only[Zbn,List.length_map,Za,EVA,seval,Zd,men]
 refine Zb (Zl2 sig (by omega) (fun y hy=>Zej (hbs y hy))) ?_
 cases h1:dc (Zc3 sig)
 ·simp only[EVA,seval,Zd,men]
  rw[Zh fun h:bigOK sig b=>dc_not.1 h1 h.sg]
 simp only[List.length_map,Za,EVA,seval,Zd,men]
 refine Zb (XV b.roots 0 4) ?_
 cases h2:inB b.roots 0 4
 ·simp only[EVA,seval,Zd,men]
  rw[Zh fun h:bigOK sig b=>inB_not.1 h2 h.roots]
 by_cases h3:(8:Int)<b.nodes.length
 ·simp only[h3,List.length_map,Za,EVA,seval,Zd,men]
  rw[Zh fun h:bigOK sig b=>by have:=h.nodesL;omega]
 by_cases h4:(4:Int)<b.sites.length
 ·simp only[h3,h4,List.length_map,Za,EVA,seval,Zd,men]
  rw[Zh fun h:bigOK sig b=>by have:=h.sitesL;omega]
 simp only[h3,h4,List.length_map,Za,EVA,seval,Zd,men]
 refine Zb (XV b.edges 0 8) ?_
 cases h5:inB b.edges 0 8
 ·simp only[EVA,seval,Zd,men]
  rw[Zh fun h:bigOK sig b=>inB_not.1 h5 h.edges]
 have r2:=inB_iff.1 h2
 have r5:=inB_iff.1 h5
 simp only[List.length_map,Za,EVA,seval,Zd,men]
 refine Zb (Zek b.outer (by assumption) (by assumption)) ?_
 cases h6:dc (V9 b.outer)
 ·simp only[EVA,seval,Zd,men]
  rw[Zh fun h:bigOK sig b=>dc_not.1 h6 h.outer]
 by_cases h7:(16:Int)<b.inner.length
 ·simp only[h7,List.length_map,Za,EVA,seval,Zd,men]
  rw[Zh fun h:bigOK sig b=>by have:=h.inn.2;rw[Yr] at this;omega]
 simp only[h7,List.length_map,Za,EVA,seval,Zd,men]
 refine Zb (Wv b (by omega)) ?_
 simp only[List.length_map,Za,EVA,seval,Zd,men]
 refine Zb (Zek (inn b) (by rw[Yr];omega) (Zl8 (by assumption))) ?_
 cases h8:dc (V9 (inn b))
 ·simp only[EVA,seval,Zd,men]
  rw[Zh fun h:bigOK sig b=>dc_not.1 h8 h.inn]
 simp only[List.length_map,Za,EVA,seval,Zd,men]
 have ho:=(dc_iff.1 h6).2
 refine ZL (α:=Unit) b.nodes.length (fun j _=>[(5,iI j)]) (fun j _=>[]) (fun j _=>∀ k,k<j->ZjU sig b k) () (by simp only[EVA,seval,Zd,men]) (by (simp only[EVA,seval,Zd,men]) <;> rfl) (fun k hk=>absurd hk (Nat.not_lt_zero k)) ?_
 intro j _ hj hA
 simp only[List.length_map,Za,EVA,seval,Zd,men]
 refine Zo (fun hlt=>?_) (fun hge=>?_)
 ·have hja:j<b.nodes.length:=by omega
  have hm:=List.getElem_mem hja
  refine Zb (Zky sig b j hja hn (by first | exact(b2 _ hm) | exact(b3 _ hm)) (by first | exact(f1 _ hm).2.1 | exact(f2 _ hm).2.1) r2 r5 (by omega) (Zgv hA)) ?_
  cases hc:dc (nodeOK sig b b.nodes[j] j)
  ·simp only[EVA,seval,Zd,men]
   rw[Zh fun h:bigOK sig b=>dc_not.1 hc (h.nodes j hja)]
  ·simp only[EVA,seval,Zd,men]
   exact⟨by rw[Ze];omega,Zf () hja rfl (ZiN hA fun _=>dc_iff.1 hc)⟩
 have hj1:j=b.nodes.length:=by omega
 subst hj1
 refine ZL (α:=Unit) b.sites.length (fun j _=>[(6,iI j)]) (fun j _=>[]) (fun j _=>∀ k,k<j->DP sig b (g0 b.sites k) b.nodes.length) () (by simp only[EVA,seval,Zd,men]) (by (simp only[EVA,seval,Zd,men]) <;> rfl) (fun k hk=>absurd hk (Nat.not_lt_zero k)) ?_
 intro j _ hj hB
 simp only[List.length_map,Za,EVA,seval,Zd,men]
 refine Zo (fun hlt=>?_) (fun hge=>?_)
 ·have hja:j<b.sites.length:=by omega
  have ga:=XN hja
  have hg:g0 b.sites j∈b.sites:=by simp [hja]
  simp only[ga,List.length_map,Za,EVA,seval,Zd,men]
  refine Zb (Zel sig b (g0 b.sites j) b.nodes.length (by first | exact f3 _ hg | exact f2 _ hg | exact f4 _ hg) r2 (Nat.le_refl _) (Zgv hA)) ?_
  cases hc:dc (DP sig b (g0 b.sites j) b.nodes.length)
  ·simp only[EVA,seval,Zd,men]
   rw[Zh fun h:bigOK sig b=>dc_not.1 hc (h.sites _ hg)]
  ·simp only[EVA,seval,Zd,men]
   exact⟨by rw[Ze];omega,Zf () hja rfl (ZiN hB (dc_iff.1 hc))⟩
 have hj1:j=b.sites.length:=by omega
 subst hj1
 refine ZL (α:=Unit) b.inner.length (fun j _=>[(7,iI j)]) (fun j _=>[]) (fun j _=>∀ k,k<j->∀ h:k<b.inner.length,Jk b b.inner[k].link) () (by simp only[EVA,seval,Zd,men]) (by (simp only[EVA,seval,Zd,men]) <;> rfl) (fun k hk=>absurd hk (Nat.not_lt_zero k)) ?_
 intro j _ hj hC
 simp only[List.length_map,Za,EVA,seval,Zd,men]
 refine Zo (fun hlt=>?_) (fun hge=>?_)
 ·have hja:j<b.inner.length:=by omega
  have ga:=U7 (c:=ZC) hja
  simp only[ga,ZC,List.length_map,Za,EVA,seval,Zd,men]
  refine Zb (Zfu b b.inner[j].link r5 (by omega)) ?_
  cases hc:dc (Jk b b.inner[j].link)
  ·simp only[EVA,seval,Zd,men]
   rw[Zh fun h:bigOK sig b=>dc_not.1 hc (h.inner _ (List.getElem_mem hja))]
  ·simp only[EVA,seval,Zd,men]
   exact⟨by rw[Ze];omega,Zf () hja rfl (ZiN hC fun _=>dc_iff.1 hc)⟩
 have hj1:j=b.inner.length:=by omega
 subst hj1
 have:bigOK sig b:=⟨dc_iff.1 h1,r2,by omega,by omega,r5,dc_iff.1 h6,dc_iff.1 h8,fun i h=>hA i h h,fun p hp=>by
  obtain⟨k,hk,rfl⟩:=List.getElem_of_mem hp
  have:=hB k hk
  simpa [hk] using this,fun w hw=>by
  obtain⟨k,hk,rfl⟩:=List.getElem_of_mem hw
  exact hC k hk hk⟩
 rw[ZK this]
theorem Zen(l:Int)(b:TBigraph)(he:0<=b.edges/\b.edges<=8)(ho:b.outer.length<=4294967296)(lvl:Nat)(S:Sto):Sem Proofs.Tryz.prog VC lvl [iI l,.ta (Za b)] S (iB (!dc (Jk b l))) S:=by
 refine Zc Zbt trivial ?_
 simp only[WM,Za,EVA,seval,Zd,men]
 refine Zb (Zfv b l he ho) ?_
 simp only[EVA,seval,Zd,men]
theorem Zeo(p:Int)(sig:List TControl)(b:TBigraph)(hr:0<=b.roots/\b.roots<=4)(hc:ZhK sig b b.nodes.length)(lvl:Nat)(S:Sto):Sem Proofs.Tryz.prog VD lvl [iI p,.ta (Za b),.ta [Tr.sl (sig.map Zk)]] S (iB (!dc (DP sig b p b.nodes.length))) S:=by
 refine Zc Zbu trivial ?_
 simp only[WN,Za,List.length_map,EVA,seval,Zd,men]
 refine Zb (ZcS sig b p b.nodes.length hr (Nat.le_refl _) hc) ?_
 simp only[EVA,seval,Zd,men]
theorem Zep(w:TWire)(b:TBigraph)(he:0<=b.edges/\b.edges<=8)(ho:b.outer.length<=4294967296)(lvl:Nat)(S:Sto):Sem Proofs.Tryz.prog VE lvl [.ag ((ZC w).map .tr),.ta (Za b)] S (iB (!dc (Jk b w.link))) S:=by
 refine Zc Zbv trivial ?_
 simp only[WO,Za,ZC,EVA,seval,Zd,men]
 refine Zb (Zfv b w.link he ho) ?_
 simp only[EVA,seval,Zd,men]
theorem Ztt:ZP Proofs.Tryz.prog JB (ZlV 2 (some 2))=true:=by kernel_rfl
theorem Ztu:ZP Proofs.Tryz.prog Js (ZoB JB)=true:=by kernel_rfl
theorem any_no{α:Type}{l:List α}{p:α->Prop}:(l.any fun n=>!dc (p n))=false↔∀ n∈l,p n:=by
 simp only[List.any_eq_false,Bool.not_eq_true',Bool.not_eq_false,dc_iff]
theorem Je(sig:List TControl)(b:TBigraph)(hn:sig.length<=4294967296)(hbs:∀ y∈sig,Zy 4294967296 y)(hb:Zl 4294967296 b)(lvl:Nat)(S:Sto):Sem Proofs.Tryz.prog ZT lvl [.tr (.sl (sig.map Zk)),.ag ((Za b).map .tr)] S (iB (dc (bigOK sig b))) S:=by
 obtain⟨b1,b2,b3,b4,b5,b6,b7⟩:=hb
 refine Zc Zc0 trivial ?_
 simp only[U4,List.length_map,Za,EVA,seval,Zd,men]
 refine Zb (Zam sig (by omega) (fun y hy=>Zej (hbs y hy))) ?_
 cases h1:dc (Zc3 sig)
 ·simp only[EVA,seval,Zd,men]
  rw[Zh fun h:bigOK sig b=>dc_not.1 h1 h.sg]
 simp only[List.length_map,Za,EVA,seval,Zd,men]
 refine Zb (Qf b.roots 0 4) ?_
 cases h2:inB b.roots 0 4
 ·simp only[EVA,seval,Zd,men]
  rw[Zh fun h:bigOK sig b=>inB_not.1 h2 h.roots]
 by_cases h3:(8:Int)<b.nodes.length
 ·simp only[h3,List.length_map,Za,EVA,seval,Zd,men]
  rw[Zh fun h:bigOK sig b=>by have:=h.nodesL;omega]
 by_cases h4:(4:Int)<b.sites.length
 ·simp only[h3,h4,List.length_map,Za,EVA,seval,Zd,men]
  rw[Zh fun h:bigOK sig b=>by have:=h.sitesL;omega]
 simp only[h3,h4,List.length_map,Za,EVA,seval,Zd,men]
 refine Zb (Qf b.edges 0 8) ?_
 cases h5:inB b.edges 0 8
 ·simp only[EVA,seval,Zd,men]
  rw[Zh fun h:bigOK sig b=>inB_not.1 h5 h.edges]
 have r2:=inB_iff.1 h2
 have r5:=inB_iff.1 h5
 simp only[List.length_map,Za,EVA,seval,Zd,men]
 refine Zb (ZcR b.outer (by assumption) (by assumption)) ?_
 cases h6:dc (V9 b.outer)
 ·simp only[EVA,seval,Zd,men]
  rw[Zh fun h:bigOK sig b=>dc_not.1 h6 h.outer]
 simp only[List.length_map,Za,EVA,seval,Zd,men]
 refine Zb (YQ b (by omega)) ?_
 simp only[List.length_map,Za,EVA,seval,Zd,men]
 refine Zb (ZcR (inn b) (by rw[Yr];omega) (Zl8 (by assumption))) ?_
 cases h8:dc (V9 (inn b))
 ·simp only[EVA,seval,Zd,men]
  rw[Zh fun h:bigOK sig b=>dc_not.1 h8 h.inn]
 simp only[List.length_map,Za,EVA,seval,Zd,men]
 have ho:=(dc_iff.1 h6).2
 refine ZL (α:=Unit) b.nodes.length (fun j _=>[(49,iI j)]) (fun j _=>[]) (fun j _=>∀ k,k<j->ZjU sig b k) () (by simp only[EVA,seval,Zd,men]) (by (simp only[EVA,seval,Zd,men]) <;> rfl) (fun k hk=>absurd hk (Nat.not_lt_zero k)) ?_
 intro j _ hj hA
 simp only[List.length_map,Za,EVA,seval,Zd,men]
 refine Zo (fun hlt=>?_) (fun hge=>?_)
 ·have hja:j<b.nodes.length:=by omega
  have hm:=List.getElem_mem hja
  have ga:=U7 (c:=ZF) hja
  have hll:b.nodes[j].links.length<=4294967296:=by first | exact(b2 _ hm) | exact(b3 _ hm)
  have hno:¬ nodeOK sig b b.nodes[j] j->dc (bigOK sig b)=false:=fun h=>Zh fun g=>h (g.nodes j hja)
  simp only[ga,ZF,List.length_map,Za,EVA,seval,Zd,men]
  refine⟨by rw[Ze];omega,?_⟩
  refine Zb (Qf b.nodes[j].control 0 ((sig.length:Int)-1)) ?_
  cases p1:inB b.nodes[j].control 0 ((sig.length:Int)-1)
  ·simp only[EVA,seval,Zd,men]
   rw[hno fun h=>inB_not.1 p1 h.ctl]
  have q1:=inB_iff.1 p1
  simp only[ZF,List.length_map,Za,EVA,seval,Zd,men]
  refine Zb (ZcS sig b b.nodes[j].parent j r2 (by omega) (Zgv hA)) ?_
  cases p2:dc (DP sig b b.nodes[j].parent j)
  ·simp only[EVA,seval,Zd,men]
   rw[hno fun h=>dc_not.1 p2 h.par]
  obtain⟨m,hmm⟩:∃ m:Nat,b.nodes[j].control=m:=⟨b.nodes[j].control.toNat,by omega⟩
  have hms:m<sig.length:=by omega
  have gs:=U7 (c:=Zk) hms
  have e:ZaS sig b.nodes[j].control=sig[m].ports:=by simp [ZaS,hmm,hms]
  by_cases p3:(b.nodes[j].links.length:Int)=sig[m].ports
  case neg =>
   simp only[p3,hmm,gs,Int.toNat_natCast,Int.natCast_nonneg,Zk,ZF,List.length_map,Za,EVA,seval,Zd,men]
   rw[hno fun h=>p3 (by rw[<-e];exact h.ports)]
  simp only[p3,hmm,gs,Int.toNat_natCast,Int.natCast_nonneg,Zk,ZF,List.length_map,Za,EVA,seval,Zd,men]
  refine Zb (Zgt (t:=tv) (cs:=[Za b]) ZoF ZoE b.nodes[j].links (by omega) (fun x _ lvl S=>Zen x b r5 (by omega) lvl S)) ?_
  cases p4:b.nodes[j].links.any fun l=>!dc (Jk b l)
  ·simp only[EVA,seval,Zd,men]
   exact⟨by rw[Ze];omega,Zf () hja rfl (ZiN hA fun _=>⟨q1,dc_iff.1 p2,by rw[e];exact p3,any_no.1 p4⟩)⟩
  ·simp only[EVA,seval,Zd,men]
   rw[hno fun h=>by rw[any_no.2 h.links] at p4;cases p4]
 have hj1:j=b.nodes.length:=by omega
 subst hj1
 refine Zb (Zgt (t:=tv) (cs:=[Za b,[Tr.sl (sig.map Zk)]]) ZoF ZoE b.sites (by omega) (fun x _ lvl S=>Zeo x sig b r2 (Zgv hA) lvl S)) ?_
 cases h9:b.sites.any fun p=>!dc (DP sig b p b.nodes.length)
 case true =>
  simp only[EVA,seval,Zd,men]
  rw[Zh fun h:bigOK sig b=>by rw[any_no.2 h.sites] at h9;cases h9]
 simp only[List.length_map,Za,EVA,seval,Zd,men]
 refine Zb (ZjS (cs:=[Za b]) Ztu Ztt (fun x=>rfl) b.inner (by omega) (fun x _ lvl S=>Zep x b r5 (by omega) lvl S)) ?_
 cases h10:b.inner.any fun w=>!dc (Jk b w.link)
 case true =>
  simp only[EVA,seval,Zd,men]
  rw[Zh fun h:bigOK sig b=>by rw[(any_no (p:=fun w:TWire=>Jk b w.link)).2 h.inner] at h10;cases h10]
 simp only[EVA,seval,Zd,men]
 have:bigOK sig b:=⟨dc_iff.1 h1,r2,by omega,by omega,r5,dc_iff.1 h6,dc_iff.1 h8,fun i h=>hA i h h,any_no.1 h9,any_no.1 h10⟩
 rw[ZK this]
end Go.Fd

/-
  LISTS IN ORDER, OF ANY KIND: SORTED, EACH ONCE; CALLS THAT CHANGE ONE OBJECT. Own work.
-/
namespace Go.Fd
set_option maxRecDepth 20000
def cz{α:Type}[DecidableEq α](g:Nat->α):Nat->List α
 | 0=>[]
 | m+1=>cz g m++if m≠0/\g m=g (m-1) then [] else [g m]
theorem Ztv{α:Type}[DecidableEq α](g:Nat->α):∀ m,(cz g m).length<=m
 | 0=>Nat.le_refl _
 | m+1=>by
  have:=Ztv g m
  simp only[cz,List.length_append]
  split <;> simp <;> omega
theorem Zql{α:Type}[DecidableEq α]{g:Nat->α}{m:Nat}(h0:m≠0)(h:g m=g (m-1)):cz g (m+1)=cz g m:=by
 rw[cz,if_pos ⟨h0,h⟩,List.append_nil]
theorem Zx3{α:Type}[DecidableEq α]{g:Nat->α}{m:Nat}(h:g m≠g (m-1)):cz g (m+1)=cz g m++[g m]:=by
 rw[cz,if_neg (fun e=>h e.2)]
theorem ZbJ{α:Type}{y:List α}{i:Nat}{v:α}(h:i<y.length):(y.set i v).take (i+1)=y.take i++[v]:=by
 rw[List.take_succ_eq_append_getElem (by rw[List.length_set];exact h),List.getElem_set_self,List.take_set_of_le (Nat.le_refl i)]
theorem Ztw{lvl:Nat}{S:Sto}{id:Oid}{k hw ver:Nat}{es:Row}{u:Bool}(hne:id.1≠lvl)(hS:S id=some (.ar k es u hw ver)):wid (ZG lvl [] S) id [] k:=by
 unfold wid
 rw[Z6 hne,hS]
theorem ZiO{C:Zn}{env:List (Nat×IV)}{loc:List (Nat×Ob)}{out:Sto}{d:Option Nat}{K:St->Prop}{fid:FuncId}{imp:Bool}{lvl:Nat}{args:List IV}{r:IV}(key:Nat)(o:Ob)(h:C fid (lvl+1) args (ZG lvl loc out) r (ZM (ZG lvl loc out) (lvl,key) o))
  (hk:freshK (keyOf d) (ptO key o loc) (impv imp lvl (keyOf d) 0 r).2.length/\K ⟨lvl,ptd d (impv imp lvl (keyOf d) 0 r).1 env,addO (keyOf d) (impv imp lvl (keyOf d) 0 r).2 (ptO key o loc),out⟩):kcy C fid imp lvl env loc out d K args :=
 Qs (ptO key o loc) out (fun _ _=>rfl) (by rw[Ug];exact h) hk
theorem ZjV{C:Zn}{env:List (Nat×IV)}{loc:List (Nat×Ob)}{out:Sto}{d:Option Nat}{K:St->Prop}{fid:FuncId}{imp:Bool}{lvl:Nat}{args:List IV}{r:IV}(key:Nat)(o:Nat->Ob)(h:∃ v,C fid (lvl+1) args (ZG lvl loc out) r (ZM (ZG lvl loc out) (lvl,key) (o v)))
  (hk:∀ v,freshK (keyOf d) (ptO key (o v) loc) (impv imp lvl (keyOf d) 0 r).2.length/\K ⟨lvl,ptd d (impv imp lvl (keyOf d) 0 r).1 env,addO (keyOf d) (impv imp lvl (keyOf d) 0 r).2 (ptO key (o v) loc),out⟩):kcy C fid imp lvl env loc out d K args:=by
 obtain⟨v,h⟩:=h
 exact ZiO key (o v) h (hk v)
section
variable {α:Type} {e0:α} {lt:α->α->Prop}
def gx(e0:α)(l:List α)(i:Nat):α:=l.getD i e0
theorem Ww{l:List α}{i:Nat}(h:i<l.length):gx e0 l i=l[i]:=by
 unfold gx
 rw[List.getD_eq_getElem?_getD,List.getElem?_eq_getElem h]
 rfl
def Zgw(e0:α)(lt:α->α->Prop)(x:List α)(i:Nat):Prop:=∀ p q,p<q->q<i -> ¬ lt (gx e0 x q) (gx e0 x p)
def ZhL(e0:α)(lt:α->α->Prop)(x:List α)(i j:Nat):Prop:=(∀ p q,p<q->q<=i->p≠j->q≠j -> ¬ lt (gx e0 x q) (gx e0 x p))/\∀ q,j<q->q<=i -> ¬ lt (gx e0 x q) (gx e0 x j)
def ZqK(e0:α)(x:List α)(j:Nat):List α:=(x.set j (gx e0 x (j-1))).set (j-1) (gx e0 x j)
theorem ZjW{y:List α}{a b:Nat}{v:α}(h:a<y.length):gx e0 (y.set a v) b=if a=b then v else gx e0 y b:=by
 show (y.set a v).getD b e0=if a=b then v else y.getD b e0
 rw[List.getD_eq_getElem?_getD,List.getElem?_set,List.getD_eq_getElem?_getD]
 by_cases e:a=b
 ·rw[if_pos e,if_pos e,if_pos (by omega)];rfl
 ·rw[if_neg e,if_neg e]
theorem ZiP{y:List α}{i:Nat}(h:ZhL e0 lt y i 0):Zgw e0 lt y (i+1):=fun p q h1 h2=>by
 by_cases e:p=0
 ·subst e;exact h.2 q h1 (by omega)
 ·exact h.1 p q h1 (by omega) e (by omega)
theorem ZiQ(tr:∀ a b c,¬ lt b a -> ¬ lt c b -> ¬ lt c a){y:List α}{i j:Nat}(h:ZhL e0 lt y i j)(hj:0<j)(hji:j<=i)(hle:¬ lt (gx e0 y j) (gx e0 y (j-1))):Zgw e0 lt y (i+1):=fun p q h1 h2=>by
 by_cases e:p=j
 ·subst e;exact h.2 q h1 (by omega)
 ·by_cases e2:q=j
  ·subst e2
   by_cases e3:p=q-1
   ·subst e3;exact hle
   ·exact tr _ _ _ (h.1 p (q-1) (by omega) (by omega) e (by omega)) hle
  ·exact h.1 p q h1 (by omega) e e2
theorem Zkz(asym:∀ a b,lt a b -> ¬ lt b a){y:List α}{i j:Nat}(h:ZhL e0 lt y i j)(hj:0<j)(hji:j<=i)(hi:i<y.length)(hlt:lt (gx e0 y j) (gx e0 y (j-1))):ZhL e0 lt (ZqK e0 y j) i (j-1):=by
 have e:∀ b,gx e0 (ZqK e0 y j) b=if j-1=b then gx e0 y j else if j=b then gx e0 y (j-1) else gx e0 y b:=fun b=>by
  unfold ZqK
  rw[ZjW (by rw[List.length_set];omega),ZjW (by omega)]
 refine⟨fun p q h1 h2 h3 h4=>?_,fun q h1 h2=>?_⟩
 ·rw[e p,e q,if_neg (show ¬ j-1=p from fun g=>h3 g.symm),if_neg (show ¬ j-1=q from fun g=>h4 g.symm)]
  by_cases ep:j=p
  ·rw[if_pos ep,if_neg (show ¬ j=q by omega)]
   exact h.1 (j-1) q (by omega) h2 (by omega) (by omega)
  ·rw[if_neg ep]
   by_cases eq:j=q
   ·rw[if_pos eq]
    exact h.1 p (j-1) (by omega) (by omega) (by omega) (by omega)
   ·rw[if_neg eq]
    exact h.1 p q h1 h2 (fun g=>ep g.symm) (fun g=>eq g.symm)
 ·rw[e (j-1),e q,if_pos rfl,if_neg (show ¬ j-1=q by omega)]
  by_cases eq:j=q
  ·rw[if_pos eq];exact asym _ _ hlt
  ·rw[if_neg eq]
   exact h.2 q (by omega) h2
theorem Zl9{y:List α}{j:Nat}(hj:0<j)(hi:j<y.length):(ZqK e0 y j).Perm y:=by
 have h:=@List.set_set_perm _ y j (j-1) hi (by omega)
 unfold ZqK
 rw[Ww hi,Ww (by omega)]
 exact h
theorem Zdt{γ:Type}{c:α->γ}{l:List α}{i:Nat}(h:i<l.length):(l.map c)[i]? = some (c (gx e0 l i)):=by
 rw[Ww h];simp [h]
end
theorem Zgx{α:Type}[DecidableEq α]{e0:α}{l:List α}:∀{n:Nat},n<=l.length->(∀ m,0<m->m<n->gx e0 l m≠gx e0 l (m-1))->cz (gx e0 l) n=l.take n
 | 0,_,_=>by simp [cz]
 | n+1,hn,h=>by
  have ih:=Zgx (n:=n) (by omega) fun m h0 h1=>h m h0 (by omega)
  have hx:cz (gx e0 l) (n+1)=cz (gx e0 l) n++[gx e0 l n]:=by
   rw[cz,if_neg (fun e=>h n (by omega) (by omega) e.2)]
  rw[hx,ih,List.take_succ_eq_append_getElem (by omega)]
  rw[Ww (by omega)]
structure Ords {α:Type} (lt:α->α->Prop):Prop where
 irr:∀ a,¬ lt a a
 tr:∀ a b c,lt a b->lt b c->lt a c
 tri:∀ a b,lt a b\/a=b\/lt b a
theorem Ords.asym{α:Type}{lt:α->α->Prop}(O:Ords lt)(a b:α)(h:lt a b):¬ lt b a:=fun g=>O.irr a (O.tr _ _ _ h g)
section
variable {α:Type} {e0:α} {lt:α->α->Prop}
theorem ZhM(O:Ords lt):∀{x y:List α},x.Pairwise lt->y.Pairwise lt->(∀ c,c∈x↔c∈y)->x=y
 | [],[],_,_,_=>rfl
 | [],b::s,_,_,h=>by have:=(h b).2 (by simp);simp at this
 | a::r,[],_,_,h=>by have:=(h a).1 (by simp);simp at this
 | a::r,b::s,hx,hy,h=>by
  rw[List.pairwise_cons] at hx hy
  have e:a=b:=by
   rcases List.mem_cons.1 ((h a).1 (by simp)) with e | h1
   ·exact e
   ·rcases List.mem_cons.1 ((h b).2 (by simp)) with e | h2
    ·exact e.symm
    ·exact absurd (hy.1 a h1) (O.asym _ _ (hx.1 b h2))
  subst e
  congr 1
  refine ZhM O hx.2 hy.2 fun c=>⟨fun hc=>?_,fun hc=>?_⟩
  ·rcases List.mem_cons.1 ((h c).1 (by simp [hc])) with e | h1
   ·subst e;exact absurd (hx.1 c hc) (O.irr c)
   ·exact h1
  ·rcases List.mem_cons.1 ((h c).2 (by simp [hc])) with e | h1
   ·subst e;exact absurd (hy.1 c hc) (O.irr c)
   ·exact h1
theorem ZiR(O:Ords lt):∀{x y:List α},x.Pairwise (fun a b=>¬ lt b a)->y.Pairwise (fun a b=>¬ lt b a)->x.Perm y->x=y
 | [],y,_,_,h=>by rw[List.nil_perm.1 h]
 | a::r,[],_,_,h=>by have:=h.length_eq;simp at this
 | a::r,b::s,hx,hy,h=>by
  rw[List.pairwise_cons] at hx hy
  have e:a=b:=by
   rcases List.mem_cons.1 (h.mem_iff.1 (List.mem_cons_self (a:=a) (l:=r))) with e | h1
   ·exact e
   ·rcases List.mem_cons.1 (h.mem_iff.2 (List.mem_cons_self (a:=b) (l:=s))) with e | h2
    ·exact e.symm
    ·rcases O.tri a b with g | g | g
     ·exact absurd g (hy.1 a h1)
     ·exact g
     ·exact absurd g (hx.1 b h2)
  subst e
  congr 1
  exact ZiR O hx.2 hy.2 h.cons_inv
theorem ZnZ{x:List α}(h:Zgw e0 lt x x.length):x.Pairwise (fun a b=>¬ lt b a):=List.pairwise_iff_getElem.2 fun i j hi hj hij=>by
 have:=h i j hij hj
 rwa [Ww hi,Ww hj] at this
noncomputable def Zk3(lt:α->α->Prop)(l:List α):List α:=l.mergeSort fun a b=>@decide (¬ lt b a) (Classical.propDecidable _)
theorem srtG_perm{l:List α}:(Zk3 lt l).Perm l:=List.mergeSort_perm ..
theorem ZiS(O:Ords lt){l:List α}:(Zk3 lt l).Pairwise (fun a b=>¬ lt b a):=by
 classical
 have h:=List.pairwise_mergeSort (le:=fun a b=>@decide (¬ lt b a) (Classical.propDecidable _)) (fun a b c h1 h2=>by
  simp only[decide_eq_true_eq] at *
  intro g
  rcases O.tri a b with k | k | k
  ·exact h2 (O.tr _ _ _ g k)
  ·subst k;exact h2 g
  ·exact h1 k) (fun a b=>by
  simp only[Bool.or_eq_true,decide_eq_true_eq]
  by_cases g:lt b a
  ·exact .inr (O.asym _ _ g)
  ·exact .inl g) l
 exact h.imp (fun h=>by simpa using h)
theorem Zn0(O:Ords lt){l x:List α}(hp:x.Perm l)(hu:Zgw e0 lt x l.length):x=Zk3 lt l:=by
 rw[<-hp.length_eq] at hu
 exact ZiR O (ZnZ hu) (ZiS O) (hp.trans srtG_perm.symm)
theorem cz_mem[DecidableEq α]{g:Nat->α}{c:α}:∀{n:Nat},c∈cz g n↔∃ i,i<n/\g i=c
 | 0=>by simp [cz]
 | n+1=>by
  rw[cz,List.mem_append,cz_mem (n:=n)]
  constructor
  ·rintro(⟨i,h1,h2⟩ | h)
   ·exact⟨i,by omega,h2⟩
   ·split at h
    ·cases h
    ·exact⟨n,by omega,(List.mem_singleton.1 h).symm⟩
  ·rintro⟨i,h1,h2⟩
   by_cases e:i=n
   ·subst e
    by_cases k:i≠0/\g i=g (i-1)
    ·exact .inl ⟨i-1,by omega,k.2.symm.trans h2⟩
    ·rw[if_neg k];exact .inr (by simp [h2])
   ·exact .inl ⟨i,by omega,h2⟩
theorem Ztx(O:Ords lt)[DecidableEq α]{g:Nat->α}:∀{n:Nat},(∀ i j,i<j->j<n -> ¬ lt (g j) (g i))->(cz g n).Pairwise lt
 | 0,_=>by simp [cz]
 | n+1,h=>by
  have ih:=Ztx O (n:=n) fun i j h1 h2=>h i j h1 (by omega)
  by_cases k:n≠0/\g n=g (n-1)
  ·rw[Zql k.1 k.2];exact ih
  ·have hx:cz g (n+1)=cz g n++[g n]:=by rw[cz,if_neg k]
   rw[hx,List.pairwise_append]
   refine⟨ih,by simp,fun c hc d hd=>?_⟩
   rw[List.mem_singleton] at hd
   subst hd
   obtain⟨i,h1,rfl⟩:=cz_mem.1 hc
   have hn0:n≠0:=by omega
   rcases O.tri (g i) (g n) with e | e | e
   ·exact e
   ·exfalso
    have e1:¬ lt (g n) (g (n-1)):=h (n-1) n (by omega) (by omega)
    have e2:¬ lt (g (n-1)) (g i):=by
     by_cases q:i=n-1
     ·subst q;exact O.irr _
     ·exact h i (n-1) (by omega) (by omega)
    rw[e] at e2
    rcases O.tri (g n) (g (n-1)) with q | q | q
    ·exact e1 q
    ·exact k ⟨hn0,q⟩
    ·exact e2 q
   ·exact absurd e (h i n h1 (by omega))
noncomputable def ZqL[DecidableEq α](e0:α)(lt:α->α->Prop)(l:List α):List α:=cz (gx e0 (Zk3 lt l)) (Zk3 lt l).length
theorem Zma(O:Ords lt)[DecidableEq α]{l:List α}:(ZqL e0 lt l).Pairwise lt:=Ztx O fun i j h1 h2=>by
 rw[Ww h2,Ww (Nat.lt_trans h1 h2)]
 exact List.pairwise_iff_getElem.1 (ZiS O) i j _ _ h1
theorem setG_mem[DecidableEq α]{l:List α}{c:α}:c∈ZqL e0 lt l↔c∈l:=by
 unfold ZqL
 rw[cz_mem,<-(srtG_perm (lt:=lt) (l:=l)).mem_iff]
 constructor
 ·rintro⟨i,h1,h2⟩
  rw[Ww h1] at h2
  rw[<-h2];exact List.getElem_mem h1
 ·intro h
  obtain⟨i,h1,h2⟩:=List.getElem_of_mem h
  exact⟨i,h1,by rw[Ww h1];exact h2⟩
theorem Zgy(O:Ords lt)[DecidableEq α]{l y:List α}(hy:y.Pairwise lt)(h:∀ c,c∈l↔c∈y):ZqL e0 lt l=y:=ZhM O (Zma O) hy fun c=>setG_mem.trans (h c)
theorem Zmb[DecidableEq α]{l:List α}:(ZqL e0 lt l).length<=l.length:=Nat.le_trans (Ztv _ _) (Nat.le_of_eq srtG_perm.length_eq)
end
end Go.Fd
