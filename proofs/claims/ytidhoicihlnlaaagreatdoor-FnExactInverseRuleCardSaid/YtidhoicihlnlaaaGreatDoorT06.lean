/-
  The annotated codes of the functions, printed by a program of mine (gen.py), and the check that they belong to the program.
-/
import Derived.Test.YtidhoicihlnlaaaGreatDoorT05
import Derived.KernelRfl
import Derived.Test.YtidhoicihlnlaaaGreatDoorProg
set_option linter.all false
namespace Go.Fd
def YT:F2 :=
 { nt:=119,res:=[.t 4 [0]],body:=(.sq (rg [oo 3 (.bt (.t 1)),om 4 (.k (.bool false))]) (.sq (rg [om 5 (i6 1048576)]) (.sq (rg [qM 17 0,qM 18 5,oo 19 (.ca .pure false (.f Y3) [.t 17,.t 18]),qM 5 19]) (.sq (.sq (rg [qM 20 5,oo 21 (.bi .lss 0 (.t 20) (i6 0))]) (.cd (.t 21) (.sq (rg [om 4 (.k (.bool true))]) (.rt)) (.sk))) (.sq (rg [qS 22 13 3,qM 23 5,oo 24 (.ca .pure false (.f QK) [.t 22,.t 23]),qM 5 24]) (.sq (.sq (rg [qM 25 5,oo 26 (.bi .lss 0 (.t 25) (i6 0))]) (.cd (.t 26) (.sq (rg [om 4 (.k (.bool true))]) (.rt)) (.sk))) (.sq (.rg (some 0) [qM 28 0,oo 29 (.ca .pure false (.f Jb) [.t 28]),qS 30 13 3,oo 31 (.ca .pure false (.f JE) [.t 30]),oo 32 (.ca .pure false (.f YB) [.t 29,.t 31]),qM 27 32,qE 33 0 27,qE 34 1 27,oo 6 (.al [.int .i64 0,.slice none 0 0,.slice none 0 0,.int .i64 0,.slice none 0 0,.slice none 0 0,.int .i64 0,.slice none 0 0,.slice none 0 0,.int .i64 0,.slice none 0 0,.slice none 0 0,.slice none 0 0] []),on1 (.s0 13 (.t 6) (.t 33)),qM 7 34]) (.sq (rg [qM 35 0,oo 36 (.ca .pure true (.f Jb) [.t 35]),qM 8 36]) (.sq (rg [qS 37 13 3,oo 38 (.ca .pure true (.f JE) [.t 37]),oo 9 (.al [.int .i64 0,.slice none 0 0,.slice none 0 0,.int .i64 0,.slice none 0 0,.slice none 0 0,.int .i64 0,.slice none 0 0,.slice none 0 0,.int .i64 0,.slice none 0 0,.slice none 0 0,.slice none 0 0] []),on1 (.st 13 (.t 9) (.t 38))]) (.sq (rg [qM 40 8,qS 41 13 9,oo 42 (.ca .pure true (.f Jy) [.t 40,.t 41]),qM 39 42,qE 43 0 39,qE 44 1 39,oo 10 (.al [.int .i64 0,.slice none 0 0,.slice none 0 0,.int .i64 0,.slice none 0 0,.slice none 0 0,.int .i64 0,.slice none 0 0,.slice none 0 0,.int .i64 0,.slice none 0 0,.slice none 0 0,.slice none 0 0] []),on1 (.st 13 (.t 10) (.t 43)),qM 11 44]) (.sq (.sq (rg [qS 45 13 10,qS 46 13 6,oo 47 (.ca .pure false (.f JF) [.t 45,.t 46]),oo 48 (.nt (.t 47)),qM 49 48,og 50 49 false (.mv (.t 11) none),og 51 49 false (.mv (.t 7) none),og 52 49 false (.bi .neq 2 (.t 50) (.t 51)),oo 53 (.pk (.t 49) (.k (.bool true)) (.t 52))]) (.cd (.t 53) (.sq (rg [om 4 (.k (.bool false))]) (.rt)) (.sk))) (.sq (.sq (rg [qM 54 8,qM 55 0,oo 56 (.ca .pure false (.f Jb) [.t 55]),oo 57 (.ca .pure false (.f Y4) [.t 54,.t 56]),oo 58 (.nt (.t 57))]) (.cd (.t 58) (.sq (rg [om 4 (.k (.bool false))]) (.rt)) (.sk))) (.sq (.sq (.rg (some 0) [qS 59 13 9,qS 60 13 3,oo 61 (.ca .pure false (.f JE) [.t 60]),oo 62 (.ca .pure false (.f JF) [.t 59,.t 61]),oo 63 (.nt (.t 62))]) (.cd (.t 63) (.sq (rg [om 4 (.k (.bool false))]) (.rt)) (.sk))) (.sq (rg [om 12 (i6 1)]) (.sq (rg [qM 64 8,qM 65 12,oo 66 (.ca .any true (.f Yj) [.t 64,.t 65]),qM 12 66]) (.sq (rg [qS 67 13 9,qM 68 12,oo 69 (.ca .any true (.f JG) [.t 67,.t 68]),qM 12 69]) (.sq (.sq (rg [qM 70 12,oo 71 (.bi .lss 0 (.t 70) (i6 0)),qM 72 71,og 73 72 false (.ld (some 13) (.t 10)),og 74 72 false (.ld (some 13) (.t 6)),og 75 72 false (.ca .pure false (.f JF) [.t 73,.t 74]),og 76 72 false (.nt (.t 75)),oo 77 (.pk (.t 72) (.k (.bool true)) (.t 76)),qM 78 77,og 79 78 false (.mv (.t 11) none),og 80 78 false (.mv (.t 7) none),og 81 78 false (.bi .neq 2 (.t 79) (.t 80)),oo 82 (.pk (.t 78) (.k (.bool true)) (.t 81))]) (.cd (.t 82) (.sq (rg [om 4 (.k (.bool false))]) (.rt)) (.sk))) (.sq (rg [om 13 (i6 1)]) (.sq (rg [qS 83 13 10,qM 84 13,oo 85 (.ca .any true (.f JG) [.t 83,.t 84]),qM 13 85]) (.sq (rg [om 14 (i6 1)]) (.sq (rg [qS 86 13 10,qM 87 14,oo 88 (.ca .pure false (.f Yu) [.t 86,.t 87]),qM 14 88]) (.sq (.sq (rg [qM 89 14,oo 90 (.bi .lss 0 (.t 89) (i6 0))]) (.cd (.t 90) (.sq (rg [om 4 (.k (.bool false))]) (.rt)) (.sk))) (.sq (.sq (rg [qM 91 14,qM 92 13,qB 93 .neq 91 92]) (.cd (.t 93) (.sq (rg [om 4 (.k (.bool false))]) (.rt)) (.sk))) (.sq (.rg (some 0) [qM 95 0,oo 96 (.ca .pure false (.f Jb) [.t 95]),qS 97 13 3,oo 98 (.ca .pure false (.f JE) [.t 97]),oo 99 (.ca .pure false (.f Jy) [.t 96,.t 98]),qM 94 99,qE 100 0 94,qE 101 1 94,oo 15 (.al [.int .i64 0,.slice none 0 0,.slice none 0 0,.int .i64 0,.slice none 0 0,.slice none 0 0,.int .i64 0,.slice none 0 0,.slice none 0 0,.int .i64 0,.slice none 0 0,.slice none 0 0,.slice none 0 0] []),on1 (.s0 13 (.t 15) (.t 100)),qM 16 101]) (.sq (.sq (rg [qS 102 13 15,qS 103 13 6,oo 104 (.ca .pure false (.f JF) [.t 102,.t 103]),oo 105 (.nt (.t 104)),qM 106 105,og 107 106 false (.mv (.t 16) none),og 108 106 false (.mv (.t 7) none),og 109 106 false (.bi .neq 2 (.t 107) (.t 108)),oo 110 (.pk (.t 106) (.k (.bool true)) (.t 109))]) (.cd (.t 110) (.sq (rg [om 4 (.k (.bool false))]) (.rt)) (.sk))) (.sq (rg [om 14 (i6 1)]) (.sq (rg [qS 111 13 10,qM 112 14,oo 113 (.ca .pure false (.f Yu) [.t 111,.t 112]),qM 14 113]) (.sq (.sq (rg [qM 114 14,oo 115 (.bi .lss 0 (.t 114) (i6 0))]) (.cd (.t 115) (.sq (rg [om 4 (.k (.bool false))]) (.rt)) (.sk))) (.sq (.sq (rg [qM 116 14,qM 117 13,qB 118 .neq 116 117]) (.cd (.t 118) (.sq (rg [om 4 (.k (.bool false))]) (.rt)) (.sk))) (.sq (rg [om 4 (.k (.bool true))]) (.rt))))))))))))))))))))))))))))))) }
theorem Xv:ZX Proofs.Tryz.prog Yh YT=true:=by kernel_rfl
def Q3:F2 :=
 { nt:=35,res:=[.t 4 [0]],body:=(.sq (rg [om 4 (i6 0)]) (.sq (.sq (rg [om 5 (i6 0)]) (.bl 0 (.lp [0,1,5] [] (.sq (.sq (rg [qM 6 5,qM 7 0,qN 8 7,qB 9 .lss 6 8]) (.cd (.t 9) (.sk) (.ex 0))) (.sq (.bl 1 (.sq (rg [qM 12 0,qM 13 5,qM 14 1,oo 15 (.ca .pure false (.f Jc) [.t 14]),qI 16 3 12 13,qF 17 0 16,on1 (.st 1 (.t 17) (.t 15))]) (.sq (rg [qM 18 1,oo 19 (.bi .add 0 (.t 18) (i6 1)),qM 1 19]) (.sq (rg [qM 20 0,qM 21 5,qM 22 1,qI 23 3 20 21,qF 24 1 23,on1 (.st 1 (.t 24) (.t 22))]) (.sq (rg [qM 25 1,oo 26 (.bi .add 0 (.t 25) (i6 1)),qM 1 26]) (.sq (rg [qM 27 0,qM 28 5,qM 29 1,qI 30 3 27 28,qF 31 2 30,on1 (.st 1 (.t 31) (.t 29))])
 (rg [qM 32 1,oo 33 (.bi .add 0 (.t 32) (i6 1)),qM 1 33])))))))
 (rg [qM 10 5,oo 11 (.bi .add 0 (.t 10) (i6 1)),qM 5 11])))))) (.sq (rg [qM 34 1,qM 4 34]) (.rt)))) }
theorem UL:ZX Proofs.Tryz.prog Yj Q3=true:=by kernel_rfl
def WY:F2 :=
 { nt:=19,res:=[.t 4 [0]],body:=(.sq (rg [om 4 (i6 0)]) (.sq (.sq (rg [om 5 (i6 0)]) (.bl 0 (.lp [0,1,5] [] (.sq (.sq (rg [qM 6 5,qM 7 0,qN 8 7,qB 9 .lss 6 8]) (.cd (.t 9) (.sk) (.ex 0))) (.sq (.bl 1 (.sq (rg [qM 12 0,qM 13 5,qM 14 1,qI 15 1 12 13,on1 (.st 1 (.t 15) (.t 14))])
 (rg [qM 16 1,oo 17 (.bi .add 0 (.t 16) (i6 1)),qM 1 17])))
 (rg [qM 10 5,oo 11 (.bi .add 0 (.t 10) (i6 1)),qM 5 11])))))) (.sq (rg [qM 18 1,qM 4 18]) (.rt)))) }
theorem ZbJ:ZX Proofs.Tryz.prog JC WY=true:=by kernel_rfl
def WZ:F2 :=
 { nt:=21,res:=[.t 4 [0]],body:=(.sq (rg [om 4 (i6 0)]) (.sq (.sq (rg [om 5 (i6 0)]) (.bl 0 (.lp [0,1,5] [] (.sq (.sq (rg [qM 6 5,qM 7 0,qN 8 7,qB 9 .lss 6 8]) (.cd (.t 9) (.sk) (.ex 0))) (.sq (.bl 1 (.sq (.sq (rg [qM 12 0,qM 13 5,qI 14 1 12 13,qL 15 14,qM 16 1,qB 17 .neq 15 16]) (.cd (.t 17) (.sq (rg [om 4 (i6 (-1))]) (.rt)) (.sk)))
 (rg [qM 18 1,oo 19 (.bi .add 0 (.t 18) (i6 1)),qM 1 19])))
 (rg [qM 10 5,oo 11 (.bi .add 0 (.t 10) (i6 1)),qM 5 11])))))) (.sq (rg [qM 20 1,qM 4 20]) (.rt)))) }
theorem ZbK:ZX Proofs.Tryz.prog JD WZ=true:=by kernel_rfl
def W0:F2 :=
 { nt:=18,res:=[.t 4 [0]],body:=(.sq (rg [oo 2 (.bx (.t 0)),om 4 (i6 0)]) (.sq (rg [qF 5 0 2,qS 6 6 5,qM 7 1,oo 8 (.ca .any true (.f Ji) [.t 6,.t 7]),qM 1 8]) (.sq (rg [qF 9 6 2,qS 10 6 9,qM 11 1,oo 12 (.ca .any true (.f Ji) [.t 10,.t 11]),qM 1 12]) (.sq (rg [qF 13 12 2,qL 14 13,qM 15 1,oo 16 (.ca .any true (.f JC) [.t 14,.t 15]),qM 1 16]) (.sq (rg [qM 17 1,qM 4 17]) (.rt)))))) }
theorem ZbL:ZX Proofs.Tryz.prog JG W0=true:=by kernel_rfl
def W1:F2 :=
 { nt:=24,res:=[.t 4 [0]],body:=(.sq (rg [oo 2 (.bt (.t 0)),om 4 (i6 0)]) (.sq (rg [qF 5 0 2,qS 6 6 5,qM 7 1,oo 8 (.ca .pure false (.f Jz) [.t 6,.t 7]),qM 1 8]) (.sq (.sq (rg [qM 9 1,oo 10 (.bi .lss 0 (.t 9) (i6 0))]) (.cd (.t 10) (.sq (rg [om 4 (i6 (-1))]) (.rt)) (.sk))) (.sq (rg [qF 11 6 2,qS 12 6 11,qM 13 1,oo 14 (.ca .pure false (.f Jz) [.t 12,.t 13]),qM 1 14]) (.sq (.sq (rg [qM 15 1,oo 16 (.bi .lss 0 (.t 15) (i6 0))]) (.cd (.t 16) (.sq (rg [om 4 (i6 (-1))]) (.rt)) (.sk))) (.sq (rg [qF 17 12 2,qL 18 17,qM 19 1,oo 20 (.ca .pure false (.f JD) [.t 18,.t 19]),qM 1 20]) (.sq (.sq (rg [qM 21 1,oo 22 (.bi .lss 0 (.t 21) (i6 0))]) (.cd (.t 22) (.sq (rg [om 4 (i6 (-1))]) (.rt)) (.sk))) (.sq (rg [qM 23 1,qM 4 23]) (.rt))))))))) }
theorem ZbM:ZX Proofs.Tryz.prog Yu W1=true:=by kernel_rfl
def W2:F2 :=
 { nt:=20,res:=[.t 2 [0]],body:=(.sq (rg [om 2 (.k (.string ⟨#[]⟩))]) (.sq (.sq (rg [qM 4 0,oo 5 (.bi .leq 0 (.t 4) (i6 0))]) (.cd (.t 5) (.sq (rg [om 2 (.k (.string ⟨#[109,48]⟩))]) (.rt)) (.sk))) (.sq (rg [om 3 (.k (.string ⟨#[]⟩))]) (.sq (.bl 0 (.lp [0,3] [] (.sq (.sq (rg [qM 6 0,oo 7 (.bi .gtr 0 (.t 6) (i6 0))]) (.cd (.t 7) (.sk) (.ex 0))) (.bl 1 (.sq (rg [qM 8 0,oo 9 (.bi .rem 0 (.t 8) (i6 10)),oo 10 (.bi .add 0 (i6 48) (.t 9)),oo 11 (.cv (.int .u8) (.t 10)),oo 12 (.bs 1 1 [.int .u8 0] [(0,.t 11)]),oo 13 (.sb (.t 12)),qM 14 3,qB 15 .add 13 14,qM 3 15])
 (rg [qM 16 0,oo 17 (.bi .quo 0 (.t 16) (i6 10)),qM 0 17])))))) (.sq (rg [qM 18 3,oo 19 (.bi .add 0 (.k (.string ⟨#[109]⟩)) (.t 18)),qM 2 19]) (.rt)))))) }
theorem ZbN:ZX Proofs.Tryz.prog Jc W2=true:=by kernel_rfl
def Xm:F2 :=
 { nt:=20,res:=[.t 4 [0]],body:=(.sq (rg [om 4 (i6 0)]) (.sq (.sq (rg [om 5 (i6 0)]) (.bl 0 (.lp [0,1,5] [] (.sq (.sq (rg [qM 6 5,qM 7 0,qN 8 7,qB 9 .lss 6 8]) (.cd (.t 9) (.sk) (.ex 0))) (.sq (.bl 1 (.sq (rg [qM 12 0,qM 13 5,qM 14 1,oo 15 (.ca .pure false (.f Jc) [.t 14]),qI 16 1 12 13,on1 (.st 1 (.t 16) (.t 15))])
 (rg [qM 17 1,oo 18 (.bi .add 0 (.t 17) (i6 1)),qM 1 18])))
 (rg [qM 10 5,oo 11 (.bi .add 0 (.t 10) (i6 1)),qM 5 11])))))) (.sq (rg [qM 19 1,qM 4 19]) (.rt)))) }
theorem Dx:ZX Proofs.Tryz.prog YC Xm=true:=by kernel_rfl
def Xn:F2 :=
 { nt:=22,res:=[.t 4 [0]],body:=(.sq (rg [oo 2 (.bx (.t 0)),om 4 (i6 0)]) (.sq (rg [qF 5 1 2,qL 6 5,qM 7 1,oo 8 (.ca .any true (.f Vt) [.t 6,.t 7]),qM 1 8]) (.sq (rg [qF 9 2 2,qL 10 9,qM 11 1,oo 12 (.ca .any true (.f JC) [.t 10,.t 11]),qM 1 12]) (.sq (rg [qF 13 4 2,qL 14 13,qM 15 1,oo 16 (.ca .any true (.f YC) [.t 14,.t 15]),qM 1 16]) (.sq (rg [qF 17 5 2,qL 18 17,qM 19 1,oo 20 (.ca .any true (.f Vu) [.t 18,.t 19]),qM 1 20]) (.sq (rg [qM 21 1,qM 4 21]) (.rt))))))) }
theorem Dy:ZX Proofs.Tryz.prog Ji Xn=true:=by kernel_rfl
def Xo:F2 :=
 { nt:=30,res:=[.t 4 [0]],body:=(.sq (rg [oo 2 (.bt (.t 0)),om 4 (i6 0)]) (.sq (rg [qF 5 1 2,qL 6 5,qM 7 1,oo 8 (.ca .pure false (.f Vv) [.t 6,.t 7]),qM 1 8]) (.sq (.sq (rg [qM 9 1,oo 10 (.bi .lss 0 (.t 9) (i6 0))]) (.cd (.t 10) (.sq (rg [om 4 (i6 (-1))]) (.rt)) (.sk))) (.sq (rg [qF 11 2 2,qL 12 11,qM 13 1,oo 14 (.ca .pure false (.f JD) [.t 12,.t 13]),qM 1 14]) (.sq (.sq (rg [qM 15 1,oo 16 (.bi .lss 0 (.t 15) (i6 0))]) (.cd (.t 16) (.sq (rg [om 4 (i6 (-1))]) (.rt)) (.sk))) (.sq (rg [qF 17 4 2,qL 18 17,qM 19 1,oo 20 (.ca .pure false (.f YF) [.t 18,.t 19]),qM 1 20]) (.sq (.sq (rg [qM 21 1,oo 22 (.bi .lss 0 (.t 21) (i6 0))]) (.cd (.t 22) (.sq (rg [om 4 (i6 (-1))]) (.rt)) (.sk))) (.sq (rg [qF 23 5 2,qL 24 23,qM 25 1,oo 26 (.ca .pure false (.f Vw) [.t 24,.t 25]),qM 1 26]) (.sq (.sq (rg [qM 27 1,oo 28 (.bi .lss 0 (.t 27) (i6 0))]) (.cd (.t 28) (.sq (rg [om 4 (i6 (-1))]) (.rt)) (.sk))) (.sq (rg [qM 29 1,qM 4 29]) (.rt))))))))))) }
theorem Dz:ZX Proofs.Tryz.prog Jz Xo=true:=by kernel_rfl
def Wm:F2 :=
 { nt:=34,res:=[.t 4 [0]],body:=(.sq (rg [om 4 (i6 0)]) (.sq (.sq (rg [om 5 (i6 0)]) (.bl 0 (.lp [0,1,5] [] (.sq (.sq (rg [qM 6 5,qM 7 0,qN 8 7,qB 9 .lss 6 8]) (.cd (.t 9) (.sk) (.ex 0))) (.sq (.bl 1 (.sq (rg [qM 12 0,qM 13 5,qM 14 1,qI 15 3 12 13,qF 16 0 15,on1 (.st 1 (.t 16) (.t 14))]) (.sq (rg [qM 17 1,oo 18 (.bi .add 0 (.t 17) (i6 1)),qM 1 18]) (.sq (rg [qM 19 0,qM 20 5,qM 21 1,qI 22 3 19 20,qF 23 1 22,on1 (.st 1 (.t 23) (.t 21))]) (.sq (rg [qM 24 1,oo 25 (.bi .add 0 (.t 24) (i6 1)),qM 1 25])
 (rg [qM 26 0,qM 27 5,qI 28 3 26 27,qF 29 2 28,qL 30 29,qM 31 1,oo 32 (.ca .any true (.f JC) [.t 30,.t 31]),qM 1 32]))))))
 (rg [qM 10 5,oo 11 (.bi .add 0 (.t 10) (i6 1)),qM 5 11])))))) (.sq (rg [qM 33 1,qM 4 33]) (.rt)))) }
theorem ZaA:ZX Proofs.Tryz.prog Vt Wm=true:=by kernel_rfl
def Wn:F2 :=
 { nt:=28,res:=[.t 4 [0]],body:=(.sq (rg [om 4 (i6 0)]) (.sq (.sq (rg [om 5 (i6 0)]) (.bl 0 (.lp [0,1,5] [] (.sq (.sq (rg [qM 6 5,qM 7 0,qN 8 7,qB 9 .lss 6 8]) (.cd (.t 9) (.sk) (.ex 0))) (.sq (.bl 1 (.sq (rg [qM 12 0,qM 13 5,qM 14 1,oo 15 (.ca .pure false (.f Jc) [.t 14]),qI 16 2 12 13,qF 17 0 16,on1 (.st 1 (.t 17) (.t 15))]) (.sq (rg [qM 18 1,oo 19 (.bi .add 0 (.t 18) (i6 1)),qM 1 19]) (.sq (rg [qM 20 0,qM 21 5,qM 22 1,qI 23 2 20 21,qF 24 1 23,on1 (.st 1 (.t 24) (.t 22))])
 (rg [qM 25 1,oo 26 (.bi .add 0 (.t 25) (i6 1)),qM 1 26])))))
 (rg [qM 10 5,oo 11 (.bi .add 0 (.t 10) (i6 1)),qM 5 11])))))) (.sq (rg [qM 27 1,qM 4 27]) (.rt)))) }
theorem ZaB:ZX Proofs.Tryz.prog Vu Wn=true:=by kernel_rfl
def Wo:F2 :=
 { nt:=40,res:=[.t 4 [0]],body:=(.sq (rg [om 4 (i6 0)]) (.sq (.sq (rg [om 5 (i6 0)]) (.bl 0 (.lp [0,1,5] [] (.sq (.sq (rg [qM 6 5,qM 7 0,qN 8 7,qB 9 .lss 6 8]) (.cd (.t 9) (.sk) (.ex 0))) (.sq (.bl 1 (.sq (.sq (rg [qM 12 0,qM 13 5,qI 14 3 12 13,qF 15 0 14,qL 16 15,qM 17 1,qB 18 .neq 16 17]) (.cd (.t 18) (.sq (rg [om 4 (i6 (-1))]) (.rt)) (.sk))) (.sq (rg [qM 19 1,oo 20 (.bi .add 0 (.t 19) (i6 1)),qM 1 20]) (.sq (.sq (rg [qM 21 0,qM 22 5,qI 23 3 21 22,qF 24 1 23,qL 25 24,qM 26 1,qB 27 .neq 25 26]) (.cd (.t 27) (.sq (rg [om 4 (i6 (-1))]) (.rt)) (.sk))) (.sq (rg [qM 28 1,oo 29 (.bi .add 0 (.t 28) (i6 1)),qM 1 29]) (.sq (rg [qM 30 0,qM 31 5,qI 32 3 30 31,qF 33 2 32,qL 34 33,qM 35 1,oo 36 (.ca .pure false (.f JD) [.t 34,.t 35]),qM 1 36]) (.sq (rg [qM 37 1,oo 38 (.bi .lss 0 (.t 37) (i6 0))]) (.cd (.t 38) (.sq (rg [om 4 (i6 (-1))]) (.rt)) (.sk)))))))))
 (rg [qM 10 5,oo 11 (.bi .add 0 (.t 10) (i6 1)),qM 5 11])))))) (.sq (rg [qM 39 1,qM 4 39]) (.rt)))) }
theorem ZaC:ZX Proofs.Tryz.prog Vv Wo=true:=by kernel_rfl
def Xp:F2 :=
 { nt:=22,res:=[.t 4 [0]],body:=(.sq (rg [om 4 (i6 0)]) (.sq (.sq (rg [om 5 (i6 0)]) (.bl 0 (.lp [0,1,5] [] (.sq (.sq (rg [qM 6 5,qM 7 0,qN 8 7,qB 9 .lss 6 8]) (.cd (.t 9) (.sk) (.ex 0))) (.sq (.bl 1 (.sq (.sq (.rg (some 0) [qM 12 0,qM 13 5,qI 14 1 12 13,qL 15 14,qM 16 1,oo 17 (.ca .pure false (.f Jc) [.t 16]),qB 18 .neq 15 17]) (.cd (.t 18) (.sq (rg [om 4 (i6 (-1))]) (.rt)) (.sk)))
 (rg [qM 19 1,oo 20 (.bi .add 0 (.t 19) (i6 1)),qM 1 20])))
 (rg [qM 10 5,oo 11 (.bi .add 0 (.t 10) (i6 1)),qM 5 11])))))) (.sq (rg [qM 21 1,qM 4 21]) (.rt)))) }
theorem DA:ZX Proofs.Tryz.prog YF Xp=true:=by kernel_rfl
def Wp:F2 :=
 { nt:=32,res:=[.t 4 [0]],body:=(.sq (rg [om 4 (i6 0)]) (.sq (.sq (rg [om 5 (i6 0)]) (.bl 0 (.lp [0,1,5] [] (.sq (.sq (rg [qM 6 5,qM 7 0,qN 8 7,qB 9 .lss 6 8]) (.cd (.t 9) (.sk) (.ex 0))) (.sq (.bl 1 (.sq (.sq (.rg (some 0) [qM 12 0,qM 13 5,qI 14 2 12 13,qF 15 0 14,qL 16 15,qM 17 1,oo 18 (.ca .pure false (.f Jc) [.t 17]),qB 19 .neq 16 18]) (.cd (.t 19) (.sq (rg [om 4 (i6 (-1))]) (.rt)) (.sk))) (.sq (rg [qM 20 1,oo 21 (.bi .add 0 (.t 20) (i6 1)),qM 1 21]) (.sq (.sq (rg [qM 22 0,qM 23 5,qI 24 2 22 23,qF 25 1 24,qL 26 25,qM 27 1,qB 28 .neq 26 27]) (.cd (.t 28) (.sq (rg [om 4 (i6 (-1))]) (.rt)) (.sk)))
 (rg [qM 29 1,oo 30 (.bi .add 0 (.t 29) (i6 1)),qM 1 30])))))
 (rg [qM 10 5,oo 11 (.bi .add 0 (.t 10) (i6 1)),qM 5 11])))))) (.sq (rg [qM 31 1,qM 4 31]) (.rt)))) }
theorem ZaD:ZX Proofs.Tryz.prog Vw Wp=true:=by kernel_rfl
end Go.Fd

/-
  THE TEXT OF A MARK; THE MARKS OF NUMBERS AND TEXTS. Own work.
-/
namespace Go.Fd
set_option maxRecDepth 20000
abbrev DB(_:Int)(k:Int):Int:=k
abbrev Jk(_:Int):Nat:=1
def mt(q:Nat)(o:ByteArray):ByteArray:=if q=0 then o else mt (q / 10) (⟨#[UInt8.ofNat (48+q % 10)]⟩++o)
 termination_by q
 decreasing_by omega
theorem Zot{q:Nat}{o:ByteArray}(h:0<q):mt q o=mt (q / 10) (⟨#[UInt8.ofNat (48+q % 10)]⟩++o):=by
 rw[mt,if_neg (by omega)]
theorem Zlu{o:ByteArray}:mt 0 o=o:=by rw[mt,if_pos rfl]
def Zik(k:Int):ByteArray:=if k<=0 then ⟨#[109,48]⟩ else ⟨#[109]⟩++mt k.toNat ⟨#[]⟩
theorem V6(k:Int)(h:k<=4611686018427387904)(lvl:Nat)(S:Sto):Sem Proofs.Tryz.prog Jc lvl [iI k] S (iS (Zik k)) S:=by
 refine Zb ZbN trivial ?_
 simp only[W2,EVA,seval,Zd,men]
 unfold Zik
 refine Zl (fun h0=>?_) (fun h0=>?_)
 ·rw[if_pos h0]
 ·rw[if_neg h0]
  obtain⟨K,hK⟩:∃ K:Nat,k=K:=⟨k.toNat,by omega⟩
  subst hK
  rw[Int.toNat_natCast]
  refine ZT (α:=Nat×ByteArray) K (fun j y=>⟨lvl,[(0,iI y.1),(3,iS y.2)],[],S⟩) (fun j y=>y.1+j<=K/\mt y.1 y.2=mt K ⟨#[]⟩/\y.1*10 ^ y.2.size<=K/\y.2.size<=19) (K,⟨#[]⟩) ⟨by simp only[EVA,seval,Zd,men],by simp only[EVA,seval,Zd,men]⟩ ⟨Nat.le_refl _,rfl,Nat.le_of_eq (Nat.mul_one K),(by decide:(0:Nat)<=19)⟩ ?_
  intro j y hj hA
  obtain⟨q,o⟩:=y
  obtain⟨h1,h2,h3,h4⟩:=hA
  simp only at h1 h2 h3 h4
  simp only[EVA,seval,Zd,men]
  refine Zl (fun hq=>?_) (fun hq=>?_)
  ·have hq0:0<q:=by omega
   have hby:byR [[Tr.v (Value.int IntKind.u8 (48+(q:Int) % 10))]]=some [UInt8.ofNat (48+q % 10)]:=by
    have e:(48+(q:Int) % 10).toNat=48+q % 10:=by omega
    simp only[cut,List.replicate_one,List.set_cons_zero,List.drop_zero,List.take_succ_cons,List.take_zero,byR,Option.map_some,e]
   have h5:o.size<19:=by
    apply Classical.byContradiction
    intro hc
    have e:o.size=19:=by omega
    rw[e] at h3
    have:1*10 ^ 19<=q*10 ^ 19:=Nat.mul_le_mul_right _ hq0
    omega
   have h6:q / 10*10 ^ (o.size+1)<=K:=by
    refine Nat.le_trans ?_ h3
    rw[Nat.pow_succ,Nat.mul_comm (10 ^ o.size) 10,<-Nat.mul_assoc]
    exact Nat.mul_le_mul_right _ (by omega)
   rw[hby]
   simp only[EVA,seval,Zd,men]
   have hs:(ByteArray.mk #[UInt8.ofNat (48+q % 10)]++o).size=o.size+1:=by
    rw[ByteArray.size_append,Nat.add_comm];rfl
   have e8:Qz .u8 (48+(q:Int) % 10):=by
    constructor
    ·show (0:Int)<=_;omega
    ·show _<=(255:Int);omega
   refine⟨by rw[Ze];omega,e8,?_,by rw[Ze];omega,Zf (q / 10,ByteArray.mk #[UInt8.ofNat (48+q % 10)]++o) (by omega) ?_ ⟨by simp only;omega,?_,?_,?_⟩⟩
   ·show 1+o.size<=4294967296
    omega
   ·rfl
   ·rw[<-h2,Zot hq0]
   ·simp only[hs];exact h6
   ·simp only[hs];omega
  ·have:q=0:=by omega
   subst this
   rw[<-h2,Zlu]
   refine⟨?_,rfl⟩
   show 1+o.size<=4294967296
   omega
abbrev ZaY(_:ByteArray)(k:Int):ByteArray:=Zik k
abbrev Yb(_:ByteArray):Nat:=1
end Go.Fd

/-
  WHAT THE MARKING FUNCTIONS DO (printed by lawgen.py). Own work.
-/
namespace Go.Fd
set_option maxRecDepth 20000
theorem ZbO:MarkS Proofs.Tryz.prog JC (fun n:Int=>[tv n]) DB Jk (fun _=>True):=by
 intro a k lvl S id p es r0 kk hw ver st cap hid hv hst h0 hk hl hB
 have hne:id.1≠lvl:=by omega
 have hgp:∀ r,getp (XN es p r) p=some r:=fun r=>QI hv
 refine Zb ZbJ trivial ?_
 simp only[WY,EVA,seval,Zd,men]
 refine ZT (α:=Unit) a.length (fun j _=>⟨lvl,[(0,.hd id p 0 a.length cap st),(1,iI (kJ Jk a k j)),(5,iI j)],[],ZB S id (.ar kk (XN es p ((lJ DB Jk a k j).map (fun n:Int=>[tv n]))) true hw ver)⟩) (fun _ _=>True) () ⟨by simp only[Zs hne,EVA,seval,Zd,men],by (simp only[X2,Zbo,EVA,seval,Zd,men]) <;> rfl⟩ trivial ?_
 intro j _ hj _
 simp only[List.length_map,EVA,seval,Zd,men]
 refine Zl (fun hlt=>?_) (fun hge=>?_)
 ·have hja:j<a.length:=by omega
  obtain⟨R,hjR,hR,hR'⟩:=Zev DB Jk (fun n:Int=>[tv n]) (k:=k) hja
  have hge2:=Zdf Jk (a:=a) (k:=k) (j:=j+1)
  rw[J1 Jk hja] at hge2
  have hge3:=Zdg Jk (a:=a) (k:=k) (j:=j)
  rw[hR]
  try simp only[Jk] at hge2
  try simp only[Y2 hne,VQ hne,JY,We,hst,hgp,VS hjR,Qr hv hjR,Nat.zero_add,hja,Zs hne,List.length_map,tv,EVA,seval,Zd,men]
  refine⟨by rw[Ze];omega,⟨by rw[Ze];omega,Zf () hja ?_ trivial⟩⟩
  rw[J1 Jk hja,hR']
  simp only[Jk,DB,tv,Int.natCast_add,Int.natCast_one,Int.add_assoc]
  try rfl
 ·have:j=a.length:=by omega
  subst this
  rw[U7,Zeu]
  exact⟨rfl,rfl⟩
def X8(x:TNode)(k:Int):TNode:={ control:=k,parent:=k+1,links:=mL DB Jk x.links (k+1+1) }
def Zz(x:TNode):Nat:=1+1+nL Jk x.links
theorem ZgL:MarkS Proofs.Tryz.prog Vt Zy X8 Zz (QJ 4294967296):=by
 intro a k lvl S id p es r0 kk hw ver st cap hid hv hst h0 hk hl hB
 have hne:id.1≠lvl:=by omega
 have hgp:∀ r,getp (XN es p r) p=some r:=fun r=>QI hv
 refine Zb ZaA trivial ?_
 simp only[Wm,EVA,seval,Zd,men]
 refine ZT (α:=Unit) a.length (fun j _=>⟨lvl,[(0,.hd id p 0 a.length cap st),(1,iI (kJ Zz a k j)),(5,iI j)],[],ZB S id (.ar kk (XN es p ((lJ X8 Zz a k j).map Zy)) true hw ver)⟩) (fun _ _=>True) () ⟨by simp only[Zs hne,EVA,seval,Zd,men],by (simp only[X2,Zbo,EVA,seval,Zd,men]) <;> rfl⟩ trivial ?_
 intro j _ hj _
 simp only[List.length_map,EVA,seval,Zd,men]
 refine Zl (fun hlt=>?_) (fun hge=>?_)
 ·have hja:j<a.length:=by omega
  obtain⟨R,hjR,hR,hR'⟩:=Zev X8 Zz Zy (k:=k) hja
  have hge2:=Zdf Zz (a:=a) (k:=k) (j:=j+1)
  rw[J1 Zz hja] at hge2
  have hge3:=Zdg Zz (a:=a) (k:=k) (j:=j)
  rw[hR]
  try simp only[Zz] at hge2
  have hb:=hB _ (List.getElem_mem hja)
  have b0:(a[j]).links.length<=4294967296:=hb
  try simp only[Y2 hne,VQ hne,JY,We,hst,hgp,VS hjR,Qr hv hjR,Nat.zero_add,hja,Zs hne,List.length_map,Zy,EVA,seval,Zd,men]
  refine⟨by rw[Ze];omega,⟨by rw[Ze];omega,?_⟩⟩
  simp only[ZbT]
  refine Zjd ZbO hid hv (by omega) (by omega) b0 (fun _ _=>trivial) hjR rfl (by simp only[List.length_map]) ?_
  simp only[List.set_cons_succ,List.set_cons_zero,Y2 hne,VQ hne,JY,We,hst,hgp,VS hjR,Qr hv hjR,Nat.zero_add,hja,Zs hne,List.length_map,Zy,EVA,seval,Zd,men]
  refine⟨by rw[Ze];omega,Zf () hja ?_ trivial⟩
  rw[J1 Zz hja,hR']
  simp only[Zz,X8,Zy,Int.natCast_add,Int.natCast_one,Int.add_assoc]
  try rfl
 ·have:j=a.length:=by omega
  subst this
  rw[U7,Zeu]
  exact⟨rfl,rfl⟩
theorem ZeU:MarkS Proofs.Tryz.prog YC (fun n:ByteArray=>[ts n]) ZaY Yb (fun x=>x.size<=4294967296):=by
 intro a k lvl S id p es r0 kk hw ver st cap hid hv hst h0 hk hl hB
 have hne:id.1≠lvl:=by omega
 have hgp:∀ r,getp (XN es p r) p=some r:=fun r=>QI hv
 refine Zb Dx trivial ?_
 simp only[Xm,EVA,seval,Zd,men]
 refine ZT (α:=Unit) a.length (fun j _=>⟨lvl,[(0,.hd id p 0 a.length cap st),(1,iI (kJ Yb a k j)),(5,iI j)],[],ZB S id (.ar kk (XN es p ((lJ ZaY Yb a k j).map (fun n:ByteArray=>[ts n]))) true hw ver)⟩) (fun _ _=>True) () ⟨by simp only[Zs hne,EVA,seval,Zd,men],by (simp only[X2,Zbo,EVA,seval,Zd,men]) <;> rfl⟩ trivial ?_
 intro j _ hj _
 simp only[List.length_map,EVA,seval,Zd,men]
 refine Zl (fun hlt=>?_) (fun hge=>?_)
 ·have hja:j<a.length:=by omega
  obtain⟨R,hjR,hR,hR'⟩:=Zev ZaY Yb (fun n:ByteArray=>[ts n]) (k:=k) hja
  have hge2:=Zdf Yb (a:=a) (k:=k) (j:=j+1)
  rw[J1 Yb hja] at hge2
  have hge3:=Zdg Yb (a:=a) (k:=k) (j:=j)
  rw[hR]
  try simp only[Yb] at hge2
  try simp only[Y2 hne,VQ hne,JY,We,hst,hgp,VS hjR,Qr hv hjR,Nat.zero_add,hja,Zs hne,List.length_map,tv,EVA,seval,Zd,men]
  refine Za (V6 (kJ Yb a k j) (by omega)) ?_
  simp only[Y2 hne,VQ hne,JY,We,hst,hgp,VS hjR,Qr hv hjR,Nat.zero_add,hja,Zs hne,List.length_map,tv,EVA,seval,Zd,men]
  refine⟨by rw[Ze];omega,⟨by rw[Ze];omega,Zf () hja ?_ trivial⟩⟩
  rw[J1 Yb hja,hR']
  simp only[Yb,ZaY,tv,Int.natCast_add,Int.natCast_one,Int.add_assoc]
  try rfl
 ·have:j=a.length:=by omega
  subst this
  rw[U7,Zeu]
  exact⟨rfl,rfl⟩
def X9(x:TWire)(k:Int):TWire:={ name:=Zik (k),link:=k+1 }
def Z3(x:TWire):Nat:=1+1
theorem ZgM:MarkS Proofs.Tryz.prog Vu ZF X9 Z3 (V1 4294967296):=by
 intro a k lvl S id p es r0 kk hw ver st cap hid hv hst h0 hk hl hB
 have hne:id.1≠lvl:=by omega
 have hgp:∀ r,getp (XN es p r) p=some r:=fun r=>QI hv
 refine Zb ZaB trivial ?_
 simp only[Wn,EVA,seval,Zd,men]
 refine ZT (α:=Unit) a.length (fun j _=>⟨lvl,[(0,.hd id p 0 a.length cap st),(1,iI (kJ Z3 a k j)),(5,iI j)],[],ZB S id (.ar kk (XN es p ((lJ X9 Z3 a k j).map ZF)) true hw ver)⟩) (fun _ _=>True) () ⟨by simp only[Zs hne,EVA,seval,Zd,men],by (simp only[X2,Zbo,EVA,seval,Zd,men]) <;> rfl⟩ trivial ?_
 intro j _ hj _
 simp only[List.length_map,EVA,seval,Zd,men]
 refine Zl (fun hlt=>?_) (fun hge=>?_)
 ·have hja:j<a.length:=by omega
  obtain⟨R,hjR,hR,hR'⟩:=Zev X9 Z3 ZF (k:=k) hja
  have hge2:=Zdf Z3 (a:=a) (k:=k) (j:=j+1)
  rw[J1 Z3 hja] at hge2
  have hge3:=Zdg Z3 (a:=a) (k:=k) (j:=j)
  rw[hR]
  try simp only[Z3] at hge2
  have hb:=hB _ (List.getElem_mem hja)
  have b0:(a[j]).name.size<=4294967296:=hb
  try simp only[Y2 hne,VQ hne,JY,We,hst,hgp,VS hjR,Qr hv hjR,Nat.zero_add,hja,Zs hne,List.length_map,ZF,EVA,seval,Zd,men]
  refine Za (V6 (kJ Z3 a k j) (by omega)) ?_
  simp only[Y2 hne,VQ hne,JY,We,hst,hgp,VS hjR,Qr hv hjR,Nat.zero_add,hja,Zs hne,List.length_map,ZF,EVA,seval,Zd,men]
  refine⟨by rw[Ze];omega,⟨by rw[Ze];omega,⟨by rw[Ze];omega,Zf () hja ?_ trivial⟩⟩⟩
  rw[J1 Z3 hja,hR']
  simp only[Z3,X9,ZF,Int.natCast_add,Int.natCast_one,Int.add_assoc]
  try rfl
 ·have:j=a.length:=by omega
  subst this
  rw[U7,Zeu]
  exact⟨rfl,rfl⟩
def ZaZ(x:TControl)(k:Int):TControl:={ name:=Zik (k),ports:=k+1,kind_:=k+1+1 }
def JP(x:TControl):Nat:=1+1+1
theorem ZdJ:MarkS Proofs.Tryz.prog Yj Zi ZaZ JP (ZH 4294967296):=by
 intro a k lvl S id p es r0 kk hw ver st cap hid hv hst h0 hk hl hB
 have hne:id.1≠lvl:=by omega
 have hgp:∀ r,getp (XN es p r) p=some r:=fun r=>QI hv
 refine Zb UL trivial ?_
 simp only[Q3,EVA,seval,Zd,men]
 refine ZT (α:=Unit) a.length (fun j _=>⟨lvl,[(0,.hd id p 0 a.length cap st),(1,iI (kJ JP a k j)),(5,iI j)],[],ZB S id (.ar kk (XN es p ((lJ ZaZ JP a k j).map Zi)) true hw ver)⟩) (fun _ _=>True) () ⟨by simp only[Zs hne,EVA,seval,Zd,men],by (simp only[X2,Zbo,EVA,seval,Zd,men]) <;> rfl⟩ trivial ?_
 intro j _ hj _
 simp only[List.length_map,EVA,seval,Zd,men]
 refine Zl (fun hlt=>?_) (fun hge=>?_)
 ·have hja:j<a.length:=by omega
  obtain⟨R,hjR,hR,hR'⟩:=Zev ZaZ JP Zi (k:=k) hja
  have hge2:=Zdf JP (a:=a) (k:=k) (j:=j+1)
  rw[J1 JP hja] at hge2
  have hge3:=Zdg JP (a:=a) (k:=k) (j:=j)
  rw[hR]
  try simp only[JP] at hge2
  have hb:=hB _ (List.getElem_mem hja)
  have b0:(a[j]).name.size<=4294967296:=hb
  try simp only[Y2 hne,VQ hne,JY,We,hst,hgp,VS hjR,Qr hv hjR,Nat.zero_add,hja,Zs hne,List.length_map,Zi,EVA,seval,Zd,men]
  refine Za (V6 (kJ JP a k j) (by omega)) ?_
  simp only[Y2 hne,VQ hne,JY,We,hst,hgp,VS hjR,Qr hv hjR,Nat.zero_add,hja,Zs hne,List.length_map,Zi,EVA,seval,Zd,men]
  refine⟨by rw[Ze];omega,⟨by rw[Ze];omega,⟨by rw[Ze];omega,⟨by rw[Ze];omega,Zf () hja ?_ trivial⟩⟩⟩⟩
  rw[J1 JP hja,hR']
  simp only[JP,ZaZ,Zi,Int.natCast_add,Int.natCast_one,Int.add_assoc]
  try rfl
 ·have:j=a.length:=by omega
  subst this
  rw[U7,Zeu]
  exact⟨rfl,rfl⟩
end Go.Fd

/-
  The annotated codes of the functions, printed by a program of mine (gen.py), and the check that they belong to the program.
-/
namespace Go.Fd
def XL:F2 :=
 { nt:=23,res:=[.t 2 [4]],body:=(.sq (rg [om 2 (.k (.slice none 0 0))]) (.sq (rg [qM 5 0,qN 6 5,oo 7 (.ms 3 [.string ⟨#[]⟩,.int .i64 0,.int .i64 0] (.t 6)),qM 3 7]) (.sq (.sq (rg [om 4 (i6 0)]) (.bl 0 (.lp [0,3,4] [224] (.sq (.sq (rg [qM 8 4,qM 9 0,qN 10 9,qB 11 .lss 8 10]) (.cd (.t 11) (.sk) (.ex 0))) (.sq (.bl 1 (rg [qM 14 3,qM 15 4,qM 16 0,qM 17 4,qI 18 3 16 17,qS 19 3 18,oo 20 (.ca .pure true (.f Vn) [.t 19]),qI 21 3 14 15,on1 (.st 3 (.t 21) (.t 20))]))
 (rg [qM 12 4,oo 13 (.bi .add 0 (.t 12) (i6 1)),qM 4 13])))))) (.sq (rg [qM 22 3,qM 2 22]) (.rt))))) }
theorem Zad:ZX Proofs.Tryz.prog Jb XL=true:=by kernel_rfl
def DC:F2 :=
 { nt:=24,res:=[.t 4 [0]],body:=(.sq (rg [oo 2 (.bt (.t 0)),om 4 (i6 0)]) (.sq (rg [qF 5 0 2,qS 6 6 5,qM 7 1,oo 8 (.ca .pure false (.f J4) [.t 6,.t 7]),qM 1 8]) (.sq (.sq (rg [qM 9 1,oo 10 (.bi .lss 0 (.t 9) (i6 0))]) (.cd (.t 10) (.sq (rg [om 4 (i6 (-1))]) (.rt)) (.sk))) (.sq (rg [qF 11 6 2,qS 12 6 11,qM 13 1,oo 14 (.ca .pure false (.f J4) [.t 12,.t 13]),qM 1 14]) (.sq (.sq (rg [qM 15 1,oo 16 (.bi .lss 0 (.t 15) (i6 0))]) (.cd (.t 16) (.sq (rg [om 4 (i6 (-1))]) (.rt)) (.sk))) (.sq (rg [qF 17 12 2,qL 18 17,qM 19 1,oo 20 (.ca .pure false (.f Yk) [.t 18,.t 19]),qM 1 20]) (.sq (.sq (rg [qM 21 1,oo 22 (.bi .lss 0 (.t 21) (i6 0))]) (.cd (.t 22) (.sq (rg [om 4 (i6 (-1))]) (.rt)) (.sk))) (.sq (rg [qM 23 1,qM 4 23]) (.rt))))))))) }
theorem ZdK:ZX Proofs.Tryz.prog QK DC=true:=by kernel_rfl
def DD:F2 :=
 { nt:=17,res:=[.c 2 (some 13) [0,4,2,0,2,3,0,4,2,0,2,3,2]],body:=(.sq (rg [oo 1 (.bt (.t 0)),oo 2 (.al [.int .i64 0,.slice none 0 0,.slice none 0 0,.int .i64 0,.slice none 0 0,.slice none 0 0,.int .i64 0,.slice none 0 0,.slice none 0 0,.int .i64 0,.slice none 0 0,.slice none 0 0,.slice none 0 0] [])]) (.sq (rg [oo 3 (.al [.int .i64 0,.slice none 0 0,.slice none 0 0,.int .i64 0,.slice none 0 0,.slice none 0 0,.int .i64 0,.slice none 0 0,.slice none 0 0,.int .i64 0,.slice none 0 0,.slice none 0 0,.slice none 0 0] [])]) (.sq (rg [qF 4 0 1,qS 5 6 4,oo 6 (.ca .pure true (.f J5) [.t 5]),qF 7 0 3,on1 (.st 6 (.t 7) (.t 6))]) (.sq (rg [qF 8 6 1,qS 9 6 8,oo 10 (.ca .pure true (.f J5) [.t 9]),qF 11 6 3,on1 (.st 6 (.t 11) (.t 10))]) (.sq (rg [qF 12 12 1,qL 13 12,oo 14 (.ca .pure true (.f Yl) [.t 13]),qF 15 12 3,on1 (.st 1 (.t 15) (.t 14))]) (.sq (rg [qS 16 13 3,on1 (.st 13 (.t 2) (.t 16))]) (.rt))))))) }
theorem ZdL:ZX Proofs.Tryz.prog JE DD=true:=by kernel_rfl
def DE:F2 :=
 { nt:=23,res:=[.t 4 [0]],body:=(.sq (rg [oo 2 (.bt (.t 0)),oo 3 (.bt (.t 1)),om 4 (.k (.bool false))]) (.sq (.sq (rg [qF 5 0 2,qS 6 6 5,qF 7 0 3,qS 8 6 7,oo 9 (.ca .pure false (.f J6) [.t 6,.t 8]),oo 10 (.nt (.t 9))]) (.cd (.t 10) (.sq (rg [om 4 (.k (.bool false))]) (.rt)) (.sk))) (.sq (.sq (rg [qF 11 6 2,qS 12 6 11,qF 13 6 3,qS 14 6 13,oo 15 (.ca .pure false (.f J6) [.t 12,.t 14]),oo 16 (.nt (.t 15))]) (.cd (.t 16) (.sq (rg [om 4 (.k (.bool false))]) (.rt)) (.sk))) (.sq (.sq (rg [qF 17 12 2,qL 18 17,qF 19 12 3,qL 20 19,oo 21 (.ca .pure false (.f Yi) [.t 18,.t 20]),oo 22 (.nt (.t 21))]) (.cd (.t 22) (.sq (rg [om 4 (.k (.bool false))]) (.rt)) (.sk))) (.sq (rg [om 4 (.k (.bool true))]) (.rt)))))) }
theorem ZdM:ZX Proofs.Tryz.prog JF DE=true:=by kernel_rfl
def Wq:F2 :=
 { nt:=13,res:=[.t 4 [0]],body:=(.sq (rg [oo 2 (.bt (.t 0)),om 4 (i6 0)]) (.sq (rg [qM 5 1,qF 6 0 2,qL 7 6,oo 8 (.lg (.t 7)),qB 9 .sub 5 8,qM 1 9]) (.sq (.sq (rg [qM 10 1,oo 11 (.bi .lss 0 (.t 10) (i6 0))]) (.cd (.t 11) (.sq (rg [om 4 (i6 (-1))]) (.rt)) (.sk))) (.sq (rg [qM 12 1,qM 4 12]) (.rt))))) }
theorem ZaE:ZX Proofs.Tryz.prog Vm Wq=true:=by kernel_rfl
def Wr:F2 :=
 { nt:=14,res:=[.c 2 (some 3) [0,0,0]],body:=(.sq (rg [oo 1 (.bt (.t 0)),oo 2 (.al [.string ⟨#[]⟩,.int .i64 0,.int .i64 0] [])]) (.sq (rg [oo 3 (.al [.string ⟨#[]⟩,.int .i64 0,.int .i64 0] [])]) (.sq (rg [qF 4 0 1,qL 5 4,qF 6 0 3,on1 (.st 1 (.t 6) (.t 5))]) (.sq (rg [qF 7 1 1,qL 8 7,qF 9 1 3,on1 (.st 1 (.t 9) (.t 8))]) (.sq (rg [qF 10 2 1,qL 11 10,qF 12 2 3,on1 (.st 1 (.t 12) (.t 11))]) (.sq (rg [qS 13 3 3,on1 (.st 3 (.t 2) (.t 13))]) (.rt))))))) }
theorem ZaF:ZX Proofs.Tryz.prog Vn Wr=true:=by kernel_rfl
def Ws:F2 :=
 { nt:=20,res:=[.t 4 [0]],body:=(.sq (rg [oo 2 (.bt (.t 0)),oo 3 (.bt (.t 1)),om 4 (.k (.bool false))]) (.sq (.sq (rg [qF 5 0 2,qL 6 5,qF 7 0 3,qL 8 7,qB 9 .neq 6 8]) (.cd (.t 9) (.sq (rg [om 4 (.k (.bool false))]) (.rt)) (.sk))) (.sq (.sq (rg [qF 10 1 2,qL 11 10,qF 12 1 3,qL 13 12,qB 14 .neq 11 13]) (.cd (.t 14) (.sq (rg [om 4 (.k (.bool false))]) (.rt)) (.sk))) (.sq (.sq (rg [qF 15 2 2,qL 16 15,qF 17 2 3,qL 18 17,qB 19 .neq 16 18]) (.cd (.t 19) (.sq (rg [om 4 (.k (.bool false))]) (.rt)) (.sk))) (.sq (rg [om 4 (.k (.bool true))]) (.rt)))))) }
theorem ZaG:ZX Proofs.Tryz.prog Vo Ws=true:=by kernel_rfl
def Wt:F2 :=
 { nt:=30,res:=[.t 4 [0]],body:=(.sq (rg [oo 2 (.bt (.t 0)),om 4 (i6 0)]) (.sq (rg [qF 5 1 2,qL 6 5,qM 7 1,oo 8 (.ca .pure false (.f Qa) [.t 6,.t 7]),qM 1 8]) (.sq (.sq (rg [qM 9 1,oo 10 (.bi .lss 0 (.t 9) (i6 0))]) (.cd (.t 10) (.sq (rg [om 4 (i6 (-1))]) (.rt)) (.sk))) (.sq (rg [qF 11 2 2,qL 12 11,qM 13 1,oo 14 (.ca .pure false (.f Yk) [.t 12,.t 13]),qM 1 14]) (.sq (.sq (rg [qM 15 1,oo 16 (.bi .lss 0 (.t 15) (i6 0))]) (.cd (.t 16) (.sq (rg [om 4 (i6 (-1))]) (.rt)) (.sk))) (.sq (rg [qF 17 4 2,qL 18 17,qM 19 1,oo 20 (.ca .pure false (.f Vp) [.t 18,.t 19]),qM 1 20]) (.sq (.sq (rg [qM 21 1,oo 22 (.bi .lss 0 (.t 21) (i6 0))]) (.cd (.t 22) (.sq (rg [om 4 (i6 (-1))]) (.rt)) (.sk))) (.sq (rg [qF 23 5 2,qL 24 23,qM 25 1,oo 26 (.ca .pure false (.f Qb) [.t 24,.t 25]),qM 1 26]) (.sq (.sq (rg [qM 27 1,oo 28 (.bi .lss 0 (.t 27) (i6 0))]) (.cd (.t 28) (.sq (rg [om 4 (i6 (-1))]) (.rt)) (.sk))) (.sq (rg [qM 29 1,qM 4 29]) (.rt))))))))))) }
theorem ZaH:ZX Proofs.Tryz.prog J4 Wt=true:=by kernel_rfl
def Wu:F2 :=
 { nt:=27,res:=[.c 2 (some 6) [0,4,2,0,2,3]],body:=(.sq (rg [oo 1 (.bt (.t 0)),oo 2 (.al [.int .i64 0,.slice none 0 0,.slice none 0 0,.int .i64 0,.slice none 0 0,.slice none 0 0] [])]) (.sq (rg [oo 3 (.al [.int .i64 0,.slice none 0 0,.slice none 0 0,.int .i64 0,.slice none 0 0,.slice none 0 0] [])]) (.sq (rg [qF 4 0 1,qL 5 4,qF 6 0 3,on1 (.st 1 (.t 6) (.t 5))]) (.sq (rg [qF 7 1 1,qL 8 7,oo 9 (.ca .pure true (.f Qd) [.t 8]),qF 10 1 3,on1 (.st 1 (.t 10) (.t 9))]) (.sq (rg [qF 11 2 1,qL 12 11,oo 13 (.ca .pure true (.f Yl) [.t 12]),qF 14 2 3,on1 (.st 1 (.t 14) (.t 13))]) (.sq (rg [qF 15 3 1,qL 16 15,qF 17 3 3,on1 (.st 1 (.t 17) (.t 16))]) (.sq (rg [qF 18 4 1,qL 19 18,oo 20 (.ca .pure true (.f Vq) [.t 19]),qF 21 4 3,on1 (.st 1 (.t 21) (.t 20))]) (.sq (rg [qF 22 5 1,qL 23 22,oo 24 (.ca .pure true (.f Qe) [.t 23]),qF 25 5 3,on1 (.st 1 (.t 25) (.t 24))]) (.sq (rg [qS 26 6 3,on1 (.st 6 (.t 2) (.t 26))]) (.rt)))))))))) }
theorem ZaI:ZX Proofs.Tryz.prog J5 Wu=true:=by kernel_rfl
def Wv:F2 :=
 { nt:=39,res:=[.t 4 [0]],body:=(.sq (rg [oo 2 (.bt (.t 0)),oo 3 (.bt (.t 1)),om 4 (.k (.bool false))]) (.sq (.sq (rg [qF 5 0 2,qL 6 5,qF 7 0 3,qL 8 7,qB 9 .neq 6 8]) (.cd (.t 9) (.sq (rg [om 4 (.k (.bool false))]) (.rt)) (.sk))) (.sq (.sq (rg [qF 10 1 2,qL 11 10,qF 12 1 3,qL 13 12,oo 14 (.ca .pure false (.f Qf) [.t 11,.t 13]),oo 15 (.nt (.t 14))]) (.cd (.t 15) (.sq (rg [om 4 (.k (.bool false))]) (.rt)) (.sk))) (.sq (.sq (rg [qF 16 2 2,qL 17 16,qF 18 2 3,qL 19 18,oo 20 (.ca .pure false (.f Yi) [.t 17,.t 19]),oo 21 (.nt (.t 20))]) (.cd (.t 21) (.sq (rg [om 4 (.k (.bool false))]) (.rt)) (.sk))) (.sq (.sq (rg [qF 22 3 2,qL 23 22,qF 24 3 3,qL 25 24,qB 26 .neq 23 25]) (.cd (.t 26) (.sq (rg [om 4 (.k (.bool false))]) (.rt)) (.sk))) (.sq (.sq (rg [qF 27 4 2,qL 28 27,qF 29 4 3,qL 30 29,oo 31 (.ca .pure false (.f Vr) [.t 28,.t 30]),oo 32 (.nt (.t 31))]) (.cd (.t 32) (.sq (rg [om 4 (.k (.bool false))]) (.rt)) (.sk))) (.sq (.sq (rg [qF 33 5 2,qL 34 33,qF 35 5 3,qL 36 35,oo 37 (.ca .pure false (.f Qg) [.t 34,.t 36]),oo 38 (.nt (.t 37))]) (.cd (.t 38) (.sq (rg [om 4 (.k (.bool false))]) (.rt)) (.sk))) (.sq (rg [om 4 (.k (.bool true))]) (.rt))))))))) }
theorem ZaJ:ZX Proofs.Tryz.prog J6 Wv=true:=by kernel_rfl
def UE:F2 :=
 { nt:=23,res:=[.t 2 [4]],body:=(.sq (rg [om 2 (.k (.slice none 0 0))]) (.sq (rg [qM 5 0,qN 6 5,oo 7 (.ms 3 [.int .i64 0,.int .i64 0,.slice none 0 0] (.t 6)),qM 3 7]) (.sq (.sq (rg [om 4 (i6 0)]) (.bl 0 (.lp [0,3,4] [224,640] (.sq (.sq (rg [qM 8 4,qM 9 0,qN 10 9,qB 11 .lss 8 10]) (.cd (.t 11) (.sk) (.ex 0))) (.sq (.bl 1 (rg [qM 14 3,qM 15 4,qM 16 0,qM 17 4,qI 18 3 16 17,qS 19 3 18,oo 20 (.ca .pure true (.f QW) [.t 19]),qI 21 3 14 15,on1 (.st 3 (.t 21) (.t 20))]))
 (rg [qM 12 4,oo 13 (.bi .add 0 (.t 12) (i6 1)),qM 4 13])))))) (.sq (rg [qM 22 3,qM 2 22]) (.rt))))) }
theorem Zce:ZX Proofs.Tryz.prog Qd UE=true:=by kernel_rfl
def UF:F2 :=
 { nt:=23,res:=[.t 2 [3]],body:=(.sq (rg [om 2 (.k (.slice none 0 0))]) (.sq (rg [qM 5 0,qN 6 5,oo 7 (.ms 2 [.string ⟨#[]⟩,.int .i64 0] (.t 6)),qM 3 7]) (.sq (.sq (rg [om 4 (i6 0)]) (.bl 0 (.lp [0,3,4] [224] (.sq (.sq (rg [qM 8 4,qM 9 0,qN 10 9,qB 11 .lss 8 10]) (.cd (.t 11) (.sk) (.ex 0))) (.sq (.bl 1 (rg [qM 14 3,qM 15 4,qM 16 0,qM 17 4,qI 18 2 16 17,qS 19 2 18,oo 20 (.ca .pure true (.f QX) [.t 19]),qI 21 2 14 15,on1 (.st 2 (.t 21) (.t 20))]))
 (rg [qM 12 4,oo 13 (.bi .add 0 (.t 12) (i6 1)),qM 4 13])))))) (.sq (rg [qM 22 3,qM 2 22]) (.rt))))) }
theorem Zcf:ZX Proofs.Tryz.prog Qe UF=true:=by kernel_rfl
def DF:F2 :=
 { nt:=12,res:=[.t 4 [0]],body:=(.sq (rg [oo 2 (.bt (.t 0)),om 4 (i6 0)]) (.sq (rg [qF 5 2 2,qL 6 5,qM 7 1,oo 8 (.ca .pure false (.f Yk) [.t 6,.t 7]),qM 1 8]) (.sq (.sq (rg [qM 9 1,oo 10 (.bi .lss 0 (.t 9) (i6 0))]) (.cd (.t 10) (.sq (rg [om 4 (i6 (-1))]) (.rt)) (.sk))) (.sq (rg [qM 11 1,qM 4 11]) (.rt))))) }
theorem ZdN:ZX Proofs.Tryz.prog QR DF=true:=by kernel_rfl
def DG:F2 :=
 { nt:=13,res:=[.t 4 [0]],body:=(.sq (rg [oo 2 (.bt (.t 0)),om 4 (i6 0)]) (.sq (rg [qM 5 1,qF 6 0 2,qL 7 6,oo 8 (.lg (.t 7)),qB 9 .sub 5 8,qM 1 9]) (.sq (.sq (rg [qM 10 1,oo 11 (.bi .lss 0 (.t 10) (i6 0))]) (.cd (.t 11) (.sq (rg [om 4 (i6 (-1))]) (.rt)) (.sk))) (.sq (rg [qM 12 1,qM 4 12]) (.rt))))) }
theorem ZdO:ZX Proofs.Tryz.prog QT DG=true:=by kernel_rfl
def DH:F2 :=
 { nt:=15,res:=[.c 2 (some 3) [0,0,2]],body:=(.sq (rg [oo 1 (.bt (.t 0)),oo 2 (.al [.int .i64 0,.int .i64 0,.slice none 0 0] [])]) (.sq (rg [oo 3 (.al [.int .i64 0,.int .i64 0,.slice none 0 0] [])]) (.sq (rg [qF 4 0 1,qL 5 4,qF 6 0 3,on1 (.st 1 (.t 6) (.t 5))]) (.sq (rg [qF 7 1 1,qL 8 7,qF 9 1 3,on1 (.st 1 (.t 9) (.t 8))]) (.sq (rg [qF 10 2 1,qL 11 10,oo 12 (.ca .pure true (.f Yl) [.t 11]),qF 13 2 3,on1 (.st 1 (.t 13) (.t 12))]) (.sq (rg [qS 14 3 3,on1 (.st 3 (.t 2) (.t 14))]) (.rt))))))) }
theorem ZdP:ZX Proofs.Tryz.prog QW DH=true:=by kernel_rfl
def DI:F2 :=
 { nt:=11,res:=[.c 2 (some 2) [0,0]],body:=(.sq (rg [oo 1 (.bt (.t 0)),oo 2 (.al [.string ⟨#[]⟩,.int .i64 0] [])]) (.sq (rg [oo 3 (.al [.string ⟨#[]⟩,.int .i64 0] [])]) (.sq (rg [qF 4 0 1,qL 5 4,qF 6 0 3,on1 (.st 1 (.t 6) (.t 5))]) (.sq (rg [qF 7 1 1,qL 8 7,qF 9 1 3,on1 (.st 1 (.t 9) (.t 8))]) (.sq (rg [qS 10 2 3,on1 (.st 2 (.t 2) (.t 10))]) (.rt)))))) }
theorem ZdQ:ZX Proofs.Tryz.prog QX DI=true:=by kernel_rfl
def DJ:F2 :=
 { nt:=21,res:=[.t 4 [0]],body:=(.sq (rg [oo 2 (.bt (.t 0)),oo 3 (.bt (.t 1)),om 4 (.k (.bool false))]) (.sq (.sq (rg [qF 5 0 2,qL 6 5,qF 7 0 3,qL 8 7,qB 9 .neq 6 8]) (.cd (.t 9) (.sq (rg [om 4 (.k (.bool false))]) (.rt)) (.sk))) (.sq (.sq (rg [qF 10 1 2,qL 11 10,qF 12 1 3,qL 13 12,qB 14 .neq 11 13]) (.cd (.t 14) (.sq (rg [om 4 (.k (.bool false))]) (.rt)) (.sk))) (.sq (.sq (rg [qF 15 2 2,qL 16 15,qF 17 2 3,qL 18 17,oo 19 (.ca .pure false (.f Yi) [.t 16,.t 18]),oo 20 (.nt (.t 19))]) (.cd (.t 20) (.sq (rg [om 4 (.k (.bool false))]) (.rt)) (.sk))) (.sq (rg [om 4 (.k (.bool true))]) (.rt)))))) }
theorem ZdR:ZX Proofs.Tryz.prog QY DJ=true:=by kernel_rfl
def DK:F2 :=
 { nt:=15,res:=[.t 4 [0]],body:=(.sq (rg [oo 2 (.bt (.t 0)),oo 3 (.bt (.t 1)),om 4 (.k (.bool false))]) (.sq (.sq (rg [qF 5 0 2,qL 6 5,qF 7 0 3,qL 8 7,qB 9 .neq 6 8]) (.cd (.t 9) (.sq (rg [om 4 (.k (.bool false))]) (.rt)) (.sk))) (.sq (.sq (rg [qF 10 1 2,qL 11 10,qF 12 1 3,qL 13 12,qB 14 .neq 11 13]) (.cd (.t 14) (.sq (rg [om 4 (.k (.bool false))]) (.rt)) (.sk))) (.sq (rg [om 4 (.k (.bool true))]) (.rt))))) }
theorem ZdS:ZX Proofs.Tryz.prog QZ DK=true:=by kernel_rfl
end Go.Fd

/-
  MARKING STRUCTS; WHETHER MARKS ARE HELD (printed by lawgen.py). Own work.
-/
namespace Go.Fd
set_option maxRecDepth 20000
def Zt(x:TBigraph):Nat:=nL Zz x.nodes+nL Jk x.sites+nL Yb x.outer+nL Z3 x.inner
theorem ZbP(x:TBigraph)(k:Int)(lvl:Nat)(S:Sto)(i1 i2 i3 i4:Oid)(k1 h1 v1 k2 h2 v2 k3 h3 v3 k4 h4 v4:Nat)(c1 c2 c3 c4:Option Nat)(l1:i1.1<lvl)(l2:i2.1<lvl)(l3:i3.1<lvl)(l4:i4.1<lvl)(n2_1:i2≠i1)(n3_1:i3≠i1)(n3_2:i3≠i2)(n4_1:i4≠i1)(n4_2:i4≠i2)(n4_3:i4≠i3)(s1:S i1=some (.ar k1 (x.nodes.map Zy) true h1 v1))(s2:S i2=some (.ar k2 (rI x.sites) true h2 v2))(s3:S i3=some (.ar k3 (rS x.outer) true h3 v3))(s4:S i4=some (.ar k4 (x.inner.map ZF) true h4 v4))(h0:0<=k)(hk:k+Zt x<=4611686018427387904)(hb:ZG 4294967296 x) :
  Sem Proofs.Tryz.prog Ji lvl [.ag [iI x.roots,.hd i1 [] 0 x.nodes.length c1 h1,.hd i2 [] 0 x.sites.length c2 h2,iI x.edges,.hd i3 [] 0 x.outer.length c3 h3,.hd i4 [] 0 x.inner.length c4 h4],iI k] S (iI (k+Zt x)) (ZB (ZB (ZB (ZB S i1 (.ar k1 (((mL X8 Zz x.nodes (k))).map Zy) true h1 v1)) i2 (.ar k2 (rI (mL DB Jk x.sites (k+(nL Zz x.nodes:Nat)))) true h2 v2)) i3 (.ar k3 (rS (mL ZaY Yb x.outer (k+(nL Zz x.nodes:Nat)+(nL Jk x.sites:Nat)))) true h3 v3)) i4 (.ar k4 (((mL X9 Z3 x.inner (k+(nL Zz x.nodes:Nat)+(nL Jk x.sites:Nat)+(nL Yb x.outer:Nat)))).map ZF) true h4 v4)):=by
 obtain⟨b0,b1,b2,b3,b4,b5,b6⟩:=hb
 have e1:i1.1≠lvl:=by omega
 have e2:i2.1≠lvl:=by omega
 have e3:i3.1≠lvl:=by omega
 have e4:i4.1≠lvl:=by omega
 simp only[Zt] at hk
 refine Zb Dy trivial ?_
 simp only[Xn,Zs e1,Zs e2,Zs e3,Zs e4,EVA,seval,Zd,men]
 simp only[ZbT]
 refine WN ZgL l1 s1 (by omega) (by omega) b0 b1 ?_
 simp only[Zs e1,Zs e2,Zs e3,Zs e4,EVA,seval,Zd,men]
 simp only[ZbT]
 refine WN ZbO l2 (by rw[ZN n2_1];exact s2) (by omega) (by omega) b2 (fun _ _=>trivial) ?_
 simp only[Zs e1,Zs e2,Zs e3,Zs e4,EVA,seval,Zd,men]
 simp only[ZbT]
 refine WN ZeU l3 (by rw[ZN n3_2,ZN n3_1];exact s3) (by omega) (by omega) b3 b4 ?_
 simp only[Zs e1,Zs e2,Zs e3,Zs e4,EVA,seval,Zd,men]
 simp only[ZbT]
 refine WN ZgM l4 (by rw[ZN n4_3,ZN n4_2,ZN n4_1];exact s4) (by omega) (by omega) b5 b6 ?_
 simp only[Zs e1,Zs e2,Zs e3,Zs e4,EVA,seval,Zd,men]
 simp only[Zt,Int.natCast_add,<-Int.add_assoc]
 try exact⟨rfl,rfl⟩
theorem Ww{x:TBigraph}{k:Int}{lvl:Nat}{out:Sto}{i1 i2 i3 i4:Oid}{k1 h1 v1 k2 h2 v2 k3 h3 v3 k4 h4 v4:Nat}{c1 c2 c3 c4:Option Nat}{env:List (Nat×IV)}{loc:List (Nat×Ob)}{d:Option Nat}{K:St->Prop}(l1:i1.1<lvl)(l2:i2.1<lvl)(l3:i3.1<lvl)(l4:i4.1<lvl)(n2_1:i2≠i1)(n3_1:i3≠i1)(n3_2:i3≠i2)(n4_1:i4≠i1)(n4_2:i4≠i2)(n4_3:i4≠i3)(s1:out i1=some (.ar k1 (x.nodes.map Zy) true h1 v1))(s2:out i2=some (.ar k2 (rI x.sites) true h2 v2))(s3:out i3=some (.ar k3 (rS x.outer) true h3 v3))(s4:out i4=some (.ar k4 (x.inner.map ZF) true h4 v4))(h0:0<=k)(hk:k+Zt x<=4611686018427387904)(hb:ZG 4294967296 x)
  (hK:K ⟨lvl,ptd d (iI (k+Zt x)) env,loc,(ZB (ZB (ZB (ZB out i1 (.ar k1 (((mL X8 Zz x.nodes (k))).map Zy) true h1 v1)) i2 (.ar k2 (rI (mL DB Jk x.sites (k+(nL Zz x.nodes:Nat)))) true h2 v2)) i3 (.ar k3 (rS (mL ZaY Yb x.outer (k+(nL Zz x.nodes:Nat)+(nL Jk x.sites:Nat)))) true h3 v3)) i4 (.ar k4 (((mL X9 Z3 x.inner (k+(nL Zz x.nodes:Nat)+(nL Jk x.sites:Nat)+(nL Yb x.outer:Nat)))).map ZF) true h4 v4))⟩) :
  kcy (Sem Proofs.Tryz.prog) Ji true lvl env loc out d K [.ag [iI x.roots,.hd i1 [] 0 x.nodes.length c1 h1,.hd i2 [] 0 x.sites.length c2 h2,iI x.edges,.hd i3 [] 0 x.outer.length c3 h3,.hd i4 [] 0 x.inner.length c4 h4],iI k]:=by
 have e1:i1.1≠lvl:=by omega
 have e2:i2.1≠lvl:=by omega
 have e3:i3.1≠lvl:=by omega
 have e4:i4.1≠lvl:=by omega
 refine VZ (r:=iI (k+Zt x)) loc (ZB (ZB (ZB (ZB out i1 (.ar k1 (((mL X8 Zz x.nodes (k))).map Zy) true h1 v1)) i2 (.ar k2 (rI (mL DB Jk x.sites (k+(nL Zz x.nodes:Nat)))) true h2 v2)) i3 (.ar k3 (rS (mL ZaY Yb x.outer (k+(nL Zz x.nodes:Nat)+(nL Jk x.sites:Nat)))) true h3 v3)) i4 (.ar k4 (((mL X9 Z3 x.inner (k+(nL Zz x.nodes:Nat)+(nL Jk x.sites:Nat)+(nL Yb x.outer:Nat)))).map ZF) true h4 v4)) (fun i hi=>?_) ?_ ⟨trivial,hK⟩
 ·rw[ZN (fun e=>e4 (by rw[<-e];exact hi)),ZN (fun e=>e3 (by rw[<-e];exact hi)),ZN (fun e=>e2 (by rw[<-e];exact hi)),ZN (fun e=>e1 (by rw[<-e];exact hi))]
 ·rw[Yt e4,Yt e3,Yt e2,Yt e1]
  exact ZbP x k (lvl+1) _ i1 i2 i3 i4 k1 h1 v1 k2 h2 v2 k3 h3 v3 k4 h4 v4 c1 c2 c3 c4 (by omega) (by omega) (by omega) (by omega) n2_1 n3_1 n3_2 n4_1 n4_2 n4_3 (by rw[X7 e1];exact s1) (by rw[X7 e2];exact s2) (by rw[X7 e3];exact s3) (by rw[X7 e4];exact s4) h0 hk hb
def JZ(x:TBigraph)(k:Int):TBigraph:={ x with nodes:=mL X8 Zz x.nodes (k),sites:=mL DB Jk x.sites (k+(nL Zz x.nodes:Nat)),outer:=mL ZaY Yb x.outer (k+(nL Zz x.nodes:Nat)+(nL Jk x.sites:Nat)),inner:=mL X9 Z3 x.inner (k+(nL Zz x.nodes:Nat)+(nL Jk x.sites:Nat)+(nL Yb x.outer:Nat)) }
def Xw(x:TRule):Nat:=Zt x.redex+Zt x.reactum+nL Jk x.copies
theorem ZeV(x:TRule)(k:Int)(lvl:Nat)(S:Sto)(i1 i2 i3 i4 i5 i6 i7 i8 i9:Oid)(k1 h1 v1 k2 h2 v2 k3 h3 v3 k4 h4 v4 k5 h5 v5 k6 h6 v6 k7 h7 v7 k8 h8 v8 k9 h9 v9:Nat)(c1 c2 c3 c4 c5 c6 c7 c8 c9:Option Nat)(l1:i1.1<lvl)(l2:i2.1<lvl)(l3:i3.1<lvl)(l4:i4.1<lvl)(l5:i5.1<lvl)(l6:i6.1<lvl)(l7:i7.1<lvl)(l8:i8.1<lvl)(l9:i9.1<lvl)(n2_1:i2≠i1)(n3_1:i3≠i1)(n3_2:i3≠i2)(n4_1:i4≠i1)(n4_2:i4≠i2)(n4_3:i4≠i3)(n5_1:i5≠i1)(n5_2:i5≠i2)(n5_3:i5≠i3)(n5_4:i5≠i4)(n6_1:i6≠i1)(n6_2:i6≠i2)(n6_3:i6≠i3)(n6_4:i6≠i4)(n6_5:i6≠i5)(n7_1:i7≠i1)(n7_2:i7≠i2)(n7_3:i7≠i3)(n7_4:i7≠i4)(n7_5:i7≠i5)(n7_6:i7≠i6)(n8_1:i8≠i1)(n8_2:i8≠i2)(n8_3:i8≠i3)(n8_4:i8≠i4)(n8_5:i8≠i5)(n8_6:i8≠i6)(n8_7:i8≠i7)(n9_1:i9≠i1)(n9_2:i9≠i2)(n9_3:i9≠i3)(n9_4:i9≠i4)(n9_5:i9≠i5)(n9_6:i9≠i6)(n9_7:i9≠i7)(n9_8:i9≠i8)(s1:S i1=some (.ar k1 (x.redex.nodes.map Zy) true h1 v1))(s2:S i2=some (.ar k2 (rI x.redex.sites) true h2 v2))(s3:S i3=some (.ar k3 (rS x.redex.outer) true h3 v3))(s4:S i4=some (.ar k4 (x.redex.inner.map ZF) true h4 v4))(s5:S i5=some (.ar k5 (x.reactum.nodes.map Zy) true h5 v5))(s6:S i6=some (.ar k6 (rI x.reactum.sites) true h6 v6))(s7:S i7=some (.ar k7 (rS x.reactum.outer) true h7 v7))(s8:S i8=some (.ar k8 (x.reactum.inner.map ZF) true h8 v8))(s9:S i9=some (.ar k9 (rI x.copies) true h9 v9))(h0:0<=k)(hk:k+Xw x<=4611686018427387904)(hb:Vb 4294967296 x) :
  Sem Proofs.Tryz.prog JG lvl [.ag [iI x.redex.roots,.hd i1 [] 0 x.redex.nodes.length c1 h1,.hd i2 [] 0 x.redex.sites.length c2 h2,iI x.redex.edges,.hd i3 [] 0 x.redex.outer.length c3 h3,.hd i4 [] 0 x.redex.inner.length c4 h4,iI x.reactum.roots,.hd i5 [] 0 x.reactum.nodes.length c5 h5,.hd i6 [] 0 x.reactum.sites.length c6 h6,iI x.reactum.edges,.hd i7 [] 0 x.reactum.outer.length c7 h7,.hd i8 [] 0 x.reactum.inner.length c8 h8,.hd i9 [] 0 x.copies.length c9 h9],iI k] S (iI (k+Xw x)) (ZB (ZB (ZB (ZB (ZB (ZB (ZB (ZB (ZB S i1 (.ar k1 (((mL X8 Zz x.redex.nodes (k))).map Zy) true h1 v1)) i2 (.ar k2 (rI (mL DB Jk x.redex.sites (k+(nL Zz x.redex.nodes:Nat)))) true h2 v2)) i3 (.ar k3 (rS (mL ZaY Yb x.redex.outer (k+(nL Zz x.redex.nodes:Nat)+(nL Jk x.redex.sites:Nat)))) true h3 v3)) i4 (.ar k4 (((mL X9 Z3 x.redex.inner (k+(nL Zz x.redex.nodes:Nat)+(nL Jk x.redex.sites:Nat)+(nL Yb x.redex.outer:Nat)))).map ZF) true h4 v4)) i5 (.ar k5 (((mL X8 Zz x.reactum.nodes (k+(nL Zz x.redex.nodes:Nat)+(nL Jk x.redex.sites:Nat)+(nL Yb x.redex.outer:Nat)+(nL Z3 x.redex.inner:Nat)))).map Zy) true h5 v5)) i6 (.ar k6 (rI (mL DB Jk x.reactum.sites (k+(nL Zz x.redex.nodes:Nat)+(nL Jk x.redex.sites:Nat)+(nL Yb x.redex.outer:Nat)+(nL Z3 x.redex.inner:Nat)+(nL Zz x.reactum.nodes:Nat)))) true h6 v6)) i7 (.ar k7 (rS (mL ZaY Yb x.reactum.outer (k+(nL Zz x.redex.nodes:Nat)+(nL Jk x.redex.sites:Nat)+(nL Yb x.redex.outer:Nat)+(nL Z3 x.redex.inner:Nat)+(nL Zz x.reactum.nodes:Nat)+(nL Jk x.reactum.sites:Nat)))) true h7 v7)) i8 (.ar k8 (((mL X9 Z3 x.reactum.inner (k+(nL Zz x.redex.nodes:Nat)+(nL Jk x.redex.sites:Nat)+(nL Yb x.redex.outer:Nat)+(nL Z3 x.redex.inner:Nat)+(nL Zz x.reactum.nodes:Nat)+(nL Jk x.reactum.sites:Nat)+(nL Yb x.reactum.outer:Nat)))).map ZF) true h8 v8)) i9 (.ar k9 (rI (mL DB Jk x.copies (k+(nL Zz x.redex.nodes:Nat)+(nL Jk x.redex.sites:Nat)+(nL Yb x.redex.outer:Nat)+(nL Z3 x.redex.inner:Nat)+(nL Zz x.reactum.nodes:Nat)+(nL Jk x.reactum.sites:Nat)+(nL Yb x.reactum.outer:Nat)+(nL Z3 x.reactum.inner:Nat)))) true h9 v9)):=by
 obtain⟨b0,b1,b2⟩:=hb
 have e1:i1.1≠lvl:=by omega
 have e2:i2.1≠lvl:=by omega
 have e3:i3.1≠lvl:=by omega
 have e4:i4.1≠lvl:=by omega
 have e5:i5.1≠lvl:=by omega
 have e6:i6.1≠lvl:=by omega
 have e7:i7.1≠lvl:=by omega
 have e8:i8.1≠lvl:=by omega
 have e9:i9.1≠lvl:=by omega
 simp only[Xw,Zt] at hk
 refine Zb ZbL trivial ?_
 simp only[W0,Zs e1,Zs e2,Zs e3,Zs e4,Zs e5,Zs e6,Zs e7,Zs e8,Zs e9,EVA,seval,Zd,men]
 simp only[ZbT]
 refine Ww l1 l2 l3 l4 n2_1 n3_1 n3_2 n4_1 n4_2 n4_3 s1 s2 s3 s4 (by omega) (by simp only[Xw,Zt];omega) b0 ?_
 simp only[Zs e1,Zs e2,Zs e3,Zs e4,Zs e5,Zs e6,Zs e7,Zs e8,Zs e9,EVA,seval,Zd,men]
 simp only[Zt,Int.natCast_add,<-Int.add_assoc]
 simp only[ZbT]
 refine Ww l5 l6 l7 l8 n6_5 n7_5 n7_6 n8_5 n8_6 n8_7 (by rw[ZN n5_4,ZN n5_3,ZN n5_2,ZN n5_1];exact s5) (by rw[ZN n6_4,ZN n6_3,ZN n6_2,ZN n6_1];exact s6) (by rw[ZN n7_4,ZN n7_3,ZN n7_2,ZN n7_1];exact s7) (by rw[ZN n8_4,ZN n8_3,ZN n8_2,ZN n8_1];exact s8) (by omega) (by simp only[Xw,Zt];omega) b1 ?_
 simp only[Zs e1,Zs e2,Zs e3,Zs e4,Zs e5,Zs e6,Zs e7,Zs e8,Zs e9,EVA,seval,Zd,men]
 simp only[Zt,Int.natCast_add,<-Int.add_assoc]
 simp only[ZbT]
 refine WN ZbO l9 (by rw[ZN n9_8,ZN n9_7,ZN n9_6,ZN n9_5,ZN n9_4,ZN n9_3,ZN n9_2,ZN n9_1];exact s9) (by omega) (by omega) b2 (fun _ _=>trivial) ?_
 simp only[Zs e1,Zs e2,Zs e3,Zs e4,Zs e5,Zs e6,Zs e7,Zs e8,Zs e9,EVA,seval,Zd,men]
 simp only[Xw,Zt,Int.natCast_add,<-Int.add_assoc]
 try exact⟨rfl,rfl⟩
theorem Zat{x:TRule}{k:Int}{lvl a1 a2 a3 a4 a5 a6 a7 a8 a9:Nat}{out:Sto}{k1 h1 v1 k2 h2 v2 k3 h3 v3 k4 h4 v4 k5 h5 v5 k6 h6 v6 k7 h7 v7 k8 h8 v8 k9 h9 v9:Nat}{c1 c2 c3 c4 c5 c6 c7 c8 c9:Option Nat}{env:List (Nat×IV)}{loc:List (Nat×Ob)}{d:Option Nat}{K:St->Prop}(n2_1:a2≠a1)(n3_1:a3≠a1)(n3_2:a3≠a2)(n4_1:a4≠a1)(n4_2:a4≠a2)(n4_3:a4≠a3)(n5_1:a5≠a1)(n5_2:a5≠a2)(n5_3:a5≠a3)(n5_4:a5≠a4)(n6_1:a6≠a1)(n6_2:a6≠a2)(n6_3:a6≠a3)(n6_4:a6≠a4)(n6_5:a6≠a5)(n7_1:a7≠a1)(n7_2:a7≠a2)(n7_3:a7≠a3)(n7_4:a7≠a4)(n7_5:a7≠a5)(n7_6:a7≠a6)(n8_1:a8≠a1)(n8_2:a8≠a2)(n8_3:a8≠a3)(n8_4:a8≠a4)(n8_5:a8≠a5)(n8_6:a8≠a6)(n8_7:a8≠a7)(n9_1:a9≠a1)(n9_2:a9≠a2)(n9_3:a9≠a3)(n9_4:a9≠a4)(n9_5:a9≠a5)(n9_6:a9≠a6)(n9_7:a9≠a7)(n9_8:a9≠a8)(s1:lkO a1 loc=some (.ar k1 (x.redex.nodes.map Zy) true h1 v1))(s2:lkO a2 loc=some (.ar k2 (rI x.redex.sites) true h2 v2))(s3:lkO a3 loc=some (.ar k3 (rS x.redex.outer) true h3 v3))(s4:lkO a4 loc=some (.ar k4 (x.redex.inner.map ZF) true h4 v4))(s5:lkO a5 loc=some (.ar k5 (x.reactum.nodes.map Zy) true h5 v5))(s6:lkO a6 loc=some (.ar k6 (rI x.reactum.sites) true h6 v6))(s7:lkO a7 loc=some (.ar k7 (rS x.reactum.outer) true h7 v7))(s8:lkO a8 loc=some (.ar k8 (x.reactum.inner.map ZF) true h8 v8))(s9:lkO a9 loc=some (.ar k9 (rI x.copies) true h9 v9))(h0:0<=k)(hk:k+Xw x<=4611686018427387904)(hb:Vb 4294967296 x)
  (hK:K ⟨lvl,ptd d (iI (k+Xw x)) env,(ptO a9 (.ar k9 (rI (mL DB Jk x.copies (k+(nL Zz x.redex.nodes:Nat)+(nL Jk x.redex.sites:Nat)+(nL Yb x.redex.outer:Nat)+(nL Z3 x.redex.inner:Nat)+(nL Zz x.reactum.nodes:Nat)+(nL Jk x.reactum.sites:Nat)+(nL Yb x.reactum.outer:Nat)+(nL Z3 x.reactum.inner:Nat)))) true h9 v9) (ptO a8 (.ar k8 (((mL X9 Z3 x.reactum.inner (k+(nL Zz x.redex.nodes:Nat)+(nL Jk x.redex.sites:Nat)+(nL Yb x.redex.outer:Nat)+(nL Z3 x.redex.inner:Nat)+(nL Zz x.reactum.nodes:Nat)+(nL Jk x.reactum.sites:Nat)+(nL Yb x.reactum.outer:Nat)))).map ZF) true h8 v8) (ptO a7 (.ar k7 (rS (mL ZaY Yb x.reactum.outer (k+(nL Zz x.redex.nodes:Nat)+(nL Jk x.redex.sites:Nat)+(nL Yb x.redex.outer:Nat)+(nL Z3 x.redex.inner:Nat)+(nL Zz x.reactum.nodes:Nat)+(nL Jk x.reactum.sites:Nat)))) true h7 v7) (ptO a6 (.ar k6 (rI (mL DB Jk x.reactum.sites (k+(nL Zz x.redex.nodes:Nat)+(nL Jk x.redex.sites:Nat)+(nL Yb x.redex.outer:Nat)+(nL Z3 x.redex.inner:Nat)+(nL Zz x.reactum.nodes:Nat)))) true h6 v6) (ptO a5 (.ar k5 (((mL X8 Zz x.reactum.nodes (k+(nL Zz x.redex.nodes:Nat)+(nL Jk x.redex.sites:Nat)+(nL Yb x.redex.outer:Nat)+(nL Z3 x.redex.inner:Nat)))).map Zy) true h5 v5) (ptO a4 (.ar k4 (((mL X9 Z3 x.redex.inner (k+(nL Zz x.redex.nodes:Nat)+(nL Jk x.redex.sites:Nat)+(nL Yb x.redex.outer:Nat)))).map ZF) true h4 v4) (ptO a3 (.ar k3 (rS (mL ZaY Yb x.redex.outer (k+(nL Zz x.redex.nodes:Nat)+(nL Jk x.redex.sites:Nat)))) true h3 v3) (ptO a2 (.ar k2 (rI (mL DB Jk x.redex.sites (k+(nL Zz x.redex.nodes:Nat)))) true h2 v2) (ptO a1 (.ar k1 (((mL X8 Zz x.redex.nodes (k))).map Zy) true h1 v1) loc))))))))),out⟩) :
  kcy (Sem Proofs.Tryz.prog) JG true lvl env loc out d K [.ag [iI x.redex.roots,.hd (lvl,a1) [] 0 x.redex.nodes.length c1 h1,.hd (lvl,a2) [] 0 x.redex.sites.length c2 h2,iI x.redex.edges,.hd (lvl,a3) [] 0 x.redex.outer.length c3 h3,.hd (lvl,a4) [] 0 x.redex.inner.length c4 h4,iI x.reactum.roots,.hd (lvl,a5) [] 0 x.reactum.nodes.length c5 h5,.hd (lvl,a6) [] 0 x.reactum.sites.length c6 h6,iI x.reactum.edges,.hd (lvl,a7) [] 0 x.reactum.outer.length c7 h7,.hd (lvl,a8) [] 0 x.reactum.inner.length c8 h8,.hd (lvl,a9) [] 0 x.copies.length c9 h9],iI k]:=by
 refine VZ (r:=iI (k+Xw x)) (ptO a9 (.ar k9 (rI (mL DB Jk x.copies (k+(nL Zz x.redex.nodes:Nat)+(nL Jk x.redex.sites:Nat)+(nL Yb x.redex.outer:Nat)+(nL Z3 x.redex.inner:Nat)+(nL Zz x.reactum.nodes:Nat)+(nL Jk x.reactum.sites:Nat)+(nL Yb x.reactum.outer:Nat)+(nL Z3 x.reactum.inner:Nat)))) true h9 v9) (ptO a8 (.ar k8 (((mL X9 Z3 x.reactum.inner (k+(nL Zz x.redex.nodes:Nat)+(nL Jk x.redex.sites:Nat)+(nL Yb x.redex.outer:Nat)+(nL Z3 x.redex.inner:Nat)+(nL Zz x.reactum.nodes:Nat)+(nL Jk x.reactum.sites:Nat)+(nL Yb x.reactum.outer:Nat)))).map ZF) true h8 v8) (ptO a7 (.ar k7 (rS (mL ZaY Yb x.reactum.outer (k+(nL Zz x.redex.nodes:Nat)+(nL Jk x.redex.sites:Nat)+(nL Yb x.redex.outer:Nat)+(nL Z3 x.redex.inner:Nat)+(nL Zz x.reactum.nodes:Nat)+(nL Jk x.reactum.sites:Nat)))) true h7 v7) (ptO a6 (.ar k6 (rI (mL DB Jk x.reactum.sites (k+(nL Zz x.redex.nodes:Nat)+(nL Jk x.redex.sites:Nat)+(nL Yb x.redex.outer:Nat)+(nL Z3 x.redex.inner:Nat)+(nL Zz x.reactum.nodes:Nat)))) true h6 v6) (ptO a5 (.ar k5 (((mL X8 Zz x.reactum.nodes (k+(nL Zz x.redex.nodes:Nat)+(nL Jk x.redex.sites:Nat)+(nL Yb x.redex.outer:Nat)+(nL Z3 x.redex.inner:Nat)))).map Zy) true h5 v5) (ptO a4 (.ar k4 (((mL X9 Z3 x.redex.inner (k+(nL Zz x.redex.nodes:Nat)+(nL Jk x.redex.sites:Nat)+(nL Yb x.redex.outer:Nat)))).map ZF) true h4 v4) (ptO a3 (.ar k3 (rS (mL ZaY Yb x.redex.outer (k+(nL Zz x.redex.nodes:Nat)+(nL Jk x.redex.sites:Nat)))) true h3 v3) (ptO a2 (.ar k2 (rI (mL DB Jk x.redex.sites (k+(nL Zz x.redex.nodes:Nat)))) true h2 v2) (ptO a1 (.ar k1 (((mL X8 Zz x.redex.nodes (k))).map Zy) true h1 v1) loc))))))))) out (fun _ _=>rfl) ?_ ⟨trivial,hK⟩
 rw[Yf,Yf,Yf,Yf,Yf,Yf,Yf,Yf,Yf]
 exact ZeV x k (lvl+1) _ (lvl,a1) (lvl,a2) (lvl,a3) (lvl,a4) (lvl,a5) (lvl,a6) (lvl,a7) (lvl,a8) (lvl,a9) k1 h1 v1 k2 h2 v2 k3 h3 v3 k4 h4 v4 k5 h5 v5 k6 h6 v6 k7 h7 v7 k8 h8 v8 k9 h9 v9 c1 c2 c3 c4 c5 c6 c7 c8 c9 (Nat.lt_succ_self _) (Nat.lt_succ_self _) (Nat.lt_succ_self _) (Nat.lt_succ_self _) (Nat.lt_succ_self _) (Nat.lt_succ_self _) (Nat.lt_succ_self _) (Nat.lt_succ_self _) (Nat.lt_succ_self _) (fun e=>n2_1 (congrArg Prod.snd e)) (fun e=>n3_1 (congrArg Prod.snd e)) (fun e=>n3_2 (congrArg Prod.snd e)) (fun e=>n4_1 (congrArg Prod.snd e)) (fun e=>n4_2 (congrArg Prod.snd e)) (fun e=>n4_3 (congrArg Prod.snd e)) (fun e=>n5_1 (congrArg Prod.snd e)) (fun e=>n5_2 (congrArg Prod.snd e)) (fun e=>n5_3 (congrArg Prod.snd e)) (fun e=>n5_4 (congrArg Prod.snd e)) (fun e=>n6_1 (congrArg Prod.snd e)) (fun e=>n6_2 (congrArg Prod.snd e)) (fun e=>n6_3 (congrArg Prod.snd e)) (fun e=>n6_4 (congrArg Prod.snd e)) (fun e=>n6_5 (congrArg Prod.snd e)) (fun e=>n7_1 (congrArg Prod.snd e)) (fun e=>n7_2 (congrArg Prod.snd e)) (fun e=>n7_3 (congrArg Prod.snd e)) (fun e=>n7_4 (congrArg Prod.snd e)) (fun e=>n7_5 (congrArg Prod.snd e)) (fun e=>n7_6 (congrArg Prod.snd e)) (fun e=>n8_1 (congrArg Prod.snd e)) (fun e=>n8_2 (congrArg Prod.snd e)) (fun e=>n8_3 (congrArg Prod.snd e)) (fun e=>n8_4 (congrArg Prod.snd e)) (fun e=>n8_5 (congrArg Prod.snd e)) (fun e=>n8_6 (congrArg Prod.snd e)) (fun e=>n8_7 (congrArg Prod.snd e)) (fun e=>n9_1 (congrArg Prod.snd e)) (fun e=>n9_2 (congrArg Prod.snd e)) (fun e=>n9_3 (congrArg Prod.snd e)) (fun e=>n9_4 (congrArg Prod.snd e)) (fun e=>n9_5 (congrArg Prod.snd e)) (fun e=>n9_6 (congrArg Prod.snd e)) (fun e=>n9_7 (congrArg Prod.snd e)) (fun e=>n9_8 (congrArg Prod.snd e)) (by rw[JR];exact s1) (by rw[JR];exact s2) (by rw[JR];exact s3) (by rw[JR];exact s4) (by rw[JR];exact s5) (by rw[JR];exact s6) (by rw[JR];exact s7) (by rw[JR];exact s8) (by rw[JR];exact s9) h0 hk hb
def UM(x:TRule)(k:Int):TRule:={ x with redex:=JZ x.redex (k),reactum:=JZ x.reactum (k+(Zt x.redex:Nat)),copies:=mL DB Jk x.copies (k+(Zt x.redex:Nat)+(Zt x.reactum:Nat)) }
theorem ZbQ(a:List Int)(k:Int)(hl:a.length<=4294967296)(h0:0<=k)(hk:k+nL Jk a<=4611686018427387904)(lvl:Nat)(S:Sto):Sem Proofs.Tryz.prog JD lvl [.tr (.sl (rI (mL DB Jk a k))),iI k] S (iI (k+nL Jk a)) S:=by
 refine Zb ZbK trivial ?_
 simp only[WZ,EVA,seval,Zd,men]
 refine ZT (α:=Unit) a.length (fun j _=>⟨lvl,[(0,.tr (.sl (rI (mL DB Jk a k)))),(1,iI (kJ Jk a k j)),(5,iI j)],[],S⟩) (fun _ _=>True) () ⟨by simp only[EVA,seval,Zd,men],by (simp only[X2,EVA,seval,Zd,men]) <;> rfl⟩ trivial ?_
 intro j _ hj _
 simp only[List.length_map,Zv,EVA,seval,Zd,men]
 refine Zl (fun hlt=>?_) (fun hge=>?_)
 ·have hja:j<a.length:=by omega
  have ga:=Zgk (c:=(fun n:Int=>[tv n])) (m:=DB) (n:=Jk) (k:=k) hja
  have hge2:=Zdf Jk (a:=a) (k:=k) (j:=j+1)
  rw[J1 Jk hja] at hge2
  have hge3:=Zdg Jk (a:=a) (k:=k) (j:=j)
  try simp only[Jk] at hge2
  simp only[ga,DB,ZaY,Nat.zero_add,hja,ne_eq,not_true_eq_false,EVA,seval,Zd,men]
  refine⟨by rw[Ze];omega,⟨by rw[Ze];omega,Zf () hja ?_ trivial⟩⟩
  rw[J1 Jk hja]
  simp only[Jk,Int.natCast_add,Int.natCast_one,Int.add_assoc]
  try rfl
 ·have:j=a.length:=by omega
  subst this
  rw[U7]
theorem ZgN(a:List TNode)(k:Int)(hl:a.length<=4294967296)(hB:∀ x∈a,(QJ 4294967296) x)(h0:0<=k)(hk:k+nL Zz a<=4611686018427387904)(lvl:Nat)(S:Sto):Sem Proofs.Tryz.prog Vv lvl [.tr (.sl (((mL X8 Zz a k)).map Zy)),iI k] S (iI (k+nL Zz a)) S:=by
 refine Zb ZaC trivial ?_
 simp only[Wo,EVA,seval,Zd,men]
 refine ZT (α:=Unit) a.length (fun j _=>⟨lvl,[(0,.tr (.sl (((mL X8 Zz a k)).map Zy))),(1,iI (kJ Zz a k j)),(5,iI j)],[],S⟩) (fun _ _=>True) () ⟨by simp only[EVA,seval,Zd,men],by (simp only[X2,EVA,seval,Zd,men]) <;> rfl⟩ trivial ?_
 intro j _ hj _
 simp only[List.length_map,Zv,EVA,seval,Zd,men]
 refine Zl (fun hlt=>?_) (fun hge=>?_)
 ·have hja:j<a.length:=by omega
  have ga:=Zgk (c:=Zy) (m:=X8) (n:=Zz) (k:=k) hja
  have hge2:=Zdf Zz (a:=a) (k:=k) (j:=j+1)
  rw[J1 Zz hja] at hge2
  have hge3:=Zdg Zz (a:=a) (k:=k) (j:=j)
  try simp only[Zz] at hge2
  have hb:=hB _ (List.getElem_mem hja)
  simp only[ga,Zy,X8,DB,ZaY,Nat.zero_add,hja,ne_eq,not_true_eq_false,EVA,seval,Zd,men]
  refine⟨by rw[Ze];omega,⟨by rw[Ze];omega,?_⟩⟩
  refine Za (ZbQ (a[j]).links (kJ Zz a k j+1+1) hb (by omega) (by omega)) ?_
  have hz2:¬ (kJ Zz a k j+1+1+(nL Jk (a[j]).links:Nat)<0):=by omega
  simp only[ga,Zy,X8,DB,ZaY,Nat.zero_add,hja,ne_eq,not_true_eq_false,hz2,EVA,seval,Zd,men]
  refine⟨by rw[Ze];omega,Zf () hja ?_ trivial⟩
  rw[J1 Zz hja]
  simp only[Zz,Int.natCast_add,Int.natCast_one,Int.add_assoc]
  try rfl
 ·have:j=a.length:=by omega
  subst this
  rw[U7]
theorem ZeW(a:List ByteArray)(k:Int)(hl:a.length<=4294967296)(hB:∀ x∈a,(fun x=>x.size<=4294967296) x)(h0:0<=k)(hk:k+nL Yb a<=4611686018427387904)(lvl:Nat)(S:Sto):Sem Proofs.Tryz.prog YF lvl [.tr (.sl (rS (mL ZaY Yb a k))),iI k] S (iI (k+nL Yb a)) S:=by
 refine Zb DA trivial ?_
 simp only[Xp,EVA,seval,Zd,men]
 refine ZT (α:=Unit) a.length (fun j _=>⟨lvl,[(0,.tr (.sl (rS (mL ZaY Yb a k)))),(1,iI (kJ Yb a k j)),(5,iI j)],[],S⟩) (fun _ _=>True) () ⟨by simp only[EVA,seval,Zd,men],by (simp only[X2,EVA,seval,Zd,men]) <;> rfl⟩ trivial ?_
 intro j _ hj _
 simp only[List.length_map,Zv,EVA,seval,Zd,men]
 refine Zl (fun hlt=>?_) (fun hge=>?_)
 ·have hja:j<a.length:=by omega
  have ga:=Zgk (c:=(fun n:ByteArray=>[ts n])) (m:=ZaY) (n:=Yb) (k:=k) hja
  have hge2:=Zdf Yb (a:=a) (k:=k) (j:=j+1)
  rw[J1 Yb hja] at hge2
  have hge3:=Zdg Yb (a:=a) (k:=k) (j:=j)
  try simp only[Yb] at hge2
  have hb:=hB _ (List.getElem_mem hja)
  simp only[ga,ZaY,DB,Nat.zero_add,hja,ne_eq,not_true_eq_false,EVA,seval,Zd,men]
  refine Za (V6 (kJ Yb a k j) (by omega)) ?_
  simp only[ga,ZaY,DB,Nat.zero_add,hja,ne_eq,not_true_eq_false,EVA,seval,Zd,men]
  refine⟨by rw[Ze];omega,⟨by rw[Ze];omega,Zf () hja ?_ trivial⟩⟩
  rw[J1 Yb hja]
  simp only[Yb,Int.natCast_add,Int.natCast_one,Int.add_assoc]
  try rfl
 ·have:j=a.length:=by omega
  subst this
  rw[U7]
theorem ZgO(a:List TWire)(k:Int)(hl:a.length<=4294967296)(hB:∀ x∈a,(V1 4294967296) x)(h0:0<=k)(hk:k+nL Z3 a<=4611686018427387904)(lvl:Nat)(S:Sto):Sem Proofs.Tryz.prog Vw lvl [.tr (.sl (((mL X9 Z3 a k)).map ZF)),iI k] S (iI (k+nL Z3 a)) S:=by
 refine Zb ZaD trivial ?_
 simp only[Wp,EVA,seval,Zd,men]
 refine ZT (α:=Unit) a.length (fun j _=>⟨lvl,[(0,.tr (.sl (((mL X9 Z3 a k)).map ZF))),(1,iI (kJ Z3 a k j)),(5,iI j)],[],S⟩) (fun _ _=>True) () ⟨by simp only[EVA,seval,Zd,men],by (simp only[X2,EVA,seval,Zd,men]) <;> rfl⟩ trivial ?_
 intro j _ hj _
 simp only[List.length_map,Zv,EVA,seval,Zd,men]
 refine Zl (fun hlt=>?_) (fun hge=>?_)
 ·have hja:j<a.length:=by omega
  have ga:=Zgk (c:=ZF) (m:=X9) (n:=Z3) (k:=k) hja
  have hge2:=Zdf Z3 (a:=a) (k:=k) (j:=j+1)
  rw[J1 Z3 hja] at hge2
  have hge3:=Zdg Z3 (a:=a) (k:=k) (j:=j)
  try simp only[Z3] at hge2
  have hb:=hB _ (List.getElem_mem hja)
  simp only[ga,ZF,X9,DB,ZaY,Nat.zero_add,hja,ne_eq,not_true_eq_false,EVA,seval,Zd,men]
  refine Za (V6 (kJ Z3 a k j) (by omega)) ?_
  simp only[ga,ZF,X9,DB,ZaY,Nat.zero_add,hja,ne_eq,not_true_eq_false,EVA,seval,Zd,men]
  refine⟨by rw[Ze];omega,⟨by rw[Ze];omega,⟨by rw[Ze];omega,Zf () hja ?_ trivial⟩⟩⟩
  rw[J1 Z3 hja]
  simp only[Z3,Int.natCast_add,Int.natCast_one,Int.add_assoc]
  try rfl
 ·have:j=a.length:=by omega
  subst this
  rw[U7]
theorem Zau(x:TBigraph)(k:Int)(hb:ZG 4294967296 x)(h0:0<=k)(hk:k+Zt x<=4611686018427387904)(lvl:Nat)(S:Sto):Sem Proofs.Tryz.prog Jz lvl [.ag ((Zc (JZ x k)).map .tr),iI k] S (iI (k+Zt x)) S:=by
 obtain⟨b0,b1,b2,b3,b4,b5,b6⟩:=hb
 simp only[Zt] at hk
 refine Zb Dz trivial ?_
 simp only[Xo,Zc,JZ,EVA,seval,Zd,men]
 refine Za (ZgN x.nodes (k) b0 b1 (by omega) (by omega)) ?_
 have hz0:¬ (k+(nL Zz x.nodes:Nat)<0):=by omega
 simp only[Zc,JZ,hz0,EVA,seval,Zd,men]
 refine Za (ZbQ x.sites (k+(nL Zz x.nodes:Nat)) b2 (by omega) (by omega)) ?_
 have hz1:¬ (k+(nL Zz x.nodes:Nat)+(nL Jk x.sites:Nat)<0):=by omega
 simp only[Zc,JZ,hz1,EVA,seval,Zd,men]
 refine Za (ZeW x.outer (k+(nL Zz x.nodes:Nat)+(nL Jk x.sites:Nat)) b3 b4 (by omega) (by omega)) ?_
 have hz2:¬ (k+(nL Zz x.nodes:Nat)+(nL Jk x.sites:Nat)+(nL Yb x.outer:Nat)<0):=by omega
 simp only[Zc,JZ,hz2,EVA,seval,Zd,men]
 refine Za (ZgO x.inner (k+(nL Zz x.nodes:Nat)+(nL Jk x.sites:Nat)+(nL Yb x.outer:Nat)) b5 b6 (by omega) (by omega)) ?_
 have hz3:¬ (k+(nL Zz x.nodes:Nat)+(nL Jk x.sites:Nat)+(nL Yb x.outer:Nat)+(nL Z3 x.inner:Nat)<0):=by omega
 simp only[Zc,JZ,hz3,EVA,seval,Zd,men]
 simp only[Zt,Int.natCast_add,<-Int.add_assoc]
theorem ZeX(x:TRule)(k:Int)(hb:Vb 4294967296 x)(h0:0<=k)(hk:k+Xw x<=4611686018427387904)(lvl:Nat)(S:Sto):Sem Proofs.Tryz.prog Yu lvl [.ag ((ZP (UM x k)).map .tr),iI k] S (iI (k+Xw x)) S:=by
 obtain⟨b0,b1,b2⟩:=hb
 simp only[Xw] at hk
 refine Zb ZbM trivial ?_
 simp only[W1,ZP,UM,EVA,seval,Zd,men]
 have hc0:=Zau x.redex (k) b0 (by omega) (by omega)
 simp only[Zc,List.map_cons,List.map_nil] at hc0
 refine Za hc0 ?_
 have hz0:¬ (k+(Zt x.redex:Nat)<0):=by omega
 simp only[ZP,UM,hz0,EVA,seval,Zd,men]
 have hc1:=Zau x.reactum (k+(Zt x.redex:Nat)) b1 (by omega) (by omega)
 simp only[Zc,List.map_cons,List.map_nil] at hc1
 refine Za hc1 ?_
 have hz1:¬ (k+(Zt x.redex:Nat)+(Zt x.reactum:Nat)<0):=by omega
 simp only[ZP,UM,hz1,EVA,seval,Zd,men]
 refine Za (ZbQ x.copies (k+(Zt x.redex:Nat)+(Zt x.reactum:Nat)) b2 (by omega) (by omega)) ?_
 have hz2:¬ (k+(Zt x.redex:Nat)+(Zt x.reactum:Nat)+(nL Jk x.copies:Nat)<0):=by omega
 simp only[ZP,UM,hz2,EVA,seval,Zd,men]
 simp only[Xw,Int.natCast_add,<-Int.add_assoc]
end Go.Fd

/-
  HOW MANY MARKS SMALL THINGS TAKE. Own work.
-/
namespace Go.Fd
theorem Zil:∀(l:List Int),nL Jk l=l.length
 | []=>rfl
 | x::r=>by simp only[nL,List.length_cons,Zil r,Jk];omega
theorem Zou{α:Type}{n:α->Nat}{B:Nat}:∀(l:List α),(∀ x∈l,n x<=B)->nL n l<=l.length*B
 | [],_=>Nat.zero_le _
 | x::r,h=>by
  have h1:=h x (by simp)
  have h2:=Zou r (fun y hy=>h y (by simp [hy]))
  simp only[nL,List.length_cons,Nat.add_mul]
  omega
end Go.Fd

/-
  HOW MANY MARKS A THING TAKES, AGAINST ITS SIZE (printed by lawgen.py). Own work.
-/
namespace Go.Fd
theorem Zov(x:TNode):Zq 256 (fun l=>Wg x l) (Zz x):=Zak (ZbZ (by omega) (by omega) (Zsw Jk (fun _=>(by decide:1<=256)) x.links) ZhJ) (by simp only[Zz];omega)
theorem Zow(x:TWire):Zq 256 (fun l=>Wh x l) (Z3 x):=Zak (ZbZ (by omega) (by omega) (ZjQ x.name.size) ZhJ) (by simp only[Z3];omega)
theorem ZeY(x:TBigraph):Zq 0 (fun l=>Yg x l) (Zt x):=Zak (ZbZ (by omega) (by omega) (ZoK (n:=Zz) (fun y=>Zak (Zov y) (by omega)) x.nodes) (ZbZ (by omega) (by omega) (Zsw Jk (fun _=>(by decide:1<=256)) x.sites) (ZbZ (by omega) (by omega) (ZoK (n:=Yb) (fun y=>Zli y.size) x.outer) (ZbZ (by omega) (by omega) (ZoK (n:=Z3) (fun y=>Zak (Zow y) (by omega)) x.inner) ZhJ)))) (by simp only[Zt];omega)
theorem Zox(x:TRule):Zq 0 (fun l=>Zbp x l) (Xw x):=Zak (ZbZ (by omega) (by omega) (ZeY x.redex) (ZbZ (by omega) (by omega) (ZeY x.reactum) (ZbZ (by omega) (by omega) (Zsw Jk (fun _=>(by decide:1<=256)) x.copies) ZhJ))) (by simp only[Xw];omega)
theorem Zim(x:TControl):Zq 256 (fun l=>Jo x l) (JP x):=Zak (ZbZ (by omega) (by omega) (ZjQ x.name.size) ZhJ) (by simp only[JP];omega)
end Go.Fd

/-
  WHAT HOLDS OF THE HELPERS OF THE LAWS (printed by lawgen.py). Own work.
-/
namespace Go.Fd
set_option maxRecDepth 20000
theorem Zoy{n:Nat}{l:Int}(h:0<=l):szN n l<=l:=by unfold szN;split <;> omega
theorem ZjZ{α:Type}{f:α->Int->Int}:∀(a:List α) (l:Int),(∀ x∈a,∀ l:Int,0<=l->l<=1048576->f x l<=l)->0<=l->l<=1048576->szF f a l<=l
 | [],l,_,_,_=>Int.le_refl l
 | x::r,l,hf,h0,h1=>by
  simp only[szF]
  have:=hf x (by simp) l h0 h1
  split
  ·omega
  ·have h2:=ZjZ r (f x l) (fun y hy=>hf y (by simp [hy])) (by omega) (by omega)
   omega
theorem Zgn{α:Type}{f:α->Int->Int}(a:List α){l:Int}(hf:∀ x∈a,∀ l:Int,0<=l->l<=1048576->f x l<=l)(h0:0<=l)(h1:l<=1048576):szL f a l<=l:=by
 unfold szL
 split
 ·omega
 ·have:=ZjZ a (l-a.length) hf (by omega) (by omega)
  omega
theorem Xx{l m:Int}{g:Int->Int}(h0:0<=l)(h:m<=l)(hg:0<=m->g m<=m):Wf m g<=l:=by
 unfold Wf
 split
 ·omega
 ·have:=hg (by omega)
  omega
theorem Zju:ZX Proofs.Tryz.prog Yk sz0=true:=by kernel_rfl
theorem Qx(a:List Int)(hl:a.length<=9223372036854775807)(l:Int)(h0:0<=l)(h1:l<=1048576):szN a.length l<=l/\∀ lvl S,Sem Proofs.Tryz.prog Yk lvl [.tr (.sl (rI a)),iI l] S (iI (szN a.length l)) S:=by
 refine⟨Zoy h0,fun lvl S=>?_⟩
 have:=Zld Zju (rI a) l (by simpa using hl) h0 h1 lvl S
 simpa using this
theorem ZcD(x:TNode)(hb:QJ 9223372036854775807 x)(l:Int)(h0:0<=l)(h1:l<=1048576):Wg x l<=l/\∀ lvl S,Sem Proofs.Tryz.prog QR lvl [.ag ((Zy x).map .tr),iI l] S (iI (Wg x l)) S:=by
 have b0:x.links.length<=9223372036854775807:=hb
 refine⟨?_,fun lvl S=>?_⟩
 ·unfold Wg
  have q0:=Qx x.links b0 _ h0 h1
  refine Xx h0 q0.1 (fun p0=>?_)
  have r0:_<=(1048576:Int):=Int.le_trans q0.1 h1
  exact Int.le_refl _
 ·refine Zb ZdN trivial ?_
  simp only[DF,Zy,List.map_cons,List.map_nil,EVA,seval,Zd,men]
  unfold Wg
  have q0:=Qx x.links b0 l h0 h1
  refine Za q0.2 ?_
  simp only[EVA,seval,Zd,men]
  obtain⟨l1,hl1⟩:∃ m:Int,m=(szN x.links.length l):=⟨_,rfl⟩
  have u1:l1<=l:=by rw[hl1];exact q0.1
  rw[<-hl1]
  split
  ·rename_i hn;rw[Wf,if_pos hn]
  rename_i hn0
  rw[Wf,if_neg hn0]
theorem Zin:ZX Proofs.Tryz.prog Qa (Zn9 3 (some 3) QR)=true:=by kernel_rfl
theorem ZbR(a:List TNode)(hl:a.length<=9223372036854775807)(hb:∀ y∈a,QJ 9223372036854775807 y)(l:Int)(h0:0<=l)(h1:l<=1048576):szL Wg a l<=l/\∀ lvl S,Sem Proofs.Tryz.prog Qa lvl [.tr (.sl (a.map Zy)),iI l] S (iI (szL Wg a l)) S :=
 ⟨Zgn a (fun x hx l h0 h1=>(ZcD x (hb x hx) l h0 h1).1) h0 h1,fun lvl S=>Zdc Zin Zy Wg ZhK a l hl h0 h1 (fun x hx l h0 h1=>ZcD x (hb x hx) l h0 h1) lvl S⟩
theorem ZcE(x:TWire)(hb:V1 9223372036854775807 x)(l:Int)(h0:0<=l)(h1:l<=1048576):Wh x l<=l/\∀ lvl S,Sem Proofs.Tryz.prog QT lvl [.ag ((ZF x).map .tr),iI l] S (iI (Wh x l)) S:=by
 have b0:x.name.size<=9223372036854775807:=hb
 refine⟨?_,fun lvl S=>?_⟩
 ·unfold Wh
  refine Xx h0 (m:=l-x.name.size) (by omega) (fun p0=>?_)
  have r0:_<=(1048576:Int):=Int.le_trans (show l-x.name.size<=l by omega) h1
  exact Int.le_refl _
 ·refine Zb ZdO trivial ?_
  simp only[DG,ZF,List.map_cons,List.map_nil,EVA,seval,Zd,men]
  unfold Wh
  refine⟨by rw[Ze];omega,?_⟩
  obtain⟨l1,hl1⟩:∃ m:Int,m=l-x.name.size:=⟨_,rfl⟩
  have u1:l1<=l:=by omega
  rw[<-hl1]
  split
  ·rename_i hn;rw[Wf,if_pos hn]
  rename_i hn0
  rw[Wf,if_neg hn0]
theorem Zio:ZX Proofs.Tryz.prog Qb (Zn9 2 (some 2) QT)=true:=by kernel_rfl
theorem ZbS(a:List TWire)(hl:a.length<=9223372036854775807)(hb:∀ y∈a,V1 9223372036854775807 y)(l:Int)(h0:0<=l)(h1:l<=1048576):szL Wh a l<=l/\∀ lvl S,Sem Proofs.Tryz.prog Qb lvl [.tr (.sl (a.map ZF)),iI l] S (iI (szL Wh a l)) S :=
 ⟨Zgn a (fun x hx l h0 h1=>(ZcE x (hb x hx) l h0 h1).1) h0 h1,fun lvl S=>Zdc Zio ZF Wh ZhM a l hl h0 h1 (fun x hx l h0 h1=>ZcE x (hb x hx) l h0 h1) lvl S⟩
theorem ZfD:ZX Proofs.Tryz.prog Vp Zsv=true:=by kernel_rfl
theorem DL(a:List ByteArray)(hl:a.length<=9223372036854775807)(hb:∀ y∈a,y.size<=9223372036854775807)(l:Int)(h0:0<=l)(h1:l<=1048576):szL (fun x m=>m-x.size) a l<=l/\∀ lvl S,Sem Proofs.Tryz.prog Vp lvl [tS a,iI l] S (iI (szL (fun x m=>m-x.size) a l)) S :=
 ⟨Zgn a (fun x _ l _ _=>by omega) h0 h1,fun lvl S=>Zjc ZfD a l hl h0 h1 hb lvl S⟩
theorem Qt(x:TBigraph)(hb:ZG 9223372036854775807 x)(l:Int)(h0:0<=l)(h1:l<=1048576):Yg x l<=l/\∀ lvl S,Sem Proofs.Tryz.prog J4 lvl [.ag ((Zc x).map .tr),iI l] S (iI (Yg x l)) S:=by
 obtain⟨b0,b1,b2,b3,b4,b5,b6⟩:=hb
 refine⟨?_,fun lvl S=>?_⟩
 ·unfold Yg
  have q0:=ZbR x.nodes b0 b1 _ h0 h1
  refine Xx h0 q0.1 (fun p0=>?_)
  have r0:_<=(1048576:Int):=Int.le_trans q0.1 h1
  have q1:=Qx x.sites b2 _ p0 r0
  refine Xx p0 q1.1 (fun p1=>?_)
  have r1:_<=(1048576:Int):=Int.le_trans q1.1 r0
  have q2:=DL x.outer b3 b4 _ p1 r1
  refine Xx p1 q2.1 (fun p2=>?_)
  have r2:_<=(1048576:Int):=Int.le_trans q2.1 r1
  have q3:=ZbS x.inner b5 b6 _ p2 r2
  refine Xx p2 q3.1 (fun p3=>?_)
  have r3:_<=(1048576:Int):=Int.le_trans q3.1 r2
  exact Int.le_refl _
 ·refine Zb ZaH trivial ?_
  simp only[Wt,Zc,List.map_cons,List.map_nil,EVA,seval,Zd,men]
  unfold Yg
  have q0:=ZbR x.nodes b0 b1 l h0 h1
  refine Za q0.2 ?_
  simp only[EVA,seval,Zd,men]
  obtain⟨l1,hl1⟩:∃ m:Int,m=(szL Wg x.nodes l):=⟨_,rfl⟩
  have u1:l1<=l:=by rw[hl1];exact q0.1
  rw[<-hl1]
  split
  ·rename_i hn;rw[Wf,if_pos hn]
  rename_i hn0
  rw[Wf,if_neg hn0]
  have q1:=Qx x.sites b2 l1 (show 0<=l1 by omega) (show l1<=1048576 by omega)
  refine Za q1.2 ?_
  simp only[EVA,seval,Zd,men]
  obtain⟨l2,hl2⟩:∃ m:Int,m=(szN x.sites.length l1):=⟨_,rfl⟩
  have u2:l2<=l1:=by rw[hl2];exact q1.1
  rw[<-hl2]
  split
  ·rename_i hn;rw[Wf,if_pos hn]
  rename_i hn1
  rw[Wf,if_neg hn1]
  have q2:=DL x.outer b3 b4 l2 (show 0<=l2 by omega) (show l2<=1048576 by omega)
  refine Za q2.2 ?_
  simp only[EVA,seval,Zd,men]
  obtain⟨l3,hl3⟩:∃ m:Int,m=(szL (fun x m=>m-x.size) x.outer l2):=⟨_,rfl⟩
  have u3:l3<=l2:=by rw[hl3];exact q2.1
  rw[<-hl3]
  split
  ·rename_i hn;rw[Wf,if_pos hn]
  rename_i hn2
  rw[Wf,if_neg hn2]
  have q3:=ZbS x.inner b5 b6 l3 (show 0<=l3 by omega) (show l3<=1048576 by omega)
  refine Za q3.2 ?_
  simp only[EVA,seval,Zd,men]
  obtain⟨l4,hl4⟩:∃ m:Int,m=(szL Wh x.inner l3):=⟨_,rfl⟩
  have u4:l4<=l3:=by rw[hl4];exact q3.1
  rw[<-hl4]
  split
  ·rename_i hn;rw[Wf,if_pos hn]
  rename_i hn3
  rw[Wf,if_neg hn3]
theorem ZgP(x:TRule)(hb:Vb 9223372036854775807 x)(l:Int)(h0:0<=l)(h1:l<=1048576):Zbp x l<=l/\∀ lvl S,Sem Proofs.Tryz.prog QK lvl [.ag ((ZP x).map .tr),iI l] S (iI (Zbp x l)) S:=by
 obtain⟨b0,b1,b2⟩:=hb
 refine⟨?_,fun lvl S=>?_⟩
 ·unfold Zbp
  have q0:=Qt x.redex b0 _ h0 h1
  refine Xx h0 q0.1 (fun p0=>?_)
  have r0:_<=(1048576:Int):=Int.le_trans q0.1 h1
  have q1:=Qt x.reactum b1 _ p0 r0
  refine Xx p0 q1.1 (fun p1=>?_)
  have r1:_<=(1048576:Int):=Int.le_trans q1.1 r0
  have q2:=Qx x.copies b2 _ p1 r1
  refine Xx p1 q2.1 (fun p2=>?_)
  have r2:_<=(1048576:Int):=Int.le_trans q2.1 r1
  exact Int.le_refl _
 ·refine Zb ZdK trivial ?_
  simp only[DC,ZP,List.map_cons,List.map_nil,EVA,seval,Zd,men]
  unfold Zbp
  have q0:=Qt x.redex b0 l h0 h1
  refine Za q0.2 ?_
  simp only[EVA,seval,Zd,men]
  obtain⟨l1,hl1⟩:∃ m:Int,m=(Yg x.redex l):=⟨_,rfl⟩
  have u1:l1<=l:=by rw[hl1];exact q0.1
  rw[<-hl1]
  split
  ·rename_i hn;rw[Wf,if_pos hn]
  rename_i hn0
  rw[Wf,if_neg hn0]
  have q1:=Qt x.reactum b1 l1 (show 0<=l1 by omega) (show l1<=1048576 by omega)
  refine Za q1.2 ?_
  simp only[EVA,seval,Zd,men]
  obtain⟨l2,hl2⟩:∃ m:Int,m=(Yg x.reactum l1):=⟨_,rfl⟩
  have u2:l2<=l1:=by rw[hl2];exact q1.1
  rw[<-hl2]
  split
  ·rename_i hn;rw[Wf,if_pos hn]
  rename_i hn1
  rw[Wf,if_neg hn1]
  have q2:=Qx x.copies b2 l2 (show 0<=l2 by omega) (show l2<=1048576 by omega)
  refine Za q2.2 ?_
  simp only[EVA,seval,Zd,men]
  obtain⟨l3,hl3⟩:∃ m:Int,m=(szN x.copies.length l2):=⟨_,rfl⟩
  have u3:l3<=l2:=by rw[hl3];exact q2.1
  rw[<-hl3]
  split
  ·rename_i hn;rw[Wf,if_pos hn]
  rename_i hn2
  rw[Wf,if_neg hn2]
theorem DM(x:TControl)(hb:ZH 9223372036854775807 x)(l:Int)(h0:0<=l)(h1:l<=1048576):Jo x l<=l/\∀ lvl S,Sem Proofs.Tryz.prog Vm lvl [.ag ((Zi x).map .tr),iI l] S (iI (Jo x l)) S:=by
 have b0:x.name.size<=9223372036854775807:=hb
 refine⟨?_,fun lvl S=>?_⟩
 ·unfold Jo
  refine Xx h0 (m:=l-x.name.size) (by omega) (fun p0=>?_)
  have r0:_<=(1048576:Int):=Int.le_trans (show l-x.name.size<=l by omega) h1
  exact Int.le_refl _
 ·refine Zb ZaE trivial ?_
  simp only[Wq,Zi,List.map_cons,List.map_nil,EVA,seval,Zd,men]
  unfold Jo
  refine⟨by rw[Ze];omega,?_⟩
  obtain⟨l1,hl1⟩:∃ m:Int,m=l-x.name.size:=⟨_,rfl⟩
  have u1:l1<=l:=by omega
  rw[<-hl1]
  split
  ·rename_i hn;rw[Wf,if_pos hn]
  rename_i hn0
  rw[Wf,if_neg hn0]
theorem ZeZ:ZX Proofs.Tryz.prog Y3 (Zn9 3 (some 3) Vm)=true:=by kernel_rfl
theorem Zcg(a:List TControl)(hl:a.length<=9223372036854775807)(hb:∀ y∈a,ZH 9223372036854775807 y)(l:Int)(h0:0<=l)(h1:l<=1048576):szL Jo a l<=l/\∀ lvl S,Sem Proofs.Tryz.prog Y3 lvl [.tr (.sl (a.map Zi)),iI l] S (iI (szL Jo a l)) S :=
 ⟨Zgn a (fun x hx l h0 h1=>(DM x (hb x hx) l h0 h1).1) h0 h1,fun lvl S=>Zdc ZeZ Zi Jo Zal a l hl h0 h1 (fun x hx l h0 h1=>DM x (hb x hx) l h0 h1) lvl S⟩
end Go.Fd

/-
  WHAT HOLDS OF THE HELPERS OF THE LAWS: eq.. (printed by lawgen.py). Own work.
-/
namespace Go.Fd
set_option maxRecDepth 20000
theorem Zjv:ZX Proofs.Tryz.prog Yi ZlA=true:=by kernel_rfl
theorem Zae(a b:(List Int))(ha:a.length<=9223372036854775807)(lvl:Nat)(S:Sto):Sem Proofs.Tryz.prog Yi lvl [.tr (.sl (rI a)),.tr (.sl (rI b))] S (iB (decide (a=b))) S:=Zle Zjv a b ha lvl S
theorem ZgQ(x y:TNode)(hb:QJ 9223372036854775807 x)(lvl:Nat)(S:Sto):Sem Proofs.Tryz.prog QY lvl [.ag ((Zy x).map .tr),.ag ((Zy y).map .tr)] S (iB (decide (x=y))) S:=by
 have b0:x.links.length<=9223372036854775807:=hb
 refine Zb ZdR trivial ?_
 simp only[DJ,Zy,List.map_cons,List.map_nil,EVA,seval,Zd,men]
 refine Zl (fun hne=>?_) (fun heq0=>?_)
 ·have:¬ x=y:=fun e=>(by rw[e] at hne;simp at hne)
  simp [this]
 refine Zl (fun hne=>?_) (fun heq1=>?_)
 ·have:¬ x=y:=fun e=>(by rw[e] at hne;simp at hne)
  simp [this]
 refine Za (Zae x.links y.links b0) ?_
 simp only[Bool.not_eq_true',EVA,seval,Zd,men]
 refine Zl (fun hne=>?_) (fun heq2=>?_)
 ·have:¬ x=y:=fun e=>(by rw[e] at hne;simp at hne)
  simp [this]
 have:x=y:=by
  cases x;cases y;simp_all
 simp [this]
theorem Zip:ZX Proofs.Tryz.prog Qf (Zoa 3 (some 3) QY)=true:=by kernel_rfl
theorem ZfE(a b:(List TNode))(ha:a.length<=9223372036854775807)(ha2:∀ y∈a,QJ 9223372036854775807 y)(lvl:Nat)(S:Sto):Sem Proofs.Tryz.prog Qf lvl [.tr (.sl (a.map Zy)),.tr (.sl (b.map Zy))] S (iB (decide (a=b))) S :=
 Zdd Zip Zy (fun _=>rfl) a b ha (fun x hx y _ lvl S=>ZgQ x y (ha2 x hx) lvl S) lvl S
theorem ZgR(x y:TWire)(hb:V1 9223372036854775807 x)(lvl:Nat)(S:Sto):Sem Proofs.Tryz.prog QZ lvl [.ag ((ZF x).map .tr),.ag ((ZF y).map .tr)] S (iB (decide (x=y))) S:=by
 have b0:x.name.size<=9223372036854775807:=hb
 refine Zb ZdS trivial ?_
 simp only[DK,ZF,List.map_cons,List.map_nil,EVA,seval,Zd,men]
 refine Zl (fun hne=>?_) (fun heq0=>?_)
 ·have:¬ x=y:=fun e=>(by rw[e] at hne;simp at hne)
  simp [this]
 refine Zl (fun hne=>?_) (fun heq1=>?_)
 ·have:¬ x=y:=fun e=>(by rw[e] at hne;simp at hne)
  simp [this]
 have:x=y:=by
  cases x;cases y;simp_all
 simp [this]
theorem Ziq:ZX Proofs.Tryz.prog Qg (Zoa 2 (some 2) QZ)=true:=by kernel_rfl
theorem ZfF(a b:(List TWire))(ha:a.length<=9223372036854775807)(ha2:∀ y∈a,V1 9223372036854775807 y)(lvl:Nat)(S:Sto):Sem Proofs.Tryz.prog Qg lvl [.tr (.sl (a.map ZF)),.tr (.sl (b.map ZF))] S (iB (decide (a=b))) S :=
 Zdd Ziq ZF (fun _=>rfl) a b ha (fun x hx y _ lvl S=>ZgR x y (ha2 x hx) lvl S) lvl S
theorem ZfG:ZX Proofs.Tryz.prog Vr ZlA=true:=by kernel_rfl
theorem ZdT(a b:(List ByteArray))(ha:a.length<=9223372036854775807)(lvl:Nat)(S:Sto):Sem Proofs.Tryz.prog Vr lvl [.tr (.sl (rS a)),.tr (.sl (rS b))] S (iB (decide (a=b))) S:=Zlf ZfG a b ha lvl S
theorem DN(x y:TBigraph)(hb:ZG 9223372036854775807 x)(lvl:Nat)(S:Sto):Sem Proofs.Tryz.prog J6 lvl [.ag ((Zc x).map .tr),.ag ((Zc y).map .tr)] S (iB (decide (x=y))) S:=by
 obtain⟨b0,b1,b2,b3,b4,b5,b6⟩:=hb
 refine Zb ZaJ trivial ?_
 simp only[Wv,Zc,List.map_cons,List.map_nil,EVA,seval,Zd,men]
 refine Zl (fun hne=>?_) (fun heq0=>?_)
 ·have:¬ x=y:=fun e=>(by rw[e] at hne;simp at hne)
  simp [this]
 refine Za (ZfE x.nodes y.nodes b0 b1) ?_
 simp only[Bool.not_eq_true',EVA,seval,Zd,men]
 refine Zl (fun hne=>?_) (fun heq1=>?_)
 ·have:¬ x=y:=fun e=>(by rw[e] at hne;simp at hne)
  simp [this]
 refine Za (Zae x.sites y.sites b2) ?_
 simp only[Bool.not_eq_true',EVA,seval,Zd,men]
 refine Zl (fun hne=>?_) (fun heq2=>?_)
 ·have:¬ x=y:=fun e=>(by rw[e] at hne;simp at hne)
  simp [this]
 refine Zl (fun hne=>?_) (fun heq3=>?_)
 ·have:¬ x=y:=fun e=>(by rw[e] at hne;simp at hne)
  simp [this]
 refine Za (ZdT x.outer y.outer b3) ?_
 simp only[Bool.not_eq_true',EVA,seval,Zd,men]
 refine Zl (fun hne=>?_) (fun heq4=>?_)
 ·have:¬ x=y:=fun e=>(by rw[e] at hne;simp at hne)
  simp [this]
 refine Za (ZfF x.inner y.inner b5 b6) ?_
 simp only[Bool.not_eq_true',EVA,seval,Zd,men]
 refine Zl (fun hne=>?_) (fun heq5=>?_)
 ·have:¬ x=y:=fun e=>(by rw[e] at hne;simp at hne)
  simp [this]
 have:x=y:=by
  cases x;cases y;simp_all
 simp [this]
theorem Uh(x y:TRule)(hb:Vb 9223372036854775807 x)(lvl:Nat)(S:Sto):Sem Proofs.Tryz.prog JF lvl [.ag ((ZP x).map .tr),.ag ((ZP y).map .tr)] S (iB (decide (x=y))) S:=by
 obtain⟨b0,b1,b2⟩:=hb
 refine Zb ZdM trivial ?_
 simp only[DE,ZP,List.map_cons,List.map_nil,EVA,seval,Zd,men]
 refine Za (DN x.redex y.redex b0) ?_
 simp only[Bool.not_eq_true',EVA,seval,Zd,men]
 refine Zl (fun hne=>?_) (fun heq0=>?_)
 ·have:¬ x=y:=fun e=>(by rw[e] at hne;simp at hne)
  simp [this]
 refine Za (DN x.reactum y.reactum b1) ?_
 simp only[Bool.not_eq_true',EVA,seval,Zd,men]
 refine Zl (fun hne=>?_) (fun heq1=>?_)
 ·have:¬ x=y:=fun e=>(by rw[e] at hne;simp at hne)
  simp [this]
 refine Za (Zae x.copies y.copies b2) ?_
 simp only[Bool.not_eq_true',EVA,seval,Zd,men]
 refine Zl (fun hne=>?_) (fun heq2=>?_)
 ·have:¬ x=y:=fun e=>(by rw[e] at hne;simp at hne)
  simp [this]
 have:x=y:=by
  cases x;cases y;simp_all
 simp [this]
theorem ZdU(x y:TControl)(hb:ZH 9223372036854775807 x)(lvl:Nat)(S:Sto):Sem Proofs.Tryz.prog Vo lvl [.ag ((Zi x).map .tr),.ag ((Zi y).map .tr)] S (iB (decide (x=y))) S:=by
 have b0:x.name.size<=9223372036854775807:=hb
 refine Zb ZaG trivial ?_
 simp only[Ws,Zi,List.map_cons,List.map_nil,EVA,seval,Zd,men]
 refine Zl (fun hne=>?_) (fun heq0=>?_)
 ·have:¬ x=y:=fun e=>(by rw[e] at hne;simp at hne)
  simp [this]
 refine Zl (fun hne=>?_) (fun heq1=>?_)
 ·have:¬ x=y:=fun e=>(by rw[e] at hne;simp at hne)
  simp [this]
 refine Zl (fun hne=>?_) (fun heq2=>?_)
 ·have:¬ x=y:=fun e=>(by rw[e] at hne;simp at hne)
  simp [this]
 have:x=y:=by
  cases x;cases y;simp_all
 simp [this]
theorem Ze0:ZX Proofs.Tryz.prog Y4 (Zoa 3 (some 3) Vo)=true:=by kernel_rfl
theorem Zch(a b:(List TControl))(ha:a.length<=9223372036854775807)(ha2:∀ y∈a,ZH 9223372036854775807 y)(lvl:Nat)(S:Sto):Sem Proofs.Tryz.prog Y4 lvl [.tr (.sl (a.map Zi)),.tr (.sl (b.map Zi))] S (iB (decide (a=b))) S :=
 Zdd Ze0 Zi (fun _=>rfl) a b ha (fun x hx y _ lvl S=>ZdU x y (ha2 x hx) lvl S) lvl S
end Go.Fd

/-
  WHAT HOLDS OF THE HELPERS OF THE LAWS: to.. (printed by lawgen.py). Own work.
-/
namespace Go.Fd
set_option maxRecDepth 20000
theorem Zjw:ZX Proofs.Tryz.prog Yl (ZlB (.int .i64 0))=true:=by kernel_rfl
theorem Zaf(a:(List Int))(ha:a.length<=4294967296)(lvl:Nat)(S:Sto):Sem Proofs.Tryz.prog Yl lvl [.tr (.sl (rI a))] S (.ow 1 (rI a) true) S:=Zlg Zjw a ha lvl S
theorem ZgS(x:TNode)(hb:QJ 4294967296 x)(lvl:Nat)(S:Sto):Sem Proofs.Tryz.prog QW lvl [.ag ((Zy x).map .tr)] S (Zje x) S:=by
 have b0:x.links.length<=4294967296:=hb
 refine Zb ZdP (by simp [Zje,low,men,Zd]) ?_
 simp only[DH,Zy,zfill,zobs,List.map_cons,List.map_nil,Z5,Z6,List.set_cons_zero,List.set_cons_succ,EVA,seval,Zd,men]
 refine Za (Zaf x.links b0) ?_
 simp only[Z5,Z6,List.set_cons_zero,List.set_cons_succ,Prod.mk.injEq,EVA,seval,Zd,men]
 rfl
theorem ZfH(a:(List TNode))(ha:a.length<=4294967296)(hb:∀ y∈a,QJ 4294967296 y)(lvl:Nat)(S:Sto):Sem Proofs.Tryz.prog Qd lvl [.tr (.sl (a.map Zy))] S (.ow 3 (a.map Zy) true) S:=by
 refine Zb Zce trivial ?_
 simp only[UE,List.length_map,bigN,Int.natCast_nonneg,EVA,seval,Zd,men]
 refine⟨by omega,?_⟩
 refine ZT (α:=Unit) a.length (fun j _=>⟨lvl,[(0,.tr (.sl (a.map Zy))),(3,.hd (lvl,224) [] 0 a.length none a.length),(4,iI j)],[(224,.ar 3 (J3 Zy [tv 0,tv 0,.sl []] a j) true a.length (j*1))],S⟩) (fun _ _=>True) () ⟨by simp only[EVA,seval,Zd,men],by (simp only[QH,EVA,seval,Zd,men]) <;> rfl⟩ trivial ?_
 intro j _ hj _
 simp only[List.length_map,EVA,seval,Zd,men]
 refine Zl (fun hlt=>?_) (fun hge=>?_)
 ·have hja:j<a.length:=by omega
  have ga:(a.map Zy)[j]? = some (Zy a[j]):=by simp [hja]
  have gz:(J3 Zy [tv 0,tv 0,.sl []] a j)[j]? = some [tv 0,tv 0,.sl []]:=XH hja
  have hfl:(J3 Zy [tv 0,tv 0,.sl []] a j).length=a.length:=X1 hj
  have hsem:=fun lvl S=>ZgS a[j] (hb a[j] (List.getElem_mem hja)) lvl S
  simp only[ga,gz,Int.natCast_nonneg,Nat.le_refl,hja,Zy,Zje,Nat.reduceLeDiff,EVA,↓reduceIte,Nat.reduceEqDiff,Nat.reduceMul,reduceCtorEq,Nat.reduceAdd,Nat.reduceSub,Nat.reduceLT,Int.reduceToNat,Int.reduceLE,Int.reduceLT,Zd,men]
  refine Za hsem ?_
  simp only[Zje,gz,Int.natCast_nonneg,Nat.le_refl,hja,hfl,Yo,List.getElem?_set_self,List.set_set,List.length_set,List.set_cons_zero,List.set_cons_succ,Prod.mk.injEq,ne_eq,not_false_eq_true,EVA,seval,Zd,men]
  refine⟨by rw[Ze];omega,Zf () hja ?_ trivial⟩
  have hse:=XI (c:=Zy) (z:=[tv 0,tv 0,.sl []]) (e:=[tv a[j].control,tv a[j].parent,.sl (rI a[j].links)]) hja rfl
  rw[hse,show (j+1)*1=j*1+1 from by omega]
  rfl
 ·have:j=a.length:=by omega
  subst this
  rw[XG]
  simp
theorem ZgT(x:TWire)(hb:V1 4294967296 x)(lvl:Nat)(S:Sto):Sem Proofs.Tryz.prog QX lvl [.ag ((ZF x).map .tr)] S (Zjf x) S:=by
 have b0:x.name.size<=4294967296:=hb
 refine Zb ZdQ (by simp [Zjf,low,men,Zd]) ?_
 simp only[DI,ZF,zfill,zobs,List.map_cons,List.map_nil,Z5,Z6,List.set_cons_zero,List.set_cons_succ,EVA,seval,Zd,men]
 rfl
theorem ZfI(a:(List TWire))(ha:a.length<=4294967296)(hb:∀ y∈a,V1 4294967296 y)(lvl:Nat)(S:Sto):Sem Proofs.Tryz.prog Qe lvl [.tr (.sl (a.map ZF))] S (.ow 2 (a.map ZF) true) S:=by
 refine Zb Zcf trivial ?_
 simp only[UF,List.length_map,bigN,Int.natCast_nonneg,EVA,seval,Zd,men]
 refine⟨by omega,?_⟩
 refine ZT (α:=Unit) a.length (fun j _=>⟨lvl,[(0,.tr (.sl (a.map ZF))),(3,.hd (lvl,224) [] 0 a.length none a.length),(4,iI j)],[(224,.ar 2 (J3 ZF [ts ⟨#[]⟩,tv 0] a j) true a.length (j*0))],S⟩) (fun _ _=>True) () ⟨by simp only[EVA,seval,Zd,men],by (simp only[QH,EVA,seval,Zd,men]) <;> rfl⟩ trivial ?_
 intro j _ hj _
 simp only[List.length_map,EVA,seval,Zd,men]
 refine Zl (fun hlt=>?_) (fun hge=>?_)
 ·have hja:j<a.length:=by omega
  have ga:(a.map ZF)[j]? = some (ZF a[j]):=by simp [hja]
  have gz:(J3 ZF [ts ⟨#[]⟩,tv 0] a j)[j]? = some [ts ⟨#[]⟩,tv 0]:=XH hja
  have hfl:(J3 ZF [ts ⟨#[]⟩,tv 0] a j).length=a.length:=X1 hj
  have hsem:=fun lvl S=>ZgT a[j] (hb a[j] (List.getElem_mem hja)) lvl S
  simp only[ga,gz,Int.natCast_nonneg,Nat.le_refl,hja,ZF,Zjf,Nat.reduceLeDiff,EVA,↓reduceIte,Nat.reduceEqDiff,Nat.reduceMul,reduceCtorEq,Nat.reduceAdd,Nat.reduceSub,Nat.reduceLT,Int.reduceToNat,Int.reduceLE,Int.reduceLT,Zd,men]
  refine Za hsem ?_
  simp only[Zjf,gz,Int.natCast_nonneg,Nat.le_refl,hja,hfl,Yo,List.getElem?_set_self,List.set_set,List.length_set,List.set_cons_zero,List.set_cons_succ,Prod.mk.injEq,ne_eq,not_false_eq_true,EVA,seval,Zd,men]
  refine⟨by rw[Ze];omega,Zf () hja ?_ trivial⟩
  have hse:=XI (c:=ZF) (z:=[ts ⟨#[]⟩,tv 0]) (e:=[ts a[j].name,tv a[j].link]) hja rfl
  rw[hse,show (j+1)*0=j*0 from by omega]
  rfl
 ·have:j=a.length:=by omega
  subst this
  rw[XG]
  simp
theorem ZfJ:ZX Proofs.Tryz.prog Vq (ZlB (.string ⟨#[]⟩))=true:=by kernel_rfl
theorem ZdV(a:(List ByteArray))(ha:a.length<=4294967296)(lvl:Nat)(S:Sto):Sem Proofs.Tryz.prog Vq lvl [.tr (.sl (rS a))] S (.ow 1 (rS a) true) S:=Zlh ZfJ a ha lvl S
theorem DO(x:TBigraph)(hb:ZG 4294967296 x)(lvl:Nat)(S:Sto):Sem Proofs.Tryz.prog J5 lvl [.ag ((Zc x).map .tr)] S (Zw x) S:=by
 obtain⟨b0,b1,b2,b3,b4,b5,b6⟩:=hb
 refine Zb ZaI (by simp [Zw,low,men,Zd]) ?_
 simp only[Wu,Zc,zfill,zobs,List.map_cons,List.map_nil,Z5,Z6,List.set_cons_zero,List.set_cons_succ,EVA,seval,Zd,men]
 refine Za (ZfH x.nodes b0 b1) ?_
 simp only[Z5,Z6,List.set_cons_zero,List.set_cons_succ,Prod.mk.injEq,EVA,seval,Zd,men]
 refine Za (Zaf x.sites b2) ?_
 simp only[Z5,Z6,List.set_cons_zero,List.set_cons_succ,Prod.mk.injEq,EVA,seval,Zd,men]
 refine Za (ZdV x.outer b3) ?_
 simp only[Z5,Z6,List.set_cons_zero,List.set_cons_succ,Prod.mk.injEq,EVA,seval,Zd,men]
 refine Za (ZfI x.inner b5 b6) ?_
 simp only[Z5,Z6,List.set_cons_zero,List.set_cons_succ,Prod.mk.injEq,EVA,seval,Zd,men]
 rfl
theorem Ui(x:TRule)(hb:Vb 4294967296 x)(lvl:Nat)(S:Sto):Sem Proofs.Tryz.prog JE lvl [.ag ((ZP x).map .tr)] S (JS x) S:=by
 obtain⟨b0,b1,b2⟩:=hb
 refine Zb ZdL (by simp [JS,low,men,Zd]) ?_
 simp only[DD,ZP,zfill,zobs,List.map_cons,List.map_nil,Z5,Z6,List.set_cons_zero,List.set_cons_succ,EVA,seval,Zd,men]
 refine Za (DO x.redex b0) ?_
 simp only[Zw,Z9,Z5,Z6,List.set_cons_zero,List.set_cons_succ,Prod.mk.injEq,EVA,seval,Zd,men]
 refine Za (DO x.reactum b1) ?_
 simp only[Zw,Z9,Z5,Z6,List.set_cons_zero,List.set_cons_succ,Prod.mk.injEq,EVA,seval,Zd,men]
 refine Za (Zaf x.copies b2) ?_
 simp only[Z9,Z5,Z6,List.set_cons_zero,List.set_cons_succ,Prod.mk.injEq,EVA,seval,Zd,men]
 rfl
theorem ZdW(x:TControl)(hb:ZH 4294967296 x)(lvl:Nat)(S:Sto):Sem Proofs.Tryz.prog Vn lvl [.ag ((Zi x).map .tr)] S (ZaS x) S:=by
 have b0:x.name.size<=4294967296:=hb
 refine Zb ZaF (by simp [ZaS,low,men,Zd]) ?_
 simp only[Wr,Zi,zfill,zobs,List.map_cons,List.map_nil,Z5,Z6,List.set_cons_zero,List.set_cons_succ,EVA,seval,Zd,men]
 rfl
theorem VW(a:(List TControl))(ha:a.length<=4294967296)(hb:∀ y∈a,ZH 4294967296 y)(lvl:Nat)(S:Sto):Sem Proofs.Tryz.prog Jb lvl [.tr (.sl (a.map Zi))] S (.ow 3 (a.map Zi) true) S:=by
 refine Zb Zad trivial ?_
 simp only[XL,List.length_map,bigN,Int.natCast_nonneg,EVA,seval,Zd,men]
 refine⟨by omega,?_⟩
 refine ZT (α:=Unit) a.length (fun j _=>⟨lvl,[(0,.tr (.sl (a.map Zi))),(3,.hd (lvl,224) [] 0 a.length none a.length),(4,iI j)],[(224,.ar 3 (J3 Zi [ts ⟨#[]⟩,tv 0,tv 0] a j) true a.length (j*0))],S⟩) (fun _ _=>True) () ⟨by simp only[EVA,seval,Zd,men],by (simp only[QH,EVA,seval,Zd,men]) <;> rfl⟩ trivial ?_
 intro j _ hj _
 simp only[List.length_map,EVA,seval,Zd,men]
 refine Zl (fun hlt=>?_) (fun hge=>?_)
 ·have hja:j<a.length:=by omega
  have ga:(a.map Zi)[j]? = some (Zi a[j]):=by simp [hja]
  have gz:(J3 Zi [ts ⟨#[]⟩,tv 0,tv 0] a j)[j]? = some [ts ⟨#[]⟩,tv 0,tv 0]:=XH hja
  have hfl:(J3 Zi [ts ⟨#[]⟩,tv 0,tv 0] a j).length=a.length:=X1 hj
  have hsem:=fun lvl S=>ZdW a[j] (hb a[j] (List.getElem_mem hja)) lvl S
  simp only[ga,gz,Int.natCast_nonneg,Nat.le_refl,hja,Zi,ZaS,Nat.reduceLeDiff,EVA,↓reduceIte,Nat.reduceEqDiff,Nat.reduceMul,reduceCtorEq,Nat.reduceAdd,Nat.reduceSub,Nat.reduceLT,Int.reduceToNat,Int.reduceLE,Int.reduceLT,Zd,men]
  refine Za hsem ?_
  simp only[ZaS,gz,Int.natCast_nonneg,Nat.le_refl,hja,hfl,Yo,List.getElem?_set_self,List.set_set,List.length_set,List.set_cons_zero,List.set_cons_succ,Prod.mk.injEq,ne_eq,not_false_eq_true,EVA,seval,Zd,men]
  refine⟨by rw[Ze];omega,Zf () hja ?_ trivial⟩
  have hse:=XI (c:=Zi) (z:=[ts ⟨#[]⟩,tv 0,tv 0]) (e:=[ts a[j].name,tv a[j].ports,tv a[j].kind_]) hja rfl
  rw[hse,show (j+1)*0=j*0 from by omega]
  rfl
 ·have:j=a.length:=by omega
  subst this
  rw[XG]
  simp
end Go.Fd

/-
  WHAT THE LAWS' ARGUMENTS READ AS (printed by lawgen.py). Own work.
-/
namespace Go.Fd
set_option maxRecDepth 20000
theorem ZsD:Qq Proofs.Tryz.prog 9 (fun n:ByteArray=>[ts n]) (fun n=>n.size<=9223372036854775807):=Zem Proofs.Tryz.underlying9
theorem Zj0:Qq Proofs.Tryz.prog 3 (fun n:Int=>[tv n]) (Qz .i64):=ZhE Proofs.Tryz.underlying3
theorem ZsE:Qq Proofs.Tryz.prog 67 Zi (fun x=>ZH 9223372036854775807 x/\Zew x):=U5 (V0 Proofs.Tryz.underlying67 (show U4 Proofs.Tryz.prog 0 [(0,9),(1,3),(2,3)] _ _ from (ZJ (k:=1) (by kernel_rfl) (fun _=>rfl) ZsD (ZJ (k:=1) (by kernel_rfl) (fun _=>rfl) Zj0 (ZJ (k:=1) (by kernel_rfl) (fun _=>rfl) Zj0 XF))))) (fun p=>TControl.mk p.1 p.2.1 p.2.2.1) (fun _=>rfl) (fun x h=>⟨h.1,⟨h.2.1,h.2.2.1⟩⟩)
theorem ZsF:Qq Proofs.Tryz.prog 22 (fun l:List TControl=>[Tr.sl (l.map Zi)]) (fun l=>l.length<=9223372036854775807/\∀ x∈l,(fun x=>ZH 9223372036854775807 x/\Zew x) x):=QG (k:=2) Proofs.Tryz.underlying22 (by kernel_rfl) (fun _=>rfl) ZsE
theorem ZsG:Qq Proofs.Tryz.prog 46 (fun l:List ByteArray=>[Tr.sl (l.map (fun n:ByteArray=>[ts n]))]) (fun l=>l.length<=9223372036854775807/\∀ x∈l,(fun n=>n.size<=9223372036854775807) x):=QG (k:=0) Proofs.Tryz.underlying46 (by kernel_rfl) (fun _=>rfl) ZsD
theorem Zlv:Qq Proofs.Tryz.prog 35 (fun l:List Int=>[Tr.sl (l.map (fun n:Int=>[tv n]))]) (fun l=>l.length<=9223372036854775807/\∀ x∈l,(Qz .i64) x):=QG (k:=0) Proofs.Tryz.underlying35 (by kernel_rfl) (fun _=>rfl) Zj0
theorem Zoz:Qq Proofs.Tryz.prog 162 Zy (fun x=>QJ 9223372036854775807 x/\ZhL x):=U5 (V0 Proofs.Tryz.underlying162 (show U4 Proofs.Tryz.prog 0 [(0,3),(1,3),(2,35)] _ _ from (ZJ (k:=1) (by kernel_rfl) (fun _=>rfl) Zj0 (ZJ (k:=1) (by kernel_rfl) (fun _=>rfl) Zj0 (ZJ (k:=1) (by kernel_rfl) (fun _=>rfl) Zlv XF))))) (fun p=>TNode.mk p.1 p.2.1 p.2.2.1) (fun _=>rfl) (fun x h=>⟨h.2.2.1.1,⟨h.1,h.2.1,(fun y hy=>(h.2.2.1.2 y hy))⟩⟩)
theorem ZsH:Qq Proofs.Tryz.prog 45 (fun l:List TNode=>[Tr.sl (l.map Zy)]) (fun l=>l.length<=9223372036854775807/\∀ x∈l,(fun x=>QJ 9223372036854775807 x/\ZhL x) x):=QG (k:=2) Proofs.Tryz.underlying45 (by kernel_rfl) (fun _=>rfl) Zoz
theorem ZoA:Qq Proofs.Tryz.prog 164 ZF (fun x=>V1 9223372036854775807 x/\ZhN x):=U5 (V0 Proofs.Tryz.underlying164 (show U4 Proofs.Tryz.prog 0 [(0,9),(1,3)] _ _ from (ZJ (k:=1) (by kernel_rfl) (fun _=>rfl) ZsD (ZJ (k:=1) (by kernel_rfl) (fun _=>rfl) Zj0 XF)))) (fun p=>TWire.mk p.1 p.2.1) (fun _=>rfl) (fun x h=>⟨h.1,h.2.1⟩)
theorem ZsI:Qq Proofs.Tryz.prog 47 (fun l:List TWire=>[Tr.sl (l.map ZF)]) (fun l=>l.length<=9223372036854775807/\∀ x∈l,(fun x=>V1 9223372036854775807 x/\ZhN x) x):=QG (k:=1) Proofs.Tryz.underlying47 (by kernel_rfl) (fun _=>rfl) ZoA
theorem ZoB:Qq Proofs.Tryz.prog 49 Zc (fun x=>ZG 9223372036854775807 x/\WO x):=U5 (V0 Proofs.Tryz.underlying49 (show U4 Proofs.Tryz.prog 0 [(0,3),(1,45),(2,35),(3,3),(4,46),(5,47)] _ _ from (ZJ (k:=1) (by kernel_rfl) (fun _=>rfl) Zj0 (ZJ (k:=1) (by kernel_rfl) (fun _=>rfl) ZsH (ZJ (k:=1) (by kernel_rfl) (fun _=>rfl) Zlv (ZJ (k:=1) (by kernel_rfl) (fun _=>rfl) Zj0 (ZJ (k:=1) (by kernel_rfl) (fun _=>rfl) ZsG (ZJ (k:=1) (by kernel_rfl) (fun _=>rfl) ZsI XF)))))))) (fun p=>TBigraph.mk p.1 p.2.1 p.2.2.1 p.2.2.2.1 p.2.2.2.2.1 p.2.2.2.2.2.1) (fun _=>rfl) (fun x h=>⟨⟨h.2.1.1,(fun y hy=>(h.2.1.2 y hy).1),h.2.2.1.1,h.2.2.2.2.1.1,(fun y hy=>(h.2.2.2.2.1.2 y hy)),h.2.2.2.2.2.1.1,(fun y hy=>(h.2.2.2.2.2.1.2 y hy).1)⟩,⟨h.1,(fun y hy=>(h.2.1.2 y hy).2),(fun y hy=>(h.2.2.1.2 y hy)),h.2.2.2.1,(fun y hy=>(h.2.2.2.2.2.1.2 y hy).2)⟩⟩)
theorem ZsJ:Qq Proofs.Tryz.prog 51 ZP (fun x=>Vb 9223372036854775807 x/\Zcu x):=U5 (V0 Proofs.Tryz.underlying51 (show U4 Proofs.Tryz.prog 0 [(0,49),(6,49),(12,35)] _ _ from (ZJ (k:=6) (by kernel_rfl) (fun _=>rfl) ZoB (ZJ (k:=6) (by kernel_rfl) (fun _=>rfl) ZoB (ZJ (k:=1) (by kernel_rfl) (fun _=>rfl) Zlv XF))))) (fun p=>TRule.mk p.1 p.2.1 p.2.2.1) (fun _=>rfl) (fun x h=>⟨⟨h.1.1,h.2.1.1,h.2.2.1.1⟩,⟨h.1.2,h.2.1.2,(fun y hy=>(h.2.2.1.2 y hy))⟩⟩)
end Go.Fd
