/-
  The annotated codes of the functions, printed by a program of mine (gen.py), and the check that they belong to the program.
-/
import Derived.Test.YtilephfpcfclgaaGreatDoorT05
import Derived.KernelRfl
import Derived.Test.YtilephfpcfclgaaGreatDoorProg
set_option linter.all false
namespace Go.Fd
open Go.Proofs.Tryz renaming prog->UbM
def Zid:F2 :=
 { nt:=142,res:=[.t 6 [0]],body:=(.sq (rg [oo 4 (.bt (.t 1)),oo 5 (.bt (.t 2)),om 6 (.k (.bool false))]) (.sq (rg [om 7 (i6 1048576)]) (.sq (rg [qM 20 0,qM 21 7,oo 22 (.ca .pure false (.f Zcn) [.t 20,.t 21]),qM 7 22]) (.sq (.sq (rg [qM 23 7,oo 24 (.bi .lss 0 (.t 23) (i6 0))]) (.cd (.t 24) (.sq (rg [om 6 (.k (.bool true))]) (.rt)) (.sk))) (.sq (rg [qS 25 13 4,qM 26 7,oo 27 (.ca .pure false (.f Zco) [.t 25,.t 26]),qM 7 27]) (.sq (.sq (rg [qM 28 7,oo 29 (.bi .lss 0 (.t 28) (i6 0))]) (.cd (.t 29) (.sq (rg [om 6 (.k (.bool true))]) (.rt)) (.sk))) (.sq (rg [qS 30 6 5,qM 31 7,oo 32 (.ca .pure false (.f UN) [.t 30,.t 31]),qM 7 32]) (.sq (.sq (rg [qM 33 7,oo 34 (.bi .lss 0 (.t 33) (i6 0))]) (.cd (.t 34) (.sq (rg [om 6 (.k (.bool true))]) (.rt)) (.sk))) (.sq (.rg (some 0) [qM 36 0,oo 37 (.ca .pure false (.f WG) [.t 36]),qS 38 13 4,oo 39 (.ca .pure false (.f WH) [.t 38]),qS 40 6 5,oo 41 (.ca .pure false (.f Xx) [.t 40]),oo 42 (.ca .pure false (.f WF) [.t 37,.t 39,.t 41]),qM 35 42,qE 43 0 35,qE 44 1 35,oo 8 (.al [.int .i64 0,.slice none 0 0,.slice none 0 0,.int .i64 0,.slice none 0 0,.slice none 0 0] []),
 ZN (.s0 6 (.t 8) (.t 43)),qM 9 44]) (.sq (rg [qM 45 0,oo 46 (.ca .pure true (.f WG) [.t 45]),qM 10 46]) (.sq (rg [qS 47 13 4,oo 48 (.ca .pure true (.f WH) [.t 47]),oo 11 (.al [.int .i64 0,.slice none 0 0,.slice none 0 0,.int .i64 0,.slice none 0 0,.slice none 0 0,.int .i64 0,.slice none 0 0,.slice none 0 0,.int .i64 0,.slice none 0 0,.slice none 0 0,.slice none 0 0] []),
 ZN (.st 13 (.t 11) (.t 48))]) (.sq (rg [qS 49 6 5,oo 50 (.ca .pure true (.f Xx) [.t 49]),oo 12 (.al [.int .i64 0,.slice none 0 0,.slice none 0 0,.int .i64 0,.slice none 0 0,.slice none 0 0] []),
 ZN (.st 6 (.t 12) (.t 50))]) (.sq (rg [qM 52 10,qS 53 13 11,qS 54 6 12,oo 55 (.ca .pure true (.f Zao) [.t 52,.t 53,.t 54]),qM 51 55,qE 56 0 51,qE 57 1 51,oo 13 (.al [.int .i64 0,.slice none 0 0,.slice none 0 0,.int .i64 0,.slice none 0 0,.slice none 0 0] []),
 ZN (.st 6 (.t 13) (.t 56)),qM 14 57]) (.sq (.sq (rg [qS 58 6 13,qS 59 6 8,oo 60 (.ca .pure false (.f Xy) [.t 58,.t 59]),oo 61 (.nt (.t 60)),qM 62 61,og 63 62 false (.mv (.t 14) none),og 64 62 false (.mv (.t 9) none),og 65 62 false (.bi .neq 2 (.t 63) (.t 64)),oo 66 (.pk (.t 62) (.k (.bool true)) (.t 65))]) (.cd (.t 66) (.sq (rg [om 6 (.k (.bool false))]) (.rt)) (.sk))) (.sq (.sq (rg [qM 67 10,qM 68 0,oo 69 (.ca .pure false (.f WG) [.t 68]),oo 70 (.ca .pure false (.f Zcp) [.t 67,.t 69]),oo 71 (.nt (.t 70))]) (.cd (.t 71) (.sq (rg [om 6 (.k (.bool false))]) (.rt)) (.sk))) (.sq (.sq (.rg (some 0) [qS 72 13 11,qS 73 13 4,oo 74 (.ca .pure false (.f WH) [.t 73]),oo 75 (.ca .pure false (.f Zcq) [.t 72,.t 74]),oo 76 (.nt (.t 75))]) (.cd (.t 76) (.sq (rg [om 6 (.k (.bool false))]) (.rt)) (.sk))) (.sq (.sq (.rg (some 0) [qS 77 6 12,qS 78 6 5,oo 79 (.ca .pure false (.f Xx) [.t 78]),oo 80 (.ca .pure false (.f Xy) [.t 77,.t 79]),oo 81 (.nt (.t 80))]) (.cd (.t 81) (.sq (rg [om 6 (.k (.bool false))]) (.rt)) (.sk))) (.sq (rg [om 15 (i6 1)]) (.sq (rg [qM 82 10,qM 83 15,oo 84 (.ca .any true (.f Zcr) [.t 82,.t 83]),qM 15 84]) (.sq (rg [qS 85 13 11,qM 86 15,oo 87 (.ca .any true (.f Zap) [.t 85,.t 86]),qM 15 87]) (.sq (rg [qS 88 6 12,qM 89 15,oo 90 (.ca .any true (.f Xz) [.t 88,.t 89]),qM 15 90]) (.sq (.sq (rg [qM 91 15,oo 92 (.bi .lss 0 (.t 91) (i6 0)),qM 93 92,og 94 93 false (.ld (some 6) (.t 13)),og 95 93 false (.ld (some 6) (.t 8)),og 96 93 false (.ca .pure false (.f Xy) [.t 94,.t 95]),og 97 93 false (.nt (.t 96)),oo 98 (.pk (.t 93) (.k (.bool true)) (.t 97)),qM 99 98,og 100 99 false (.mv (.t 14) none),og 101 99 false (.mv (.t 9) none),og 102 99 false (.bi .neq 2 (.t 100) (.t 101)),oo 103 (.pk (.t 99) (.k (.bool true)) (.t 102))]) (.cd (.t 103) (.sq (rg [om 6 (.k (.bool false))]) (.rt)) (.sk))) (.sq (rg [om 16 (i6 1)]) (.sq (rg [qS 104 6 13,qM 105 16,oo 106 (.ca .any true (.f Xz) [.t 104,.t 105]),qM 16 106]) (.sq (rg [om 17 (i6 1)]) (.sq (rg [qS 107 6 13,qM 108 17,oo 109 (.ca .pure false (.f Zaq) [.t 107,.t 108]),qM 17 109]) (.sq (.sq (rg [qM 110 17,oo 111 (.bi .lss 0 (.t 110) (i6 0))]) (.cd (.t 111) (.sq (rg [om 6 (.k (.bool false))]) (.rt)) (.sk))) (.sq (.sq (rg [qM 112 17,qM 113 16,qB 114 .neq 112 113]) (.cd (.t 114) (.sq (rg [om 6 (.k (.bool false))]) (.rt)) (.sk))) (.sq (.rg (some 0) [qM 116 0,oo 117 (.ca .pure false (.f WG) [.t 116]),qS 118 13 4,oo 119 (.ca .pure false (.f WH) [.t 118]),qS 120 6 5,oo 121 (.ca .pure false (.f Xx) [.t 120]),oo 122 (.ca .pure false (.f Zao) [.t 117,.t 119,.t 121]),qM 115 122,qE 123 0 115,qE 124 1 115,oo 18 (.al [.int .i64 0,.slice none 0 0,.slice none 0 0,.int .i64 0,.slice none 0 0,.slice none 0 0] []),
 ZN (.s0 6 (.t 18) (.t 123)),qM 19 124]) (.sq (.sq (rg [qS 125 6 18,qS 126 6 8,oo 127 (.ca .pure false (.f Xy) [.t 125,.t 126]),oo 128 (.nt (.t 127)),qM 129 128,og 130 129 false (.mv (.t 19) none),og 131 129 false (.mv (.t 9) none),og 132 129 false (.bi .neq 2 (.t 130) (.t 131)),oo 133 (.pk (.t 129) (.k (.bool true)) (.t 132))]) (.cd (.t 133) (.sq (rg [om 6 (.k (.bool false))]) (.rt)) (.sk))) (.sq (rg [om 17 (i6 1)]) (.sq (rg [qS 134 6 13,qM 135 17,oo 136 (.ca .pure false (.f Zaq) [.t 134,.t 135]),qM 17 136]) (.sq (.sq (rg [qM 137 17,oo 138 (.bi .lss 0 (.t 137) (i6 0))]) (.cd (.t 138) (.sq (rg [om 6 (.k (.bool false))]) (.rt)) (.sk))) (.sq (.sq (rg [qM 139 17,qM 140 16,qB 141 .neq 139 140]) (.cd (.t 141) (.sq (rg [om 6 (.k (.bool false))]) (.rt)) (.sk))) (.sq (rg [om 6 (.k (.bool true))]) (.rt)))))))))))))))))))))))))))))))))))) }
theorem Zvu:Zo UbM Zgy Zid=true:=by kernel_rfl
def Zie:F2 :=
 { nt:=35,res:=[.t 4 [0]],body:=(.sq (rg [om 4 (i6 0)]) (.sq (.sq (rg [om 5 (i6 0)]) (.bl 0 (.lp [0,1,5] [] (.sq (.sq (rg [qM 6 5,qM 7 0,qN 8 7,qB 9 .lss 6 8]) (.cd (.t 9) (.sk) (.ex 0))) (.sq (.bl 1 (.sq (rg [qM 12 0,qM 13 5,qM 14 1,oo 15 (.ca .pure false (.f XX) [.t 14]),qI 16 3 12 13,qF 17 0 16,
 ZN (.st 1 (.t 17) (.t 15))]) (.sq (rg [qM 18 1,oo 19 (.bi .add 0 (.t 18) (i6 1)),qM 1 19]) (.sq (rg [qM 20 0,qM 21 5,qM 22 1,qI 23 3 20 21,qF 24 1 23,
 ZN (.st 1 (.t 24) (.t 22))]) (.sq (rg [qM 25 1,oo 26 (.bi .add 0 (.t 25) (i6 1)),qM 1 26]) (.sq (rg [qM 27 0,qM 28 5,qM 29 1,qI 30 3 27 28,qF 31 2 30,
 ZN (.st 1 (.t 31) (.t 29))])
 (rg [qM 32 1,oo 33 (.bi .add 0 (.t 32) (i6 1)),qM 1 33])))))))
 (rg [qM 10 5,oo 11 (.bi .add 0 (.t 10) (i6 1)),qM 5 11])))))) (.sq (rg [qM 34 1,qM 4 34]) (.rt)))) }
theorem Zvv:Zo UbM Zcr Zie=true:=by kernel_rfl
def Zif:F2 :=
 { nt:=18,res:=[.t 4 [0]],body:=(.sq (rg [oo 2 (.bx (.t 0)),om 4 (i6 0)]) (.sq (rg [qF 5 0 2,qS 6 6 5,qM 7 1,oo 8 (.ca .any true (.f Xz) [.t 6,.t 7]),qM 1 8]) (.sq (rg [qF 9 6 2,qS 10 6 9,qM 11 1,oo 12 (.ca .any true (.f Xz) [.t 10,.t 11]),qM 1 12]) (.sq (rg [qF 13 12 2,qL 14 13,qM 15 1,oo 16 (.ca .any true (.f UR) [.t 14,.t 15]),qM 1 16]) (.sq (rg [qM 17 1,qM 4 17]) (.rt)))))) }
theorem Zvw:Zo UbM Zap Zif=true:=by kernel_rfl
def Zig:F2 :=
 { nt:=22,res:=[.t 4 [0]],body:=(.sq (rg [oo 2 (.bx (.t 0)),om 4 (i6 0)]) (.sq (rg [qF 5 1 2,qL 6 5,qM 7 1,oo 8 (.ca .any true (.f ZcL) [.t 6,.t 7]),qM 1 8]) (.sq (rg [qF 9 2 2,qL 10 9,qM 11 1,oo 12 (.ca .any true (.f UR) [.t 10,.t 11]),qM 1 12]) (.sq (rg [qF 13 4 2,qL 14 13,qM 15 1,oo 16 (.ca .any true (.f ZcM) [.t 14,.t 15]),qM 1 16]) (.sq (rg [qF 17 5 2,qL 18 17,qM 19 1,oo 20 (.ca .any true (.f ZcN) [.t 18,.t 19]),qM 1 20]) (.sq (rg [qM 21 1,qM 4 21]) (.rt))))))) }
theorem Zvx:Zo UbM Xz Zig=true:=by kernel_rfl
def Zih:F2 :=
 { nt:=30,res:=[.t 4 [0]],body:=(.sq (rg [oo 2 (.bt (.t 0)),om 4 (i6 0)]) (.sq (rg [qF 5 1 2,qL 6 5,qM 7 1,oo 8 (.ca .pure false (.f ZcO) [.t 6,.t 7]),qM 1 8]) (.sq (.sq (rg [qM 9 1,oo 10 (.bi .lss 0 (.t 9) (i6 0))]) (.cd (.t 10) (.sq (rg [om 4 (i6 (-1))]) (.rt)) (.sk))) (.sq (rg [qF 11 2 2,qL 12 11,qM 13 1,oo 14 (.ca .pure false (.f Zas) [.t 12,.t 13]),qM 1 14]) (.sq (.sq (rg [qM 15 1,oo 16 (.bi .lss 0 (.t 15) (i6 0))]) (.cd (.t 16) (.sq (rg [om 4 (i6 (-1))]) (.rt)) (.sk))) (.sq (rg [qF 17 4 2,qL 18 17,qM 19 1,oo 20 (.ca .pure false (.f ZcP) [.t 18,.t 19]),qM 1 20]) (.sq (.sq (rg [qM 21 1,oo 22 (.bi .lss 0 (.t 21) (i6 0))]) (.cd (.t 22) (.sq (rg [om 4 (i6 (-1))]) (.rt)) (.sk))) (.sq (rg [qF 23 5 2,qL 24 23,qM 25 1,oo 26 (.ca .pure false (.f ZcQ) [.t 24,.t 25]),qM 1 26]) (.sq (.sq (rg [qM 27 1,oo 28 (.bi .lss 0 (.t 27) (i6 0))]) (.cd (.t 28) (.sq (rg [om 4 (i6 (-1))]) (.rt)) (.sk))) (.sq (rg [qM 29 1,qM 4 29]) (.rt))))))))))) }
theorem Zvy:Zo UbM Zaq Zih=true:=by kernel_rfl
def Zii:F2 :=
 { nt:=20,res:=[.t 2 [0]],body:=(.sq (rg [om 2 (.k (.string ⟨#[]⟩))]) (.sq (.sq (rg [qM 4 0,oo 5 (.bi .leq 0 (.t 4) (i6 0))]) (.cd (.t 5) (.sq (rg [om 2 (.k (.string ⟨#[109,48]⟩))]) (.rt)) (.sk))) (.sq (rg [om 3 (.k (.string ⟨#[]⟩))]) (.sq (.bl 0 (.lp [0,3] [] (.sq (.sq (rg [qM 6 0,oo 7 (.bi .gtr 0 (.t 6) (i6 0))]) (.cd (.t 7) (.sk) (.ex 0))) (.bl 1 (.sq (rg [qM 8 0,oo 9 (.bi .rem 0 (.t 8) (i6 10)),oo 10 (.bi .add 0 (i6 48) (.t 9)),oo 11 (.cv (.int .u8) (.t 10)),oo 12 (.bs 1 1 [.int .u8 0] [(0,.t 11)]),oo 13 (.sb (.t 12)),qM 14 3,qB 15 .add 13 14,qM 3 15])
 (rg [qM 16 0,oo 17 (.bi .quo 0 (.t 16) (i6 10)),qM 0 17])))))) (.sq (rg [qM 18 3,oo 19 (.bi .add 0 (.k (.string ⟨#[109]⟩)) (.t 18)),qM 2 19]) (.rt)))))) }
theorem Zvz:Zo UbM XX Zii=true:=by kernel_rfl
def Zij:F2 :=
 { nt:=19,res:=[.t 4 [0]],body:=(.sq (rg [om 4 (i6 0)]) (.sq (.sq (rg [om 5 (i6 0)]) (.bl 0 (.lp [0,1,5] [] (.sq (.sq (rg [qM 6 5,qM 7 0,qN 8 7,qB 9 .lss 6 8]) (.cd (.t 9) (.sk) (.ex 0))) (.sq (.bl 1 (.sq (rg [qM 12 0,qM 13 5,qM 14 1,qI 15 1 12 13,
 ZN (.st 1 (.t 15) (.t 14))])
 (rg [qM 16 1,oo 17 (.bi .add 0 (.t 16) (i6 1)),qM 1 17])))
 (rg [qM 10 5,oo 11 (.bi .add 0 (.t 10) (i6 1)),qM 5 11])))))) (.sq (rg [qM 18 1,qM 4 18]) (.rt)))) }
theorem ZvA:Zo UbM UR Zij=true:=by kernel_rfl
def Zik:F2 :=
 { nt:=34,res:=[.t 4 [0]],body:=(.sq (rg [om 4 (i6 0)]) (.sq (.sq (rg [om 5 (i6 0)]) (.bl 0 (.lp [0,1,5] [] (.sq (.sq (rg [qM 6 5,qM 7 0,qN 8 7,qB 9 .lss 6 8]) (.cd (.t 9) (.sk) (.ex 0))) (.sq (.bl 1 (.sq (rg [qM 12 0,qM 13 5,qM 14 1,qI 15 3 12 13,qF 16 0 15,
 ZN (.st 1 (.t 16) (.t 14))]) (.sq (rg [qM 17 1,oo 18 (.bi .add 0 (.t 17) (i6 1)),qM 1 18]) (.sq (rg [qM 19 0,qM 20 5,qM 21 1,qI 22 3 19 20,qF 23 1 22,
 ZN (.st 1 (.t 23) (.t 21))]) (.sq (rg [qM 24 1,oo 25 (.bi .add 0 (.t 24) (i6 1)),qM 1 25])
 (rg [qM 26 0,qM 27 5,qI 28 3 26 27,qF 29 2 28,qL 30 29,qM 31 1,oo 32 (.ca .any true (.f UR) [.t 30,.t 31]),qM 1 32]))))))
 (rg [qM 10 5,oo 11 (.bi .add 0 (.t 10) (i6 1)),qM 5 11])))))) (.sq (rg [qM 33 1,qM 4 33]) (.rt)))) }
theorem ZvB:Zo UbM ZcL Zik=true:=by kernel_rfl
def Zil:F2 :=
 { nt:=20,res:=[.t 4 [0]],body:=(.sq (rg [om 4 (i6 0)]) (.sq (.sq (rg [om 5 (i6 0)]) (.bl 0 (.lp [0,1,5] [] (.sq (.sq (rg [qM 6 5,qM 7 0,qN 8 7,qB 9 .lss 6 8]) (.cd (.t 9) (.sk) (.ex 0))) (.sq (.bl 1 (.sq (rg [qM 12 0,qM 13 5,qM 14 1,oo 15 (.ca .pure false (.f XX) [.t 14]),qI 16 1 12 13,
 ZN (.st 1 (.t 16) (.t 15))])
 (rg [qM 17 1,oo 18 (.bi .add 0 (.t 17) (i6 1)),qM 1 18])))
 (rg [qM 10 5,oo 11 (.bi .add 0 (.t 10) (i6 1)),qM 5 11])))))) (.sq (rg [qM 19 1,qM 4 19]) (.rt)))) }
theorem ZvC:Zo UbM ZcM Zil=true:=by kernel_rfl
def Zim:F2 :=
 { nt:=28,res:=[.t 4 [0]],body:=(.sq (rg [om 4 (i6 0)]) (.sq (.sq (rg [om 5 (i6 0)]) (.bl 0 (.lp [0,1,5] [] (.sq (.sq (rg [qM 6 5,qM 7 0,qN 8 7,qB 9 .lss 6 8]) (.cd (.t 9) (.sk) (.ex 0))) (.sq (.bl 1 (.sq (rg [qM 12 0,qM 13 5,qM 14 1,oo 15 (.ca .pure false (.f XX) [.t 14]),qI 16 2 12 13,qF 17 0 16,
 ZN (.st 1 (.t 17) (.t 15))]) (.sq (rg [qM 18 1,oo 19 (.bi .add 0 (.t 18) (i6 1)),qM 1 19]) (.sq (rg [qM 20 0,qM 21 5,qM 22 1,qI 23 2 20 21,qF 24 1 23,
 ZN (.st 1 (.t 24) (.t 22))])
 (rg [qM 25 1,oo 26 (.bi .add 0 (.t 25) (i6 1)),qM 1 26])))))
 (rg [qM 10 5,oo 11 (.bi .add 0 (.t 10) (i6 1)),qM 5 11])))))) (.sq (rg [qM 27 1,qM 4 27]) (.rt)))) }
theorem ZvD:Zo UbM ZcN Zim=true:=by kernel_rfl
def Zin:F2 :=
 { nt:=40,res:=[.t 4 [0]],body:=(.sq (rg [om 4 (i6 0)]) (.sq (.sq (rg [om 5 (i6 0)]) (.bl 0 (.lp [0,1,5] [] (.sq (.sq (rg [qM 6 5,qM 7 0,qN 8 7,qB 9 .lss 6 8]) (.cd (.t 9) (.sk) (.ex 0))) (.sq (.bl 1 (.sq (.sq (rg [qM 12 0,qM 13 5,qI 14 3 12 13,qF 15 0 14,qL 16 15,qM 17 1,qB 18 .neq 16 17]) (.cd (.t 18) (.sq (rg [om 4 (i6 (-1))]) (.rt)) (.sk))) (.sq (rg [qM 19 1,oo 20 (.bi .add 0 (.t 19) (i6 1)),qM 1 20]) (.sq (.sq (rg [qM 21 0,qM 22 5,qI 23 3 21 22,qF 24 1 23,qL 25 24,qM 26 1,qB 27 .neq 25 26]) (.cd (.t 27) (.sq (rg [om 4 (i6 (-1))]) (.rt)) (.sk))) (.sq (rg [qM 28 1,oo 29 (.bi .add 0 (.t 28) (i6 1)),qM 1 29]) (.sq (rg [qM 30 0,qM 31 5,qI 32 3 30 31,qF 33 2 32,qL 34 33,qM 35 1,oo 36 (.ca .pure false (.f Zas) [.t 34,.t 35]),qM 1 36]) (.sq (rg [qM 37 1,oo 38 (.bi .lss 0 (.t 37) (i6 0))]) (.cd (.t 38) (.sq (rg [om 4 (i6 (-1))]) (.rt)) (.sk)))))))))
 (rg [qM 10 5,oo 11 (.bi .add 0 (.t 10) (i6 1)),qM 5 11])))))) (.sq (rg [qM 39 1,qM 4 39]) (.rt)))) }
theorem ZvE:Zo UbM ZcO Zin=true:=by kernel_rfl
def Zio:F2 :=
 { nt:=21,res:=[.t 4 [0]],body:=(.sq (rg [om 4 (i6 0)]) (.sq (.sq (rg [om 5 (i6 0)]) (.bl 0 (.lp [0,1,5] [] (.sq (.sq (rg [qM 6 5,qM 7 0,qN 8 7,qB 9 .lss 6 8]) (.cd (.t 9) (.sk) (.ex 0))) (.sq (.bl 1 (.sq (.sq (rg [qM 12 0,qM 13 5,qI 14 1 12 13,qL 15 14,qM 16 1,qB 17 .neq 15 16]) (.cd (.t 17) (.sq (rg [om 4 (i6 (-1))]) (.rt)) (.sk)))
 (rg [qM 18 1,oo 19 (.bi .add 0 (.t 18) (i6 1)),qM 1 19])))
 (rg [qM 10 5,oo 11 (.bi .add 0 (.t 10) (i6 1)),qM 5 11])))))) (.sq (rg [qM 20 1,qM 4 20]) (.rt)))) }
theorem ZvF:Zo UbM Zas Zio=true:=by kernel_rfl
def Zip:F2 :=
 { nt:=22,res:=[.t 4 [0]],body:=(.sq (rg [om 4 (i6 0)]) (.sq (.sq (rg [om 5 (i6 0)]) (.bl 0 (.lp [0,1,5] [] (.sq (.sq (rg [qM 6 5,qM 7 0,qN 8 7,qB 9 .lss 6 8]) (.cd (.t 9) (.sk) (.ex 0))) (.sq (.bl 1 (.sq (.sq (.rg (some 0) [qM 12 0,qM 13 5,qI 14 1 12 13,qL 15 14,qM 16 1,oo 17 (.ca .pure false (.f XX) [.t 16]),qB 18 .neq 15 17]) (.cd (.t 18) (.sq (rg [om 4 (i6 (-1))]) (.rt)) (.sk)))
 (rg [qM 19 1,oo 20 (.bi .add 0 (.t 19) (i6 1)),qM 1 20])))
 (rg [qM 10 5,oo 11 (.bi .add 0 (.t 10) (i6 1)),qM 5 11])))))) (.sq (rg [qM 21 1,qM 4 21]) (.rt)))) }
theorem ZvG:Zo UbM ZcP Zip=true:=by kernel_rfl
def Ziq:F2 :=
 { nt:=32,res:=[.t 4 [0]],body:=(.sq (rg [om 4 (i6 0)]) (.sq (.sq (rg [om 5 (i6 0)]) (.bl 0 (.lp [0,1,5] [] (.sq (.sq (rg [qM 6 5,qM 7 0,qN 8 7,qB 9 .lss 6 8]) (.cd (.t 9) (.sk) (.ex 0))) (.sq (.bl 1 (.sq (.sq (.rg (some 0) [qM 12 0,qM 13 5,qI 14 2 12 13,qF 15 0 14,qL 16 15,qM 17 1,oo 18 (.ca .pure false (.f XX) [.t 17]),qB 19 .neq 16 18]) (.cd (.t 19) (.sq (rg [om 4 (i6 (-1))]) (.rt)) (.sk))) (.sq (rg [qM 20 1,oo 21 (.bi .add 0 (.t 20) (i6 1)),qM 1 21]) (.sq (.sq (rg [qM 22 0,qM 23 5,qI 24 2 22 23,qF 25 1 24,qL 26 25,qM 27 1,qB 28 .neq 26 27]) (.cd (.t 28) (.sq (rg [om 4 (i6 (-1))]) (.rt)) (.sk)))
 (rg [qM 29 1,oo 30 (.bi .add 0 (.t 29) (i6 1)),qM 1 30])))))
 (rg [qM 10 5,oo 11 (.bi .add 0 (.t 10) (i6 1)),qM 5 11])))))) (.sq (rg [qM 31 1,qM 4 31]) (.rt)))) }
theorem ZvH:Zo UbM ZcQ Ziq=true:=by kernel_rfl
set_option maxRecDepth 20000
abbrev JC(_:Int)(k:Int):Int:=k
abbrev Zy(_:Int):Nat:=1
def mt(q:Nat)(o:ByteArray):ByteArray:=if q=0 then o else mt (q / 10) (⟨#[UInt8.ofNat (48+q % 10)]⟩++o)
 termination_by q
 decreasing_by omega
theorem ZvI{q:Nat}{o:ByteArray}(h:0<q):mt q o=mt (q / 10) (⟨#[UInt8.ofNat (48+q % 10)]⟩++o):=by
 rw[mt,if_neg (by omega)]
theorem ZvJ{o:ByteArray}:mt 0 o=o:=by rw[mt,if_pos rfl]
def U7(k:Int):ByteArray:=if k<=0 then ⟨#[109,48]⟩ else ⟨#[109]⟩++mt k.toNat ⟨#[]⟩
theorem U8(k:Int)(h:k<=4611686018427387904)(lvl:Nat)(S:Zc):Sem UbM XX lvl [iI k] S (iS (U7 k)) S:=by
 refine Zw Zvz trivial ?_
 simp only[Zii,Zb,seval,Za,men]
 unfold U7
 refine Zx (fun h0=>?_) (fun h0=>?_)
 ·rw[if_pos h0]
 ·rw[if_neg h0]
  obtain⟨K,hK⟩:∃ K:Nat,k=K:=⟨k.toNat,by omega⟩
  subst hK
  rw[Int.toNat_natCast]
  refine J7 (α:=Nat×ByteArray) K (fun j y=>⟨lvl,[(0,iI y.1),(3,iS y.2)],[],S⟩) (fun j y=>y.1+j<=K/\mt y.1 y.2=mt K ⟨#[]⟩/\y.1*10 ^ y.2.size<=K/\y.2.size<=19) (K,⟨#[]⟩) ⟨by simp only[Zb,seval,Za,men],by simp only[Zb,seval,Za,men]⟩ ⟨Uaf _,rfl,Nat.le_of_eq (Nat.mul_one K),(by decide:(0:Nat)<=19)⟩ ?_
  intro j y hj hA
  obtain⟨q,o⟩:=y
  obtain⟨h1,h2,h3,h4⟩:=hA
  simp only at h1 h2 h3 h4
  simp only[Zb,seval,Za,men]
  refine Zx (fun hq=>?_) (fun hq=>?_)
  ·have hq0:0<q:=by omega
   have hby:Yu [[Tr.v (Value.int IntKind.u8 (48+(q:Int) % 10))]]=some [UInt8.ofNat (48+q % 10)]:=by
    have e:(48+(q:Int) % 10).toNat=48+q % 10:=by omega
    simp only[cut,List.replicate_one,List.set_cons_zero,UbF,List.take_succ_cons,List.take_zero,Yu,Option.map_some,e]
   have h5:o.size<19:=by
    apply Classical.byContradiction
    intro hc
    have e:o.size=19:=by omega
    rw[e] at h3
    have:1*10 ^ 19<=q*10 ^ 19:=Uay _ hq0
    omega
   have h6:q / 10*10 ^ (o.size+1)<=K:=by
    refine UaE ?_ h3
    rw[Nat.pow_succ,Ubu (10 ^ o.size) 10,<-Nat.mul_assoc]
    exact Uay _ (by omega)
   rw[hby]
   simp only[Zb,seval,Za,men]
   have hs:(ByteArray.mk #[UInt8.ofNat (48+q % 10)]++o).size=o.size+1:=by
    rw[ByteArray.size_append,Ubg];rfl
   have e8:Jg .u8 (48+(q:Int) % 10):=by
    constructor
    ·show (0:Int)<=_;omega
    ·show _<=(255:Int);omega
   refine⟨by rw[Zn];omega,e8,?_,by rw[Zn];omega,ZI (q / 10,ByteArray.mk #[UInt8.ofNat (48+q % 10)]++o) (by omega) ?_ ⟨by simp only;omega,?_,?_,?_⟩⟩
   ·show 1+o.size<=4294967296
    omega
   ·rfl
   ·rw[<-h2,ZvI hq0]
   ·simp only[hs];exact h6
   ·simp only[hs];omega
  ·have:q=0:=by omega
   subst this
   rw[<-h2,ZvJ]
   refine⟨?_,rfl⟩
   show 1+o.size<=4294967296
   omega
abbrev JK(_:ByteArray)(k:Int):ByteArray:=U7 k
abbrev ZJ(_:ByteArray):Nat:=1
theorem ZdK:MarkS UbM UR (fun n:Int=>[tv n]) JC Zy (fun _=>True):=by
 intro a k lvl S id p es r0 kk hw ver st cap hid hv hst h0 hk hl hB
 have hne:id.1≠lvl:=by omega
 have hgp:∀ r,getp (Je es p r) p=some r:=fun r=>XV hv
 refine Zw ZvA trivial ?_
 simp only[Zij,Zb,seval,Za,men]
 refine J7 (α:=Unit) a.length (fun j _=>⟨lvl,[(0,.hd id p 0 a.length cap st),(1,iI (kJ Zy a k j)),(5,iI j)],[],Zj S id (.ar kk (Je es p ((lJ JC Zy a k j).map (fun n:Int=>[tv n]))) true hw ver)⟩) (fun _ _=>True) () ⟨by simp only[ZM hne,Zb,seval,Za,men],by (simp only[QT,UI,Zb,seval,Za,men]) <;> rfl⟩ trivial ?_
 intro j _ hj _
 simp only[Uaa,Zb,seval,Za,men]
 refine Zx (fun hlt=>?_) (fun hge=>?_)
 ·have hja:j<a.length:=by omega
  obtain⟨R,hjR,hR,hR'⟩:=UK JC Zy (fun n:Int=>[tv n]) (k:=k) hja
  have hge2:=QV Zy (a:=a) (k:=k) (j:=j+1)
  rw[Ys Zy hja] at hge2
  have hge3:=QW Zy (a:=a) (k:=k) (j:=j)
  rw[hR]
  try simp only[Zy] at hge2
  try simp only[VX hne,QO hne,QR,Qj,hst,hgp,Qm hjR,QX hv hjR,Uat,hja,ZM hne,Uaa,tv,Zb,seval,Za,men]
  refine⟨by rw[Zn];omega,⟨by rw[Zn];omega,ZI () hja ?_ trivial⟩⟩
  rw[Ys Zy hja,hR']
  simp only[Zy,JC,tv,Int.natCast_add,Int.natCast_one,UaX]
  try rfl
 ·have:j=a.length:=by omega
  subst this
  rw[QU,UJ]
  exact⟨rfl,rfl⟩
def J9(x:TNode)(k:Int):TNode:={ control:=k,parent:=k+1,links:=mL JC Zy x.links (k+1+1) }
def Zv(x:TNode):Nat:=1+1+nL Zy x.links
theorem ZvK:MarkS UbM ZcL Zr J9 Zv (YV 4294967296):=by
 intro a k lvl S id p es r0 kk hw ver st cap hid hv hst h0 hk hl hB
 have hne:id.1≠lvl:=by omega
 have hgp:∀ r,getp (Je es p r) p=some r:=fun r=>XV hv
 refine Zw ZvB trivial ?_
 simp only[Zik,Zb,seval,Za,men]
 refine J7 (α:=Unit) a.length (fun j _=>⟨lvl,[(0,.hd id p 0 a.length cap st),(1,iI (kJ Zv a k j)),(5,iI j)],[],Zj S id (.ar kk (Je es p ((lJ J9 Zv a k j).map Zr)) true hw ver)⟩) (fun _ _=>True) () ⟨by simp only[ZM hne,Zb,seval,Za,men],by (simp only[QT,UI,Zb,seval,Za,men]) <;> rfl⟩ trivial ?_
 intro j _ hj _
 simp only[Uaa,Zb,seval,Za,men]
 refine Zx (fun hlt=>?_) (fun hge=>?_)
 ·have hja:j<a.length:=by omega
  obtain⟨R,hjR,hR,hR'⟩:=UK J9 Zv Zr (k:=k) hja
  have hge2:=QV Zv (a:=a) (k:=k) (j:=j+1)
  rw[Ys Zv hja] at hge2
  have hge3:=QW Zv (a:=a) (k:=k) (j:=j)
  rw[hR]
  try simp only[Zv] at hge2
  have hb:=hB _ (Uan hja)
  have b0:(a[j]).links.length<=4294967296:=hb
  try simp only[VX hne,QO hne,QR,Qj,hst,hgp,Qm hjR,QX hv hjR,Uat,hja,ZM hne,Uaa,Zr,Zb,seval,Za,men]
  refine⟨by rw[Zn];omega,⟨by rw[Zn];omega,?_⟩⟩
  simp only[JL]
  refine Ztr ZdK hid hv (by omega) (by omega) b0 (fun _ _=>trivial) hjR rfl (by simp only[Uaa]) ?_
  simp only[List.set_cons_succ,List.set_cons_zero,VX hne,QO hne,QR,Qj,hst,hgp,Qm hjR,QX hv hjR,Uat,hja,ZM hne,Uaa,Zr,Zb,seval,Za,men]
  refine⟨by rw[Zn];omega,ZI () hja ?_ trivial⟩
  rw[Ys Zv hja,hR']
  simp only[Zv,J9,Zr,Int.natCast_add,Int.natCast_one,UaX]
  try rfl
 ·have:j=a.length:=by omega
  subst this
  rw[QU,UJ]
  exact⟨rfl,rfl⟩
theorem ZvL:MarkS UbM ZcM (fun n:ByteArray=>[ts n]) JK ZJ (fun x=>x.size<=4294967296):=by
 intro a k lvl S id p es r0 kk hw ver st cap hid hv hst h0 hk hl hB
 have hne:id.1≠lvl:=by omega
 have hgp:∀ r,getp (Je es p r) p=some r:=fun r=>XV hv
 refine Zw ZvC trivial ?_
 simp only[Zil,Zb,seval,Za,men]
 refine J7 (α:=Unit) a.length (fun j _=>⟨lvl,[(0,.hd id p 0 a.length cap st),(1,iI (kJ ZJ a k j)),(5,iI j)],[],Zj S id (.ar kk (Je es p ((lJ JK ZJ a k j).map (fun n:ByteArray=>[ts n]))) true hw ver)⟩) (fun _ _=>True) () ⟨by simp only[ZM hne,Zb,seval,Za,men],by (simp only[QT,UI,Zb,seval,Za,men]) <;> rfl⟩ trivial ?_
 intro j _ hj _
 simp only[Uaa,Zb,seval,Za,men]
 refine Zx (fun hlt=>?_) (fun hge=>?_)
 ·have hja:j<a.length:=by omega
  obtain⟨R,hjR,hR,hR'⟩:=UK JK ZJ (fun n:ByteArray=>[ts n]) (k:=k) hja
  have hge2:=QV ZJ (a:=a) (k:=k) (j:=j+1)
  rw[Ys ZJ hja] at hge2
  have hge3:=QW ZJ (a:=a) (k:=k) (j:=j)
  rw[hR]
  try simp only[ZJ] at hge2
  try simp only[VX hne,QO hne,QR,Qj,hst,hgp,Qm hjR,QX hv hjR,Uat,hja,ZM hne,Uaa,tv,Zb,seval,Za,men]
  refine Zg (U8 (kJ ZJ a k j) (by omega)) ?_
  simp only[VX hne,QO hne,QR,Qj,hst,hgp,Qm hjR,QX hv hjR,Uat,hja,ZM hne,Uaa,tv,Zb,seval,Za,men]
  refine⟨by rw[Zn];omega,⟨by rw[Zn];omega,ZI () hja ?_ trivial⟩⟩
  rw[Ys ZJ hja,hR']
  simp only[ZJ,JK,tv,Int.natCast_add,Int.natCast_one,UaX]
  try rfl
 ·have:j=a.length:=by omega
  subst this
  rw[QU,UJ]
  exact⟨rfl,rfl⟩
def Ya(x:TWire)(k:Int):TWire:={ name:=U7 (k),link:=k+1 }
def ZT(x:TWire):Nat:=1+1
theorem ZvM:MarkS UbM ZcN ZH Ya ZT (YA 4294967296):=by
 intro a k lvl S id p es r0 kk hw ver st cap hid hv hst h0 hk hl hB
 have hne:id.1≠lvl:=by omega
 have hgp:∀ r,getp (Je es p r) p=some r:=fun r=>XV hv
 refine Zw ZvD trivial ?_
 simp only[Zim,Zb,seval,Za,men]
 refine J7 (α:=Unit) a.length (fun j _=>⟨lvl,[(0,.hd id p 0 a.length cap st),(1,iI (kJ ZT a k j)),(5,iI j)],[],Zj S id (.ar kk (Je es p ((lJ Ya ZT a k j).map ZH)) true hw ver)⟩) (fun _ _=>True) () ⟨by simp only[ZM hne,Zb,seval,Za,men],by (simp only[QT,UI,Zb,seval,Za,men]) <;> rfl⟩ trivial ?_
 intro j _ hj _
 simp only[Uaa,Zb,seval,Za,men]
 refine Zx (fun hlt=>?_) (fun hge=>?_)
 ·have hja:j<a.length:=by omega
  obtain⟨R,hjR,hR,hR'⟩:=UK Ya ZT ZH (k:=k) hja
  have hge2:=QV ZT (a:=a) (k:=k) (j:=j+1)
  rw[Ys ZT hja] at hge2
  have hge3:=QW ZT (a:=a) (k:=k) (j:=j)
  rw[hR]
  try simp only[ZT] at hge2
  have hb:=hB _ (Uan hja)
  have b0:(a[j]).name.size<=4294967296:=hb
  try simp only[VX hne,QO hne,QR,Qj,hst,hgp,Qm hjR,QX hv hjR,Uat,hja,ZM hne,Uaa,ZH,Zb,seval,Za,men]
  refine Zg (U8 (kJ ZT a k j) (by omega)) ?_
  simp only[VX hne,QO hne,QR,Qj,hst,hgp,Qm hjR,QX hv hjR,Uat,hja,ZM hne,Uaa,ZH,Zb,seval,Za,men]
  refine⟨by rw[Zn];omega,⟨by rw[Zn];omega,⟨by rw[Zn];omega,ZI () hja ?_ trivial⟩⟩⟩
  rw[Ys ZT hja,hR']
  simp only[ZT,Ya,ZH,Int.natCast_add,Int.natCast_one,UaX]
  try rfl
 ·have:j=a.length:=by omega
  subst this
  rw[QU,UJ]
  exact⟨rfl,rfl⟩
def ZaW(x:TControl)(k:Int):TControl:={ name:=U7 (k),ports:=k+1,kind_:=k+1+1 }
def YQ(x:TControl):Nat:=1+1+1
theorem Zir:MarkS UbM Zcr ZF ZaW YQ (Jw 4294967296):=by
 intro a k lvl S id p es r0 kk hw ver st cap hid hv hst h0 hk hl hB
 have hne:id.1≠lvl:=by omega
 have hgp:∀ r,getp (Je es p r) p=some r:=fun r=>XV hv
 refine Zw Zvv trivial ?_
 simp only[Zie,Zb,seval,Za,men]
 refine J7 (α:=Unit) a.length (fun j _=>⟨lvl,[(0,.hd id p 0 a.length cap st),(1,iI (kJ YQ a k j)),(5,iI j)],[],Zj S id (.ar kk (Je es p ((lJ ZaW YQ a k j).map ZF)) true hw ver)⟩) (fun _ _=>True) () ⟨by simp only[ZM hne,Zb,seval,Za,men],by (simp only[QT,UI,Zb,seval,Za,men]) <;> rfl⟩ trivial ?_
 intro j _ hj _
 simp only[Uaa,Zb,seval,Za,men]
 refine Zx (fun hlt=>?_) (fun hge=>?_)
 ·have hja:j<a.length:=by omega
  obtain⟨R,hjR,hR,hR'⟩:=UK ZaW YQ ZF (k:=k) hja
  have hge2:=QV YQ (a:=a) (k:=k) (j:=j+1)
  rw[Ys YQ hja] at hge2
  have hge3:=QW YQ (a:=a) (k:=k) (j:=j)
  rw[hR]
  try simp only[YQ] at hge2
  have hb:=hB _ (Uan hja)
  have b0:(a[j]).name.size<=4294967296:=hb
  try simp only[VX hne,QO hne,QR,Qj,hst,hgp,Qm hjR,QX hv hjR,Uat,hja,ZM hne,Uaa,ZF,Zb,seval,Za,men]
  refine Zg (U8 (kJ YQ a k j) (by omega)) ?_
  simp only[VX hne,QO hne,QR,Qj,hst,hgp,Qm hjR,QX hv hjR,Uat,hja,ZM hne,Uaa,ZF,Zb,seval,Za,men]
  refine⟨by rw[Zn];omega,⟨by rw[Zn];omega,⟨by rw[Zn];omega,⟨by rw[Zn];omega,ZI () hja ?_ trivial⟩⟩⟩⟩
  rw[Ys YQ hja,hR']
  simp only[YQ,ZaW,ZF,Int.natCast_add,Int.natCast_one,UaX]
  try rfl
 ·have:j=a.length:=by omega
  subst this
  rw[QU,UJ]
  exact⟨rfl,rfl⟩
def Zis:F2 :=
 { nt:=24,res:=[.t 4 [0]],body:=(.sq (rg [oo 2 (.bt (.t 0)),om 4 (i6 0)]) (.sq (rg [qF 5 0 2,qS 6 6 5,qM 7 1,oo 8 (.ca .pure false (.f UN) [.t 6,.t 7]),qM 1 8]) (.sq (.sq (rg [qM 9 1,oo 10 (.bi .lss 0 (.t 9) (i6 0))]) (.cd (.t 10) (.sq (rg [om 4 (i6 (-1))]) (.rt)) (.sk))) (.sq (rg [qF 11 6 2,qS 12 6 11,qM 13 1,oo 14 (.ca .pure false (.f UN) [.t 12,.t 13]),qM 1 14]) (.sq (.sq (rg [qM 15 1,oo 16 (.bi .lss 0 (.t 15) (i6 0))]) (.cd (.t 16) (.sq (rg [om 4 (i6 (-1))]) (.rt)) (.sk))) (.sq (rg [qF 17 12 2,qL 18 17,qM 19 1,oo 20 (.ca .pure false (.f UO) [.t 18,.t 19]),qM 1 20]) (.sq (.sq (rg [qM 21 1,oo 22 (.bi .lss 0 (.t 21) (i6 0))]) (.cd (.t 22) (.sq (rg [om 4 (i6 (-1))]) (.rt)) (.sk))) (.sq (rg [qM 23 1,qM 4 23]) (.rt))))))))) }
theorem ZvN:Zo UbM Zco Zis=true:=by kernel_rfl
def Zit:F2 :=
 { nt:=30,res:=[.t 4 [0]],body:=(.sq (rg [oo 2 (.bt (.t 0)),om 4 (i6 0)]) (.sq (rg [qF 5 1 2,qL 6 5,qM 7 1,oo 8 (.ca .pure false (.f Zct) [.t 6,.t 7]),qM 1 8]) (.sq (.sq (rg [qM 9 1,oo 10 (.bi .lss 0 (.t 9) (i6 0))]) (.cd (.t 10) (.sq (rg [om 4 (i6 (-1))]) (.rt)) (.sk))) (.sq (rg [qF 11 2 2,qL 12 11,qM 13 1,oo 14 (.ca .pure false (.f UO) [.t 12,.t 13]),qM 1 14]) (.sq (.sq (rg [qM 15 1,oo 16 (.bi .lss 0 (.t 15) (i6 0))]) (.cd (.t 16) (.sq (rg [om 4 (i6 (-1))]) (.rt)) (.sk))) (.sq (rg [qF 17 4 2,qL 18 17,qM 19 1,oo 20 (.ca .pure false (.f Zcu) [.t 18,.t 19]),qM 1 20]) (.sq (.sq (rg [qM 21 1,oo 22 (.bi .lss 0 (.t 21) (i6 0))]) (.cd (.t 22) (.sq (rg [om 4 (i6 (-1))]) (.rt)) (.sk))) (.sq (rg [qF 23 5 2,qL 24 23,qM 25 1,oo 26 (.ca .pure false (.f Zcv) [.t 24,.t 25]),qM 1 26]) (.sq (.sq (rg [qM 27 1,oo 28 (.bi .lss 0 (.t 27) (i6 0))]) (.cd (.t 28) (.sq (rg [om 4 (i6 (-1))]) (.rt)) (.sk))) (.sq (rg [qM 29 1,qM 4 29]) (.rt))))))))))) }
theorem ZvO:Zo UbM UN Zit=true:=by kernel_rfl
def Ziu:F2 :=
 { nt:=23,res:=[.t 2 [4]],body:=(.sq (rg [om 2 (.k (.slice none 0 0))]) (.sq (rg [qM 5 0,qN 6 5,oo 7 (.ms 3 [.string ⟨#[]⟩,.int .i64 0,.int .i64 0] (.t 6)),qM 3 7]) (.sq (.sq (rg [om 4 (i6 0)]) (.bl 0 (.lp [0,3,4] [224] (.sq (.sq (rg [qM 8 4,qM 9 0,qN 10 9,qB 11 .lss 8 10]) (.cd (.t 11) (.sk) (.ex 0))) (.sq (.bl 1 (rg [qM 14 3,qM 15 4,qM 16 0,qM 17 4,qI 18 3 16 17,qS 19 3 18,oo 20 (.ca .pure true (.f Zcz) [.t 19]),qI 21 3 14 15,
 ZN (.st 3 (.t 21) (.t 20))]))
 (rg [qM 12 4,oo 13 (.bi .add 0 (.t 12) (i6 1)),qM 4 13])))))) (.sq (rg [qM 22 3,qM 2 22]) (.rt))))) }
theorem ZvP:Zo UbM WG Ziu=true:=by kernel_rfl
def Ziv:F2 :=
 { nt:=17,res:=[.c 2 (some 13) [0,4,2,0,2,3,0,4,2,0,2,3,2]],body:=(.sq (rg [oo 1 (.bt (.t 0)),oo 2 (.al [.int .i64 0,.slice none 0 0,.slice none 0 0,.int .i64 0,.slice none 0 0,.slice none 0 0,.int .i64 0,.slice none 0 0,.slice none 0 0,.int .i64 0,.slice none 0 0,.slice none 0 0,.slice none 0 0] [])]) (.sq (rg [oo 3 (.al [.int .i64 0,.slice none 0 0,.slice none 0 0,.int .i64 0,.slice none 0 0,.slice none 0 0,.int .i64 0,.slice none 0 0,.slice none 0 0,.int .i64 0,.slice none 0 0,.slice none 0 0,.slice none 0 0] [])]) (.sq (rg [qF 4 0 1,qS 5 6 4,oo 6 (.ca .pure true (.f Xx) [.t 5]),qF 7 0 3,
 ZN (.st 6 (.t 7) (.t 6))]) (.sq (rg [qF 8 6 1,qS 9 6 8,oo 10 (.ca .pure true (.f Xx) [.t 9]),qF 11 6 3,
 ZN (.st 6 (.t 11) (.t 10))]) (.sq (rg [qF 12 12 1,qL 13 12,oo 14 (.ca .pure true (.f UP) [.t 13]),qF 15 12 3,
 ZN (.st 1 (.t 15) (.t 14))]) (.sq (rg [qS 16 13 3,
 ZN (.st 13 (.t 2) (.t 16))]) (.rt))))))) }
theorem ZvQ:Zo UbM WH Ziv=true:=by kernel_rfl
def Ziw:F2 :=
 { nt:=27,res:=[.c 2 (some 6) [0,4,2,0,2,3]],body:=(.sq (rg [oo 1 (.bt (.t 0)),oo 2 (.al [.int .i64 0,.slice none 0 0,.slice none 0 0,.int .i64 0,.slice none 0 0,.slice none 0 0] [])]) (.sq (rg [oo 3 (.al [.int .i64 0,.slice none 0 0,.slice none 0 0,.int .i64 0,.slice none 0 0,.slice none 0 0] [])]) (.sq (rg [qF 4 0 1,qL 5 4,qF 6 0 3,
 ZN (.st 1 (.t 6) (.t 5))]) (.sq (rg [qF 7 1 1,qL 8 7,oo 9 (.ca .pure true (.f ZcA) [.t 8]),qF 10 1 3,
 ZN (.st 1 (.t 10) (.t 9))]) (.sq (rg [qF 11 2 1,qL 12 11,oo 13 (.ca .pure true (.f UP) [.t 12]),qF 14 2 3,
 ZN (.st 1 (.t 14) (.t 13))]) (.sq (rg [qF 15 3 1,qL 16 15,qF 17 3 3,
 ZN (.st 1 (.t 17) (.t 16))]) (.sq (rg [qF 18 4 1,qL 19 18,oo 20 (.ca .pure true (.f ZcB) [.t 19]),qF 21 4 3,
 ZN (.st 1 (.t 21) (.t 20))]) (.sq (rg [qF 22 5 1,qL 23 22,oo 24 (.ca .pure true (.f ZcC) [.t 23]),qF 25 5 3,
 ZN (.st 1 (.t 25) (.t 24))]) (.sq (rg [qS 26 6 3,
 ZN (.st 6 (.t 2) (.t 26))]) (.rt)))))))))) }
theorem ZvR:Zo UbM Xx Ziw=true:=by kernel_rfl
def Zix:F2 :=
 { nt:=39,res:=[.t 4 [0]],body:=(.sq (rg [oo 2 (.bt (.t 0)),oo 3 (.bt (.t 1)),om 4 (.k (.bool false))]) (.sq (.sq (rg [qF 5 0 2,qL 6 5,qF 7 0 3,qL 8 7,qB 9 .neq 6 8]) (.cd (.t 9) (.sq (rg [om 4 (.k (.bool false))]) (.rt)) (.sk))) (.sq (.sq (rg [qF 10 1 2,qL 11 10,qF 12 1 3,qL 13 12,oo 14 (.ca .pure false (.f ZcH) [.t 11,.t 13]),oo 15 (.nt (.t 14))]) (.cd (.t 15) (.sq (rg [om 4 (.k (.bool false))]) (.rt)) (.sk))) (.sq (.sq (rg [qF 16 2 2,qL 17 16,qF 18 2 3,qL 19 18,oo 20 (.ca .pure false (.f UQ) [.t 17,.t 19]),oo 21 (.nt (.t 20))]) (.cd (.t 21) (.sq (rg [om 4 (.k (.bool false))]) (.rt)) (.sk))) (.sq (.sq (rg [qF 22 3 2,qL 23 22,qF 24 3 3,qL 25 24,qB 26 .neq 23 25]) (.cd (.t 26) (.sq (rg [om 4 (.k (.bool false))]) (.rt)) (.sk))) (.sq (.sq (rg [qF 27 4 2,qL 28 27,qF 29 4 3,qL 30 29,oo 31 (.ca .pure false (.f ZcI) [.t 28,.t 30]),oo 32 (.nt (.t 31))]) (.cd (.t 32) (.sq (rg [om 4 (.k (.bool false))]) (.rt)) (.sk))) (.sq (.sq (rg [qF 33 5 2,qL 34 33,qF 35 5 3,qL 36 35,oo 37 (.ca .pure false (.f ZcJ) [.t 34,.t 36]),oo 38 (.nt (.t 37))]) (.cd (.t 38) (.sq (rg [om 4 (.k (.bool false))]) (.rt)) (.sk))) (.sq (rg [om 4 (.k (.bool true))]) (.rt))))))))) }
theorem ZvS:Zo UbM Xy Zix=true:=by kernel_rfl
def Ziy:F2 :=
 { nt:=23,res:=[.t 4 [0]],body:=(.sq (rg [oo 2 (.bt (.t 0)),oo 3 (.bt (.t 1)),om 4 (.k (.bool false))]) (.sq (.sq (rg [qF 5 0 2,qS 6 6 5,qF 7 0 3,qS 8 6 7,oo 9 (.ca .pure false (.f Xy) [.t 6,.t 8]),oo 10 (.nt (.t 9))]) (.cd (.t 10) (.sq (rg [om 4 (.k (.bool false))]) (.rt)) (.sk))) (.sq (.sq (rg [qF 11 6 2,qS 12 6 11,qF 13 6 3,qS 14 6 13,oo 15 (.ca .pure false (.f Xy) [.t 12,.t 14]),oo 16 (.nt (.t 15))]) (.cd (.t 16) (.sq (rg [om 4 (.k (.bool false))]) (.rt)) (.sk))) (.sq (.sq (rg [qF 17 12 2,qL 18 17,qF 19 12 3,qL 20 19,oo 21 (.ca .pure false (.f UQ) [.t 18,.t 20]),oo 22 (.nt (.t 21))]) (.cd (.t 22) (.sq (rg [om 4 (.k (.bool false))]) (.rt)) (.sk))) (.sq (rg [om 4 (.k (.bool true))]) (.rt)))))) }
theorem ZvT:Zo UbM Zcq Ziy=true:=by kernel_rfl
def Ziz:F2 :=
 { nt:=13,res:=[.t 4 [0]],body:=(.sq (rg [oo 2 (.bt (.t 0)),om 4 (i6 0)]) (.sq (rg [qM 5 1,qF 6 0 2,qL 7 6,oo 8 (.lg (.t 7)),qB 9 .sub 5 8,qM 1 9]) (.sq (.sq (rg [qM 10 1,oo 11 (.bi .lss 0 (.t 10) (i6 0))]) (.cd (.t 11) (.sq (rg [om 4 (i6 (-1))]) (.rt)) (.sk))) (.sq (rg [qM 12 1,qM 4 12]) (.rt))))) }
theorem ZvU:Zo UbM Zcs Ziz=true:=by kernel_rfl
def ZiA:F2 :=
 { nt:=14,res:=[.c 2 (some 3) [0,0,0]],body:=(.sq (rg [oo 1 (.bt (.t 0)),oo 2 (.al [.string ⟨#[]⟩,.int .i64 0,.int .i64 0] [])]) (.sq (rg [oo 3 (.al [.string ⟨#[]⟩,.int .i64 0,.int .i64 0] [])]) (.sq (rg [qF 4 0 1,qL 5 4,qF 6 0 3,
 ZN (.st 1 (.t 6) (.t 5))]) (.sq (rg [qF 7 1 1,qL 8 7,qF 9 1 3,
 ZN (.st 1 (.t 9) (.t 8))]) (.sq (rg [qF 10 2 1,qL 11 10,qF 12 2 3,
 ZN (.st 1 (.t 12) (.t 11))]) (.sq (rg [qS 13 3 3,
 ZN (.st 3 (.t 2) (.t 13))]) (.rt))))))) }
theorem ZvV:Zo UbM Zcz ZiA=true:=by kernel_rfl
def ZiB:F2 :=
 { nt:=23,res:=[.t 2 [4]],body:=(.sq (rg [om 2 (.k (.slice none 0 0))]) (.sq (rg [qM 5 0,qN 6 5,oo 7 (.ms 3 [.int .i64 0,.int .i64 0,.slice none 0 0] (.t 6)),qM 3 7]) (.sq (.sq (rg [om 4 (i6 0)]) (.bl 0 (.lp [0,3,4] [224,640] (.sq (.sq (rg [qM 8 4,qM 9 0,qN 10 9,qB 11 .lss 8 10]) (.cd (.t 11) (.sk) (.ex 0))) (.sq (.bl 1 (rg [qM 14 3,qM 15 4,qM 16 0,qM 17 4,qI 18 3 16 17,qS 19 3 18,oo 20 (.ca .pure true (.f ZcY) [.t 19]),qI 21 3 14 15,
 ZN (.st 3 (.t 21) (.t 20))]))
 (rg [qM 12 4,oo 13 (.bi .add 0 (.t 12) (i6 1)),qM 4 13])))))) (.sq (rg [qM 22 3,qM 2 22]) (.rt))))) }
theorem ZvW:Zo UbM ZcA ZiB=true:=by kernel_rfl
def ZiC:F2 :=
 { nt:=23,res:=[.t 2 [3]],body:=(.sq (rg [om 2 (.k (.slice none 0 0))]) (.sq (rg [qM 5 0,qN 6 5,oo 7 (.ms 2 [.string ⟨#[]⟩,.int .i64 0] (.t 6)),qM 3 7]) (.sq (.sq (rg [om 4 (i6 0)]) (.bl 0 (.lp [0,3,4] [224] (.sq (.sq (rg [qM 8 4,qM 9 0,qN 10 9,qB 11 .lss 8 10]) (.cd (.t 11) (.sk) (.ex 0))) (.sq (.bl 1 (rg [qM 14 3,qM 15 4,qM 16 0,qM 17 4,qI 18 2 16 17,qS 19 2 18,oo 20 (.ca .pure true (.f ZcZ) [.t 19]),qI 21 2 14 15,
 ZN (.st 2 (.t 21) (.t 20))]))
 (rg [qM 12 4,oo 13 (.bi .add 0 (.t 12) (i6 1)),qM 4 13])))))) (.sq (rg [qM 22 3,qM 2 22]) (.rt))))) }
theorem ZvX:Zo UbM ZcC ZiC=true:=by kernel_rfl
def ZiD:F2 :=
 { nt:=20,res:=[.t 4 [0]],body:=(.sq (rg [oo 2 (.bt (.t 0)),oo 3 (.bt (.t 1)),om 4 (.k (.bool false))]) (.sq (.sq (rg [qF 5 0 2,qL 6 5,qF 7 0 3,qL 8 7,qB 9 .neq 6 8]) (.cd (.t 9) (.sq (rg [om 4 (.k (.bool false))]) (.rt)) (.sk))) (.sq (.sq (rg [qF 10 1 2,qL 11 10,qF 12 1 3,qL 13 12,qB 14 .neq 11 13]) (.cd (.t 14) (.sq (rg [om 4 (.k (.bool false))]) (.rt)) (.sk))) (.sq (.sq (rg [qF 15 2 2,qL 16 15,qF 17 2 3,qL 18 17,qB 19 .neq 16 18]) (.cd (.t 19) (.sq (rg [om 4 (.k (.bool false))]) (.rt)) (.sk))) (.sq (rg [om 4 (.k (.bool true))]) (.rt)))))) }
theorem ZvY:Zo UbM ZcK ZiD=true:=by kernel_rfl
def ZiE:F2 :=
 { nt:=12,res:=[.t 4 [0]],body:=(.sq (rg [oo 2 (.bt (.t 0)),om 4 (i6 0)]) (.sq (rg [qF 5 2 2,qL 6 5,qM 7 1,oo 8 (.ca .pure false (.f UO) [.t 6,.t 7]),qM 1 8]) (.sq (.sq (rg [qM 9 1,oo 10 (.bi .lss 0 (.t 9) (i6 0))]) (.cd (.t 10) (.sq (rg [om 4 (i6 (-1))]) (.rt)) (.sk))) (.sq (rg [qM 11 1,qM 4 11]) (.rt))))) }
theorem ZvZ:Zo UbM ZcR ZiE=true:=by kernel_rfl
def ZiF:F2 :=
 { nt:=13,res:=[.t 4 [0]],body:=(.sq (rg [oo 2 (.bt (.t 0)),om 4 (i6 0)]) (.sq (rg [qM 5 1,qF 6 0 2,qL 7 6,oo 8 (.lg (.t 7)),qB 9 .sub 5 8,qM 1 9]) (.sq (.sq (rg [qM 10 1,oo 11 (.bi .lss 0 (.t 10) (i6 0))]) (.cd (.t 11) (.sq (rg [om 4 (i6 (-1))]) (.rt)) (.sk))) (.sq (rg [qM 12 1,qM 4 12]) (.rt))))) }
theorem Zv0:Zo UbM ZcS ZiF=true:=by kernel_rfl
def ZiG:F2 :=
 { nt:=15,res:=[.c 2 (some 3) [0,0,2]],body:=(.sq (rg [oo 1 (.bt (.t 0)),oo 2 (.al [.int .i64 0,.int .i64 0,.slice none 0 0] [])]) (.sq (rg [oo 3 (.al [.int .i64 0,.int .i64 0,.slice none 0 0] [])]) (.sq (rg [qF 4 0 1,qL 5 4,qF 6 0 3,
 ZN (.st 1 (.t 6) (.t 5))]) (.sq (rg [qF 7 1 1,qL 8 7,qF 9 1 3,
 ZN (.st 1 (.t 9) (.t 8))]) (.sq (rg [qF 10 2 1,qL 11 10,oo 12 (.ca .pure true (.f UP) [.t 11]),qF 13 2 3,
 ZN (.st 1 (.t 13) (.t 12))]) (.sq (rg [qS 14 3 3,
 ZN (.st 3 (.t 2) (.t 14))]) (.rt))))))) }
theorem Zv1:Zo UbM ZcY ZiG=true:=by kernel_rfl
def ZiH:F2 :=
 { nt:=11,res:=[.c 2 (some 2) [0,0]],body:=(.sq (rg [oo 1 (.bt (.t 0)),oo 2 (.al [.string ⟨#[]⟩,.int .i64 0] [])]) (.sq (rg [oo 3 (.al [.string ⟨#[]⟩,.int .i64 0] [])]) (.sq (rg [qF 4 0 1,qL 5 4,qF 6 0 3,
 ZN (.st 1 (.t 6) (.t 5))]) (.sq (rg [qF 7 1 1,qL 8 7,qF 9 1 3,
 ZN (.st 1 (.t 9) (.t 8))]) (.sq (rg [qS 10 2 3,
 ZN (.st 2 (.t 2) (.t 10))]) (.rt)))))) }
theorem Zv2:Zo UbM ZcZ ZiH=true:=by kernel_rfl
def ZiI:F2 :=
 { nt:=21,res:=[.t 4 [0]],body:=(.sq (rg [oo 2 (.bt (.t 0)),oo 3 (.bt (.t 1)),om 4 (.k (.bool false))]) (.sq (.sq (rg [qF 5 0 2,qL 6 5,qF 7 0 3,qL 8 7,qB 9 .neq 6 8]) (.cd (.t 9) (.sq (rg [om 4 (.k (.bool false))]) (.rt)) (.sk))) (.sq (.sq (rg [qF 10 1 2,qL 11 10,qF 12 1 3,qL 13 12,qB 14 .neq 11 13]) (.cd (.t 14) (.sq (rg [om 4 (.k (.bool false))]) (.rt)) (.sk))) (.sq (.sq (rg [qF 15 2 2,qL 16 15,qF 17 2 3,qL 18 17,oo 19 (.ca .pure false (.f UQ) [.t 16,.t 18]),oo 20 (.nt (.t 19))]) (.cd (.t 20) (.sq (rg [om 4 (.k (.bool false))]) (.rt)) (.sk))) (.sq (rg [om 4 (.k (.bool true))]) (.rt)))))) }
theorem Zv3:Zo UbM Zc5 ZiI=true:=by kernel_rfl
def ZiJ:F2 :=
 { nt:=15,res:=[.t 4 [0]],body:=(.sq (rg [oo 2 (.bt (.t 0)),oo 3 (.bt (.t 1)),om 4 (.k (.bool false))]) (.sq (.sq (rg [qF 5 0 2,qL 6 5,qF 7 0 3,qL 8 7,qB 9 .neq 6 8]) (.cd (.t 9) (.sq (rg [om 4 (.k (.bool false))]) (.rt)) (.sk))) (.sq (.sq (rg [qF 10 1 2,qL 11 10,qF 12 1 3,qL 13 12,qB 14 .neq 11 13]) (.cd (.t 14) (.sq (rg [om 4 (.k (.bool false))]) (.rt)) (.sk))) (.sq (rg [om 4 (.k (.bool true))]) (.rt))))) }
theorem Zv4:Zo UbM Zc6 ZiJ=true:=by kernel_rfl
theorem Jr{S:Zc}{id i:Zd}{ob:Ob}(h:i≠id):Zj S id ob i=S i:=if_neg h
theorem ZaX{lvl:Nat}{loc:List (Nat×Ob)}{out:Zc}{id:Zd}(h:id.1≠lvl):ZE lvl loc out id=out id:=if_neg h
theorem ZiK{α:Type}{m:α->Int->α}{n:α->Nat}:∀{a:List α} {k:Int} {j:Nat} (h:j<a.length),(mL m n a k)[j]? = some (m a[j] (kJ n a k j))
 | [],_,_,h=>by cases h
 | x::r,k,0,_=>by simp [mL,kJ,nL]
 | x::r,k,j+1,h=>by
  simp only[mL,List.getElem?_cons_succ,List.getElem_cons_succ]
  rw[ZiK (by simpa using h)]
  simp only[kJ,List.take_succ_cons,nL]
  congr 2
  omega
theorem ZaY{α:Type}{c:α->List Tr}{m:α->Int->α}{n:α->Nat}{a:List α}{k:Int}{j:Nat}(h:j<a.length):((mL m n a k).map c)[j]? = some (c (m a[j] (kJ n a k j))):=by
 rw[Uaw,ZiK h];rfl
theorem ZX{α:Type}{c:α->List Tr}{m:α->Int->α}{n:α->Nat}{a:List α}{k:Int}:cut ((mL m n a k).map c) 0 a.length=(mL m n a k).map c:=by
 simp only[cut,UbF]
 exact UaP (by rw[Uaa,ZP];exact Uaf _)
theorem ZU{α:Type}{c:α->List Tr}{a:List α}:cut (a.map c) 0 a.length=a.map c:=by
 simp only[cut,UbF]
 exact UaP (by rw[Uaa];exact Uaf _)
def Jo(x:TBigraph):Nat:=nL Zv x.nodes+nL Zy x.sites+nL ZJ x.outer+nL ZT x.inner
theorem ZiL(x:TBigraph)(k:Int)(lvl:Nat)(S:Zc)(i1 i2 i3 i4:Zd)(k1 h1 v1 k2 h2 v2 k3 h3 v3 k4 h4 v4:Nat)(c1 c2 c3 c4:Option Nat)(l1:i1.1<lvl)(l2:i2.1<lvl)(l3:i3.1<lvl)(l4:i4.1<lvl)(n2_1:i2≠i1)(n3_1:i3≠i1)(n3_2:i3≠i2)(n4_1:i4≠i1)(n4_2:i4≠i2)(n4_3:i4≠i3)(s1:S i1=some (.ar k1 (x.nodes.map Zr) true h1 v1))(s2:S i2=some (.ar k2 (rI x.sites) true h2 v2))(s3:S i3=some (.ar k3 (rS x.outer) true h3 v3))(s4:S i4=some (.ar k4 (x.inner.map ZH) true h4 v4))(h0:0<=k)(hk:k+Jo x<=4611686018427387904)(hb:Jj 4294967296 x) :
  Sem UbM Xz lvl [.ag [iI x.roots,.hd i1 [] 0 x.nodes.length c1 h1,.hd i2 [] 0 x.sites.length c2 h2,iI x.edges,.hd i3 [] 0 x.outer.length c3 h3,.hd i4 [] 0 x.inner.length c4 h4],iI k] S (iI (k+Jo x)) (Zj (Zj (Zj (Zj S i1 (.ar k1 (((mL J9 Zv x.nodes (k))).map Zr) true h1 v1)) i2 (.ar k2 (rI (mL JC Zy x.sites (k+(nL Zv x.nodes:Nat)))) true h2 v2)) i3 (.ar k3 (rS (mL JK ZJ x.outer (k+(nL Zv x.nodes:Nat)+(nL Zy x.sites:Nat)))) true h3 v3)) i4 (.ar k4 (((mL Ya ZT x.inner (k+(nL Zv x.nodes:Nat)+(nL Zy x.sites:Nat)+(nL ZJ x.outer:Nat)))).map ZH) true h4 v4)):=by
 obtain⟨b0,b1,b2,b3,b4,b5,b6⟩:=hb
 have e1:i1.1≠lvl:=by omega
 have e2:i2.1≠lvl:=by omega
 have e3:i3.1≠lvl:=by omega
 have e4:i4.1≠lvl:=by omega
 simp only[Jo] at hk
 refine Zw Zvx trivial ?_
 simp only[Zig,ZM e1,ZM e2,ZM e3,ZM e4,Zb,seval,Za,men]
 simp only[JL]
 refine UL ZvK l1 s1 (by omega) (by omega) b0 b1 ?_
 simp only[ZM e1,ZM e2,ZM e3,ZM e4,Zb,seval,Za,men]
 simp only[JL]
 refine UL ZdK l2 (by rw[Jr n2_1];exact s2) (by omega) (by omega) b2 (fun _ _=>trivial) ?_
 simp only[ZM e1,ZM e2,ZM e3,ZM e4,Zb,seval,Za,men]
 simp only[JL]
 refine UL ZvL l3 (by rw[Jr n3_2,Jr n3_1];exact s3) (by omega) (by omega) b3 b4 ?_
 simp only[ZM e1,ZM e2,ZM e3,ZM e4,Zb,seval,Za,men]
 simp only[JL]
 refine UL ZvM l4 (by rw[Jr n4_3,Jr n4_2,Jr n4_1];exact s4) (by omega) (by omega) b5 b6 ?_
 simp only[ZM e1,ZM e2,ZM e3,ZM e4,Zb,seval,Za,men]
 simp only[Jo,Int.natCast_add,<-UaX]
 try exact⟨rfl,rfl⟩
theorem ZiM{x:TBigraph}{k:Int}{lvl:Nat}{out:Zc}{i1 i2 i3 i4:Zd}{k1 h1 v1 k2 h2 v2 k3 h3 v3 k4 h4 v4:Nat}{c1 c2 c3 c4:Option Nat}{env:List (Nat×IV)}{loc:List (Nat×Ob)}{d:Option Nat}{K:St->Prop}(l1:i1.1<lvl)(l2:i2.1<lvl)(l3:i3.1<lvl)(l4:i4.1<lvl)(n2_1:i2≠i1)(n3_1:i3≠i1)(n3_2:i3≠i2)(n4_1:i4≠i1)(n4_2:i4≠i2)(n4_3:i4≠i3)(s1:out i1=some (.ar k1 (x.nodes.map Zr) true h1 v1))(s2:out i2=some (.ar k2 (rI x.sites) true h2 v2))(s3:out i3=some (.ar k3 (rS x.outer) true h3 v3))(s4:out i4=some (.ar k4 (x.inner.map ZH) true h4 v4))(h0:0<=k)(hk:k+Jo x<=4611686018427387904)(hb:Jj 4294967296 x)
  (hK:K ⟨lvl,ptd d (iI (k+Jo x)) env,loc,(Zj (Zj (Zj (Zj out i1 (.ar k1 (((mL J9 Zv x.nodes (k))).map Zr) true h1 v1)) i2 (.ar k2 (rI (mL JC Zy x.sites (k+(nL Zv x.nodes:Nat)))) true h2 v2)) i3 (.ar k3 (rS (mL JK ZJ x.outer (k+(nL Zv x.nodes:Nat)+(nL Zy x.sites:Nat)))) true h3 v3)) i4 (.ar k4 (((mL Ya ZT x.inner (k+(nL Zv x.nodes:Nat)+(nL Zy x.sites:Nat)+(nL ZJ x.outer:Nat)))).map ZH) true h4 v4))⟩) :
  QP (Sem UbM) Xz true lvl env loc out d K [.ag [iI x.roots,.hd i1 [] 0 x.nodes.length c1 h1,.hd i2 [] 0 x.sites.length c2 h2,iI x.edges,.hd i3 [] 0 x.outer.length c3 h3,.hd i4 [] 0 x.inner.length c4 h4],iI k]:=by
 have e1:i1.1≠lvl:=by omega
 have e2:i2.1≠lvl:=by omega
 have e3:i3.1≠lvl:=by omega
 have e4:i4.1≠lvl:=by omega
 refine Wx (r:=iI (k+Jo x)) loc (Zj (Zj (Zj (Zj out i1 (.ar k1 (((mL J9 Zv x.nodes (k))).map Zr) true h1 v1)) i2 (.ar k2 (rI (mL JC Zy x.sites (k+(nL Zv x.nodes:Nat)))) true h2 v2)) i3 (.ar k3 (rS (mL JK ZJ x.outer (k+(nL Zv x.nodes:Nat)+(nL Zy x.sites:Nat)))) true h3 v3)) i4 (.ar k4 (((mL Ya ZT x.inner (k+(nL Zv x.nodes:Nat)+(nL Zy x.sites:Nat)+(nL ZJ x.outer:Nat)))).map ZH) true h4 v4)) (fun i hi=>?_) ?_ ⟨trivial,hK⟩
 ·rw[Jr (fun e=>e4 (by rw[<-e];exact hi)),Jr (fun e=>e3 (by rw[<-e];exact hi)),Jr (fun e=>e2 (by rw[<-e];exact hi)),Jr (fun e=>e1 (by rw[<-e];exact hi))]
 ·rw[XW e4,XW e3,XW e2,XW e1]
  exact ZiL x k (lvl+1) _ i1 i2 i3 i4 k1 h1 v1 k2 h2 v2 k3 h3 v3 k4 h4 v4 c1 c2 c3 c4 (by omega) (by omega) (by omega) (by omega) n2_1 n3_1 n3_2 n4_1 n4_2 n4_3 (by rw[ZaX e1];exact s1) (by rw[ZaX e2];exact s2) (by rw[ZaX e3];exact s3) (by rw[ZaX e4];exact s4) h0 hk hb
theorem ZaZ{x:TBigraph}{k:Int}{lvl a1 a2 a3 a4:Nat}{out:Zc}{k1 h1 v1 k2 h2 v2 k3 h3 v3 k4 h4 v4:Nat}{c1 c2 c3 c4:Option Nat}{env:List (Nat×IV)}{loc:List (Nat×Ob)}{d:Option Nat}{K:St->Prop}(n2_1:a2≠a1)(n3_1:a3≠a1)(n3_2:a3≠a2)(n4_1:a4≠a1)(n4_2:a4≠a2)(n4_3:a4≠a3)(s1:lkO a1 loc=some (.ar k1 (x.nodes.map Zr) true h1 v1))(s2:lkO a2 loc=some (.ar k2 (rI x.sites) true h2 v2))(s3:lkO a3 loc=some (.ar k3 (rS x.outer) true h3 v3))(s4:lkO a4 loc=some (.ar k4 (x.inner.map ZH) true h4 v4))(h0:0<=k)(hk:k+Jo x<=4611686018427387904)(hb:Jj 4294967296 x)
  (hK:K ⟨lvl,ptd d (iI (k+Jo x)) env,(ptO a4 (.ar k4 (((mL Ya ZT x.inner (k+(nL Zv x.nodes:Nat)+(nL Zy x.sites:Nat)+(nL ZJ x.outer:Nat)))).map ZH) true h4 v4) (ptO a3 (.ar k3 (rS (mL JK ZJ x.outer (k+(nL Zv x.nodes:Nat)+(nL Zy x.sites:Nat)))) true h3 v3) (ptO a2 (.ar k2 (rI (mL JC Zy x.sites (k+(nL Zv x.nodes:Nat)))) true h2 v2) (ptO a1 (.ar k1 (((mL J9 Zv x.nodes (k))).map Zr) true h1 v1) loc)))),out⟩) :
  QP (Sem UbM) Xz true lvl env loc out d K [.ag [iI x.roots,.hd (lvl,a1) [] 0 x.nodes.length c1 h1,.hd (lvl,a2) [] 0 x.sites.length c2 h2,iI x.edges,.hd (lvl,a3) [] 0 x.outer.length c3 h3,.hd (lvl,a4) [] 0 x.inner.length c4 h4],iI k]:=by
 refine Wx (r:=iI (k+Jo x)) (ptO a4 (.ar k4 (((mL Ya ZT x.inner (k+(nL Zv x.nodes:Nat)+(nL Zy x.sites:Nat)+(nL ZJ x.outer:Nat)))).map ZH) true h4 v4) (ptO a3 (.ar k3 (rS (mL JK ZJ x.outer (k+(nL Zv x.nodes:Nat)+(nL Zy x.sites:Nat)))) true h3 v3) (ptO a2 (.ar k2 (rI (mL JC Zy x.sites (k+(nL Zv x.nodes:Nat)))) true h2 v2) (ptO a1 (.ar k1 (((mL J9 Zv x.nodes (k))).map Zr) true h1 v1) loc)))) out (fun _ _=>rfl) ?_ ⟨trivial,hK⟩
 rw[Va,Va,Va,Va]
 exact ZiL x k (lvl+1) _ (lvl,a1) (lvl,a2) (lvl,a3) (lvl,a4) k1 h1 v1 k2 h2 v2 k3 h3 v3 k4 h4 v4 c1 c2 c3 c4 (UaA _) (UaA _) (UaA _) (UaA _) (fun e=>n2_1 (congrArg Prod.snd e)) (fun e=>n3_1 (congrArg Prod.snd e)) (fun e=>n3_2 (congrArg Prod.snd e)) (fun e=>n4_1 (congrArg Prod.snd e)) (fun e=>n4_2 (congrArg Prod.snd e)) (fun e=>n4_3 (congrArg Prod.snd e)) (by rw[JA];exact s1) (by rw[JA];exact s2) (by rw[JA];exact s3) (by rw[JA];exact s4) h0 hk hb
def WP(x:TBigraph)(k:Int):TBigraph:={ x with nodes:=mL J9 Zv x.nodes (k),sites:=mL JC Zy x.sites (k+(nL Zv x.nodes:Nat)),outer:=mL JK ZJ x.outer (k+(nL Zv x.nodes:Nat)+(nL Zy x.sites:Nat)),inner:=mL Ya ZT x.inner (k+(nL Zv x.nodes:Nat)+(nL Zy x.sites:Nat)+(nL ZJ x.outer:Nat)) }
def Vp(x:TRule):Nat:=Jo x.redex+Jo x.reactum+nL Zy x.copies
theorem Zv5(x:TRule)(k:Int)(lvl:Nat)(S:Zc)(i1 i2 i3 i4 i5 i6 i7 i8 i9:Zd)(k1 h1 v1 k2 h2 v2 k3 h3 v3 k4 h4 v4 k5 h5 v5 k6 h6 v6 k7 h7 v7 k8 h8 v8 k9 h9 v9:Nat)(c1 c2 c3 c4 c5 c6 c7 c8 c9:Option Nat)(l1:i1.1<lvl)(l2:i2.1<lvl)(l3:i3.1<lvl)(l4:i4.1<lvl)(l5:i5.1<lvl)(l6:i6.1<lvl)(l7:i7.1<lvl)(l8:i8.1<lvl)(l9:i9.1<lvl)(n2_1:i2≠i1)(n3_1:i3≠i1)(n3_2:i3≠i2)(n4_1:i4≠i1)(n4_2:i4≠i2)(n4_3:i4≠i3)(n5_1:i5≠i1)(n5_2:i5≠i2)(n5_3:i5≠i3)(n5_4:i5≠i4)(n6_1:i6≠i1)(n6_2:i6≠i2)(n6_3:i6≠i3)(n6_4:i6≠i4)(n6_5:i6≠i5)(n7_1:i7≠i1)(n7_2:i7≠i2)(n7_3:i7≠i3)(n7_4:i7≠i4)(n7_5:i7≠i5)(n7_6:i7≠i6)(n8_1:i8≠i1)(n8_2:i8≠i2)(n8_3:i8≠i3)(n8_4:i8≠i4)(n8_5:i8≠i5)(n8_6:i8≠i6)(n8_7:i8≠i7)(n9_1:i9≠i1)(n9_2:i9≠i2)(n9_3:i9≠i3)(n9_4:i9≠i4)(n9_5:i9≠i5)(n9_6:i9≠i6)(n9_7:i9≠i7)(n9_8:i9≠i8)(s1:S i1=some (.ar k1 (x.redex.nodes.map Zr) true h1 v1))(s2:S i2=some (.ar k2 (rI x.redex.sites) true h2 v2))(s3:S i3=some (.ar k3 (rS x.redex.outer) true h3 v3))(s4:S i4=some (.ar k4 (x.redex.inner.map ZH) true h4 v4))(s5:S i5=some (.ar k5 (x.reactum.nodes.map Zr) true h5 v5))(s6:S i6=some (.ar k6 (rI x.reactum.sites) true h6 v6))(s7:S i7=some (.ar k7 (rS x.reactum.outer) true h7 v7))(s8:S i8=some (.ar k8 (x.reactum.inner.map ZH) true h8 v8))(s9:S i9=some (.ar k9 (rI x.copies) true h9 v9))(h0:0<=k)(hk:k+Vp x<=4611686018427387904)(hb:YB 4294967296 x) :
  Sem UbM Zap lvl [.ag [iI x.redex.roots,.hd i1 [] 0 x.redex.nodes.length c1 h1,.hd i2 [] 0 x.redex.sites.length c2 h2,iI x.redex.edges,.hd i3 [] 0 x.redex.outer.length c3 h3,.hd i4 [] 0 x.redex.inner.length c4 h4,iI x.reactum.roots,.hd i5 [] 0 x.reactum.nodes.length c5 h5,.hd i6 [] 0 x.reactum.sites.length c6 h6,iI x.reactum.edges,.hd i7 [] 0 x.reactum.outer.length c7 h7,.hd i8 [] 0 x.reactum.inner.length c8 h8,.hd i9 [] 0 x.copies.length c9 h9],iI k] S (iI (k+Vp x)) (Zj (Zj (Zj (Zj (Zj (Zj (Zj (Zj (Zj S i1 (.ar k1 (((mL J9 Zv x.redex.nodes (k))).map Zr) true h1 v1)) i2 (.ar k2 (rI (mL JC Zy x.redex.sites (k+(nL Zv x.redex.nodes:Nat)))) true h2 v2)) i3 (.ar k3 (rS (mL JK ZJ x.redex.outer (k+(nL Zv x.redex.nodes:Nat)+(nL Zy x.redex.sites:Nat)))) true h3 v3)) i4 (.ar k4 (((mL Ya ZT x.redex.inner (k+(nL Zv x.redex.nodes:Nat)+(nL Zy x.redex.sites:Nat)+(nL ZJ x.redex.outer:Nat)))).map ZH) true h4 v4)) i5 (.ar k5 (((mL J9 Zv x.reactum.nodes (k+(nL Zv x.redex.nodes:Nat)+(nL Zy x.redex.sites:Nat)+(nL ZJ x.redex.outer:Nat)+(nL ZT x.redex.inner:Nat)))).map Zr) true h5 v5)) i6 (.ar k6 (rI (mL JC Zy x.reactum.sites (k+(nL Zv x.redex.nodes:Nat)+(nL Zy x.redex.sites:Nat)+(nL ZJ x.redex.outer:Nat)+(nL ZT x.redex.inner:Nat)+(nL Zv x.reactum.nodes:Nat)))) true h6 v6)) i7 (.ar k7 (rS (mL JK ZJ x.reactum.outer (k+(nL Zv x.redex.nodes:Nat)+(nL Zy x.redex.sites:Nat)+(nL ZJ x.redex.outer:Nat)+(nL ZT x.redex.inner:Nat)+(nL Zv x.reactum.nodes:Nat)+(nL Zy x.reactum.sites:Nat)))) true h7 v7)) i8 (.ar k8 (((mL Ya ZT x.reactum.inner (k+(nL Zv x.redex.nodes:Nat)+(nL Zy x.redex.sites:Nat)+(nL ZJ x.redex.outer:Nat)+(nL ZT x.redex.inner:Nat)+(nL Zv x.reactum.nodes:Nat)+(nL Zy x.reactum.sites:Nat)+(nL ZJ x.reactum.outer:Nat)))).map ZH) true h8 v8)) i9 (.ar k9 (rI (mL JC Zy x.copies (k+(nL Zv x.redex.nodes:Nat)+(nL Zy x.redex.sites:Nat)+(nL ZJ x.redex.outer:Nat)+(nL ZT x.redex.inner:Nat)+(nL Zv x.reactum.nodes:Nat)+(nL Zy x.reactum.sites:Nat)+(nL ZJ x.reactum.outer:Nat)+(nL ZT x.reactum.inner:Nat)))) true h9 v9)):=by
 obtain⟨b0,b1,b2⟩:=hb
 have e1:i1.1≠lvl:=by omega
 have e2:i2.1≠lvl:=by omega
 have e3:i3.1≠lvl:=by omega
 have e4:i4.1≠lvl:=by omega
 have e5:i5.1≠lvl:=by omega
 have e6:i6.1≠lvl:=by omega
 have e7:i7.1≠lvl:=by omega
 have e8:i8.1≠lvl:=by omega
 have e9:i9.1≠lvl:=by omega
 simp only[Vp,Jo] at hk
 refine Zw Zvw trivial ?_
 simp only[Zif,ZM e1,ZM e2,ZM e3,ZM e4,ZM e5,ZM e6,ZM e7,ZM e8,ZM e9,Zb,seval,Za,men]
 simp only[JL]
 refine ZiM l1 l2 l3 l4 n2_1 n3_1 n3_2 n4_1 n4_2 n4_3 s1 s2 s3 s4 (by omega) (by simp only[Vp,Jo];omega) b0 ?_
 simp only[ZM e1,ZM e2,ZM e3,ZM e4,ZM e5,ZM e6,ZM e7,ZM e8,ZM e9,Zb,seval,Za,men]
 simp only[Jo,Int.natCast_add,<-UaX]
 simp only[JL]
 refine ZiM l5 l6 l7 l8 n6_5 n7_5 n7_6 n8_5 n8_6 n8_7 (by rw[Jr n5_4,Jr n5_3,Jr n5_2,Jr n5_1];exact s5) (by rw[Jr n6_4,Jr n6_3,Jr n6_2,Jr n6_1];exact s6) (by rw[Jr n7_4,Jr n7_3,Jr n7_2,Jr n7_1];exact s7) (by rw[Jr n8_4,Jr n8_3,Jr n8_2,Jr n8_1];exact s8) (by omega) (by simp only[Vp,Jo];omega) b1 ?_
 simp only[ZM e1,ZM e2,ZM e3,ZM e4,ZM e5,ZM e6,ZM e7,ZM e8,ZM e9,Zb,seval,Za,men]
 simp only[Jo,Int.natCast_add,<-UaX]
 simp only[JL]
 refine UL ZdK l9 (by rw[Jr n9_8,Jr n9_7,Jr n9_6,Jr n9_5,Jr n9_4,Jr n9_3,Jr n9_2,Jr n9_1];exact s9) (by omega) (by omega) b2 (fun _ _=>trivial) ?_
 simp only[ZM e1,ZM e2,ZM e3,ZM e4,ZM e5,ZM e6,ZM e7,ZM e8,ZM e9,Zb,seval,Za,men]
 simp only[Vp,Jo,Int.natCast_add,<-UaX]
 try exact⟨rfl,rfl⟩
theorem ZiN{x:TRule}{k:Int}{lvl a1 a2 a3 a4 a5 a6 a7 a8 a9:Nat}{out:Zc}{k1 h1 v1 k2 h2 v2 k3 h3 v3 k4 h4 v4 k5 h5 v5 k6 h6 v6 k7 h7 v7 k8 h8 v8 k9 h9 v9:Nat}{c1 c2 c3 c4 c5 c6 c7 c8 c9:Option Nat}{env:List (Nat×IV)}{loc:List (Nat×Ob)}{d:Option Nat}{K:St->Prop}(n2_1:a2≠a1)(n3_1:a3≠a1)(n3_2:a3≠a2)(n4_1:a4≠a1)(n4_2:a4≠a2)(n4_3:a4≠a3)(n5_1:a5≠a1)(n5_2:a5≠a2)(n5_3:a5≠a3)(n5_4:a5≠a4)(n6_1:a6≠a1)(n6_2:a6≠a2)(n6_3:a6≠a3)(n6_4:a6≠a4)(n6_5:a6≠a5)(n7_1:a7≠a1)(n7_2:a7≠a2)(n7_3:a7≠a3)(n7_4:a7≠a4)(n7_5:a7≠a5)(n7_6:a7≠a6)(n8_1:a8≠a1)(n8_2:a8≠a2)(n8_3:a8≠a3)(n8_4:a8≠a4)(n8_5:a8≠a5)(n8_6:a8≠a6)(n8_7:a8≠a7)(n9_1:a9≠a1)(n9_2:a9≠a2)(n9_3:a9≠a3)(n9_4:a9≠a4)(n9_5:a9≠a5)(n9_6:a9≠a6)(n9_7:a9≠a7)(n9_8:a9≠a8)(s1:lkO a1 loc=some (.ar k1 (x.redex.nodes.map Zr) true h1 v1))(s2:lkO a2 loc=some (.ar k2 (rI x.redex.sites) true h2 v2))(s3:lkO a3 loc=some (.ar k3 (rS x.redex.outer) true h3 v3))(s4:lkO a4 loc=some (.ar k4 (x.redex.inner.map ZH) true h4 v4))(s5:lkO a5 loc=some (.ar k5 (x.reactum.nodes.map Zr) true h5 v5))(s6:lkO a6 loc=some (.ar k6 (rI x.reactum.sites) true h6 v6))(s7:lkO a7 loc=some (.ar k7 (rS x.reactum.outer) true h7 v7))(s8:lkO a8 loc=some (.ar k8 (x.reactum.inner.map ZH) true h8 v8))(s9:lkO a9 loc=some (.ar k9 (rI x.copies) true h9 v9))(h0:0<=k)(hk:k+Vp x<=4611686018427387904)(hb:YB 4294967296 x)
  (hK:K ⟨lvl,ptd d (iI (k+Vp x)) env,(ptO a9 (.ar k9 (rI (mL JC Zy x.copies (k+(nL Zv x.redex.nodes:Nat)+(nL Zy x.redex.sites:Nat)+(nL ZJ x.redex.outer:Nat)+(nL ZT x.redex.inner:Nat)+(nL Zv x.reactum.nodes:Nat)+(nL Zy x.reactum.sites:Nat)+(nL ZJ x.reactum.outer:Nat)+(nL ZT x.reactum.inner:Nat)))) true h9 v9) (ptO a8 (.ar k8 (((mL Ya ZT x.reactum.inner (k+(nL Zv x.redex.nodes:Nat)+(nL Zy x.redex.sites:Nat)+(nL ZJ x.redex.outer:Nat)+(nL ZT x.redex.inner:Nat)+(nL Zv x.reactum.nodes:Nat)+(nL Zy x.reactum.sites:Nat)+(nL ZJ x.reactum.outer:Nat)))).map ZH) true h8 v8) (ptO a7 (.ar k7 (rS (mL JK ZJ x.reactum.outer (k+(nL Zv x.redex.nodes:Nat)+(nL Zy x.redex.sites:Nat)+(nL ZJ x.redex.outer:Nat)+(nL ZT x.redex.inner:Nat)+(nL Zv x.reactum.nodes:Nat)+(nL Zy x.reactum.sites:Nat)))) true h7 v7) (ptO a6 (.ar k6 (rI (mL JC Zy x.reactum.sites (k+(nL Zv x.redex.nodes:Nat)+(nL Zy x.redex.sites:Nat)+(nL ZJ x.redex.outer:Nat)+(nL ZT x.redex.inner:Nat)+(nL Zv x.reactum.nodes:Nat)))) true h6 v6) (ptO a5 (.ar k5 (((mL J9 Zv x.reactum.nodes (k+(nL Zv x.redex.nodes:Nat)+(nL Zy x.redex.sites:Nat)+(nL ZJ x.redex.outer:Nat)+(nL ZT x.redex.inner:Nat)))).map Zr) true h5 v5) (ptO a4 (.ar k4 (((mL Ya ZT x.redex.inner (k+(nL Zv x.redex.nodes:Nat)+(nL Zy x.redex.sites:Nat)+(nL ZJ x.redex.outer:Nat)))).map ZH) true h4 v4) (ptO a3 (.ar k3 (rS (mL JK ZJ x.redex.outer (k+(nL Zv x.redex.nodes:Nat)+(nL Zy x.redex.sites:Nat)))) true h3 v3) (ptO a2 (.ar k2 (rI (mL JC Zy x.redex.sites (k+(nL Zv x.redex.nodes:Nat)))) true h2 v2) (ptO a1 (.ar k1 (((mL J9 Zv x.redex.nodes (k))).map Zr) true h1 v1) loc))))))))),out⟩) :
  QP (Sem UbM) Zap true lvl env loc out d K [.ag [iI x.redex.roots,.hd (lvl,a1) [] 0 x.redex.nodes.length c1 h1,.hd (lvl,a2) [] 0 x.redex.sites.length c2 h2,iI x.redex.edges,.hd (lvl,a3) [] 0 x.redex.outer.length c3 h3,.hd (lvl,a4) [] 0 x.redex.inner.length c4 h4,iI x.reactum.roots,.hd (lvl,a5) [] 0 x.reactum.nodes.length c5 h5,.hd (lvl,a6) [] 0 x.reactum.sites.length c6 h6,iI x.reactum.edges,.hd (lvl,a7) [] 0 x.reactum.outer.length c7 h7,.hd (lvl,a8) [] 0 x.reactum.inner.length c8 h8,.hd (lvl,a9) [] 0 x.copies.length c9 h9],iI k]:=by
 refine Wx (r:=iI (k+Vp x)) (ptO a9 (.ar k9 (rI (mL JC Zy x.copies (k+(nL Zv x.redex.nodes:Nat)+(nL Zy x.redex.sites:Nat)+(nL ZJ x.redex.outer:Nat)+(nL ZT x.redex.inner:Nat)+(nL Zv x.reactum.nodes:Nat)+(nL Zy x.reactum.sites:Nat)+(nL ZJ x.reactum.outer:Nat)+(nL ZT x.reactum.inner:Nat)))) true h9 v9) (ptO a8 (.ar k8 (((mL Ya ZT x.reactum.inner (k+(nL Zv x.redex.nodes:Nat)+(nL Zy x.redex.sites:Nat)+(nL ZJ x.redex.outer:Nat)+(nL ZT x.redex.inner:Nat)+(nL Zv x.reactum.nodes:Nat)+(nL Zy x.reactum.sites:Nat)+(nL ZJ x.reactum.outer:Nat)))).map ZH) true h8 v8) (ptO a7 (.ar k7 (rS (mL JK ZJ x.reactum.outer (k+(nL Zv x.redex.nodes:Nat)+(nL Zy x.redex.sites:Nat)+(nL ZJ x.redex.outer:Nat)+(nL ZT x.redex.inner:Nat)+(nL Zv x.reactum.nodes:Nat)+(nL Zy x.reactum.sites:Nat)))) true h7 v7) (ptO a6 (.ar k6 (rI (mL JC Zy x.reactum.sites (k+(nL Zv x.redex.nodes:Nat)+(nL Zy x.redex.sites:Nat)+(nL ZJ x.redex.outer:Nat)+(nL ZT x.redex.inner:Nat)+(nL Zv x.reactum.nodes:Nat)))) true h6 v6) (ptO a5 (.ar k5 (((mL J9 Zv x.reactum.nodes (k+(nL Zv x.redex.nodes:Nat)+(nL Zy x.redex.sites:Nat)+(nL ZJ x.redex.outer:Nat)+(nL ZT x.redex.inner:Nat)))).map Zr) true h5 v5) (ptO a4 (.ar k4 (((mL Ya ZT x.redex.inner (k+(nL Zv x.redex.nodes:Nat)+(nL Zy x.redex.sites:Nat)+(nL ZJ x.redex.outer:Nat)))).map ZH) true h4 v4) (ptO a3 (.ar k3 (rS (mL JK ZJ x.redex.outer (k+(nL Zv x.redex.nodes:Nat)+(nL Zy x.redex.sites:Nat)))) true h3 v3) (ptO a2 (.ar k2 (rI (mL JC Zy x.redex.sites (k+(nL Zv x.redex.nodes:Nat)))) true h2 v2) (ptO a1 (.ar k1 (((mL J9 Zv x.redex.nodes (k))).map Zr) true h1 v1) loc))))))))) out (fun _ _=>rfl) ?_ ⟨trivial,hK⟩
 rw[Va,Va,Va,Va,Va,Va,Va,Va,Va]
 exact Zv5 x k (lvl+1) _ (lvl,a1) (lvl,a2) (lvl,a3) (lvl,a4) (lvl,a5) (lvl,a6) (lvl,a7) (lvl,a8) (lvl,a9) k1 h1 v1 k2 h2 v2 k3 h3 v3 k4 h4 v4 k5 h5 v5 k6 h6 v6 k7 h7 v7 k8 h8 v8 k9 h9 v9 c1 c2 c3 c4 c5 c6 c7 c8 c9 (UaA _) (UaA _) (UaA _) (UaA _) (UaA _) (UaA _) (UaA _) (UaA _) (UaA _) (fun e=>n2_1 (congrArg Prod.snd e)) (fun e=>n3_1 (congrArg Prod.snd e)) (fun e=>n3_2 (congrArg Prod.snd e)) (fun e=>n4_1 (congrArg Prod.snd e)) (fun e=>n4_2 (congrArg Prod.snd e)) (fun e=>n4_3 (congrArg Prod.snd e)) (fun e=>n5_1 (congrArg Prod.snd e)) (fun e=>n5_2 (congrArg Prod.snd e)) (fun e=>n5_3 (congrArg Prod.snd e)) (fun e=>n5_4 (congrArg Prod.snd e)) (fun e=>n6_1 (congrArg Prod.snd e)) (fun e=>n6_2 (congrArg Prod.snd e)) (fun e=>n6_3 (congrArg Prod.snd e)) (fun e=>n6_4 (congrArg Prod.snd e)) (fun e=>n6_5 (congrArg Prod.snd e)) (fun e=>n7_1 (congrArg Prod.snd e)) (fun e=>n7_2 (congrArg Prod.snd e)) (fun e=>n7_3 (congrArg Prod.snd e)) (fun e=>n7_4 (congrArg Prod.snd e)) (fun e=>n7_5 (congrArg Prod.snd e)) (fun e=>n7_6 (congrArg Prod.snd e)) (fun e=>n8_1 (congrArg Prod.snd e)) (fun e=>n8_2 (congrArg Prod.snd e)) (fun e=>n8_3 (congrArg Prod.snd e)) (fun e=>n8_4 (congrArg Prod.snd e)) (fun e=>n8_5 (congrArg Prod.snd e)) (fun e=>n8_6 (congrArg Prod.snd e)) (fun e=>n8_7 (congrArg Prod.snd e)) (fun e=>n9_1 (congrArg Prod.snd e)) (fun e=>n9_2 (congrArg Prod.snd e)) (fun e=>n9_3 (congrArg Prod.snd e)) (fun e=>n9_4 (congrArg Prod.snd e)) (fun e=>n9_5 (congrArg Prod.snd e)) (fun e=>n9_6 (congrArg Prod.snd e)) (fun e=>n9_7 (congrArg Prod.snd e)) (fun e=>n9_8 (congrArg Prod.snd e)) (by rw[JA];exact s1) (by rw[JA];exact s2) (by rw[JA];exact s3) (by rw[JA];exact s4) (by rw[JA];exact s5) (by rw[JA];exact s6) (by rw[JA];exact s7) (by rw[JA];exact s8) (by rw[JA];exact s9) h0 hk hb
theorem ZiO(a:List Int)(k:Int)(hl:a.length<=4294967296)(h0:0<=k)(hk:k+nL Zy a<=4611686018427387904)(lvl:Nat)(S:Zc):Sem UbM Zas lvl [.tr (.sl (rI (mL JC Zy a k))),iI k] S (iI (k+nL Zy a)) S:=by
 refine Zw ZvF trivial ?_
 simp only[Zio,Zb,seval,Za,men]
 refine J7 (α:=Unit) a.length (fun j _=>⟨lvl,[(0,.tr (.sl (rI (mL JC Zy a k)))),(1,iI (kJ Zy a k j)),(5,iI j)],[],S⟩) (fun _ _=>True) () ⟨by simp only[Zb,seval,Za,men],by (simp only[QT,Zb,seval,Za,men]) <;> rfl⟩ trivial ?_
 intro j _ hj _
 simp only[Uaa,ZP,Zb,seval,Za,men]
 refine Zx (fun hlt=>?_) (fun hge=>?_)
 ·have hja:j<a.length:=by omega
  have ga:=ZaY (c:=(fun n:Int=>[tv n])) (m:=JC) (n:=Zy) (k:=k) hja
  have hge2:=QV Zy (a:=a) (k:=k) (j:=j+1)
  rw[Ys Zy hja] at hge2
  have hge3:=QW Zy (a:=a) (k:=k) (j:=j)
  try simp only[Zy] at hge2
  simp only[ga,JC,JK,Uat,hja,ne_eq,not_true_eq_false,Zb,seval,Za,men]
  refine⟨by rw[Zn];omega,⟨by rw[Zn];omega,ZI () hja ?_ trivial⟩⟩
  rw[Ys Zy hja]
  simp only[Zy,Int.natCast_add,Int.natCast_one,UaX]
  try rfl
 ·have:j=a.length:=by omega
  subst this
  rw[QU]
theorem Zv6(a:List TNode)(k:Int)(hl:a.length<=4294967296)(hB:∀ x∈a,(YV 4294967296) x)(h0:0<=k)(hk:k+nL Zv a<=4611686018427387904)(lvl:Nat)(S:Zc):Sem UbM ZcO lvl [.tr (.sl (((mL J9 Zv a k)).map Zr)),iI k] S (iI (k+nL Zv a)) S:=by
 refine Zw ZvE trivial ?_
 simp only[Zin,Zb,seval,Za,men]
 refine J7 (α:=Unit) a.length (fun j _=>⟨lvl,[(0,.tr (.sl (((mL J9 Zv a k)).map Zr))),(1,iI (kJ Zv a k j)),(5,iI j)],[],S⟩) (fun _ _=>True) () ⟨by simp only[Zb,seval,Za,men],by (simp only[QT,Zb,seval,Za,men]) <;> rfl⟩ trivial ?_
 intro j _ hj _
 simp only[Uaa,ZP,Zb,seval,Za,men]
 refine Zx (fun hlt=>?_) (fun hge=>?_)
 ·have hja:j<a.length:=by omega
  have ga:=ZaY (c:=Zr) (m:=J9) (n:=Zv) (k:=k) hja
  have hge2:=QV Zv (a:=a) (k:=k) (j:=j+1)
  rw[Ys Zv hja] at hge2
  have hge3:=QW Zv (a:=a) (k:=k) (j:=j)
  try simp only[Zv] at hge2
  have hb:=hB _ (Uan hja)
  simp only[ga,Zr,J9,JC,JK,Uat,hja,ne_eq,not_true_eq_false,Zb,seval,Za,men]
  refine⟨by rw[Zn];omega,⟨by rw[Zn];omega,?_⟩⟩
  refine Zg (ZiO (a[j]).links (kJ Zv a k j+1+1) hb (by omega) (by omega)) ?_
  have hz2:¬ (kJ Zv a k j+1+1+(nL Zy (a[j]).links:Nat)<0):=by omega
  simp only[ga,Zr,J9,JC,JK,Uat,hja,ne_eq,not_true_eq_false,hz2,Zb,seval,Za,men]
  refine⟨by rw[Zn];omega,ZI () hja ?_ trivial⟩
  rw[Ys Zv hja]
  simp only[Zv,Int.natCast_add,Int.natCast_one,UaX]
  try rfl
 ·have:j=a.length:=by omega
  subst this
  rw[QU]
theorem Zv7(a:List ByteArray)(k:Int)(hl:a.length<=4294967296)(hB:∀ x∈a,(fun x=>x.size<=4294967296) x)(h0:0<=k)(hk:k+nL ZJ a<=4611686018427387904)(lvl:Nat)(S:Zc):Sem UbM ZcP lvl [.tr (.sl (rS (mL JK ZJ a k))),iI k] S (iI (k+nL ZJ a)) S:=by
 refine Zw ZvG trivial ?_
 simp only[Zip,Zb,seval,Za,men]
 refine J7 (α:=Unit) a.length (fun j _=>⟨lvl,[(0,.tr (.sl (rS (mL JK ZJ a k)))),(1,iI (kJ ZJ a k j)),(5,iI j)],[],S⟩) (fun _ _=>True) () ⟨by simp only[Zb,seval,Za,men],by (simp only[QT,Zb,seval,Za,men]) <;> rfl⟩ trivial ?_
 intro j _ hj _
 simp only[Uaa,ZP,Zb,seval,Za,men]
 refine Zx (fun hlt=>?_) (fun hge=>?_)
 ·have hja:j<a.length:=by omega
  have ga:=ZaY (c:=(fun n:ByteArray=>[ts n])) (m:=JK) (n:=ZJ) (k:=k) hja
  have hge2:=QV ZJ (a:=a) (k:=k) (j:=j+1)
  rw[Ys ZJ hja] at hge2
  have hge3:=QW ZJ (a:=a) (k:=k) (j:=j)
  try simp only[ZJ] at hge2
  have hb:=hB _ (Uan hja)
  simp only[ga,JK,JC,Uat,hja,ne_eq,not_true_eq_false,Zb,seval,Za,men]
  refine Zg (U8 (kJ ZJ a k j) (by omega)) ?_
  simp only[ga,JK,JC,Uat,hja,ne_eq,not_true_eq_false,Zb,seval,Za,men]
  refine⟨by rw[Zn];omega,⟨by rw[Zn];omega,ZI () hja ?_ trivial⟩⟩
  rw[Ys ZJ hja]
  simp only[ZJ,Int.natCast_add,Int.natCast_one,UaX]
  try rfl
 ·have:j=a.length:=by omega
  subst this
  rw[QU]
theorem Zv8(a:List TWire)(k:Int)(hl:a.length<=4294967296)(hB:∀ x∈a,(YA 4294967296) x)(h0:0<=k)(hk:k+nL ZT a<=4611686018427387904)(lvl:Nat)(S:Zc):Sem UbM ZcQ lvl [.tr (.sl (((mL Ya ZT a k)).map ZH)),iI k] S (iI (k+nL ZT a)) S:=by
 refine Zw ZvH trivial ?_
 simp only[Ziq,Zb,seval,Za,men]
 refine J7 (α:=Unit) a.length (fun j _=>⟨lvl,[(0,.tr (.sl (((mL Ya ZT a k)).map ZH))),(1,iI (kJ ZT a k j)),(5,iI j)],[],S⟩) (fun _ _=>True) () ⟨by simp only[Zb,seval,Za,men],by (simp only[QT,Zb,seval,Za,men]) <;> rfl⟩ trivial ?_
 intro j _ hj _
 simp only[Uaa,ZP,Zb,seval,Za,men]
 refine Zx (fun hlt=>?_) (fun hge=>?_)
 ·have hja:j<a.length:=by omega
  have ga:=ZaY (c:=ZH) (m:=Ya) (n:=ZT) (k:=k) hja
  have hge2:=QV ZT (a:=a) (k:=k) (j:=j+1)
  rw[Ys ZT hja] at hge2
  have hge3:=QW ZT (a:=a) (k:=k) (j:=j)
  try simp only[ZT] at hge2
  have hb:=hB _ (Uan hja)
  simp only[ga,ZH,Ya,JC,JK,Uat,hja,ne_eq,not_true_eq_false,Zb,seval,Za,men]
  refine Zg (U8 (kJ ZT a k j) (by omega)) ?_
  simp only[ga,ZH,Ya,JC,JK,Uat,hja,ne_eq,not_true_eq_false,Zb,seval,Za,men]
  refine⟨by rw[Zn];omega,⟨by rw[Zn];omega,⟨by rw[Zn];omega,ZI () hja ?_ trivial⟩⟩⟩
  rw[Ys ZT hja]
  simp only[ZT,Int.natCast_add,Int.natCast_one,UaX]
  try rfl
 ·have:j=a.length:=by omega
  subst this
  rw[QU]
theorem Za0(x:TBigraph)(k:Int)(hb:Jj 4294967296 x)(h0:0<=k)(hk:k+Jo x<=4611686018427387904)(lvl:Nat)(S:Zc):Sem UbM Zaq lvl [.ag ((Zf (WP x k)).map .tr),iI k] S (iI (k+Jo x)) S:=by
 obtain⟨b0,b1,b2,b3,b4,b5,b6⟩:=hb
 simp only[Jo] at hk
 refine Zw Zvy trivial ?_
 simp only[Zih,Zf,WP,Zb,seval,Za,men]
 refine Zg (Zv6 x.nodes (k) b0 b1 (by omega) (by omega)) ?_
 have hz0:¬ (k+(nL Zv x.nodes:Nat)<0):=by omega
 simp only[Zf,WP,hz0,Zb,seval,Za,men]
 refine Zg (ZiO x.sites (k+(nL Zv x.nodes:Nat)) b2 (by omega) (by omega)) ?_
 have hz1:¬ (k+(nL Zv x.nodes:Nat)+(nL Zy x.sites:Nat)<0):=by omega
 simp only[Zf,WP,hz1,Zb,seval,Za,men]
 refine Zg (Zv7 x.outer (k+(nL Zv x.nodes:Nat)+(nL Zy x.sites:Nat)) b3 b4 (by omega) (by omega)) ?_
 have hz2:¬ (k+(nL Zv x.nodes:Nat)+(nL Zy x.sites:Nat)+(nL ZJ x.outer:Nat)<0):=by omega
 simp only[Zf,WP,hz2,Zb,seval,Za,men]
 refine Zg (Zv8 x.inner (k+(nL Zv x.nodes:Nat)+(nL Zy x.sites:Nat)+(nL ZJ x.outer:Nat)) b5 b6 (by omega) (by omega)) ?_
 have hz3:¬ (k+(nL Zv x.nodes:Nat)+(nL Zy x.sites:Nat)+(nL ZJ x.outer:Nat)+(nL ZT x.inner:Nat)<0):=by omega
 simp only[Zf,WP,hz3,Zb,seval,Za,men]
 simp only[Jo,Int.natCast_add,<-UaX]
theorem ZiP:∀(l:List Int),nL Zy l=l.length
 | []=>rfl
 | x::r=>by simp only[nL,List.length_cons,ZiP r,Zy];omega
theorem ZiQ{α:Type}{n:α->Nat}{B:Nat}:∀(l:List α),(∀ x∈l,n x<=B)->nL n l<=l.length*B
 | [],_=>Uba _
 | x::r,h=>by
  have h1:=h x (by simp)
  have h2:=ZiQ r (fun y hy=>h y (by simp [hy]))
  simp only[nL,List.length_cons,UaB]
  omega
theorem Zv9(x:TNode):Zq 256 (fun l=>VA x l) (Zv x):=Xv (Qn (by omega) (by omega) (Zcl Zy (fun _=>(by decide:1<=256)) x.links) UM) (by simp only[Zv];omega)
theorem Zwa(x:TWire):Zq 256 (fun l=>VB x l) (ZT x):=Xv (Qn (by omega) (by omega) (Zgu x.name.size) UM) (by simp only[ZT];omega)
theorem ZdL(x:TBigraph):Zq 0 (fun l=>V0 x l) (Jo x):=Xv (Qn (by omega) (by omega) (Zaj (n:=Zv) (fun y=>Xv (Zv9 y) (by omega)) x.nodes) (Qn (by omega) (by omega) (Zcl Zy (fun _=>(by decide:1<=256)) x.sites) (Qn (by omega) (by omega) (Zaj (n:=ZJ) (fun y=>Zts y.size) x.outer) (Qn (by omega) (by omega) (Zaj (n:=ZT) (fun y=>Xv (Zwa y) (by omega)) x.inner) UM)))) (by simp only[Jo];omega)
theorem Zwb(x:TRule):Zq 0 (fun l=>Qo x l) (Vp x):=Xv (Qn (by omega) (by omega) (ZdL x.redex) (Qn (by omega) (by omega) (ZdL x.reactum) (Qn (by omega) (by omega) (Zcl Zy (fun _=>(by decide:1<=256)) x.copies) UM))) (by simp only[Vp];omega)
theorem Zwc(x:TControl):Zq 256 (fun l=>Yt x l) (YQ x):=Xv (Qn (by omega) (by omega) (Zgu x.name.size) UM) (by simp only[YQ];omega)
theorem Zwd{n:Nat}{l:Int}(h:0<=l):YN n l<=l:=by unfold YN;split <;> omega
theorem ZiR{α:Type}{f:α->Int->Int}:∀(a:List α) (l:Int),(∀ x∈a,∀ l:Int,0<=l->l<=1048576->f x l<=l)->0<=l->l<=1048576->Yl f a l<=l
 | [],l,_,_,_=>Ua4 l
 | x::r,l,hf,h0,h1=>by
  simp only[Yl]
  have:=hf x (by simp) l h0 h1
  split
  ·omega
  ·have h2:=ZiR r (f x l) (fun y hy=>hf y (by simp [hy])) (by omega) (by omega)
   omega
theorem Za1{α:Type}{f:α->Int->Int}(a:List α){l:Int}(hf:∀ x∈a,∀ l:Int,0<=l->l<=1048576->f x l<=l)(h0:0<=l)(h1:l<=1048576):JB f a l<=l:=by
 unfold JB
 split
 ·omega
 ·have:=ZiR a (l-a.length) hf (by omega) (by omega)
  omega
theorem Qr{l m:Int}{g:Int->Int}(h0:0<=l)(h:m<=l)(hg:0<=m->g m<=m):Ji m g<=l:=by
 unfold Ji
 split
 ·omega
 ·have:=hg (by omega)
  omega
theorem Zwe:Zo UbM UO sz0=true:=by kernel_rfl
theorem WQ(a:List Int)(hl:a.length<=9223372036854775807)(l:Int)(h0:0<=l)(h1:l<=1048576):YN a.length l<=l/\∀ lvl S,Sem UbM UO lvl [.tr (.sl (rI a)),iI l] S (iI (YN a.length l)) S:=by
 refine⟨Zwd h0,fun lvl S=>?_⟩
 have:=Zth Zwe (rI a) l (by simpa using hl) h0 h1 lvl S
 simpa using this
theorem ZiS(x:TNode)(hb:YV 9223372036854775807 x)(l:Int)(h0:0<=l)(h1:l<=1048576):VA x l<=l/\∀ lvl S,Sem UbM ZcR lvl [.ag ((Zr x).map .tr),iI l] S (iI (VA x l)) S:=by
 have b0:x.links.length<=9223372036854775807:=hb
 refine⟨?_,fun lvl S=>?_⟩
 ·unfold VA
  have q0:=WQ x.links b0 _ h0 h1
  refine Qr h0 q0.1 (fun p0=>?_)
  have r0:_<=(1048576:Int):=Int.le_trans q0.1 h1
  exact Ua4 _
 ·refine Zw ZvZ trivial ?_
  simp only[ZiE,Zr,Ual,Uaq,Zb,seval,Za,men]
  unfold VA
  have q0:=WQ x.links b0 l h0 h1
  refine Zg q0.2 ?_
  simp only[Zb,seval,Za,men]
  obtain⟨l1,hl1⟩:∃ m:Int,m=(YN x.links.length l):=⟨_,rfl⟩
  have u1:l1<=l:=by rw[hl1];exact q0.1
  rw[<-hl1]
  split
  ·rename_i hn;rw[Ji,if_pos hn]
  rename_i hn0
  rw[Ji,if_neg hn0]
theorem Zwf:Zo UbM Zct (UC 3 (some 3) ZcR)=true:=by kernel_rfl
theorem ZiT(a:List TNode)(hl:a.length<=9223372036854775807)(hb:∀ y∈a,YV 9223372036854775807 y)(l:Int)(h0:0<=l)(h1:l<=1048576):JB VA a l<=l/\∀ lvl S,Sem UbM Zct lvl [.tr (.sl (a.map Zr)),iI l] S (iI (JB VA a l)) S :=
 ⟨Za1 a (fun x hx l h0 h1=>(ZiS x (hb x hx) l h0 h1).1) h0 h1,fun lvl S=>Zce Zwf Zr VA Ztt a l hl h0 h1 (fun x hx l h0 h1=>ZiS x (hb x hx) l h0 h1) lvl S⟩
theorem ZiU(x:TWire)(hb:YA 9223372036854775807 x)(l:Int)(h0:0<=l)(h1:l<=1048576):VB x l<=l/\∀ lvl S,Sem UbM ZcS lvl [.ag ((ZH x).map .tr),iI l] S (iI (VB x l)) S:=by
 have b0:x.name.size<=9223372036854775807:=hb
 refine⟨?_,fun lvl S=>?_⟩
 ·unfold VB
  refine Qr h0 (m:=l-x.name.size) (by omega) (fun p0=>?_)
  have r0:_<=(1048576:Int):=Int.le_trans (show l-x.name.size<=l by omega) h1
  exact Ua4 _
 ·refine Zw Zv0 trivial ?_
  simp only[ZiF,ZH,Ual,Uaq,Zb,seval,Za,men]
  unfold VB
  refine⟨by rw[Zn];omega,?_⟩
  obtain⟨l1,hl1⟩:∃ m:Int,m=l-x.name.size:=⟨_,rfl⟩
  have u1:l1<=l:=by omega
  rw[<-hl1]
  split
  ·rename_i hn;rw[Ji,if_pos hn]
  rename_i hn0
  rw[Ji,if_neg hn0]
theorem Zwg:Zo UbM Zcv (UC 2 (some 2) ZcS)=true:=by kernel_rfl
theorem ZiV(a:List TWire)(hl:a.length<=9223372036854775807)(hb:∀ y∈a,YA 9223372036854775807 y)(l:Int)(h0:0<=l)(h1:l<=1048576):JB VB a l<=l/\∀ lvl S,Sem UbM Zcv lvl [.tr (.sl (a.map ZH)),iI l] S (iI (JB VB a l)) S :=
 ⟨Za1 a (fun x hx l h0 h1=>(ZiU x (hb x hx) l h0 h1).1) h0 h1,fun lvl S=>Zce Zwg ZH VB Ztu a l hl h0 h1 (fun x hx l h0 h1=>ZiU x (hb x hx) l h0 h1) lvl S⟩
theorem Zwh:Zo UbM Zcu Zcf=true:=by kernel_rfl
theorem ZiW(a:List ByteArray)(hl:a.length<=9223372036854775807)(hb:∀ y∈a,y.size<=9223372036854775807)(l:Int)(h0:0<=l)(h1:l<=1048576):JB (fun x m=>m-x.size) a l<=l/\∀ lvl S,Sem UbM Zcu lvl [tS a,iI l] S (iI (JB (fun x m=>m-x.size) a l)) S :=
 ⟨Za1 a (fun x _ l _ _=>by omega) h0 h1,fun lvl S=>Zti Zwh a l hl h0 h1 hb lvl S⟩
theorem U9(x:TBigraph)(hb:Jj 9223372036854775807 x)(l:Int)(h0:0<=l)(h1:l<=1048576):V0 x l<=l/\∀ lvl S,Sem UbM UN lvl [.ag ((Zf x).map .tr),iI l] S (iI (V0 x l)) S:=by
 obtain⟨b0,b1,b2,b3,b4,b5,b6⟩:=hb
 refine⟨?_,fun lvl S=>?_⟩
 ·unfold V0
  have q0:=ZiT x.nodes b0 b1 _ h0 h1
  refine Qr h0 q0.1 (fun p0=>?_)
  have r0:_<=(1048576:Int):=Int.le_trans q0.1 h1
  have q1:=WQ x.sites b2 _ p0 r0
  refine Qr p0 q1.1 (fun p1=>?_)
  have r1:_<=(1048576:Int):=Int.le_trans q1.1 r0
  have q2:=ZiW x.outer b3 b4 _ p1 r1
  refine Qr p1 q2.1 (fun p2=>?_)
  have r2:_<=(1048576:Int):=Int.le_trans q2.1 r1
  have q3:=ZiV x.inner b5 b6 _ p2 r2
  refine Qr p2 q3.1 (fun p3=>?_)
  have r3:_<=(1048576:Int):=Int.le_trans q3.1 r2
  exact Ua4 _
 ·refine Zw ZvO trivial ?_
  simp only[Zit,Zf,Ual,Uaq,Zb,seval,Za,men]
  unfold V0
  have q0:=ZiT x.nodes b0 b1 l h0 h1
  refine Zg q0.2 ?_
  simp only[Zb,seval,Za,men]
  obtain⟨l1,hl1⟩:∃ m:Int,m=(JB VA x.nodes l):=⟨_,rfl⟩
  have u1:l1<=l:=by rw[hl1];exact q0.1
  rw[<-hl1]
  split
  ·rename_i hn;rw[Ji,if_pos hn]
  rename_i hn0
  rw[Ji,if_neg hn0]
  have q1:=WQ x.sites b2 l1 (show 0<=l1 by omega) (show l1<=1048576 by omega)
  refine Zg q1.2 ?_
  simp only[Zb,seval,Za,men]
  obtain⟨l2,hl2⟩:∃ m:Int,m=(YN x.sites.length l1):=⟨_,rfl⟩
  have u2:l2<=l1:=by rw[hl2];exact q1.1
  rw[<-hl2]
  split
  ·rename_i hn;rw[Ji,if_pos hn]
  rename_i hn1
  rw[Ji,if_neg hn1]
  have q2:=ZiW x.outer b3 b4 l2 (show 0<=l2 by omega) (show l2<=1048576 by omega)
  refine Zg q2.2 ?_
  simp only[Zb,seval,Za,men]
  obtain⟨l3,hl3⟩:∃ m:Int,m=(JB (fun x m=>m-x.size) x.outer l2):=⟨_,rfl⟩
  have u3:l3<=l2:=by rw[hl3];exact q2.1
  rw[<-hl3]
  split
  ·rename_i hn;rw[Ji,if_pos hn]
  rename_i hn2
  rw[Ji,if_neg hn2]
  have q3:=ZiV x.inner b5 b6 l3 (show 0<=l3 by omega) (show l3<=1048576 by omega)
  refine Zg q3.2 ?_
  simp only[Zb,seval,Za,men]
  obtain⟨l4,hl4⟩:∃ m:Int,m=(JB VB x.inner l3):=⟨_,rfl⟩
  have u4:l4<=l3:=by rw[hl4];exact q3.1
  rw[<-hl4]
  split
  ·rename_i hn;rw[Ji,if_pos hn]
  rename_i hn3
  rw[Ji,if_neg hn3]
theorem Zwi(x:TRule)(hb:YB 9223372036854775807 x)(l:Int)(h0:0<=l)(h1:l<=1048576):Qo x l<=l/\∀ lvl S,Sem UbM Zco lvl [.ag ((Zs x).map .tr),iI l] S (iI (Qo x l)) S:=by
 obtain⟨b0,b1,b2⟩:=hb
 refine⟨?_,fun lvl S=>?_⟩
 ·unfold Qo
  have q0:=U9 x.redex b0 _ h0 h1
  refine Qr h0 q0.1 (fun p0=>?_)
  have r0:_<=(1048576:Int):=Int.le_trans q0.1 h1
  have q1:=U9 x.reactum b1 _ p0 r0
  refine Qr p0 q1.1 (fun p1=>?_)
  have r1:_<=(1048576:Int):=Int.le_trans q1.1 r0
  have q2:=WQ x.copies b2 _ p1 r1
  refine Qr p1 q2.1 (fun p2=>?_)
  have r2:_<=(1048576:Int):=Int.le_trans q2.1 r1
  exact Ua4 _
 ·refine Zw ZvN trivial ?_
  simp only[Zis,Zs,Ual,Uaq,Zb,seval,Za,men]
  unfold Qo
  have q0:=U9 x.redex b0 l h0 h1
  refine Zg q0.2 ?_
  simp only[Zb,seval,Za,men]
  obtain⟨l1,hl1⟩:∃ m:Int,m=(V0 x.redex l):=⟨_,rfl⟩
  have u1:l1<=l:=by rw[hl1];exact q0.1
  rw[<-hl1]
  split
  ·rename_i hn;rw[Ji,if_pos hn]
  rename_i hn0
  rw[Ji,if_neg hn0]
  have q1:=U9 x.reactum b1 l1 (show 0<=l1 by omega) (show l1<=1048576 by omega)
  refine Zg q1.2 ?_
  simp only[Zb,seval,Za,men]
  obtain⟨l2,hl2⟩:∃ m:Int,m=(V0 x.reactum l1):=⟨_,rfl⟩
  have u2:l2<=l1:=by rw[hl2];exact q1.1
  rw[<-hl2]
  split
  ·rename_i hn;rw[Ji,if_pos hn]
  rename_i hn1
  rw[Ji,if_neg hn1]
  have q2:=WQ x.copies b2 l2 (show 0<=l2 by omega) (show l2<=1048576 by omega)
  refine Zg q2.2 ?_
  simp only[Zb,seval,Za,men]
  obtain⟨l3,hl3⟩:∃ m:Int,m=(YN x.copies.length l2):=⟨_,rfl⟩
  have u3:l3<=l2:=by rw[hl3];exact q2.1
  rw[<-hl3]
  split
  ·rename_i hn;rw[Ji,if_pos hn]
  rename_i hn2
  rw[Ji,if_neg hn2]
theorem ZiX(x:TControl)(hb:Jw 9223372036854775807 x)(l:Int)(h0:0<=l)(h1:l<=1048576):Yt x l<=l/\∀ lvl S,Sem UbM Zcs lvl [.ag ((ZF x).map .tr),iI l] S (iI (Yt x l)) S:=by
 have b0:x.name.size<=9223372036854775807:=hb
 refine⟨?_,fun lvl S=>?_⟩
 ·unfold Yt
  refine Qr h0 (m:=l-x.name.size) (by omega) (fun p0=>?_)
  have r0:_<=(1048576:Int):=Int.le_trans (show l-x.name.size<=l by omega) h1
  exact Ua4 _
 ·refine Zw ZvU trivial ?_
  simp only[Ziz,ZF,Ual,Uaq,Zb,seval,Za,men]
  unfold Yt
  refine⟨by rw[Zn];omega,?_⟩
  obtain⟨l1,hl1⟩:∃ m:Int,m=l-x.name.size:=⟨_,rfl⟩
  have u1:l1<=l:=by omega
  rw[<-hl1]
  split
  ·rename_i hn;rw[Ji,if_pos hn]
  rename_i hn0
  rw[Ji,if_neg hn0]
theorem Zwj:Zo UbM Zcn (UC 3 (some 3) Zcs)=true:=by kernel_rfl
theorem Zwk(a:List TControl)(hl:a.length<=9223372036854775807)(hb:∀ y∈a,Jw 9223372036854775807 y)(l:Int)(h0:0<=l)(h1:l<=1048576):JB Yt a l<=l/\∀ lvl S,Sem UbM Zcn lvl [.tr (.sl (a.map ZF)),iI l] S (iI (JB Yt a l)) S :=
 ⟨Za1 a (fun x hx l h0 h1=>(ZiX x (hb x hx) l h0 h1).1) h0 h1,fun lvl S=>Zce Zwj ZF Yt Zgw a l hl h0 h1 (fun x hx l h0 h1=>ZiX x (hb x hx) l h0 h1) lvl S⟩
theorem Zwl:Zo UbM UQ WB=true:=by kernel_rfl
theorem ZdM(a b:(List Int))(ha:a.length<=9223372036854775807)(lvl:Nat)(S:Zc):Sem UbM UQ lvl [.tr (.sl (rI a)),.tr (.sl (rI b))] S (iB (decide (a=b))) S:=Ztj Zwl a b ha lvl S
theorem Zwm(x y:TNode)(hb:YV 9223372036854775807 x)(lvl:Nat)(S:Zc):Sem UbM Zc5 lvl [.ag ((Zr x).map .tr),.ag ((Zr y).map .tr)] S (iB (decide (x=y))) S:=by
 have b0:x.links.length<=9223372036854775807:=hb
 refine Zw Zv3 trivial ?_
 simp only[ZiI,Zr,Ual,Uaq,Zb,seval,Za,men]
 refine Zx (fun hne=>?_) (fun heq0=>?_)
 ·have:¬ x=y:=fun e=>(by rw[e] at hne;simp at hne)
  simp [this]
 refine Zx (fun hne=>?_) (fun heq1=>?_)
 ·have:¬ x=y:=fun e=>(by rw[e] at hne;simp at hne)
  simp [this]
 refine Zg (ZdM x.links y.links b0) ?_
 simp only[Uao,Zb,seval,Za,men]
 refine Zx (fun hne=>?_) (fun heq2=>?_)
 ·have:¬ x=y:=fun e=>(by rw[e] at hne;simp at hne)
  simp [this]
 have:x=y:=by
  cases x;cases y;simp_all
 simp [this]
theorem Zwn:Zo UbM ZcH (UD 3 (some 3) Zc5)=true:=by kernel_rfl
theorem Zwo(a b:(List TNode))(ha:a.length<=9223372036854775807)(ha2:∀ y∈a,YV 9223372036854775807 y)(lvl:Nat)(S:Zc):Sem UbM ZcH lvl [.tr (.sl (a.map Zr)),.tr (.sl (b.map Zr))] S (iB (decide (a=b))) S :=
 Zcg Zwn Zr (fun _=>rfl) a b ha (fun x hx y _ lvl S=>Zwm x y (ha2 x hx) lvl S) lvl S
theorem Zwp(x y:TWire)(hb:YA 9223372036854775807 x)(lvl:Nat)(S:Zc):Sem UbM Zc6 lvl [.ag ((ZH x).map .tr),.ag ((ZH y).map .tr)] S (iB (decide (x=y))) S:=by
 have b0:x.name.size<=9223372036854775807:=hb
 refine Zw Zv4 trivial ?_
 simp only[ZiJ,ZH,Ual,Uaq,Zb,seval,Za,men]
 refine Zx (fun hne=>?_) (fun heq0=>?_)
 ·have:¬ x=y:=fun e=>(by rw[e] at hne;simp at hne)
  simp [this]
 refine Zx (fun hne=>?_) (fun heq1=>?_)
 ·have:¬ x=y:=fun e=>(by rw[e] at hne;simp at hne)
  simp [this]
 have:x=y:=by
  cases x;cases y;simp_all
 simp [this]
theorem Zwq:Zo UbM ZcJ (UD 2 (some 2) Zc6)=true:=by kernel_rfl
theorem Zwr(a b:(List TWire))(ha:a.length<=9223372036854775807)(ha2:∀ y∈a,YA 9223372036854775807 y)(lvl:Nat)(S:Zc):Sem UbM ZcJ lvl [.tr (.sl (a.map ZH)),.tr (.sl (b.map ZH))] S (iB (decide (a=b))) S :=
 Zcg Zwq ZH (fun _=>rfl) a b ha (fun x hx y _ lvl S=>Zwp x y (ha2 x hx) lvl S) lvl S
theorem Zws:Zo UbM ZcI WB=true:=by kernel_rfl
theorem Zwt(a b:(List ByteArray))(ha:a.length<=9223372036854775807)(lvl:Nat)(S:Zc):Sem UbM ZcI lvl [.tr (.sl (rS a)),.tr (.sl (rS b))] S (iB (decide (a=b))) S:=Ztk Zws a b ha lvl S
theorem Qs(x y:TBigraph)(hb:Jj 9223372036854775807 x)(lvl:Nat)(S:Zc):Sem UbM Xy lvl [.ag ((Zf x).map .tr),.ag ((Zf y).map .tr)] S (iB (decide (x=y))) S:=by
 obtain⟨b0,b1,b2,b3,b4,b5,b6⟩:=hb
 refine Zw ZvS trivial ?_
 simp only[Zix,Zf,Ual,Uaq,Zb,seval,Za,men]
 refine Zx (fun hne=>?_) (fun heq0=>?_)
 ·have:¬ x=y:=fun e=>(by rw[e] at hne;simp at hne)
  simp [this]
 refine Zg (Zwo x.nodes y.nodes b0 b1) ?_
 simp only[Uao,Zb,seval,Za,men]
 refine Zx (fun hne=>?_) (fun heq1=>?_)
 ·have:¬ x=y:=fun e=>(by rw[e] at hne;simp at hne)
  simp [this]
 refine Zg (ZdM x.sites y.sites b2) ?_
 simp only[Uao,Zb,seval,Za,men]
 refine Zx (fun hne=>?_) (fun heq2=>?_)
 ·have:¬ x=y:=fun e=>(by rw[e] at hne;simp at hne)
  simp [this]
 refine Zx (fun hne=>?_) (fun heq3=>?_)
 ·have:¬ x=y:=fun e=>(by rw[e] at hne;simp at hne)
  simp [this]
 refine Zg (Zwt x.outer y.outer b3) ?_
 simp only[Uao,Zb,seval,Za,men]
 refine Zx (fun hne=>?_) (fun heq4=>?_)
 ·have:¬ x=y:=fun e=>(by rw[e] at hne;simp at hne)
  simp [this]
 refine Zg (Zwr x.inner y.inner b5 b6) ?_
 simp only[Uao,Zb,seval,Za,men]
 refine Zx (fun hne=>?_) (fun heq5=>?_)
 ·have:¬ x=y:=fun e=>(by rw[e] at hne;simp at hne)
  simp [this]
 have:x=y:=by
  cases x;cases y;simp_all
 simp [this]
theorem ZiY(x y:TRule)(hb:YB 9223372036854775807 x)(lvl:Nat)(S:Zc):Sem UbM Zcq lvl [.ag ((Zs x).map .tr),.ag ((Zs y).map .tr)] S (iB (decide (x=y))) S:=by
 obtain⟨b0,b1,b2⟩:=hb
 refine Zw ZvT trivial ?_
 simp only[Ziy,Zs,Ual,Uaq,Zb,seval,Za,men]
 refine Zg (Qs x.redex y.redex b0) ?_
 simp only[Uao,Zb,seval,Za,men]
 refine Zx (fun hne=>?_) (fun heq0=>?_)
 ·have:¬ x=y:=fun e=>(by rw[e] at hne;simp at hne)
  simp [this]
 refine Zg (Qs x.reactum y.reactum b1) ?_
 simp only[Uao,Zb,seval,Za,men]
 refine Zx (fun hne=>?_) (fun heq1=>?_)
 ·have:¬ x=y:=fun e=>(by rw[e] at hne;simp at hne)
  simp [this]
 refine Zg (ZdM x.copies y.copies b2) ?_
 simp only[Uao,Zb,seval,Za,men]
 refine Zx (fun hne=>?_) (fun heq2=>?_)
 ·have:¬ x=y:=fun e=>(by rw[e] at hne;simp at hne)
  simp [this]
 have:x=y:=by
  cases x;cases y;simp_all
 simp [this]
theorem Zwu(x y:TControl)(hb:Jw 9223372036854775807 x)(lvl:Nat)(S:Zc):Sem UbM ZcK lvl [.ag ((ZF x).map .tr),.ag ((ZF y).map .tr)] S (iB (decide (x=y))) S:=by
 have b0:x.name.size<=9223372036854775807:=hb
 refine Zw ZvY trivial ?_
 simp only[ZiD,ZF,Ual,Uaq,Zb,seval,Za,men]
 refine Zx (fun hne=>?_) (fun heq0=>?_)
 ·have:¬ x=y:=fun e=>(by rw[e] at hne;simp at hne)
  simp [this]
 refine Zx (fun hne=>?_) (fun heq1=>?_)
 ·have:¬ x=y:=fun e=>(by rw[e] at hne;simp at hne)
  simp [this]
 refine Zx (fun hne=>?_) (fun heq2=>?_)
 ·have:¬ x=y:=fun e=>(by rw[e] at hne;simp at hne)
  simp [this]
 have:x=y:=by
  cases x;cases y;simp_all
 simp [this]
theorem Zwv:Zo UbM Zcp (UD 3 (some 3) ZcK)=true:=by kernel_rfl
theorem ZiZ(a b:(List TControl))(ha:a.length<=9223372036854775807)(ha2:∀ y∈a,Jw 9223372036854775807 y)(lvl:Nat)(S:Zc):Sem UbM Zcp lvl [.tr (.sl (a.map ZF)),.tr (.sl (b.map ZF))] S (iB (decide (a=b))) S :=
 Zcg Zwv ZF (fun _=>rfl) a b ha (fun x hx y _ lvl S=>Zwu x y (ha2 x hx) lvl S) lvl S
theorem Zww:Zo UbM UP (WC (.int .i64 0))=true:=by kernel_rfl
theorem ZdN(a:(List Int))(ha:a.length<=4294967296)(lvl:Nat)(S:Zc):Sem UbM UP lvl [.tr (.sl (rI a))] S (.ow 1 (rI a) true) S:=Ztl Zww a ha lvl S
theorem Zwx(x:TNode)(hb:YV 4294967296 x)(lvl:Nat)(S:Zc):Sem UbM ZcY lvl [.ag ((Zr x).map .tr)] S (Zak x) S:=by
 have b0:x.links.length<=4294967296:=hb
 refine Zw Zv1 (by simp [Zak,low,men,Za]) ?_
 simp only[ZiG,Zr,zfill,zobs,Ual,Uaq,YL,YM,List.set_cons_zero,List.set_cons_succ,Zb,seval,Za,men]
 refine Zg (ZdN x.links b0) ?_
 simp only[YL,YM,List.set_cons_zero,List.set_cons_succ,UaQ,Zb,seval,Za,men]
 rfl
theorem Zwy(a:(List TNode))(ha:a.length<=4294967296)(hb:∀ y∈a,YV 4294967296 y)(lvl:Nat)(S:Zc):Sem UbM ZcA lvl [.tr (.sl (a.map Zr))] S (.ow 3 (a.map Zr) true) S:=by
 refine Zw ZvW trivial ?_
 simp only[ZiB,Uaa,bigN,Uar,Zb,seval,Za,men]
 refine⟨by omega,?_⟩
 refine J7 (α:=Unit) a.length (fun j _=>⟨lvl,[(0,.tr (.sl (a.map Zr))),(3,.hd (lvl,224) [] 0 a.length none a.length),(4,iI j)],[(224,.ar 3 (JV Zr [tv 0,tv 0,.sl []] a j) true a.length (j*1))],S⟩) (fun _ _=>True) () ⟨by simp only[Zb,seval,Za,men],by (simp only[UE,Zb,seval,Za,men]) <;> rfl⟩ trivial ?_
 intro j _ hj _
 simp only[Uaa,Zb,seval,Za,men]
 refine Zx (fun hlt=>?_) (fun hge=>?_)
 ·have hja:j<a.length:=by omega
  have ga:(a.map Zr)[j]? = some (Zr a[j]):=by simp [hja]
  have gz:(JV Zr [tv 0,tv 0,.sl []] a j)[j]? = some [tv 0,tv 0,.sl []]:=UG hja
  have hfl:(JV Zr [tv 0,tv 0,.sl []] a j).length=a.length:=Zch hj
  have hsem:=fun lvl S=>Zwx a[j] (hb a[j] (Uan hja)) lvl S
  simp only[ga,gz,Uar,Uaf,hja,Zr,Zak,Nat.reduceLeDiff,Zb,↓reduceIte,Nat.reduceEqDiff,Nat.reduceMul,reduceCtorEq,Nat.reduceAdd,Nat.reduceSub,Nat.reduceLT,Int.reduceToNat,Int.reduceLE,Int.reduceLT,Za,men]
  refine Zg hsem ?_
  simp only[Zak,gz,Uar,Uaf,hja,hfl,ZO,Ua5,Ubf,UaV,List.set_cons_zero,List.set_cons_succ,UaQ,ne_eq,not_false_eq_true,Zb,seval,Za,men]
  refine⟨by rw[Zn];omega,ZI () hja ?_ trivial⟩
  have hse:=UH (c:=Zr) (z:=[tv 0,tv 0,.sl []]) (e:=[tv a[j].control,tv a[j].parent,.sl (rI a[j].links)]) hja rfl
  rw[hse,show (j+1)*1=j*1+1 from by omega]
  rfl
 ·have:j=a.length:=by omega
  subst this
  rw[UF]
  simp
theorem Zwz(x:TWire)(hb:YA 4294967296 x)(lvl:Nat)(S:Zc):Sem UbM ZcZ lvl [.ag ((ZH x).map .tr)] S (Zam x) S:=by
 have b0:x.name.size<=4294967296:=hb
 refine Zw Zv2 (by simp [Zam,low,men,Za]) ?_
 simp only[ZiH,ZH,zfill,zobs,Ual,Uaq,YL,YM,List.set_cons_zero,List.set_cons_succ,Zb,seval,Za,men]
 rfl
theorem ZwA(a:(List TWire))(ha:a.length<=4294967296)(hb:∀ y∈a,YA 4294967296 y)(lvl:Nat)(S:Zc):Sem UbM ZcC lvl [.tr (.sl (a.map ZH))] S (.ow 2 (a.map ZH) true) S:=by
 refine Zw ZvX trivial ?_
 simp only[ZiC,Uaa,bigN,Uar,Zb,seval,Za,men]
 refine⟨by omega,?_⟩
 refine J7 (α:=Unit) a.length (fun j _=>⟨lvl,[(0,.tr (.sl (a.map ZH))),(3,.hd (lvl,224) [] 0 a.length none a.length),(4,iI j)],[(224,.ar 2 (JV ZH [ts ⟨#[]⟩,tv 0] a j) true a.length (j*0))],S⟩) (fun _ _=>True) () ⟨by simp only[Zb,seval,Za,men],by (simp only[UE,Zb,seval,Za,men]) <;> rfl⟩ trivial ?_
 intro j _ hj _
 simp only[Uaa,Zb,seval,Za,men]
 refine Zx (fun hlt=>?_) (fun hge=>?_)
 ·have hja:j<a.length:=by omega
  have ga:(a.map ZH)[j]? = some (ZH a[j]):=by simp [hja]
  have gz:(JV ZH [ts ⟨#[]⟩,tv 0] a j)[j]? = some [ts ⟨#[]⟩,tv 0]:=UG hja
  have hfl:(JV ZH [ts ⟨#[]⟩,tv 0] a j).length=a.length:=Zch hj
  have hsem:=fun lvl S=>Zwz a[j] (hb a[j] (Uan hja)) lvl S
  simp only[ga,gz,Uar,Uaf,hja,ZH,Zam,Nat.reduceLeDiff,Zb,↓reduceIte,Nat.reduceEqDiff,Nat.reduceMul,reduceCtorEq,Nat.reduceAdd,Nat.reduceSub,Nat.reduceLT,Int.reduceToNat,Int.reduceLE,Int.reduceLT,Za,men]
  refine Zg hsem ?_
  simp only[Zam,gz,Uar,Uaf,hja,hfl,ZO,Ua5,Ubf,UaV,List.set_cons_zero,List.set_cons_succ,UaQ,ne_eq,not_false_eq_true,Zb,seval,Za,men]
  refine⟨by rw[Zn];omega,ZI () hja ?_ trivial⟩
  have hse:=UH (c:=ZH) (z:=[ts ⟨#[]⟩,tv 0]) (e:=[ts a[j].name,tv a[j].link]) hja rfl
  rw[hse,show (j+1)*0=j*0 from by omega]
  rfl
 ·have:j=a.length:=by omega
  subst this
  rw[UF]
  simp
theorem ZwB:Zo UbM ZcB (WC (.string ⟨#[]⟩))=true:=by kernel_rfl
theorem ZwC(a:(List ByteArray))(ha:a.length<=4294967296)(lvl:Nat)(S:Zc):Sem UbM ZcB lvl [.tr (.sl (rS a))] S (.ow 1 (rS a) true) S:=Ztm ZwB a ha lvl S
theorem Q4(x:TBigraph)(hb:Jj 4294967296 x)(lvl:Nat)(S:Zc):Sem UbM Xx lvl [.ag ((Zf x).map .tr)] S (Zz x) S:=by
 obtain⟨b0,b1,b2,b3,b4,b5,b6⟩:=hb
 refine Zw ZvR (by simp [Zz,low,men,Za]) ?_
 simp only[Ziw,Zf,zfill,zobs,Ual,Uaq,YL,YM,List.set_cons_zero,List.set_cons_succ,Zb,seval,Za,men]
 refine Zg (Zwy x.nodes b0 b1) ?_
 simp only[YL,YM,List.set_cons_zero,List.set_cons_succ,UaQ,Zb,seval,Za,men]
 refine Zg (ZdN x.sites b2) ?_
 simp only[YL,YM,List.set_cons_zero,List.set_cons_succ,UaQ,Zb,seval,Za,men]
 refine Zg (ZwC x.outer b3) ?_
 simp only[YL,YM,List.set_cons_zero,List.set_cons_succ,UaQ,Zb,seval,Za,men]
 refine Zg (ZwA x.inner b5 b6) ?_
 simp only[YL,YM,List.set_cons_zero,List.set_cons_succ,UaQ,Zb,seval,Za,men]
 rfl
theorem X2(x:TRule)(hb:YB 4294967296 x)(lvl:Nat)(S:Zc):Sem UbM WH lvl [.ag ((Zs x).map .tr)] S (ZV x) S:=by
 obtain⟨b0,b1,b2⟩:=hb
 refine Zw ZvQ (by simp [ZV,low,men,Za]) ?_
 simp only[Ziv,Zs,zfill,zobs,Ual,Uaq,YL,YM,List.set_cons_zero,List.set_cons_succ,Zb,seval,Za,men]
 refine Zg (Q4 x.redex b0) ?_
 simp only[Zz,ZU,YL,YM,List.set_cons_zero,List.set_cons_succ,UaQ,Zb,seval,Za,men]
 refine Zg (Q4 x.reactum b1) ?_
 simp only[Zz,ZU,YL,YM,List.set_cons_zero,List.set_cons_succ,UaQ,Zb,seval,Za,men]
 refine Zg (ZdN x.copies b2) ?_
 simp only[ZU,YL,YM,List.set_cons_zero,List.set_cons_succ,UaQ,Zb,seval,Za,men]
 rfl
theorem ZwD(x:TControl)(hb:Jw 4294967296 x)(lvl:Nat)(S:Zc):Sem UbM Zcz lvl [.ag ((ZF x).map .tr)] S (Zan x) S:=by
 have b0:x.name.size<=4294967296:=hb
 refine Zw ZvV (by simp [Zan,low,men,Za]) ?_
 simp only[ZiA,ZF,zfill,zobs,Ual,Uaq,YL,YM,List.set_cons_zero,List.set_cons_succ,Zb,seval,Za,men]
 rfl
theorem X3(a:(List TControl))(ha:a.length<=4294967296)(hb:∀ y∈a,Jw 4294967296 y)(lvl:Nat)(S:Zc):Sem UbM WG lvl [.tr (.sl (a.map ZF))] S (.ow 3 (a.map ZF) true) S:=by
 refine Zw ZvP trivial ?_
 simp only[Ziu,Uaa,bigN,Uar,Zb,seval,Za,men]
 refine⟨by omega,?_⟩
 refine J7 (α:=Unit) a.length (fun j _=>⟨lvl,[(0,.tr (.sl (a.map ZF))),(3,.hd (lvl,224) [] 0 a.length none a.length),(4,iI j)],[(224,.ar 3 (JV ZF [ts ⟨#[]⟩,tv 0,tv 0] a j) true a.length (j*0))],S⟩) (fun _ _=>True) () ⟨by simp only[Zb,seval,Za,men],by (simp only[UE,Zb,seval,Za,men]) <;> rfl⟩ trivial ?_
 intro j _ hj _
 simp only[Uaa,Zb,seval,Za,men]
 refine Zx (fun hlt=>?_) (fun hge=>?_)
 ·have hja:j<a.length:=by omega
  have ga:(a.map ZF)[j]? = some (ZF a[j]):=by simp [hja]
  have gz:(JV ZF [ts ⟨#[]⟩,tv 0,tv 0] a j)[j]? = some [ts ⟨#[]⟩,tv 0,tv 0]:=UG hja
  have hfl:(JV ZF [ts ⟨#[]⟩,tv 0,tv 0] a j).length=a.length:=Zch hj
  have hsem:=fun lvl S=>ZwD a[j] (hb a[j] (Uan hja)) lvl S
  simp only[ga,gz,Uar,Uaf,hja,ZF,Zan,Nat.reduceLeDiff,Zb,↓reduceIte,Nat.reduceEqDiff,Nat.reduceMul,reduceCtorEq,Nat.reduceAdd,Nat.reduceSub,Nat.reduceLT,Int.reduceToNat,Int.reduceLE,Int.reduceLT,Za,men]
  refine Zg hsem ?_
  simp only[Zan,gz,Uar,Uaf,hja,hfl,ZO,Ua5,Ubf,UaV,List.set_cons_zero,List.set_cons_succ,UaQ,ne_eq,not_false_eq_true,Zb,seval,Za,men]
  refine⟨by rw[Zn];omega,ZI () hja ?_ trivial⟩
  have hse:=UH (c:=ZF) (z:=[ts ⟨#[]⟩,tv 0,tv 0]) (e:=[ts a[j].name,tv a[j].ports,tv a[j].kind_]) hja rfl
  rw[hse,show (j+1)*0=j*0 from by omega]
  rfl
 ·have:j=a.length:=by omega
  subst this
  rw[UF]
  simp
theorem Za2{α:Type}{f:α->Nat}{B:Nat}(l:List α)(h:∀ x∈l,f x<=B){n:Nat}(hl:l.length<=n):nL f l<=n*B:=UaE (ZiQ l h) (Uay _ hl)
theorem ZwE{sig:List TControl}{b:TBigraph}(h:bigOK sig b):Jj 4294967296 b/\1+(Jo b:Int)<=4611686018427387904:=by
 refine⟨U3 (by omega) (ZdE h),?_⟩
 have hs:=h.small
 have n1:=Za2 (f:=Zv) (B:=1002) b.nodes (fun x hx=>by have:=hs.links x hx;simp only[Zv,ZiP];omega) hs.nodes
 have n2:=Za2 (f:=Zy) (B:=1) b.sites (fun x _=>by simp [Zy]) hs.sites
 have n3:=Za2 (f:=ZJ) (B:=1) b.outer (fun x _=>by simp [ZJ]) hs.outer
 have n4:=Za2 (f:=ZT) (B:=2) b.inner (fun x _=>by simp [ZT]) hs.inner
 unfold Jo
 omega
theorem ZwF:Jj 4294967296 JJ/\1+(Jo JJ:Int)<=4611686018427387904:=by
 refine⟨⟨by simp [JJ],by simp [JJ],by simp [JJ],by simp [JJ],by simp [JJ],by simp [JJ],by simp [JJ]⟩,?_⟩
 simp [Jo,JJ,nL]
theorem Zi0(sig:List TControl)(r:TRule)(p:TBigraph)(_hn:sig.length<=4294967296)(_hbs:∀ y∈sig,Jw 4294967296 y)(_hb:YB 4294967296 r)(_hb2:Jj 4294967296 p):Jj 4294967296 (Jy sig r p)/\1+(Jo (Jy sig r p):Int)<=4611686018427387904:=by
 unfold Jy
 split
 ·rename_i h;exact ZwE h.out
 ·exact ZwF
set_option maxHeartbeats 2000000 in
theorem ZwG(x0:(List TControl))(x1:TRule)(x2:TBigraph)(hb0_0:x0.length<=9223372036854775807)(hb0_1:∀ y∈x0,Jw 9223372036854775807 y)(hb1_0:YB 9223372036854775807 x1)(hb2_0:Jj 9223372036854775807 x2)(hf1:Xw x1)(hf2:YW x2)(lvl:Nat)(S:Zc):Sem UbM Zgy lvl [.tr (.sl (x0.map ZF)),.ag ((Zs x1).map .tr),.ag ((Zf x2).map .tr)] S (iB true) S:=by
 refine Zw Zvu trivial ?_
 simp only[Zid,Uaa,ZU,ZX,ZP,ne_eq,not_true_eq_false,bne_self_eq_false,Zf,Zz,Zs,ZV,Zb,seval,Za,men]
 have ul:(1048576:Int)<=1048576:=Ua4 _
 obtain⟨_,ha0⟩:=Zwk x0 hb0_0 hb0_1 (1048576) (by omega) (by omega)
 refine Zg ha0 ?_
 simp only[Uaa,ZU,ZX,ZP,ne_eq,not_true_eq_false,bne_self_eq_false,Zf,Zz,Zs,ZV,Zb,seval,Za,men]
 refine Zx (fun _=>trivial) (fun hz0=>?_)
 have zp0:=(ZaF (f:=Yt) (fun y=>(ZuB y)) x0) (1048576) (by omega) (by omega)
 have zq0:=(Zaj (f:=Yt) (n:=YQ) (fun y=>Xv (Zwc y) (by omega)) x0) (1048576) (by omega) (by omega)
 simp only at zp0 zq0
 have hp0:=zp0.2 (by omega)
 have hq0:=zq0.2 (by omega)
 obtain⟨hs0_0,hs0_1⟩:=hp0
 obtain⟨_,ha1⟩:=Zwi x1 hb1_0 (JB Yt x0 (1048576)) (by omega) (by omega)
 refine Zg ha1 ?_
 simp only[Uaa,ZU,ZX,ZP,ne_eq,not_true_eq_false,bne_self_eq_false,Zf,Zz,Zs,ZV,Zb,seval,Za,men]
 refine Zx (fun _=>trivial) (fun hz1=>?_)
 have zp1:=(ZuA x1) (JB Yt x0 (1048576)) (by omega) (by omega)
 have zq1:=(Zwb x1) (JB Yt x0 (1048576)) (by omega) (by omega)
 simp only at zp1 zq1
 have hp1:=zp1.2 (by omega)
 have hq1:=zq1.2 (by omega)
 have hs1_0:=hp1
 obtain⟨_,ha2⟩:=U9 x2 hb2_0 (Qo x1 (JB Yt x0 (1048576))) (by omega) (by omega)
 refine Zg ha2 ?_
 simp only[Uaa,ZU,ZX,ZP,ne_eq,not_true_eq_false,bne_self_eq_false,Zf,Zz,Zs,ZV,Zb,seval,Za,men]
 refine Zx (fun _=>trivial) (fun hz2=>?_)
 have zp2:=(ZdB x2) (Qo x1 (JB Yt x0 (1048576))) (by omega) (by omega)
 have zq2:=(ZdL x2) (Qo x1 (JB Yt x0 (1048576))) (by omega) (by omega)
 simp only at zp2 zq2
 have hp2:=zp2.2 (by omega)
 have hq2:=zq2.2 (by omega)
 have hs2_0:=hp2
 refine Zg (X3 x0 hs0_0 hs0_1) ?_
 simp only[Uaa,ZU,ZX,ZP,ne_eq,not_true_eq_false,bne_self_eq_false,Zf,Zz,Zs,ZV,Zb,seval,Za,men]
 refine Zg (X2 x1 hs1_0) ?_
 simp only[Uaa,ZU,ZX,ZP,ne_eq,not_true_eq_false,bne_self_eq_false,Zf,Zz,Zs,ZV,Zb,seval,Za,men]
 refine Zg (Q4 x2 hs2_0) ?_
 simp only[Uaa,ZU,ZX,ZP,ne_eq,not_true_eq_false,bne_self_eq_false,Zf,Zz,Zs,ZV,Zb,seval,Za,men]
 by_cases hB:instOK x0 x1 x2
 ·refine Zg (Zvs x0 x1 x2 hs0_0 hs0_1 hs1_0 hs2_0 hf1 hf2 hB) ?_
  simp only[Uaa,ZU,ZX,ZP,ne_eq,not_true_eq_false,bne_self_eq_false,Zf,Zz,Zs,ZV,Zb,seval,Za,men]
  refine Zg (X3 x0 hs0_0 hs0_1) ?_
  simp only[Uaa,ZU,ZX,ZP,ne_eq,not_true_eq_false,bne_self_eq_false,Zf,Zz,Zs,ZV,Zb,seval,Za,men]
  refine Zg (X2 x1 hs1_0) ?_
  simp only[Uaa,ZU,ZX,ZP,ne_eq,not_true_eq_false,bne_self_eq_false,Zf,Zz,Zs,ZV,Zb,seval,Za,men]
  refine Zg (Q4 x2 hs2_0) ?_
  simp only[Uaa,ZU,ZX,ZP,ne_eq,not_true_eq_false,bne_self_eq_false,Zf,Zz,Zs,ZV,Zb,seval,Za,men]
  refine Zg (ZaV x0 x1 x2 hs0_0 hs0_1 hs1_0 hs2_0 hf1 hf2) ?_
  simp only[Uaa,ZU,ZX,ZP,ne_eq,not_true_eq_false,bne_self_eq_false,Zf,Zz,Zs,ZV,Zb,seval,Za,men]
  obtain⟨hr0_0,hrn⟩:=Zi0 x0 x1 x2 hs0_0 hs0_1 hs1_0 hs2_0
  refine Zg (Qs (Jy x0 x1 x2) (Jy x0 x1 x2) (WK hr0_0)) ?_
  simp only[Uaa,ZU,ZX,ZP,ne_eq,not_true_eq_false,bne_self_eq_false,Zf,Zz,Zs,ZV,Zb,seval,Za,men]
  refine Zg (X3 x0 hs0_0 hs0_1) ?_
  simp only[Uaa,ZU,ZX,ZP,ne_eq,not_true_eq_false,bne_self_eq_false,Zf,Zz,Zs,ZV,Zb,seval,Za,men]
  refine Zg (ZiZ x0 x0 hb0_0 hb0_1) ?_
  simp only[Uaa,ZU,ZX,ZP,ne_eq,not_true_eq_false,bne_self_eq_false,Zf,Zz,Zs,ZV,Zb,seval,Za,men]
  refine Zg (X2 x1 hs1_0) ?_
  simp only[Uaa,ZU,ZX,ZP,ne_eq,not_true_eq_false,bne_self_eq_false,Zf,Zz,Zs,ZV,Zb,seval,Za,men]
  refine Zg (ZiY x1 x1 hb1_0) ?_
  simp only[Uaa,ZU,ZX,ZP,ne_eq,not_true_eq_false,bne_self_eq_false,Zf,Zz,Zs,ZV,Zb,seval,Za,men]
  refine Zg (Q4 x2 hs2_0) ?_
  simp only[Uaa,ZU,ZX,ZP,ne_eq,not_true_eq_false,bne_self_eq_false,Zf,Zz,Zs,ZV,Zb,seval,Za,men]
  refine Zg (Qs x2 x2 hb2_0) ?_
  simp only[Uaa,ZU,ZX,ZP,ne_eq,not_true_eq_false,bne_self_eq_false,Zf,Zz,Zs,ZV,Zb,seval,Za,men]
  simp only[JL]
  refine Zgt Zir (a:=x0) rfl (by omega) (by omega) hs0_0 hs0_1 ?_
  simp only[Uaa,ZU,ZX,ZP,ne_eq,not_true_eq_false,bne_self_eq_false,Zf,Zz,Zs,ZV,Zb,seval,Za,men]
  simp only[JL]
  refine ZiN (x:=x1) (by decide) (by decide) (by decide) (by decide) (by decide) (by decide) (by decide) (by decide) (by decide) (by decide) (by decide) (by decide) (by decide) (by decide) (by decide) (by decide) (by decide) (by decide) (by decide) (by decide) (by decide) (by decide) (by decide) (by decide) (by decide) (by decide) (by decide) (by decide) (by decide) (by decide) (by decide) (by decide) (by decide) (by decide) (by decide) (by decide) rfl rfl rfl rfl rfl rfl rfl rfl rfl (by omega) (by omega) hs1_0 ?_
  simp only[Uaa,ZU,ZX,ZP,ne_eq,not_true_eq_false,bne_self_eq_false,Zf,Zz,Zs,ZV,Zb,seval,Za,men]
  simp only[JL]
  refine ZaZ (x:=x2) (by decide) (by decide) (by decide) (by decide) (by decide) (by decide) rfl rfl rfl rfl (by omega) (by omega) hs2_0 ?_
  simp only[Uaa,ZU,ZX,ZP,ne_eq,not_true_eq_false,bne_self_eq_false,Zf,Zz,Zs,ZV,Zb,seval,Za,men]
  have hk0:¬ (1+(nL YQ x0:Nat)+(Vp x1:Nat)+(Jo x2:Nat)<(0:Int)):=by omega
  simp only[hk0,Uaa,ZU,ZX,ZP,ne_eq,not_true_eq_false,bne_self_eq_false,Zf,Zz,Zs,ZV,Zb,seval,Za,men]
  refine Zg (Qs (Jy x0 x1 x2) (Jy x0 x1 x2) (WK hr0_0)) ?_
  simp only[Uaa,ZU,ZX,ZP,ne_eq,not_true_eq_false,bne_self_eq_false,Zf,Zz,Zs,ZV,Zb,seval,Za,men]
  simp only[JL]
  refine ZaZ (x:=(Jy x0 x1 x2)) (by decide) (by decide) (by decide) (by decide) (by decide) (by decide) rfl rfl rfl rfl (by omega) (by omega) hr0_0 ?_
  simp only[Uaa,ZU,ZX,ZP,ne_eq,not_true_eq_false,bne_self_eq_false,Zf,Zz,Zs,ZV,Zb,seval,Za,men]
  refine Zg (Za0 (Jy x0 x1 x2) (1) hr0_0 (by omega) (by omega)) ?_
  have hh0:¬ (1+(Jo (Jy x0 x1 x2):Nat)<(0:Int)):=by omega
  simp only[hh0,Uaa,ZU,ZX,ZP,ne_eq,not_true_eq_false,bne_self_eq_false,Zf,Zz,Zs,ZV,Zb,seval,Za,men]
  refine Zg (X3 x0 hs0_0 hs0_1) ?_
  simp only[Uaa,ZU,ZX,ZP,ne_eq,not_true_eq_false,bne_self_eq_false,Zf,Zz,Zs,ZV,Zb,seval,Za,men]
  refine Zg (X2 x1 hs1_0) ?_
  simp only[Uaa,ZU,ZX,ZP,ne_eq,not_true_eq_false,bne_self_eq_false,Zf,Zz,Zs,ZV,Zb,seval,Za,men]
  refine Zg (Q4 x2 hs2_0) ?_
  simp only[Uaa,ZU,ZX,ZP,ne_eq,not_true_eq_false,bne_self_eq_false,Zf,Zz,Zs,ZV,Zb,seval,Za,men]
  refine Zg (ZaV x0 x1 x2 hs0_0 hs0_1 hs1_0 hs2_0 hf1 hf2) ?_
  simp only[Uaa,ZU,ZX,ZP,ne_eq,not_true_eq_false,bne_self_eq_false,Zf,Zz,Zs,ZV,Zb,seval,Za,men]
  refine Zg (Qs (Jy x0 x1 x2) (Jy x0 x1 x2) (WK hr0_0)) ?_
  simp only[Uaa,ZU,ZX,ZP,ne_eq,not_true_eq_false,bne_self_eq_false,Zf,Zz,Zs,ZV,Zb,seval,Za,men]
  refine Zg (Za0 (Jy x0 x1 x2) (1) hr0_0 (by omega) (by omega)) ?_
  have hh0:¬ (1+(Jo (Jy x0 x1 x2):Nat)<(0:Int)):=by omega
  simp only[hh0,Uaa,ZU,ZX,ZP,ne_eq,not_true_eq_false,bne_self_eq_false,Zf,Zz,Zs,ZV,Zb,seval,Za,men]
 ·refine Zg (Zvt x0 x1 x2 hs0_0 hs0_1 hs1_0 hs2_0 hf1 hf2 hB) ?_
  simp only[Uaa,ZU,ZX,ZP,ne_eq,not_true_eq_false,bne_self_eq_false,Zf,Zz,Zs,ZV,Zb,seval,Za,men]
  refine Zg (X3 x0 hs0_0 hs0_1) ?_
  simp only[Uaa,ZU,ZX,ZP,ne_eq,not_true_eq_false,bne_self_eq_false,Zf,Zz,Zs,ZV,Zb,seval,Za,men]
  refine Zg (X2 x1 hs1_0) ?_
  simp only[Uaa,ZU,ZX,ZP,ne_eq,not_true_eq_false,bne_self_eq_false,Zf,Zz,Zs,ZV,Zb,seval,Za,men]
  refine Zg (Q4 x2 hs2_0) ?_
  simp only[Uaa,ZU,ZX,ZP,ne_eq,not_true_eq_false,bne_self_eq_false,Zf,Zz,Zs,ZV,Zb,seval,Za,men]
  refine Zg (ZaV x0 x1 x2 hs0_0 hs0_1 hs1_0 hs2_0 hf1 hf2) ?_
  simp only[Uaa,ZU,ZX,ZP,ne_eq,not_true_eq_false,bne_self_eq_false,Zf,Zz,Zs,ZV,Zb,seval,Za,men]
  obtain⟨hr0_0,hrn⟩:=Zi0 x0 x1 x2 hs0_0 hs0_1 hs1_0 hs2_0
  refine Zg (Qs (Jy x0 x1 x2) (Jy x0 x1 x2) (WK hr0_0)) ?_
  simp only[Uaa,ZU,ZX,ZP,ne_eq,not_true_eq_false,bne_self_eq_false,Zf,Zz,Zs,ZV,Zb,seval,Za,men]
  refine Zg (X3 x0 hs0_0 hs0_1) ?_
  simp only[Uaa,ZU,ZX,ZP,ne_eq,not_true_eq_false,bne_self_eq_false,Zf,Zz,Zs,ZV,Zb,seval,Za,men]
  refine Zg (ZiZ x0 x0 hb0_0 hb0_1) ?_
  simp only[Uaa,ZU,ZX,ZP,ne_eq,not_true_eq_false,bne_self_eq_false,Zf,Zz,Zs,ZV,Zb,seval,Za,men]
  refine Zg (X2 x1 hs1_0) ?_
  simp only[Uaa,ZU,ZX,ZP,ne_eq,not_true_eq_false,bne_self_eq_false,Zf,Zz,Zs,ZV,Zb,seval,Za,men]
  refine Zg (ZiY x1 x1 hb1_0) ?_
  simp only[Uaa,ZU,ZX,ZP,ne_eq,not_true_eq_false,bne_self_eq_false,Zf,Zz,Zs,ZV,Zb,seval,Za,men]
  refine Zg (Q4 x2 hs2_0) ?_
  simp only[Uaa,ZU,ZX,ZP,ne_eq,not_true_eq_false,bne_self_eq_false,Zf,Zz,Zs,ZV,Zb,seval,Za,men]
  refine Zg (Qs x2 x2 hb2_0) ?_
  simp only[Uaa,ZU,ZX,ZP,ne_eq,not_true_eq_false,bne_self_eq_false,Zf,Zz,Zs,ZV,Zb,seval,Za,men]
  simp only[JL]
  refine Zgt Zir (a:=x0) rfl (by omega) (by omega) hs0_0 hs0_1 ?_
  simp only[Uaa,ZU,ZX,ZP,ne_eq,not_true_eq_false,bne_self_eq_false,Zf,Zz,Zs,ZV,Zb,seval,Za,men]
  simp only[JL]
  refine ZiN (x:=x1) (by decide) (by decide) (by decide) (by decide) (by decide) (by decide) (by decide) (by decide) (by decide) (by decide) (by decide) (by decide) (by decide) (by decide) (by decide) (by decide) (by decide) (by decide) (by decide) (by decide) (by decide) (by decide) (by decide) (by decide) (by decide) (by decide) (by decide) (by decide) (by decide) (by decide) (by decide) (by decide) (by decide) (by decide) (by decide) (by decide) rfl rfl rfl rfl rfl rfl rfl rfl rfl (by omega) (by omega) hs1_0 ?_
  simp only[Uaa,ZU,ZX,ZP,ne_eq,not_true_eq_false,bne_self_eq_false,Zf,Zz,Zs,ZV,Zb,seval,Za,men]
  simp only[JL]
  refine ZaZ (x:=x2) (by decide) (by decide) (by decide) (by decide) (by decide) (by decide) rfl rfl rfl rfl (by omega) (by omega) hs2_0 ?_
  simp only[Uaa,ZU,ZX,ZP,ne_eq,not_true_eq_false,bne_self_eq_false,Zf,Zz,Zs,ZV,Zb,seval,Za,men]
  have hk0:¬ (1+(nL YQ x0:Nat)+(Vp x1:Nat)+(Jo x2:Nat)<(0:Int)):=by omega
  simp only[hk0,Uaa,ZU,ZX,ZP,ne_eq,not_true_eq_false,bne_self_eq_false,Zf,Zz,Zs,ZV,Zb,seval,Za,men]
  refine Zg (Qs (Jy x0 x1 x2) (Jy x0 x1 x2) (WK hr0_0)) ?_
  simp only[Uaa,ZU,ZX,ZP,ne_eq,not_true_eq_false,bne_self_eq_false,Zf,Zz,Zs,ZV,Zb,seval,Za,men]
  simp only[JL]
  refine ZaZ (x:=(Jy x0 x1 x2)) (by decide) (by decide) (by decide) (by decide) (by decide) (by decide) rfl rfl rfl rfl (by omega) (by omega) hr0_0 ?_
  simp only[Uaa,ZU,ZX,ZP,ne_eq,not_true_eq_false,bne_self_eq_false,Zf,Zz,Zs,ZV,Zb,seval,Za,men]
  refine Zg (Za0 (Jy x0 x1 x2) (1) hr0_0 (by omega) (by omega)) ?_
  have hh0:¬ (1+(Jo (Jy x0 x1 x2):Nat)<(0:Int)):=by omega
  simp only[hh0,Uaa,ZU,ZX,ZP,ne_eq,not_true_eq_false,bne_self_eq_false,Zf,Zz,Zs,ZV,Zb,seval,Za,men]
  refine Zg (X3 x0 hs0_0 hs0_1) ?_
  simp only[Uaa,ZU,ZX,ZP,ne_eq,not_true_eq_false,bne_self_eq_false,Zf,Zz,Zs,ZV,Zb,seval,Za,men]
  refine Zg (X2 x1 hs1_0) ?_
  simp only[Uaa,ZU,ZX,ZP,ne_eq,not_true_eq_false,bne_self_eq_false,Zf,Zz,Zs,ZV,Zb,seval,Za,men]
  refine Zg (Q4 x2 hs2_0) ?_
  simp only[Uaa,ZU,ZX,ZP,ne_eq,not_true_eq_false,bne_self_eq_false,Zf,Zz,Zs,ZV,Zb,seval,Za,men]
  refine Zg (ZaV x0 x1 x2 hs0_0 hs0_1 hs1_0 hs2_0 hf1 hf2) ?_
  simp only[Uaa,ZU,ZX,ZP,ne_eq,not_true_eq_false,bne_self_eq_false,Zf,Zz,Zs,ZV,Zb,seval,Za,men]
  refine Zg (Qs (Jy x0 x1 x2) (Jy x0 x1 x2) (WK hr0_0)) ?_
  simp only[Uaa,ZU,ZX,ZP,ne_eq,not_true_eq_false,bne_self_eq_false,Zf,Zz,Zs,ZV,Zb,seval,Za,men]
  refine Zg (Za0 (Jy x0 x1 x2) (1) hr0_0 (by omega) (by omega)) ?_
  have hh0:¬ (1+(Jo (Jy x0 x1 x2):Nat)<(0:Int)):=by omega
  simp only[hh0,Uaa,ZU,ZX,ZP,ne_eq,not_true_eq_false,bne_self_eq_false,Zf,Zz,Zs,ZV,Zb,seval,Za,men]
theorem ZdO:JU UbM 9 (fun n:ByteArray=>[ts n]) (fun n=>n.size<=9223372036854775807):=ZsA Proofs.Tryz.underlying9
theorem XD:JU UbM 3 (fun n:Int=>[tv n]) (Jg .i64):=Zsz Proofs.Tryz.underlying3
theorem ZwH:JU UbM 55 ZF (fun x=>Jw 9223372036854775807 x/\Zgx x):=UB (UA Proofs.Tryz.underlying55 (show QQ UbM 0 [(0,9),(1,3),(2,3)] _ _ from (Yz (k:=1) (by kernel_rfl) (fun _=>rfl) ZdO (Yz (k:=1) (by kernel_rfl) (fun _=>rfl) XD (Yz (k:=1) (by kernel_rfl) (fun _=>rfl) XD Uz))))) (fun p=>TControl.mk p.1 p.2.1 p.2.2.1) (fun _=>rfl) (fun x h=>⟨h.1,⟨h.2.1,h.2.2.1⟩⟩)
theorem ZwI:JU UbM 22 (fun l:List TControl=>[Tr.sl (l.map ZF)]) (fun l=>l.length<=9223372036854775807/\∀ x∈l,(fun x=>Jw 9223372036854775807 x/\Zgx x) x):=Uy (k:=2) Proofs.Tryz.underlying22 (by kernel_rfl) (fun _=>rfl) ZwH
theorem ZdP:JU UbM 24 (fun l:List Int=>[Tr.sl (l.map (fun n:Int=>[tv n]))]) (fun l=>l.length<=9223372036854775807/\∀ x∈l,(Jg .i64) x):=Uy (k:=0) Proofs.Tryz.underlying24 (by kernel_rfl) (fun _=>rfl) XD
theorem ZwJ:JU UbM 80 Zr (fun x=>YV 9223372036854775807 x/\Zal x):=UB (UA Proofs.Tryz.underlying80 (show QQ UbM 0 [(0,3),(1,3),(2,24)] _ _ from (Yz (k:=1) (by kernel_rfl) (fun _=>rfl) XD (Yz (k:=1) (by kernel_rfl) (fun _=>rfl) XD (Yz (k:=1) (by kernel_rfl) (fun _=>rfl) ZdP Uz))))) (fun p=>TNode.mk p.1 p.2.1 p.2.2.1) (fun _=>rfl) (fun x h=>⟨h.2.2.1.1,⟨h.1,h.2.1,(fun y hy=>(h.2.2.1.2 y hy))⟩⟩)
theorem ZwK:JU UbM 23 (fun l:List TNode=>[Tr.sl (l.map Zr)]) (fun l=>l.length<=9223372036854775807/\∀ x∈l,(fun x=>YV 9223372036854775807 x/\Zal x) x):=Uy (k:=2) Proofs.Tryz.underlying23 (by kernel_rfl) (fun _=>rfl) ZwJ
theorem ZwL:JU UbM 25 (fun l:List ByteArray=>[Tr.sl (l.map (fun n:ByteArray=>[ts n]))]) (fun l=>l.length<=9223372036854775807/\∀ x∈l,(fun n=>n.size<=9223372036854775807) x):=Uy (k:=0) Proofs.Tryz.underlying25 (by kernel_rfl) (fun _=>rfl) ZdO
theorem ZwM:JU UbM 83 ZH (fun x=>YA 9223372036854775807 x/\Zcm x):=UB (UA Proofs.Tryz.underlying83 (show QQ UbM 0 [(0,9),(1,3)] _ _ from (Yz (k:=1) (by kernel_rfl) (fun _=>rfl) ZdO (Yz (k:=1) (by kernel_rfl) (fun _=>rfl) XD Uz)))) (fun p=>TWire.mk p.1 p.2.1) (fun _=>rfl) (fun x h=>⟨h.1,h.2.1⟩)
theorem ZwN:JU UbM 26 (fun l:List TWire=>[Tr.sl (l.map ZH)]) (fun l=>l.length<=9223372036854775807/\∀ x∈l,(fun x=>YA 9223372036854775807 x/\Zcm x) x):=Uy (k:=1) Proofs.Tryz.underlying26 (by kernel_rfl) (fun _=>rfl) ZwM
theorem ZdQ:JU UbM 28 Zf (fun x=>Jj 9223372036854775807 x/\YW x):=UB (UA Proofs.Tryz.underlying28 (show QQ UbM 0 [(0,3),(1,23),(2,24),(3,3),(4,25),(5,26)] _ _ from (Yz (k:=1) (by kernel_rfl) (fun _=>rfl) XD (Yz (k:=1) (by kernel_rfl) (fun _=>rfl) ZwK (Yz (k:=1) (by kernel_rfl) (fun _=>rfl) ZdP (Yz (k:=1) (by kernel_rfl) (fun _=>rfl) XD (Yz (k:=1) (by kernel_rfl) (fun _=>rfl) ZwL (Yz (k:=1) (by kernel_rfl) (fun _=>rfl) ZwN Uz)))))))) (fun p=>TBigraph.mk p.1 p.2.1 p.2.2.1 p.2.2.2.1 p.2.2.2.2.1 p.2.2.2.2.2.1) (fun _=>rfl) (fun x h=>⟨⟨h.2.1.1,(fun y hy=>(h.2.1.2 y hy).1),h.2.2.1.1,h.2.2.2.2.1.1,(fun y hy=>(h.2.2.2.2.1.2 y hy)),h.2.2.2.2.2.1.1,(fun y hy=>(h.2.2.2.2.2.1.2 y hy).1)⟩,⟨h.1,(fun y hy=>(h.2.1.2 y hy).2),(fun y hy=>(h.2.2.1.2 y hy)),h.2.2.2.1,(fun y hy=>(h.2.2.2.2.2.1.2 y hy).2)⟩⟩)
theorem ZwO:JU UbM 30 Zs (fun x=>YB 9223372036854775807 x/\Xw x):=UB (UA Proofs.Tryz.underlying30 (show QQ UbM 0 [(0,28),(6,28),(12,24)] _ _ from (Yz (k:=6) (by kernel_rfl) (fun _=>rfl) ZdQ (Yz (k:=6) (by kernel_rfl) (fun _=>rfl) ZdQ (Yz (k:=1) (by kernel_rfl) (fun _=>rfl) ZdP Uz))))) (fun p=>TRule.mk p.1 p.2.1 p.2.2.1) (fun _=>rfl) (fun x h=>⟨⟨h.1.1,h.2.1.1,h.2.2.1.1⟩,⟨h.1.2,h.2.1.2,(fun y hy=>(h.2.2.1.2 y hy))⟩⟩)
end Go.Fd
