/-
  The annotated codes of the functions, printed by a program of mine (gen.py), and the check that they belong to the program.
-/
import Derived.Test.YtcpcocfmpcmbpaaGreatDoorT04
import Derived.KernelRfl
set_option linter.all false
namespace Go.Fd
open Go.Proofs.Tryz renaming prog->Ucb
def Zk9:F2 :=
 { nt:=73,res:=[.t 8 [5],.t 9 [0]],body:=(.sq (rg [om 8 (.k (.slice none 0 0)),om 9 (.k (.bool false))]) (.sq (.sq (rg [qM 19 0,qM 20 1,oo 21 (.ca .pure true (.f ZcG) [.t 19,.t 20]),qM 18 21,qE 22 0 18,qE 23 1 18,oo 10 (.al [.int .i64 0,.slice none 0 0,.slice none 0 0,.int .i64 0,.slice none 0 0,.slice none 0 0] []),
 Zj (.st 6 (.t 10) (.t 22)),qM 11 23]) (.sq (rg [qM 24 11,oo 25 (.nt (.t 24)),qM 26 25,og 27 26 false (.mv (.t 3) none),og 28 26 false (.mv (.t 1) none),og 29 26 false (.ln (.t 28)),og 30 26 false (.bi .sub 0 (.t 29) (i6 1)),og 31 26 false (.ca .pure false (.f VF) [.t 27,i6 0,.t 30]),og 32 26 false (.nt (.t 31)),oo 33 (.pk (.t 26) (.k (.bool true)) (.t 32))]) (.cd (.t 33) (.sq (rg [oo 34 (.bs 4 0 [] []),qM 8 34,om 9 (.k (.bool false))]) (.rt)) (.sk)))) (.sq (rg [qM 35 1,oo 36 (.ca .pure false (.f Zf3) [.t 35]),qM 12 36]) (.sq (rg [qM 38 0,qM 39 1,qM 40 12,qM 41 2,qM 42 3,oo 43 (.ca .pure true (.f ZaX) [.t 38,.t 39,.t 40,.t 41,.t 42]),qM 37 43,qE 44 0 37,qE 45 1 37,qM 13 44,qM 14 45]) (.sq (.sq (rg [qM 46 14,oo 47 (.nt (.t 46))]) (.cd (.t 47) (.sq (rg [oo 48 (.bs 4 0 [] []),qM 8 48,om 9 (.k (.bool false))]) (.rt)) (.sk))) (.sq (.rg (some 0) [qM 49 1,qM 50 12,qM 51 3,qI 52 1 50 51,qL 53 52,oo 54 (.sx 4 (.t 49) none (some (.t 53)) none),qM 55 13,qM 56 1,qM 57 3,oo 58 (.bi .add 0 (.t 57) (i6 1)),oo 59 (.sx 4 (.t 56) (some (.t 58)) none none),oo 60 (.bc 1 3 [.slice none 0 0] [(0,.t 54),(1,.t 55),(2,.t 59)]),oo 61 (.ca .pure false (.f QI) [.t 60]),oo 62 (.ca .pure true (.f Zf4) [.t 61]),qM 15 62]) (.sq (.sq (rg [qM 64 0,qM 65 15,oo 66 (.ca .pure true (.f ZcG) [.t 64,.t 65]),qM 63 66,qE 67 0 63,qE 68 1 63,oo 16 (.al [.int .i64 0,.slice none 0 0,.slice none 0 0,.int .i64 0,.slice none 0 0,.slice none 0 0] []),
 Zj (.st 6 (.t 16) (.t 67)),qM 17 68]) (.sq (rg [qM 69 17,oo 70 (.nt (.t 69))]) (.cd (.t 70) (.sq (rg [oo 71 (.bs 4 0 [] []),qM 8 71,om 9 (.k (.bool false))]) (.rt)) (.sk)))) (.sq (rg [qM 72 15,qM 8 72,om 9 (.k (.bool true))]) (.rt))))))))) }
theorem ZA0:Zk Ucb ZfY Zk9=true:=by kernel_rfl
def Zla:F2 :=
 { nt:=67,res:=[.t 8 [5],.t 9 [0]],body:=(.sq (rg [om 8 (.k (.slice none 0 0)),om 9 (.k (.bool false))]) (.sq (.sq (rg [qM 18 0,qM 19 1,oo 20 (.ca .pure true (.f ZcH) [.t 18,.t 19]),qM 17 20,qE 21 0 17,qE 22 1 17,oo 10 (.al [.int .i64 0,.slice none 0 0,.slice none 0 0,.int .i64 0,.slice none 0 0,.slice none 0 0] []),
 Zj (.st 6 (.t 10) (.t 21)),qM 11 22]) (.sq (rg [qM 23 11,oo 24 (.nt (.t 23)),qM 25 24,og 26 25 false (.mv (.t 3) none),og 27 25 false (.mv (.t 1) none),og 28 25 false (.ln (.t 27)),og 29 25 false (.bi .sub 0 (.t 28) (i6 1)),og 30 25 false (.ca .pure false (.f V4) [.t 26,i6 0,.t 29]),og 31 25 false (.nt (.t 30)),oo 32 (.pk (.t 25) (.k (.bool true)) (.t 31))]) (.cd (.t 32) (.sq (rg [om 8 (.k (.slice none 0 0)),om 9 (.k (.bool false))]) (.rt)) (.sk)))) (.sq (rg [qM 34 0,qM 35 1,qM 36 2,qM 37 3,oo 38 (.ca .pure true (.f Zf7) [.t 34,.t 35,.t 36,.t 37]),qM 33 38,qE 39 0 33,qE 40 1 33,qM 12 39,qM 13 40]) (.sq (.sq (rg [qM 41 13,oo 42 (.nt (.t 41))]) (.cd (.t 42) (.sq (rg [om 8 (.k (.slice none 0 0)),om 9 (.k (.bool false))]) (.rt)) (.sk))) (.sq (.rg (some 0) [qM 43 1,qM 44 1,oo 45 (.ca .pure false (.f ZcI) [.t 44]),qM 46 3,qI 47 1 45 46,qL 48 47,oo 49 (.sx 4 (.t 43) none (some (.t 48)) none),qM 50 12,qM 51 1,qM 52 3,oo 53 (.bi .add 0 (.t 52) (i6 1)),oo 54 (.sx 4 (.t 51) (some (.t 53)) none none),oo 55 (.bc 1 3 [.slice none 0 0] [(0,.t 49),(1,.t 50),(2,.t 54)]),oo 56 (.ca .pure true (.f Wp) [.t 55]),qM 14 56]) (.sq (.sq (rg [qM 58 0,qM 59 14,oo 60 (.ca .pure true (.f ZcH) [.t 58,.t 59]),qM 57 60,qE 61 0 57,qE 62 1 57,oo 15 (.al [.int .i64 0,.slice none 0 0,.slice none 0 0,.int .i64 0,.slice none 0 0,.slice none 0 0] []),
 Zj (.st 6 (.t 15) (.t 61)),qM 16 62]) (.sq (rg [qM 63 16,oo 64 (.nt (.t 63))]) (.cd (.t 64) (.sq (rg [om 8 (.k (.slice none 0 0)),om 9 (.k (.bool false))]) (.rt)) (.sk)))) (.sq (rg [qM 65 14,oo 66 (.ca .pure true (.f Zf8) [.t 65]),qM 8 66,om 9 (.k (.bool true))]) (.rt)))))))) }
theorem ZA1:Zk Ucb ZcD Zla=true:=by kernel_rfl
def Zlb:F2 :=
 { nt:=83,res:=[.c 4 (some 6) [0,4,2,0,2,3],.t 5 [0]],body:=(.sq (rg [oo 4 (.al [.int .i64 0,.slice none 0 0,.slice none 0 0,.int .i64 0,.slice none 0 0,.slice none 0 0] []),om 5 (.k (.bool false))]) (.sq (.sq (rg [qM 12 0,oo 13 (.ca .pure false (.f ZcJ) [.t 12]),oo 14 (.nt (.t 13)),qM 15 14,og 16 15 false (.mv (.t 1) none),og 17 15 false (.ln (.t 16)),og 18 15 false (.bi .gtr 0 (.t 17) (i6 60)),oo 19 (.pk (.t 15) (.k (.bool true)) (.t 18))]) (.cd (.t 19) (.sq (rg [oo 20 (.bd [.int .i64 0,.slice none 0 0,.slice none 0 0,.int .i64 0,.slice none 0 0,.slice none 0 0] [] []),
 Zj (.st 6 (.t 4) (.t 20)),om 5 (.k (.bool false))]) (.rt)) (.sk))) (.sq (rg [qM 22 0,qM 23 1,oo 24 (.ca .pure false (.f ZcK) [.t 22,.t 23]),qM 21 24,qE 25 0 21,qE 26 1 21,qE 27 2 21,qM 6 25,qM 7 26,qM 8 27]) (.sq (.sq (.rg (some 0) [qM 28 8,oo 29 (.nt (.t 28)),qM 30 29,og 31 30 false (.mv (.t 6) none),og 32 30 false (.ln (.t 31)),og 33 30 false (.bi .neq 0 (.t 32) (i6 1)),oo 34 (.pk (.t 30) (.k (.bool true)) (.t 33)),qM 35 34,og 36 35 false (.mv (.t 6) none),og 37 35 false (.ia 7 (.t 36) (i6 0)),og 38 35 false (.fa 6 (.t 37)),og 39 35 false (.ld none (.t 38)),og 40 35 false (.mv (.t 6) none),og 41 35 false (.ia 7 (.t 40) (i6 0)),og 42 35 false (.fa 6 (.t 41)),og 43 35 false (.ld none (.t 42)),og 44 35 false (.ln (.t 43)),og 45 35 false (.ca .pure false (.f Zge) [.t 39,.t 44]),og 46 35 false (.nt (.t 45)),oo 47 (.pk (.t 35) (.k (.bool true)) (.t 46))]) (.cd (.t 47) (.sq (rg [oo 48 (.bd [.int .i64 0,.slice none 0 0,.slice none 0 0,.int .i64 0,.slice none 0 0,.slice none 0 0] [] []),
 Zj (.st 6 (.t 4) (.t 48)),om 5 (.k (.bool false))]) (.rt)) (.sk))) (.sq (.rg (some 0) [qM 49 6,oo 50 (.ia 7 (.t 49) (i6 0)),qF 51 0 50,qS 52 6 51,oo 53 (.ca .pure true (.f DF) [.t 52]),qM 54 6,oo 55 (.it 7 (.t 54) (i6 0)),qF 56 6 55,oo 57 (.lt none (.t 56)),qN 58 57,oo 59 (.ms 1 [.int .i64 0] (.t 58)),oo 9 (.al [.int .i64 0,.slice none 0 0,.slice none 0 0,.int .i64 0,.slice none 0 0,.slice none 0 0] []),
 Zj (.s0 6 (.t 9) (.t 53)),qM 10 59]) (.sq (.sq (rg [om 11 (i6 0)]) (.bl 0 (.lp [4,6,9,10,11] [128,288,1696,1697,1698,1699,1888] (.sq (.sq (rg [qM 60 11,qM 61 10,qN 62 61,qB 63 .lss 60 62]) (.cd (.t 63) (.sk) (.ex 0))) (.sq (.bl 1 (.rg (some 0) [qM 66 10,qM 67 6,oo 68 (.ia 7 (.t 67) (i6 0)),qF 69 6 68,qL 70 69,qM 71 11,qI 72 1 70 71,qL 73 72,qF 74 2 9,qL 75 74,qM 76 11,qI 77 1 75 76,qL 78 77,qI 79 1 66 73,
 Zj (.st 1 (.t 79) (.t 78))]))
 (rg [qM 64 11,oo 65 (.bi .add 0 (.t 64) (i6 1)),qM 11 65])))))) (.sq (rg [qM 80 10,qF 81 2 9,
 Zj (.st 1 (.t 81) (.t 80))]) (.sq (rg [qS 82 6 9,
 Zj (.st 6 (.t 4) (.t 82)),om 5 (.k (.bool true))]) (.rt))))))))) }
theorem ZA2:Zk Ucb ZcG Zlb=true:=by kernel_rfl
def Zlc:F2 :=
 { nt:=15,res:=[.t 6 [0]],body:=(.sq (rg [om 6 (.k (.bool false))]) (.sq (rg [qM 7 0,qM 8 1,qB 9 .geq 7 8,qM 10 9,og 11 10 true (.mv (.t 0) none),og 12 10 true (.mv (.t 2) none),og 13 10 true (.bi .leq 0 (.t 11) (.t 12)),oo 14 (.pk (.t 10) (.t 13) (.k (.bool false))),qM 6 14]) (.rt))) }
theorem ZA3:Zk Ucb VF Zlc=true:=by kernel_rfl
def Zld:F2 :=
 { nt:=46,res:=[.t 2 [2]],body:=(.sq (rg [om 2 (.k (.slice none 0 0))]) (.sq (rg [oo 8 (.bs 1 0 [] []),oo 9 (.bs 1 0 [] []),qM 3 8,oo 4 (.fz (.t 9))]) (.sq (.sq (rg [om 5 (i6 0)]) (.bl 0 (.lp [0,3,4,5] [256,1408] (.sq (.sq (rg [qM 10 5,qM 11 0,qN 12 11,qB 13 .lss 10 12]) (.cd (.t 13) (.sk) (.ex 0))) (.sq (.bl 1 (.sq (rg [qM 16 4,qN 17 16,qM 18 0,qM 19 5,qI 20 4 18 19,qF 21 0 20,qL 22 21,oo 23 (.ca .pure false (.f UL) [.t 22]),qB 24 .sub 17 23,qM 25 5,qM 6 24,qM 7 25]) (.sq (.sq (rg [qM 26 6,qM 27 4,qN 28 27,qB 29 .lss 26 28]) (.cd (.t 29) (rg [qM 30 4,qM 31 6,qI 32 1 30 31,qL 33 32,qM 7 33]) (.sk))) (.sq (rg [qM 34 4,qM 35 6,oo 36 (.sx 1 (.t 34) none (some (.t 35)) none),oo 37 (.ca .pure true (.f ZcL) [.t 36]),qM 38 7,oo 39 (.bs 1 1 [.int .i64 0] [(0,.t 38)]),oo 40 (.ap 1 0 (.t 37) (.t 39)),oo 4 (.fz (.t 40))])
 (rg [qM 41 3,qM 42 7,oo 43 (.bs 1 1 [.int .i64 0] [(0,.t 42)]),oo 44 (.ap 1 0 (.t 41) (.t 43)),qM 3 44])))))
 (rg [qM 14 5,oo 15 (.bi .add 0 (.t 14) (i6 1)),qM 5 15])))))) (.sq (rg [qM 45 3,qM 2 45]) (.rt))))) }
theorem ZA4:Zk Ucb Zf3 Zld=true:=by kernel_rfl
def Zg5:F2 :=
 { nt:=254,res:=[.t 10 [0],.t 11 [0]],body:=(.sq (rg [om 10 (.k (.slice none 0 0)),om 11 (.k (.bool false))]) (.sq (.rg (some 0) [qM 20 1,qM 21 4,qM 22 4,oo 23 (.bi .add 0 (.t 22) (i6 1)),oo 24 (.sx 4 (.t 20) (some (.t 21)) (some (.t 23)) none),qM 25 1,qM 26 4,qI 27 4 25 26,qF 28 0 27,qL 29 28,qM 12 24,qM 13 29]) (.sq (rg [qM 30 2,qM 31 4,qI 32 1 30 31,qL 33 32,qM 14 33]) (.sq (.sq (rg [qM 34 13,oo 35 (.ca .pure false (.f UL) [.t 34]),oo 36 (.bi .eql 0 (.t 35) (i6 2))]) (.cd (.t 36) (rg [qM 37 2,qM 38 4,oo 39 (.bi .sub 0 (.t 38) (i6 1)),qI 40 1 37 39,qL 41 40,qM 14 41]) (.sk))) (.sq (.rg (some 0) [qM 42 1,qM 43 2,qM 44 4,qI 45 1 43 44,qL 46 45,qM 47 14,oo 48 (.sx 4 (.t 42) (some (.t 46)) (some (.t 47)) none),qM 49 1,qM 50 14,qM 51 4,oo 52 (.sx 4 (.t 49) (some (.t 50)) (some (.t 51)) none),qM 15 48,qM 16 52]) (.sq (.bl 0 (.sq (rg [qM 54 3,oo 55 (.bi .eql 0 (.t 54) (i6 1)),qM 56 55,og 57 56 true (.mv (.t 13) none),og 58 56 true (.bi .eql 0 (.t 57) (i6 4)),oo 59 (.pk (.t 56) (.t 58) (.k (.bool false))),qM 53 59]) (.cd (.t 53) (.sq (rg [qM 60 16,qM 61 15,qM 62 12,oo 63 (.bc 1 3 [.slice none 0 0] [(0,.t 60),(1,.t 61),(2,.t 62)]),oo 64 (.ca .pure true (.f QI) [.t 63]),qM 10 64,om 11 (.k (.bool true))]) (.rt)) (.sq (rg [qM 66 3,oo 67 (.bi .eql 0 (.t 66) (i6 2)),qM 68 67,og 69 68 true (.mv (.t 13) none),og 70 68 true (.bi .eql 0 (.t 69) (i6 4)),oo 71 (.pk (.t 68) (.t 70) (.k (.bool false))),qM 72 71,og 73 72 false (.mv (.t 3) none),og 74 72 false (.bi .eql 0 (.t 73) (i6 4)),og 75 72 false (.mv (.t 74) none),og 76 75 true (.mv (.t 13) none),og 77 75 true (.bi .eql 0 (.t 76) (i6 5)),og 78 72 false (.pk (.t 75) (.t 77) (.k (.bool false))),oo 79 (.pk (.t 72) (.k (.bool true)) (.t 78)),qM 65 79]) (.cd (.t 65) (.sq (.rg (some 0) [qM 80 15,qM 81 15,qN 82 81,oo 83 (.bi .sub 0 (.t 82) (i6 1)),oo 84 (.sx 4 (.t 80) none (some (.t 83)) none),qM 85 16,qM 86 12,qM 87 12,oo 88 (.bc 1 4 [.slice none 0 0] [(0,.t 84),(1,.t 85),(2,.t 86),(3,.t 87)]),oo 89 (.ca .pure true (.f QI) [.t 88]),qM 90 15,qM 91 15,qN 92 91,oo 93 (.bi .sub 0 (.t 92) (i6 1)),qI 94 4 90 93,qF 95 0 94,qL 96 95,qM 97 13,qB 98 .eql 96 97,qM 10 89,qM 11 98]) (.rt)) (.sq (rg [qM 100 3,oo 101 (.bi .eql 0 (.t 100) (i6 3)),qM 102 101,og 103 102 true (.mv (.t 13) none),og 104 102 true (.bi .eql 0 (.t 103) (i6 4)),oo 105 (.pk (.t 102) (.t 104) (.k (.bool false))),qM 99 105]) (.cd (.t 99) (.sq (rg [qM 106 15,oo 107 (.bc 1 1 [.slice none 0 0] [(0,.t 106)]),oo 108 (.ca .pure true (.f QI) [.t 107]),qM 109 16,qN 110 109,oo 111 (.bi .eql 0 (.t 110) (i6 1)),qM 112 111,og 113 112 true (.mv (.t 16) none),og 114 112 true (.ia 4 (.t 113) (i6 0)),og 115 112 true (.fa 0 (.t 114)),og 116 112 true (.ld none (.t 115)),og 117 112 true (.bi .eql 0 (.t 116) (i6 1)),oo 118 (.pk (.t 112) (.t 117) (.k (.bool false))),qM 119 118,og 120 119 true (.mv (.t 0) none),og 121 119 true (.mv (.t 15) none),og 122 119 true (.ca .pure false (.f Zgf) [.t 120,.t 121]),og 123 119 true (.bi .eql 0 (.t 122) (i6 1)),oo 124 (.pk (.t 119) (.t 123) (.k (.bool false))),qM 10 108,qM 11 124]) (.rt)) (.sq (rg [qM 126 3,oo 127 (.bi .eql 0 (.t 126) (i6 5)),qM 128 127,og 129 128 true (.mv (.t 13) none),og 130 128 true (.bi .eql 0 (.t 129) (i6 6)),oo 131 (.pk (.t 128) (.t 130) (.k (.bool false))),qM 125 131]) (.cd (.t 125) (.sq (rg [qM 132 1,qM 133 4,oo 134 (.bi .sub 0 (.t 133) (i6 1)),qM 135 4,oo 136 (.sx 4 (.t 132) (some (.t 134)) (some (.t 135)) none),qM 17 136]) (.sq (.rg (some 0) [qM 137 1,qM 138 2,qM 139 4,qI 140 1 138 139,qL 141 140,qM 142 4,oo 143 (.bi .sub 0 (.t 142) (i6 1)),oo 144 (.sx 4 (.t 137) (some (.t 141)) (some (.t 143)) none),qM 145 12,qM 146 17,oo 147 (.bc 1 3 [.slice none 0 0] [(0,.t 144),(1,.t 145),(2,.t 146)]),oo 148 (.ca .pure true (.f QI) [.t 147]),qM 149 17,oo 150 (.ia 4 (.t 149) (i6 0)),qF 151 0 150,qL 152 151,oo 153 (.bi .eql 0 (.t 152) (i6 6)),qM 154 153,og 155 154 true (.mv (.t 17) none),og 156 154 true (.ia 4 (.t 155) (i6 0)),og 157 154 true (.fa 3 (.t 156)),og 158 154 true (.ld none (.t 157)),og 159 154 true (.ia 1 (.t 158) (i6 0)),og 160 154 true (.ld none (.t 159)),og 161 154 true (.mv (.t 12) none),og 162 154 true (.ia 4 (.t 161) (i6 0)),og 163 154 true (.fa 3 (.t 162)),og 164 154 true (.ld none (.t 163)),og 165 154 true (.ia 1 (.t 164) (i6 0)),og 166 154 true (.ld none (.t 165)),og 167 154 true (.bi .neq 0 (.t 160) (.t 166)),oo 168 (.pk (.t 154) (.t 167) (.k (.bool false))),qM 10 148,qM 11 168]) (.rt))) (.sq (rg [qM 170 3,oo 171 (.bi .eql 0 (.t 170) (i6 6)),qM 172 171,og 173 172 true (.mv (.t 13) none),og 174 172 true (.bi .eql 0 (.t 173) (i6 3)),oo 175 (.pk (.t 172) (.t 174) (.k (.bool false))),qM 169 175]) (.cd (.t 169) (.sq (rg [qM 176 1,qM 177 4,oo 178 (.bi .sub 0 (.t 177) (i6 1)),qM 179 4,oo 180 (.sx 4 (.t 176) (some (.t 178)) (some (.t 179)) none),qM 18 180]) (.sq (.rg (some 0) [qM 181 1,qM 182 2,qM 183 4,qI 184 1 182 183,qL 185 184,qM 186 4,oo 187 (.bi .sub 0 (.t 186) (i6 1)),oo 188 (.sx 4 (.t 181) (some (.t 185)) (some (.t 187)) none),qM 189 12,qM 190 18,oo 191 (.bc 1 3 [.slice none 0 0] [(0,.t 188),(1,.t 189),(2,.t 190)]),oo 192 (.ca .pure true (.f QI) [.t 191]),qM 193 18,oo 194 (.ia 4 (.t 193) (i6 0)),qF 195 0 194,qL 196 195,oo 197 (.bi .eql 0 (.t 196) (i6 6)),qM 198 197,og 199 198 true (.mv (.t 12) none),og 200 198 true (.ia 4 (.t 199) (i6 0)),og 201 198 true (.fa 3 (.t 200)),og 202 198 true (.ld none (.t 201)),og 203 198 true (.mv (.t 18) none),og 204 198 true (.ia 4 (.t 203) (i6 0)),og 205 198 true (.fa 3 (.t 204)),og 206 198 true (.ld none (.t 205)),og 207 198 true (.ia 1 (.t 206) (i6 0)),og 208 198 true (.ld none (.t 207)),og 209 198 true (.ca .pure false (.f Xx) [.t 202,.t 208]),og 210 198 true (.bi .lss 0 (.t 209) (i6 0)),oo 211 (.pk (.t 198) (.t 210) (.k (.bool false))),qM 10 192,qM 11 211]) (.rt))) (.sq (rg [qM 213 3,oo 214 (.bi .eql 0 (.t 213) (i6 7)),qM 215 214,og 216 215 true (.mv (.t 13) none),og 217 215 true (.bi .eql 0 (.t 216) (i6 5)),oo 218 (.pk (.t 215) (.t 217) (.k (.bool false))),qM 212 218]) (.cd (.t 212) (.sq (rg [qM 219 15,qM 220 15,qN 221 220,oo 222 (.bi .sub 0 (.t 221) (i6 1)),oo 223 (.sx 4 (.t 219) (some (.t 222)) none none),qM 19 223]) (.sq (.rg (some 0) [qM 224 15,qM 225 15,qN 226 225,oo 227 (.bi .sub 0 (.t 226) (i6 1)),oo 228 (.sx 4 (.t 224) none (some (.t 227)) none),qM 229 16,qM 230 12,qM 231 19,oo 232 (.bc 1 4 [.slice none 0 0] [(0,.t 228),(1,.t 229),(2,.t 230),(3,.t 231)]),oo 233 (.ca .pure true (.f QI) [.t 232]),qM 234 19,oo 235 (.ia 4 (.t 234) (i6 0)),qF 236 0 235,qL 237 236,oo 238 (.bi .eql 0 (.t 237) (i6 6)),qM 239 238,og 240 239 true (.mv (.t 0) none),og 241 239 true (.mv (.t 16) none),og 242 239 true (.ca .pure false (.f ZcM) [.t 240,.t 241]),og 243 239 true (.fd 4 none (.t 242)),og 244 239 true (.mv (.t 19) none),og 245 239 true (.ia 4 (.t 244) (i6 0)),og 246 239 true (.fa 3 (.t 245)),og 247 239 true (.ld none (.t 246)),og 248 239 true (.ia 1 (.t 247) (i6 0)),og 249 239 true (.ld none (.t 248)),og 250 239 true (.ca .pure false (.f Xx) [.t 243,.t 249]),og 251 239 true (.bi .lss 0 (.t 250) (i6 0)),oo 252 (.pk (.t 239) (.t 251) (.k (.bool false))),qM 10 233,qM 11 252]) (.rt))) (.sk)))))))))))))) (.sq (rg [oo 253 (.bs 4 0 [] []),qM 10 253,om 11 (.k (.bool false))]) (.rt)))))))) }
theorem Zle:Zk Ucb ZaX Zg5=true:=by kernel_rfl
def Zlf:F2 :=
 { nt:=39,res:=[.t 2 [5]],body:=(.sq (rg [om 2 (.k (.slice none 0 0))]) (.sq (rg [oo 5 (.bs 4 0 [] []),qM 3 5]) (.sq (.sq (rg [om 4 (i6 0)]) (.bl 0 (.lp [0,3,4] [160,1184] (.sq (.sq (rg [qM 6 4,qM 7 0,qN 8 7,qB 9 .lss 6 8]) (.cd (.t 9) (.sk) (.ex 0))) (.sq (.bl 1 (.rg (some 0) [qM 12 3,qM 13 0,qM 14 4,oo 15 (.it 4 (.t 13) (.t 14)),qF 16 0 15,oo 17 (.lt none (.t 16)),qM 18 0,qM 19 4,oo 20 (.it 4 (.t 18) (.t 19)),qF 21 1 20,oo 22 (.lt none (.t 21)),qM 23 0,qM 24 4,oo 25 (.it 4 (.t 23) (.t 24)),qF 26 2 25,oo 27 (.lt none (.t 26)),oo 28 (.bs 1 0 [] []),qM 29 0,qM 30 4,qI 31 4 29 30,qF 32 3 31,qL 33 32,oo 34 (.a0 1 (.t 28) (.t 33)),oo 35 (.bd [.int .i64 0,.int .i64 0,.int .i64 0,.slice none 0 0] [(0,1,.t 17),(1,1,.t 22),(2,1,.t 27),(3,1,.t 34)] []),oo 36 (.bv 4 1 [.int .i64 0,.int .i64 0,.int .i64 0,.slice none 0 0] [(0,.t 35)]),oo 37 (.ap 4 2 (.t 12) (.t 36)),qM 3 37]))
 (rg [qM 10 4,oo 11 (.bi .add 0 (.t 10) (i6 1)),qM 4 11])))))) (.sq (rg [qM 38 3,qM 2 38]) (.rt))))) }
theorem ZA5:Zk Ucb Zf4 Zlf=true:=by kernel_rfl
def Zlg:F2 :=
 { nt:=19,res:=[.t 2 [0]],body:=(.sq (rg [om 2 (.k (.slice none 0 0))]) (.sq (rg [oo 5 (.bs 4 0 [] []),qM 3 5]) (.sq (.sq (rg [om 4 (i6 0)]) (.bl 0 (.lp [0,3,4] [160,544] (.sq (.sq (rg [qM 6 4,qM 7 0,qN 8 7,qB 9 .lss 6 8]) (.cd (.t 9) (.sk) (.ex 0))) (.sq (.bl 1 (rg [qM 12 3,qM 13 0,qM 14 4,qI 15 1 13 14,qL 16 15,oo 17 (.ap 4 1 (.t 12) (.t 16)),qM 3 17]))
 (rg [qM 10 4,oo 11 (.bi .add 0 (.t 10) (i6 1)),qM 4 11])))))) (.sq (rg [qM 18 3,qM 2 18]) (.rt))))) }
theorem ZA6:Zk Ucb QI Zlg=true:=by kernel_rfl
def Zlh:F2 :=
 { nt:=78,res:=[.c 4 (some 6) [0,4,2,0,2,3],.t 5 [0]],body:=(.sq (rg [oo 4 (.al [.int .i64 0,.slice none 0 0,.slice none 0 0,.int .i64 0,.slice none 0 0,.slice none 0 0] []),om 5 (.k (.bool false))]) (.sq (.sq (rg [qM 12 0,oo 13 (.ca .pure false (.f ZaZ) [.t 12]),oo 14 (.nt (.t 13)),qM 15 14,og 16 15 false (.mv (.t 1) none),og 17 15 false (.ln (.t 16)),og 18 15 false (.bi .gtr 0 (.t 17) (i6 60)),oo 19 (.pk (.t 15) (.k (.bool true)) (.t 18))]) (.cd (.t 19) (.sq (rg [oo 20 (.bd [.int .i64 0,.slice none 0 0,.slice none 0 0,.int .i64 0,.slice none 0 0,.slice none 0 0] [] []),
 Zj (.st 6 (.t 4) (.t 20)),om 5 (.k (.bool false))]) (.rt)) (.sk))) (.sq (rg [qM 22 0,qM 23 1,oo 24 (.ca .pure false (.f Za0) [.t 22,.t 23]),qM 21 24,qE 25 0 21,qE 26 1 21,qE 27 2 21,qM 6 25,qM 7 26,qM 8 27]) (.sq (.sq (.rg (some 0) [qM 28 8,oo 29 (.nt (.t 28)),qM 30 29,og 31 30 false (.mv (.t 6) none),og 32 30 false (.ln (.t 31)),og 33 30 false (.bi .neq 0 (.t 32) (i6 1)),oo 34 (.pk (.t 30) (.k (.bool true)) (.t 33)),qM 35 34,og 36 35 false (.mv (.t 6) none),og 37 35 false (.ia 7 (.t 36) (i6 0)),og 38 35 false (.fa 6 (.t 37)),og 39 35 false (.ld none (.t 38)),og 40 35 false (.ln (.t 39)),og 41 35 false (.mv (.t 6) none),og 42 35 false (.ia 7 (.t 41) (i6 0)),og 43 35 false (.fa 6 (.t 42)),og 44 35 false (.ld none (.t 43)),og 45 35 false (.ca .pure false (.f Zgh) [.t 40,.t 44]),og 46 35 false (.nt (.t 45)),oo 47 (.pk (.t 35) (.k (.bool true)) (.t 46))]) (.cd (.t 47) (.sq (rg [oo 48 (.bd [.int .i64 0,.slice none 0 0,.slice none 0 0,.int .i64 0,.slice none 0 0,.slice none 0 0] [] []),
 Zj (.st 6 (.t 4) (.t 48)),om 5 (.k (.bool false))]) (.rt)) (.sk))) (.sq (rg [qM 49 6,oo 50 (.ia 7 (.t 49) (i6 0)),qF 51 0 50,qS 52 6 51,oo 53 (.ca .pure true (.f DG) [.t 52]),oo 9 (.al [.int .i64 0,.slice none 0 0,.slice none 0 0,.int .i64 0,.slice none 0 0,.slice none 0 0] []),
 Zj (.st 6 (.t 9) (.t 53))]) (.sq (.sq (rg [qM 54 6,oo 55 (.ia 7 (.t 54) (i6 0)),qF 56 6 55,qL 57 56,qN 58 57,om 59 (i6 0)]) (.bl 0 (.lp [4,6,9,57,58,59] [128,288,1696,1697,1698,1699] (.sq (rg [qB 60 .lss 59 58]) (.sq (.cd (.t 60) (.sk) (.ex 0)) (.sq (.bl 1 (.sq (rg [qM 61 59,qI 62 1 57 59,qL 63 62,qM 10 61,qM 11 63]) (.rg (some 0) [qF 64 2 9,qL 65 64,qM 66 11,qM 67 6,oo 68 (.ia 7 (.t 67) (i6 0)),qF 69 0 68,qF 70 2 69,qL 71 70,qM 72 10,qI 73 1 71 72,qL 74 73,qI 75 1 65 66,
 Zj (.st 1 (.t 75) (.t 74))])))
 (rg [oo 76 (.bi .add 0 (.t 59) (i6 1)),qM 59 76]))))))) (.sq (rg [qS 77 6 9,
 Zj (.st 6 (.t 4) (.t 77)),om 5 (.k (.bool true))]) (.rt)))))))) }
theorem ZA7:Zk Ucb ZcH Zlh=true:=by kernel_rfl
def Zli:F2 :=
 { nt:=15,res:=[.t 6 [0]],body:=(.sq (rg [om 6 (.k (.bool false))]) (.sq (rg [qM 7 0,qM 8 1,qB 9 .geq 7 8,qM 10 9,og 11 10 true (.mv (.t 0) none),og 12 10 true (.mv (.t 2) none),og 13 10 true (.bi .leq 0 (.t 11) (.t 12)),oo 14 (.pk (.t 10) (.t 13) (.k (.bool false))),qM 6 14]) (.rt))) }
theorem ZA8:Zk Ucb V4 Zli=true:=by kernel_rfl
def Zlj:F2 :=
 { nt:=217,res:=[.t 8 [0],.t 9 [0]],body:=(.sq (rg [om 8 (.k (.slice none 0 0)),om 9 (.k (.bool false))]) (.sq (rg [qM 26 1,oo 27 (.ca .pure false (.f ZcI) [.t 26]),qM 10 27]) (.sq (rg [qM 28 10,qM 29 3,qI 30 1 28 29,qL 31 30,qM 11 31]) (.sq (rg [qM 32 1,qM 33 11,qM 34 3,oo 35 (.bi .add 0 (.t 34) (i6 1)),oo 36 (.sx 4 (.t 32) (some (.t 33)) (some (.t 35)) none),qM 12 36]) (.sq (rg [qM 37 12,qN 38 37,oo 39 (.bi .sub 0 (.t 38) (i6 1)),qM 13 39]) (.sq (rg [qM 40 12,qM 41 13,qI 42 4 40 41,qF 43 0 42,qL 44 43,qM 14 44]) (.sq (rg [oo 45 (.mk),
 Zj (.mu (.t 45) (i6 1) (i6 4)),
 Zj (.mu (.t 45) (i6 2) (i6 4)),
 Zj (.mu (.t 45) (i6 3) (i6 4)),
 Zj (.mu (.t 45) (i6 4) (i6 5)),
 Zj (.mu (.t 45) (i6 5) (i6 6)),
 Zj (.mu (.t 45) (i6 6) (i6 3)),
 Zj (.mu (.t 45) (i6 7) (i6 5)),qM 46 45,qM 15 46]) (.sq (.sq (rg [qM 48 15,qM 49 2,oo 50 (.ml (.t 48) (.t 49)),qM 47 50,qE 51 0 47,qE 52 1 47,qM 16 51,qM 17 52]) (.sq (rg [qM 53 17,oo 54 (.nt (.t 53)),qM 55 54,og 56 55 false (.mv (.t 16) none),og 57 55 false (.mv (.t 14) none),og 58 55 false (.bi .neq 0 (.t 56) (.t 57)),oo 59 (.pk (.t 55) (.k (.bool true)) (.t 58))]) (.cd (.t 59) (.sq (rg [om 8 (.k (.slice none 0 0)),om 9 (.k (.bool false))]) (.rt)) (.sk)))) (.sq (rg [qM 60 10,qM 61 3,oo 62 (.bi .sub 0 (.t 61) (i6 1)),qI 63 1 60 62,qL 64 63,qM 65 11,qB 66 .sub 64 65,qM 18 66]) (.sq (.sq (rg [qM 67 2]) (.bl 0 (.sq (rg [oo 69 (.bi .eql 0 (.t 67) (i6 1)),qM 68 69]) (.cd (.t 68) (.sq (.rg (some 0) [qM 70 12,qM 71 18,qM 72 13,oo 73 (.sx 4 (.t 70) (some (.t 71)) (some (.t 72)) none),qM 74 12,qM 75 18,oo 76 (.sx 4 (.t 74) none (some (.t 75)) none),qM 77 12,qM 78 13,oo 79 (.sx 4 (.t 77) (some (.t 78)) none none),oo 80 (.bc 1 3 [.slice none 0 0] [(0,.t 73),(1,.t 76),(2,.t 79)]),oo 81 (.ca .pure true (.f Wp) [.t 80]),qM 8 81,om 9 (.k (.bool true))]) (.rt)) (.sq (.sq (rg [oo 83 (.bi .eql 0 (.t 67) (i6 2)),qM 82 83]) (.cd (.t 82) (.sk)
 (rg [oo 84 (.bi .eql 0 (.t 67) (i6 4)),qM 82 84]))) (.cd (.t 82) (.sq (rg [qM 85 12,qM 86 10,qM 87 11,qM 88 14,oo 89 (.ca .pure true (.f Zgi) [.t 85,.t 86,.t 87,.t 88]),qE 90 0 89,qE 91 1 89,qM 8 90,qM 9 91]) (.rt)) (.sq (rg [oo 93 (.bi .eql 0 (.t 67) (i6 3)),qM 92 93]) (.cd (.t 92) (.sq (rg [qM 95 0,qM 96 12,qM 97 18,oo 98 (.sx 4 (.t 96) none (some (.t 97)) none),oo 99 (.ca .pure true (.f Za0) [.t 95,.t 98]),qM 94 99,qE 100 0 94,qE 101 1 94,qE 102 2 94,qM 19 100,qM 20 101,qM 21 102]) (.sq (.rg (some 0) [qM 103 12,qM 104 18,oo 105 (.sx 4 (.t 103) none (some (.t 104)) none),qM 106 21,qM 107 106,og 108 107 true (.mv (.t 13) none),og 109 107 true (.mv (.t 18) none),og 110 107 true (.bi .sub 0 (.t 108) (.t 109)),og 111 107 true (.bi .eql 0 (.t 110) (i6 1)),oo 112 (.pk (.t 107) (.t 111) (.k (.bool false))),qM 113 112,og 114 113 true (.mv (.t 12) none),og 115 113 true (.mv (.t 18) none),og 116 113 true (.ia 4 (.t 114) (.t 115)),og 117 113 true (.fa 0 (.t 116)),og 118 113 true (.ld none (.t 117)),og 119 113 true (.bi .eql 0 (.t 118) (i6 1)),oo 120 (.pk (.t 113) (.t 119) (.k (.bool false))),qM 121 120,og 122 121 true (.mv (.t 19) none),og 123 121 true (.ia 7 (.t 122) (i6 0)),og 124 121 true (.fa 0 (.t 123)),og 125 121 true (.fa 0 (.t 124)),og 126 121 true (.ld none (.t 125)),og 127 121 true (.bi .eql 0 (.t 126) (i6 1)),oo 128 (.pk (.t 121) (.t 127) (.k (.bool false))),qM 8 105,qM 9 128]) (.rt))) (.sq (.sq (rg [oo 130 (.bi .eql 0 (.t 67) (i6 5)),qM 129 130]) (.cd (.t 129) (.sk)
 (rg [oo 131 (.bi .eql 0 (.t 67) (i6 6)),qM 129 131]))) (.cd (.t 129) (.sq (rg [qM 132 12,qM 133 13,oo 134 (.bi .sub 0 (.t 133) (i6 1)),qI 135 4 132 134,qS 136 4 135,oo 22 (.al [.int .i64 0,.int .i64 0,.int .i64 0,.slice none 0 0] []),
 Zj (.st 4 (.t 22) (.t 136))]) (.sq (.sq (.rg (some 0) [qF 137 0 22,qL 138 137,oo 139 (.bi .neq 0 (.t 138) (i6 6)),qM 140 139,og 141 140 false (.mv (.t 12) none),og 142 140 false (.mv (.t 13) none),og 143 140 false (.ia 4 (.t 141) (.t 142)),og 144 140 false (.fa 3 (.t 143)),og 145 140 false (.ld none (.t 144)),og 146 140 false (.fa 3 (.t 22)),og 147 140 false (.ld none (.t 146)),og 148 140 false (.ia 1 (.t 147) (i6 0)),og 149 140 false (.ld none (.t 148)),og 150 140 false (.ca .pure false (.f UM) [.t 145,.t 149]),oo 151 (.pk (.t 140) (.k (.bool true)) (.t 150))]) (.cd (.t 151) (.sq (rg [om 8 (.k (.slice none 0 0)),om 9 (.k (.bool false))]) (.rt)) (.sk))) (.sq (.rg (some 0) [qM 152 12,qM 153 13,oo 154 (.bi .sub 0 (.t 153) (i6 1)),oo 155 (.sx 4 (.t 152) none (some (.t 154)) none),qM 156 12,qM 157 13,qI 158 4 156 157,qS 159 4 158,qS 160 4 22,oo 161 (.bc 4 2 [.int .i64 0,.int .i64 0,.int .i64 0,.slice none 0 0] [(0,.t 159),(1,.t 160)]),oo 162 (.bc 1 2 [.slice none 0 0] [(0,.t 155),(1,.t 161)]),oo 163 (.ca .pure true (.f Wp) [.t 162]),qM 8 163,om 9 (.k (.bool true))]) (.rt)))) (.sk))))))))))) (.sq (.sq (rg [qM 164 18,oo 165 (.bi .eql 0 (.t 164) (i6 0)),qM 166 165,og 167 166 false (.mv (.t 12) none),og 168 166 false (.mv (.t 18) none),og 169 166 false (.bi .sub 0 (.t 168) (i6 1)),og 170 166 false (.ia 4 (.t 167) (.t 169)),og 171 166 false (.fa 0 (.t 170)),og 172 166 false (.ld none (.t 171)),og 173 166 false (.bi .neq 0 (.t 172) (i6 6)),oo 174 (.pk (.t 166) (.k (.bool true)) (.t 173))]) (.cd (.t 174) (.sq (rg [om 8 (.k (.slice none 0 0)),om 9 (.k (.bool false))]) (.rt)) (.sk))) (.sq (rg [qM 176 0,qM 177 12,qM 178 18,qM 179 13,oo 180 (.sx 4 (.t 177) (some (.t 178)) (some (.t 179)) none),oo 181 (.ca .pure false (.f Za0) [.t 176,.t 180]),qM 175 181,qE 182 0 175,qE 183 1 175,qE 184 2 175,qM 23 182,qM 24 183,qM 25 184]) (.sq (.sq (.rg (some 0) [qM 185 25,oo 186 (.nt (.t 185)),qM 187 186,og 188 187 false (.mv (.t 23) none),og 189 187 false (.ia 7 (.t 188) (i6 0)),og 190 187 false (.fa 0 (.t 189)),og 191 187 false (.fa 4 (.t 190)),og 192 187 false (.ld none (.t 191)),og 193 187 false (.mv (.t 12) none),og 194 187 false (.mv (.t 18) none),og 195 187 false (.bi .sub 0 (.t 194) (i6 1)),og 196 187 false (.ia 4 (.t 193) (.t 195)),og 197 187 false (.fa 3 (.t 196)),og 198 187 false (.ld none (.t 197)),og 199 187 false (.ia 1 (.t 198) (i6 0)),og 200 187 false (.ld none (.t 199)),og 201 187 false (.ca .pure false (.f UM) [.t 192,.t 200]),oo 202 (.pk (.t 187) (.k (.bool true)) (.t 201))]) (.cd (.t 202) (.sq (rg [om 8 (.k (.slice none 0 0)),om 9 (.k (.bool false))]) (.rt)) (.sk))) (.sq (.rg (some 0) [qM 203 12,qM 204 18,oo 205 (.bi .sub 0 (.t 204) (i6 1)),oo 206 (.sx 4 (.t 203) none (some (.t 205)) none),qM 207 12,qM 208 18,oo 209 (.sx 4 (.t 207) (some (.t 208)) none none),qM 210 12,qM 211 18,oo 212 (.bi .sub 0 (.t 211) (i6 1)),qM 213 18,oo 214 (.sx 4 (.t 210) (some (.t 212)) (some (.t 213)) none),oo 215 (.bc 1 3 [.slice none 0 0] [(0,.t 206),(1,.t 209),(2,.t 214)]),oo 216 (.ca .pure true (.f Wp) [.t 215]),qM 8 216,om 9 (.k (.bool true))]) (.rt))))))))))))))) }
theorem ZA9:Zk Ucb Zf7 Zlj=true:=by kernel_rfl
def Zlk:F2 :=
 { nt:=36,res:=[.t 2 [5]],body:=(.sq (rg [om 2 (.k (.slice none 0 0))]) (.sq (rg [om 3 (i6 0)]) (.sq (.sq (rg [qM 9 0,qN 10 9,om 11 (i6 0)]) (.bl 0 (.lp [0,3,9,10,11] [] (.sq (rg [qB 12 .lss 11 10]) (.sq (.cd (.t 12) (.sk) (.ex 0)) (.sq (.bl 1 (.sq (rg [qI 13 1 9 11,qL 14 13,qM 5 14]) (.sq (rg [qM 15 3,qM 16 5,qN 17 16,qB 18 .add 15 17,qM 3 18]) (.sq (rg [qM 19 3,oo 20 (.bi .lss 0 (.t 19) (i6 0))]) (.cd (.t 20) (rg [oo 21 (.xx),
 Zj (.xx)]) (.sk))))))
 (rg [oo 22 (.bi .add 0 (.t 11) (i6 1)),qM 11 22]))))))) (.sq (rg [qM 23 3,oo 24 (.ca .keep true (.f Zgj) [.k (.slice none 0 0),.t 23]),qM 6 24]) (.sq (.sq (rg [qM 25 0,qN 26 25,om 27 (i6 0)]) (.bl 2 (.lp [6,25,26,27] [768,1056] (.sq (rg [qB 28 .lss 27 26]) (.sq (.cd (.t 28) (.sk) (.ex 2)) (.sq (.bl 3 (.sq (rg [qI 29 1 25 27,qL 30 29,qM 8 30])
 (rg [qM 31 6,qM 32 8,oo 33 (.ap 4 1 (.t 31) (.t 32)),qM 6 33])))
 (rg [oo 34 (.bi .add 0 (.t 27) (i6 1)),qM 27 34]))))))) (.sq (rg [qM 35 6,qM 2 35]) (.rt))))))) }
theorem ZBa:Zk Ucb Wp Zlk=true:=by kernel_rfl
def Zll:F2 :=
 { nt:=46,res:=[.t 2 [2]],body:=(.sq (rg [om 2 (.k (.slice none 0 0))]) (.sq (rg [oo 9 (.bs 1 0 [] []),oo 10 (.bs 1 0 [] []),qM 3 9,qM 4 10]) (.sq (.sq (rg [qM 11 0,qN 12 11,om 13 (i6 0)]) (.bl 0 (.lp [3,4,11,12,13] [288,320,1248,1376] (.sq (rg [qB 14 .lss 13 12]) (.sq (.cd (.t 14) (.sk) (.ex 0)) (.sq (.bl 1 (.sq (rg [qM 15 13,qI 16 4 11 13,qS 17 4 16,oo 6 (.al [.int .i64 0,.int .i64 0,.int .i64 0,.slice none 0 0] []),qM 5 15,
 Zj (.st 4 (.t 6) (.t 17))]) (.sq (rg [qM 18 5,qM 7 18]) (.sq (.sq (rg [qS 19 4 6,oo 20 (.ca .pure false (.f DH) [.t 19]),qM 8 20]) (.sq (rg [qM 21 8,oo 22 (.bi .gtr 0 (.t 21) (i6 0))]) (.cd (.t 22) (.sq (rg [qM 23 4,qM 24 4,qN 25 24,qM 26 8,qB 27 .sub 25 26,qI 28 1 23 27,qL 29 28,qM 7 29])
 (rg [qM 30 4,qM 31 4,qN 32 31,qM 33 8,qB 34 .sub 32 33,oo 35 (.sh 1 (.t 30) (.t 34)),qM 4 35])) (.sk)))) (.sq (rg [qM 36 4,qM 37 7,oo 38 (.bs 1 1 [.int .i64 0] [(0,.t 37)]),oo 39 (.ap 1 0 (.t 36) (.t 38)),qM 4 39])
 (rg [qM 40 3,qM 41 7,oo 42 (.bs 1 1 [.int .i64 0] [(0,.t 41)]),oo 43 (.ap 1 0 (.t 40) (.t 42)),qM 3 43]))))))
 (rg [oo 44 (.bi .add 0 (.t 13) (i6 1)),qM 13 44]))))))) (.sq (rg [qM 45 3,qM 2 45]) (.rt))))) }
theorem ZBb:Zk Ucb ZcI Zll=true:=by kernel_rfl
def Zlm:F2 :=
 { nt:=23,res:=[.t 2 [5]],body:=(.sq (rg [om 2 (.k (.slice none 0 0))]) (.sq (rg [oo 6 (.bs 4 0 [] []),qM 3 6]) (.sq (.sq (rg [qM 7 0,qN 8 7,om 9 (i6 0)]) (.bl 0 (.lp [3,7,8,9] [192,640] (.sq (rg [qB 10 .lss 9 8]) (.sq (.cd (.t 10) (.sk) (.ex 0)) (.sq (.bl 1 (.sq (rg [qI 11 4 7 9,qS 12 4 11,oo 5 (.al [.int .i64 0,.int .i64 0,.int .i64 0,.slice none 0 0] []),
 Zj (.st 4 (.t 5) (.t 12))]) (.sq (rg [qF 13 3 5,qL 14 13,oo 15 (.ca .pure true (.f UN) [.t 14]),qF 16 3 5,
 Zj (.st 1 (.t 16) (.t 15))])
 (rg [qM 17 3,qS 18 4 5,oo 19 (.bw 4 1 [.int .i64 0,.int .i64 0,.int .i64 0,.slice none 0 0] [(0,.t 18)]),oo 20 (.ap 4 2 (.t 17) (.t 19)),qM 3 20]))))
 (rg [oo 21 (.bi .add 0 (.t 9) (i6 1)),qM 9 21]))))))) (.sq (rg [qM 22 3,qM 2 22]) (.rt))))) }
theorem ZBc:Zk Ucb Zf8 Zlm=true:=by kernel_rfl
def Zln:F2 :=
 { nt:=55,res:=[.t 2 [0]],body:=(.sq (rg [om 2 (.k (.bool false))]) (.sq (.sq (rg [om 3 (i6 0)]) (.bl 0 (.lp [0,3] [] (.sq (.sq (rg [qM 5 3,qM 6 0,qN 7 6,qB 8 .lss 5 7]) (.cd (.t 8) (.sk) (.ex 0))) (.sq (.bl 1 (.sq (.sq (rg [qM 11 0,qM 12 3,qI 13 3 11 12,qF 14 0 13,qL 15 14,oo 16 (.ca .pure false (.f Za1) [.t 15]),oo 17 (.nt (.t 16)),qM 18 17,og 19 18 false (.mv (.t 0) none),og 20 18 false (.mv (.t 3) none),og 21 18 false (.ia 3 (.t 19) (.t 20)),og 22 18 false (.fa 1 (.t 21)),og 23 18 false (.ld none (.t 22)),og 24 18 false (.ca .pure false (.f VF) [.t 23,i6 0,i6 3]),og 25 18 false (.nt (.t 24)),oo 26 (.pk (.t 18) (.k (.bool true)) (.t 25)),qM 27 26,og 28 27 false (.mv (.t 0) none),og 29 27 false (.mv (.t 3) none),og 30 27 false (.ia 3 (.t 28) (.t 29)),og 31 27 false (.fa 2 (.t 30)),og 32 27 false (.ld none (.t 31)),og 33 27 false (.ca .pure false (.f VF) [.t 32,i6 0,i6 2]),og 34 27 false (.nt (.t 33)),oo 35 (.pk (.t 27) (.k (.bool true)) (.t 34))]) (.cd (.t 35) (.sq (rg [om 2 (.k (.bool false))]) (.rt)) (.sk))) (.sq (rg [om 4 (i6 0)]) (.bl 2 (.lp [0,3,4] [] (.sq (.sq (rg [qM 36 4,qM 37 3,qB 38 .lss 36 37]) (.cd (.t 38) (.sk) (.ex 2))) (.sq (.bl 3 (.sq (.rg (some 0) [qM 41 0,qM 42 4,qI 43 3 41 42,qF 44 0 43,qL 45 44,qM 46 0,qM 47 3,qI 48 3 46 47,qF 49 0 48,qL 50 49,qB 51 .eql 45 50]) (.cd (.t 51) (.sq (rg [om 2 (.k (.bool false))]) (.rt)) (.sk))))
 (rg [qM 39 4,oo 40 (.bi .add 0 (.t 39) (i6 1)),qM 4 40]))))))))
 (rg [qM 9 3,oo 10 (.bi .add 0 (.t 9) (i6 1)),qM 3 10])))))) (.sq (rg [qM 52 0,qN 53 52,oo 54 (.ca .pure false (.f VF) [.t 53,i6 1,i6 6]),qM 2 54]) (.rt)))) }
theorem ZBd:Zk Ucb ZcJ Zln=true:=by kernel_rfl
def Zlo:F2 :=
 { nt:=49,res:=[.t 4 [0],.t 5 [0],.t 6 [0]],body:=(.sq (rg [om 4 (.k (.slice none 0 0)),om 5 (i6 0),om 6 (.k (.bool false))]) (.sq (rg [oo 12 (.bs 7 0 [] []),oo 7 (.fz (.t 12)),om 8 (i6 0)]) (.sq (.sq (rg [om 9 (i6 0)]) (.bl 0 (.lp [0,1,7,8,9] [] (.sq (.sq (rg [qM 13 9,qM 14 1,qN 15 14,qB 16 .lss 13 15]) (.cd (.t 16) (.sk) (.ex 0))) (.sq (.bl 1 (.sq (.sq (rg [qM 19 0,qM 20 1,qM 21 9,qI 22 4 20 21,qS 23 4 22,oo 24 (.ca .pure false (.f Zgl) [.t 19,.t 23]),oo 25 (.nt (.t 24))]) (.cd (.t 25) (.sq (rg [qM 26 7,qM 27 8,qM 4 26,qM 5 27,om 6 (.k (.bool false))]) (.rt)) (.sk))) (.sq (rg [qM 29 0,qM 30 7,qM 31 1,qM 32 9,qI 33 4 31 32,qS 34 4 33,oo 35 (.ca .pure false (.f ZcN) [.t 29,.t 30,.t 34]),qM 28 35,qE 36 0 28,qE 37 1 28,qM 10 36,qM 11 37]) (.sq (.sq (rg [qM 38 11,oo 39 (.nt (.t 38))]) (.cd (.t 39) (.sq (rg [qM 40 7,qM 41 8,qM 4 40,qM 5 41,om 6 (.k (.bool false))]) (.rt)) (.sk))) (.sq (rg [qM 42 10,qM 7 42])
 (rg [qM 43 8,qM 44 7,qN 45 44,oo 46 (.ca .pure false (.f Zgm) [.t 43,.t 45]),qM 8 46]))))))
 (rg [qM 17 9,oo 18 (.bi .add 0 (.t 17) (i6 1)),qM 9 18])))))) (.sq (rg [qM 47 7,qM 48 8,qM 4 47,qM 5 48,om 6 (.k (.bool true))]) (.rt))))) }
theorem ZBe:Zk Ucb ZcK Zlo=true:=by kernel_rfl
def Zlp:F2 :=
 { nt:=19,res:=[.t 4 [0]],body:=(.sq (rg [om 4 (.k (.bool false))]) (.sq (.sq (rg [om 5 (i6 0)]) (.bl 0 (.lp [0,1,5] [] (.sq (.sq (rg [qM 6 5,qM 7 1,qB 8 .lss 6 7]) (.cd (.t 8) (.sk) (.ex 0))) (.sq (.bl 1 (.sq (rg [qM 11 0,qM 12 5,oo 13 (.ca .pure false (.f Zgn) [.t 11,.t 12]),oo 14 (.nt (.t 13))]) (.cd (.t 14) (.sq (rg [om 4 (.k (.bool false))]) (.rt)) (.sk))))
 (rg [qM 9 5,oo 10 (.bi .add 0 (.t 9) (i6 1)),qM 5 10])))))) (.sq (rg [qM 15 0,qN 16 15,qM 17 1,qB 18 .eql 16 17,qM 4 18]) (.rt)))) }
theorem ZBf:Zk Ucb Zge Zlp=true:=by kernel_rfl
def Zlq:F2 :=
 { nt:=34,res:=[.c 2 (some 6) [0,4,2,0,2,3]],body:=(.sq (rg [oo 1 (.bt (.t 0)),oo 2 (.al [.int .i64 0,.slice none 0 0,.slice none 0 0,.int .i64 0,.slice none 0 0,.slice none 0 0] [])]) (.sq (rg [oo 7 (.bs 1 0 [] []),oo 8 (.bs 1 0 [] []),qM 3 7,qM 4 8]) (.sq (.sq (rg [om 5 (i6 0)]) (.bl 0 (.lp [1,2,3,4,5] [64,224,256,608,928,1056,1057,1058,1059] (.sq (.sq (rg [qM 9 5,qF 10 1 1,qL 11 10,qN 12 11,qB 13 .lss 9 12]) (.cd (.t 13) (.sk) (.ex 0))) (.sq (.bl 1 (rg [qM 16 3,qM 17 5,oo 18 (.bs 1 1 [.int .i64 0] [(0,.t 17)]),oo 19 (.ap 1 0 (.t 16) (.t 18)),qM 3 19]))
 (rg [qM 14 5,oo 15 (.bi .add 0 (.t 14) (i6 1)),qM 5 15])))))) (.sq (.sq (rg [om 6 (i6 0)]) (.bl 2 (.lp [1,2,3,4,6] [64,224,256,608,928,1056,1057,1058,1059] (.sq (.sq (rg [qM 20 6,qF 21 3 1,qL 22 21,qB 23 .lss 20 22]) (.cd (.t 23) (.sk) (.ex 2))) (.sq (.bl 3 (rg [qM 26 4,qM 27 6,oo 28 (.bs 1 1 [.int .i64 0] [(0,.t 27)]),oo 29 (.ap 1 0 (.t 26) (.t 28)),qM 4 29]))
 (rg [qM 24 6,oo 25 (.bi .add 0 (.t 24) (i6 1)),qM 6 25])))))) (.sq (rg [qS 30 6 1,qM 31 3,qM 32 4,oo 33 (.ca .pure true (.f Zgo) [.t 30,.t 31,.t 32]),
 Zj (.st 6 (.t 2) (.t 33))]) (.rt)))))) }
theorem ZBg:Zk Ucb DF Zlq=true:=by kernel_rfl
def UV:F2 :=
 { nt:=11,res:=[.t 2 [0]],body:=(.sq (rg [om 2 (i6 0)]) (.sq (.sq (rg [qM 3 0]) (.bl 0 (.sq (.sq (rg [oo 5 (.bi .eql 0 (.t 3) (i6 4)),qM 4 5]) (.cd (.t 4) (.sk)
 (rg [oo 6 (.bi .eql 0 (.t 3) (i6 5)),qM 4 6]))) (.cd (.t 4) (.sq (rg [om 2 (i6 2)]) (.rt)) (.sq (.sq (rg [oo 8 (.bi .eql 0 (.t 3) (i6 3)),qM 7 8]) (.cd (.t 7) (.sk) (.sq (rg [oo 9 (.bi .eql 0 (.t 3) (i6 6)),qM 7 9]) (.cd (.t 7) (.sk)
 (rg [oo 10 (.bi .eql 0 (.t 3) (i6 7)),qM 7 10]))))) (.cd (.t 7) (.sq (rg [om 2 (i6 1)]) (.rt)) (.sk))))))) (.sq (rg [om 2 (i6 0)]) (.rt)))) }
theorem ZBh:Zk Ucb UL UV=true:=by kernel_rfl
def Zlr:F2 :=
 { nt:=6,res:=[.t 2 [2]],body:=(.sq (rg [om 2 (.k (.slice none 0 0))]) (.sq (rg [oo 3 (.bs 1 0 [] []),qM 4 0,oo 5 (.ap 1 0 (.t 3) (.t 4)),qM 2 5]) (.rt))) }
theorem ZBi:Zk Ucb ZcL Zlr=true:=by kernel_rfl
def Zls:F2 :=
 { nt:=9,res:=[.t 4 [0]],body:=(.sq (rg [om 4 (i6 0)]) (.sq (rg [qM 5 0,qM 6 1,oo 7 (.ca .pure false (.f ZcM) [.t 5,.t 6]),oo 8 (.fd 0 none (.t 7)),qM 4 8]) (.rt))) }
theorem ZBj:Zk Ucb Zgf Zls=true:=by kernel_rfl
def Zlt:F2 :=
 { nt:=19,res:=[.t 4 [0]],body:=(.sq (rg [om 4 (i6 0)]) (.sq (.sq (rg [om 5 (i6 0)]) (.bl 0 (.lp [0,1,5] [] (.sq (.sq (rg [qM 6 5,qM 7 0,qN 8 7,qB 9 .lss 6 8]) (.cd (.t 9) (.sk) (.ex 0))) (.sq (.bl 1 (.sq (rg [qM 12 0,qM 13 5,qI 14 1 12 13,qL 15 14,qM 16 1,qB 17 .eql 15 16]) (.cd (.t 17) (.sq (rg [qM 18 5,qM 4 18]) (.rt)) (.sk))))
 (rg [qM 10 5,oo 11 (.bi .add 0 (.t 10) (i6 1)),qM 5 11])))))) (.sq (rg [om 4 (i6 (-1))]) (.rt)))) }
theorem ZBk:Zk Ucb Xx Zlt=true:=by kernel_rfl
def Zlu:F2 :=
 { nt:=19,res:=[.c 4 (some 6) [0,0,0,0,0,0]],body:=(.sq (rg [oo 4 (.al [.int .i64 0,.slice none 0 0,.slice none 0 0,.int .i64 0,.slice none 0 0,.slice none 0 0] [])]) (.sq (rg [qM 9 0,qM 10 1,oo 11 (.ca .pure false (.f ZcK) [.t 9,.t 10]),qM 8 11,qE 12 0 8,qE 13 1 8,qE 14 2 8,qM 5 12,qM 6 13,qM 7 14]) (.sq (rg [qM 15 5,oo 16 (.ia 7 (.t 15) (i6 0)),qF 17 0 16,qS 18 6 17,
 Zj (.st 6 (.t 4) (.t 18))]) (.rt)))) }
theorem ZBl:Zk Ucb ZcM Zlu=true:=by kernel_rfl
def Zlv:F2 :=
 { nt:=40,res:=[.t 2 [0]],body:=(.sq (rg [om 2 (.k (.bool false))]) (.sq (.sq (rg [qM 5 0,qN 6 5,oo 7 (.ca .pure false (.f V4) [.t 6,i6 1,i6 6]),oo 8 (.nt (.t 7))]) (.cd (.t 8) (.sq (rg [om 2 (.k (.bool false))]) (.rt)) (.sk))) (.sq (.sq (rg [qM 9 0,qN 10 9,om 11 (i6 0)]) (.bl 0 (.lp [0,9,10,11] [] (.sq (rg [qB 12 .lss 11 10]) (.sq (.cd (.t 12) (.sk) (.ex 0)) (.sq (.bl 1 (.sq (rg [qM 13 11,qI 14 3 9 11,qS 15 3 14,oo 4 (.al [.string ⟨#[]⟩,.int .i64 0,.int .i64 0] []),qM 3 13,
 Zj (.st 3 (.t 4) (.t 15))]) (.sq (rg [qF 16 0 4,qL 17 16,oo 18 (.ca .pure false (.f UO) [.t 17]),oo 19 (.nt (.t 18)),qM 20 19,og 21 20 false (.fa 1 (.t 4)),og 22 20 false (.ld none (.t 21)),og 23 20 false (.ca .pure false (.f V4) [.t 22,i6 0,i6 3]),og 24 20 false (.nt (.t 23)),oo 25 (.pk (.t 20) (.k (.bool true)) (.t 24)),qM 26 25,og 27 26 false (.fa 2 (.t 4)),og 28 26 false (.ld none (.t 27)),og 29 26 false (.ca .pure false (.f V4) [.t 28,i6 0,i6 2]),og 30 26 false (.nt (.t 29)),oo 31 (.pk (.t 26) (.k (.bool true)) (.t 30)),qM 32 31,og 33 32 false (.mv (.t 0) none),og 34 32 false (.mv (.t 3) none),og 35 32 false (.sx 3 (.t 33) none (some (.t 34)) none),og 36 32 false (.mf ZcO [.t 4]),og 37 32 false (.ca .pure false (.f Zk3) [.t 35,.t 36]),oo 38 (.pk (.t 32) (.k (.bool true)) (.t 37))]) (.cd (.t 38) (.sq (rg [om 2 (.k (.bool false))]) (.rt)) (.sk)))))
 (rg [oo 39 (.bi .add 0 (.t 11) (i6 1)),qM 11 39]))))))) (.sq (rg [om 2 (.k (.bool true))]) (.rt))))) }
theorem ZBm:Zk Ucb ZaZ Zlv=true:=by kernel_rfl
def Zlw:F2 :=
 { nt:=62,res:=[.t 4 [0],.t 5 [0],.t 6 [0]],body:=(.sq (rg [om 4 (.k (.slice none 0 0)),om 5 (i6 0),om 6 (.k (.bool false))]) (.sq (rg [oo 14 (.bs 7 0 [] []),oo 7 (.fz (.t 14))]) (.sq (rg [om 8 (i6 0)]) (.sq (.sq (rg [qM 15 1,qN 16 15,om 17 (i6 0)]) (.bl 0 (.lp [0,7,8,15,16,17] [] (.sq (rg [qB 18 .lss 17 16]) (.sq (.cd (.t 18) (.sk) (.ex 0)) (.sq (.bl 1 (.sq (rg [qI 19 4 15 17,qS 20 4 19,oo 10 (.al [.int .i64 0,.int .i64 0,.int .i64 0,.slice none 0 0] []),
 Zj (.st 4 (.t 10) (.t 20))]) (.sq (.sq (rg [qM 21 0,qS 22 4 10,oo 23 (.ca .pure false (.f Zgp) [.t 21,.t 22]),oo 24 (.nt (.t 23)),qM 25 24,og 26 25 false (.ld (some 4) (.t 10)),og 27 25 false (.ca .pure false (.f DH) [.t 26]),og 28 25 false (.mv (.t 7) none),og 29 25 false (.ln (.t 28)),og 30 25 false (.bi .gtr 0 (.t 27) (.t 29)),oo 31 (.pk (.t 25) (.k (.bool true)) (.t 30))]) (.cd (.t 31) (.sq (rg [om 4 (.k (.slice none 0 0)),om 5 (i6 0),om 6 (.k (.bool false))]) (.rt)) (.sk))) (.sq (rg [qM 32 7,qN 33 32,qS 34 4 10,oo 35 (.ca .pure false (.f DH) [.t 34]),qB 36 .sub 33 35,qM 11 36]) (.sq (.rg (some 0) [qM 38 0,qS 39 4 10,qM 40 7,qM 41 11,oo 42 (.sx 7 (.t 40) (some (.t 41)) none none),oo 43 (.ca .pure false (.f Zgq) [.t 38,.t 39,.t 42]),qM 37 43,qE 44 0 37,qE 45 1 37,oo 12 (.al [.int .i64 0,.slice none 0 0,.slice none 0 0,.int .i64 0,.slice none 0 0,.slice none 0 0,.slice none 0 0] []),
 Zj (.s0 7 (.t 12) (.t 44)),qM 13 45]) (.sq (.sq (rg [qM 46 13,oo 47 (.nt (.t 46))]) (.cd (.t 47) (.sq (rg [om 4 (.k (.slice none 0 0)),om 5 (i6 0),om 6 (.k (.bool false))]) (.rt)) (.sk))) (.sq (.rg (some 0) [qM 48 7,qM 49 11,qM 50 11,oo 51 (.sx 7 (.t 48) none (some (.t 49)) (some (.t 50))),qS 52 7 12,oo 53 (.bv 7 1 [.int .i64 0,.slice none 0 0,.slice none 0 0,.int .i64 0,.slice none 0 0,.slice none 0 0,.slice none 0 0] [(0,.t 52)]),oo 54 (.ap 7 2 (.t 51) (.t 53)),oo 7 (.fz (.t 54))])
 (rg [qM 55 8,qM 56 7,qN 57 56,oo 58 (.mm true (.t 55) (.t 57)),qM 8 58]))))))))
 (rg [oo 59 (.bi .add 0 (.t 17) (i6 1)),qM 17 59]))))))) (.sq (rg [qM 60 7,qM 61 8,qM 4 60,qM 5 61,om 6 (.k (.bool true))]) (.rt)))))) }
theorem ZBn:Zk Ucb Za0 Zlw=true:=by kernel_rfl
def Zlx:F2 :=
 { nt:=27,res:=[.t 4 [0]],body:=(.sq (rg [om 4 (.k (.bool false))]) (.sq (rg [qM 8 1,oo 9 (.ca .pure true (.f DI) [.t 8]),qM 5 9]) (.sq (rg [qM 10 5,oo 11 (.ca .any false (.f Zgr) [.t 10])]) (.sq (.sq (rg [qM 12 5,qN 13 12,om 14 (i6 0)]) (.bl 0 (.lp [0,1,12,13,14] [288] (.sq (rg [qB 15 .lss 14 13]) (.sq (.cd (.t 15) (.sk) (.ex 0)) (.sq (.bl 1 (.sq (rg [qM 16 14,qI 17 1 12 14,qL 18 17,qM 6 16,qM 7 18]) (.sq (rg [qM 19 7,qM 20 6,qB 21 .neq 19 20]) (.cd (.t 21) (.sq (rg [om 4 (.k (.bool false))]) (.rt)) (.sk)))))
 (rg [oo 22 (.bi .add 0 (.t 14) (i6 1)),qM 14 22]))))))) (.sq (rg [qM 23 1,qN 24 23,qM 25 0,qB 26 .eql 24 25,qM 4 26]) (.rt)))))) }
theorem ZBo:Zk Ucb Zgh Zlx=true:=by kernel_rfl
def Zly:F2 :=
 { nt:=42,res:=[.c 2 (some 6) [0,4,2,0,2,3]],body:=(.sq (rg [oo 1 (.bt (.t 0)),oo 2 (.al [.int .i64 0,.slice none 0 0,.slice none 0 0,.int .i64 0,.slice none 0 0,.slice none 0 0] [])]) (.sq (.rg (some 0) [qF 6 0 1,qL 7 6,qF 8 2 1,qL 9 8,oo 10 (.ca .pure true (.f DI) [.t 9]),qF 11 3 1,qL 12 11,qF 13 4 1,qL 14 13,oo 15 (.ca .pure true (.f UN) [.t 14]),qF 16 5 1,qL 17 16,oo 18 (.ca .pure true (.f Zgs) [.t 17]),oo 19 (.bd [.int .i64 0,.slice none 0 0,.slice none 0 0,.int .i64 0,.slice none 0 0,.slice none 0 0] [(0,1,.t 7),(2,1,.t 10),(3,1,.t 12),(4,1,.t 15),(5,1,.t 18)] [(1,3)]),oo 3 (.al [.int .i64 0,.slice none 0 0,.slice none 0 0,.int .i64 0,.slice none 0 0,.slice none 0 0] []),
 Zj (.st 6 (.t 3) (.t 19))]) (.sq (.sq (rg [qF 20 1 1,qL 21 20,qN 22 21,om 23 (i6 0)]) (.bl 0 (.lp [2,3,21,22,23] [64,96,320,480,576,608,1216] (.sq (rg [qB 24 .lss 23 22]) (.sq (.cd (.t 24) (.sk) (.ex 0)) (.sq (.bl 1 (.sq (rg [qI 25 3 21 23,qS 26 3 25,oo 5 (.al [.int .i64 0,.int .i64 0,.slice none 0 0] []),
 Zj (.st 3 (.t 5) (.t 26))]) (.rg (some 0) [qF 27 1 3,qL 28 27,qF 29 0 5,qL 30 29,qF 31 1 5,qL 32 31,qF 33 2 5,qL 34 33,oo 35 (.ca .pure true (.f DI) [.t 34]),oo 36 (.bd [.int .i64 0,.int .i64 0,.slice none 0 0] [(0,1,.t 30),(1,1,.t 32),(2,1,.t 35)] []),oo 37 (.bv 3 1 [.int .i64 0,.int .i64 0,.slice none 0 0] [(0,.t 36)]),oo 38 (.ap 3 2 (.t 28) (.t 37)),qF 39 1 3,
 Zj (.st 1 (.t 39) (.t 38))])))
 (rg [oo 40 (.bi .add 0 (.t 23) (i6 1)),qM 23 40]))))))) (.sq (rg [qS 41 6 3,
 Zj (.st 6 (.t 2) (.t 41))]) (.rt))))) }
theorem ZBp:Zk Ucb DG Zly=true:=by kernel_rfl
def Zg6:F2 :=
 { nt:=56,res:=[.t 8 [0],.t 9 [0]],body:=(.sq (rg [om 8 (.k (.slice none 0 0)),om 9 (.k (.bool false))]) (.sq (rg [qM 12 0,qN 13 12,oo 14 (.bi .sub 0 (.t 13) (i6 1)),qM 10 14]) (.sq (rg [qM 15 1,qM 16 2,qM 17 10,qB 18 .add 16 17,oo 19 (.bi .sub 0 (.t 18) (i6 1)),qI 20 1 15 19,qL 21 20,qM 22 2,qB 23 .sub 21 22,qM 11 23]) (.sq (.sq (rg [qM 24 11,oo 25 (.bi .eql 0 (.t 24) (i6 0)),qM 26 25,og 27 26 false (.mv (.t 0) none),og 28 26 false (.mv (.t 11) none),og 29 26 false (.bi .sub 0 (.t 28) (i6 1)),og 30 26 false (.ia 4 (.t 27) (.t 29)),og 31 26 false (.fa 0 (.t 30)),og 32 26 false (.ld none (.t 31)),og 33 26 false (.mv (.t 3) none),og 34 26 false (.bi .neq 0 (.t 32) (.t 33)),oo 35 (.pk (.t 26) (.k (.bool true)) (.t 34))]) (.cd (.t 35) (.sq (rg [om 8 (.k (.slice none 0 0)),om 9 (.k (.bool false))]) (.rt)) (.sk))) (.sq (.rg (some 0) [qM 36 0,qM 37 11,oo 38 (.bi .sub 0 (.t 37) (i6 1)),oo 39 (.sx 4 (.t 36) none (some (.t 38)) none),qM 40 0,qM 41 11,qM 42 10,oo 43 (.sx 4 (.t 40) (some (.t 41)) (some (.t 42)) none),qM 44 0,qM 45 11,oo 46 (.bi .sub 0 (.t 45) (i6 1)),qI 47 4 44 46,qS 48 4 47,qM 49 0,qM 50 10,qI 51 4 49 50,qS 52 4 51,oo 53 (.bc 4 2 [.int .i64 0,.int .i64 0,.int .i64 0,.slice none 0 0] [(0,.t 48),(1,.t 52)]),oo 54 (.bc 1 3 [.slice none 0 0] [(0,.t 39),(1,.t 43),(2,.t 53)]),oo 55 (.ca .pure true (.f Wp) [.t 54]),qM 8 55,om 9 (.k (.bool true))]) (.rt)))))) }
theorem ZBq:Zk Ucb Zgi Zg6=true:=by kernel_rfl
def Zlz:F2 :=
 { nt:=27,res:=[.t 4 [5]],body:=(.sq (rg [om 4 (.k (.slice none 0 0))]) (.sq (.sq (rg [qM 5 1,oo 6 (.bi .lss 0 (.t 5) (i6 0))]) (.cd (.t 6) (rg [oo 7 (.xx),
 Zj (.xx)]) (.sk))) (.sq (.sq (rg [qM 8 1,qM 9 0,oo 10 (.cp (.t 9)),qM 11 0,qN 12 11,qB 13 .sub 10 12,qB 14 .sub 8 13,qM 1 14]) (.sq (rg [qM 15 1,oo 16 (.bi .gtr 0 (.t 15) (i6 0))]) (.cd (.t 16) (rg [qM 17 0,qM 18 0,oo 19 (.cp (.t 18)),oo 20 (.sh 4 (.t 17) (.t 19)),qM 21 1,oo 22 (.az 4 [.int .i64 0,.int .i64 0,.int .i64 0,.slice none 0 0] (.t 20) (.t 21)),qM 23 0,qN 24 23,oo 25 (.sh 4 (.t 22) (.t 24)),qM 0 25]) (.sk)))) (.sq (rg [qM 26 0,qM 4 26]) (.rt))))) }
theorem ZBr:Zk Ucb Zgj Zlz=true:=by kernel_rfl
def Xy:F2 :=
 { nt:=16,res:=[.t 2 [0]],body:=(.sq (rg [oo 1 (.bt (.t 0)),om 2 (i6 0)]) (.sq (.sq (rg [qF 3 0 1,qL 4 3]) (.bl 0 (.sq (.sq (rg [oo 6 (.bi .eql 0 (.t 4) (i6 0)),qM 5 6]) (.cd (.t 5) (.sk) (.sq (rg [oo 7 (.bi .eql 0 (.t 4) (i6 1)),qM 5 7]) (.cd (.t 5) (.sk)
 (rg [oo 8 (.bi .eql 0 (.t 4) (i6 2)),qM 5 8]))))) (.cd (.t 5) (.sq (rg [om 2 (i6 0)]) (.rt)) (.sq (.sq (rg [oo 10 (.bi .eql 0 (.t 4) (i6 3)),qM 9 10]) (.cd (.t 9) (.sk) (.sq (rg [oo 11 (.bi .eql 0 (.t 4) (i6 6)),qM 9 11]) (.cd (.t 9) (.sk)
 (rg [oo 12 (.bi .eql 0 (.t 4) (i6 7)),qM 9 12]))))) (.cd (.t 9) (.sq (rg [om 2 (i6 1)]) (.rt)) (.sq (.sq (rg [oo 14 (.bi .eql 0 (.t 4) (i6 4)),qM 13 14]) (.cd (.t 13) (.sk)
 (rg [oo 15 (.bi .eql 0 (.t 4) (i6 5)),qM 13 15]))) (.cd (.t 13) (.sq (rg [om 2 (i6 2)]) (.rt)) (.sk))))))))) (.sq (rg [om 2 (i6 (-1))]) (.rt)))) }
theorem ZBs:Zk Ucb DH Xy=true:=by kernel_rfl
def ZlA:F2 :=
 { nt:=8,res:=[.t 2 [2]],body:=(.sq (rg [om 2 (.k (.slice none 0 0))]) (.sq (.sq (rg [qM 3 0,oo 4 (.nl false (.t 3))]) (.cd (.t 4) (.sq (rg [om 2 (.k (.slice none 0 0))]) (.rt)) (.sk))) (.sq (rg [oo 5 (.bs 1 0 [] []),qM 6 0,oo 7 (.ap 1 0 (.t 5) (.t 6)),qM 2 7]) (.rt)))) }
theorem ZBt:Zk Ucb UN ZlA=true:=by kernel_rfl
def ZlB:F2 :=
 { nt:=23,res:=[.t 2 [0]],body:=(.sq (rg [om 2 (.k (.bool false))]) (.sq (.sq (rg [om 3 (i6 0)]) (.bl 0 (.lp [0,3] [] (.sq (.sq (rg [qM 4 3,qM 5 0,oo 6 (.lg (.t 5)),qB 7 .lss 4 6]) (.cd (.t 7) (.sk) (.ex 0))) (.sq (.bl 1 (.sq (rg [qM 10 0,qM 11 3,oo 12 (.ix (.t 10) (.t 11)),oo 13 (.bi .lss 0 (.t 12) (.k (.int .u8 97))),qM 14 13,og 15 14 false (.mv (.t 0) none),og 16 14 false (.mv (.t 3) none),og 17 14 false (.ix (.t 15) (.t 16)),og 18 14 false (.bi .gtr 0 (.t 17) (.k (.int .u8 122))),oo 19 (.pk (.t 14) (.k (.bool true)) (.t 18))]) (.cd (.t 19) (.sq (rg [om 2 (.k (.bool false))]) (.rt)) (.sk))))
 (rg [qM 8 3,oo 9 (.bi .add 0 (.t 8) (i6 1)),qM 3 9])))))) (.sq (rg [qM 20 0,oo 21 (.lg (.t 20)),oo 22 (.ca .pure false (.f VF) [.t 21,i6 1,i6 4]),qM 2 22]) (.rt)))) }
theorem ZBu:Zk Ucb Za1 ZlB=true:=by kernel_rfl
def Ws:F2 :=
 { nt:=82,res:=[.t 4 [0]],body:=(.sq (rg [oo 3 (.bt (.t 1)),om 4 (.k (.bool false))]) (.sq (.sq (rg [qF 5 0 3,qL 6 5,oo 7 (.bi .neq 0 (.t 6) (i6 3)),qM 8 7,og 9 8 true (.fa 1 (.t 3)),og 10 8 true (.ld none (.t 9)),og 11 8 true (.bi .neq 0 (.t 10) (i6 0)),oo 12 (.pk (.t 8) (.t 11) (.k (.bool false))),qM 13 12,og 14 13 false (.fa 0 (.t 3)),og 15 13 false (.ld none (.t 14)),og 16 13 false (.bi .neq 0 (.t 15) (i6 2)),og 17 13 false (.mv (.t 16) none),og 18 17 true (.fa 2 (.t 3)),og 19 17 true (.ld none (.t 18)),og 20 17 true (.bi .neq 0 (.t 19) (i6 0)),og 21 13 false (.pk (.t 17) (.t 20) (.k (.bool false))),oo 22 (.pk (.t 13) (.k (.bool true)) (.t 21))]) (.cd (.t 22) (.sq (rg [om 4 (.k (.bool false))]) (.rt)) (.sk))) (.sq (.sq (rg [qF 23 0 3,qL 24 23]) (.bl 0 (.sq (rg [oo 26 (.bi .eql 0 (.t 24) (i6 2)),qM 25 26]) (.cd (.t 25) (.sq (rg [qF 27 2 3,qL 28 27,oo 29 (.ca .pure false (.f VF) [.t 28,i6 0,i6 3]),qM 30 29,og 31 30 true (.fa 3 (.t 3)),og 32 30 true (.ld none (.t 31)),og 33 30 true (.ln (.t 32)),og 34 30 true (.bi .eql 0 (.t 33) (i6 0)),oo 35 (.pk (.t 30) (.t 34) (.k (.bool false))),qM 4 35]) (.rt)) (.sq (rg [oo 37 (.bi .eql 0 (.t 24) (i6 3)),qM 36 37]) (.cd (.t 36) (.sq (.rg (some 0) [qF 38 1 3,qL 39 38,qM 40 0,qN 41 40,oo 42 (.bi .sub 0 (.t 41) (i6 1)),oo 43 (.ca .pure false (.f VF) [.t 39,i6 0,.t 42]),qM 44 43,og 45 44 true (.fa 3 (.t 3)),og 46 44 true (.ld none (.t 45)),og 47 44 true (.ln (.t 46)),og 48 44 true (.mv (.t 0) none),og 49 44 true (.fa 1 (.t 3)),og 50 44 true (.ld none (.t 49)),og 51 44 true (.ia 3 (.t 48) (.t 50)),og 52 44 true (.fa 1 (.t 51)),og 53 44 true (.ld none (.t 52)),og 54 44 true (.bi .eql 0 (.t 47) (.t 53)),oo 55 (.pk (.t 44) (.t 54) (.k (.bool false))),qM 56 55,og 57 56 true (.fa 3 (.t 3)),og 58 56 true (.ld none (.t 57)),og 59 56 true (.ca .pure false (.f ZcP) [.t 58]),oo 60 (.pk (.t 56) (.t 59) (.k (.bool false))),qM 4 60]) (.rt)) (.sq (.sq (rg [oo 62 (.bi .eql 0 (.t 24) (i6 6)),qM 61 62]) (.cd (.t 61) (.sk)
 (rg [oo 63 (.bi .eql 0 (.t 24) (i6 7)),qM 61 63]))) (.cd (.t 61) (.sq (rg [qF 64 3 3,qL 65 64,qN 66 65,oo 67 (.bi .eql 0 (.t 66) (i6 1)),qM 68 67,og 69 68 true (.fa 3 (.t 3)),og 70 68 true (.ld none (.t 69)),og 71 68 true (.ca .pure false (.f ZcP) [.t 70]),oo 72 (.pk (.t 68) (.t 71) (.k (.bool false))),qM 4 72]) (.rt)) (.sk))))))))) (.sq (rg [qF 73 0 3,qL 74 73,oo 75 (.ca .pure false (.f VF) [.t 74,i6 0,i6 5]),qM 76 75,og 77 76 true (.fa 3 (.t 3)),og 78 76 true (.ld none (.t 77)),og 79 76 true (.ln (.t 78)),og 80 76 true (.bi .eql 0 (.t 79) (i6 0)),oo 81 (.pk (.t 76) (.t 80) (.k (.bool false))),qM 4 81]) (.rt))))) }
theorem ZBv:Zk Ucb Zgl Ws=true:=by kernel_rfl
def DQ:F2 :=
 { nt:=80,res:=[.t 6 [0],.t 7 [0]],body:=(.sq (rg [oo 5 (.bt (.t 2)),om 6 (.k (.slice none 0 0)),om 7 (.k (.bool false))]) (.sq (rg [qM 11 1,qN 12 11,qF 13 0 5,qL 14 13,oo 15 (.ca .pure false (.f UL) [.t 14]),qB 16 .sub 12 15,qM 8 16]) (.sq (.sq (rg [qM 17 8,oo 18 (.bi .lss 0 (.t 17) (i6 0))]) (.cd (.t 18) (.sq (rg [qM 19 1,qM 6 19,om 7 (.k (.bool false))]) (.rt)) (.sk))) (.sq (rg [qS 20 4 5,oo 21 (.ca .pure false (.f Zgt) [.t 20]),oo 9 (.al [.int .i64 0,.slice none 0 0,.slice none 0 0,.int .i64 0,.slice none 0 0,.slice none 0 0,.slice none 0 0] []),
 Zj (.st 7 (.t 9) (.t 21)),om 10 (.k (.bool true))]) (.sq (.bl 0 (.sq (rg [qF 23 0 5,qL 24 23,oo 25 (.bi .eql 0 (.t 24) (i6 3)),qM 22 25]) (.cd (.t 22) (.rg (some 0) [qM 27 0,qS 28 4 5,qM 29 1,qM 30 8,qI 31 7 29 30,qS 32 7 31,oo 33 (.ca .pure false (.f Zgu) [.t 27,.t 28,.t 32]),qM 26 33,qE 34 0 26,qE 35 1 26,
 Zj (.s0 7 (.t 9) (.t 34)),qM 10 35]) (.sq (rg [qF 37 0 5,qL 38 37,oo 39 (.ca .pure false (.f UL) [.t 38]),oo 40 (.bi .eql 0 (.t 39) (i6 1)),qM 36 40]) (.cd (.t 36) (.rg (some 0) [qM 42 0,qS 43 4 5,qM 44 1,qM 45 8,qI 46 7 44 45,qS 47 7 46,oo 48 (.ca .pure false (.f Zgv) [.t 42,.t 43,.t 47]),qM 41 48,qE 49 0 41,qE 50 1 41,
 Zj (.s0 7 (.t 9) (.t 49)),qM 10 50]) (.sq (rg [qF 52 0 5,qL 53 52,oo 54 (.ca .pure false (.f UL) [.t 53]),oo 55 (.bi .eql 0 (.t 54) (i6 2)),qM 51 55]) (.cd (.t 51) (.rg (some 0) [qM 57 0,qS 58 4 5,qM 59 1,qM 60 8,qI 61 7 59 60,qS 62 7 61,qM 63 1,qM 64 8,oo 65 (.bi .add 0 (.t 64) (i6 1)),qI 66 7 63 65,qS 67 7 66,oo 68 (.ca .pure false (.f Zgw) [.t 57,.t 58,.t 62,.t 67]),qM 56 68,qE 69 0 56,qE 70 1 56,
 Zj (.s0 7 (.t 9) (.t 69)),qM 10 70]) (.sk)))))))) (.sq (.rg (some 0) [oo 71 (.bs 7 0 [] []),qM 72 1,qM 73 8,oo 74 (.sx 7 (.t 72) none (some (.t 73)) none),oo 75 (.a1 7 (.t 71) (.t 74)),oo 76 (.lb (some 7) (.t 9) none),oo 77 (.bs 7 1 [.int .i64 0,.slice none 0 0,.slice none 0 0,.int .i64 0,.slice none 0 0,.slice none 0 0,.slice none 0 0] [(0,.t 76)]),oo 78 (.a2 7 (.t 75) (.t 77)),qM 79 10,qM 6 78,qM 7 79]) (.rt))))))) }
theorem Zbd:Zk Ucb ZcN DQ=true:=by kernel_rfl
def Zg7:F2 :=
 { nt:=10,res:=[.t 4 [0]],body:=(.sq (rg [om 4 (i6 0)]) (.sq (.sq (rg [qM 5 0,qM 6 1,qB 7 .gtr 5 6]) (.cd (.t 7) (.sq (rg [qM 8 0,qM 4 8]) (.rt)) (.sk))) (.sq (rg [qM 9 1,qM 4 9]) (.rt)))) }
theorem ZBw:Zk Ucb Zgm Zg7=true:=by kernel_rfl
def ZlC:F2 :=
 { nt:=18,res:=[.t 4 [0]],body:=(.sq (rg [om 4 (.k (.bool false))]) (.sq (.sq (rg [om 5 (i6 0)]) (.bl 0 (.lp [0,1,5] [] (.sq (.sq (rg [qM 6 5,qM 7 0,qN 8 7,qB 9 .lss 6 8]) (.cd (.t 9) (.sk) (.ex 0))) (.sq (.bl 1 (.sq (rg [qM 12 0,qM 13 5,qI 14 1 12 13,qL 15 14,qM 16 1,qB 17 .eql 15 16]) (.cd (.t 17) (.sq (rg [om 4 (.k (.bool true))]) (.rt)) (.sk))))
 (rg [qM 10 5,oo 11 (.bi .add 0 (.t 10) (i6 1)),qM 5 11])))))) (.sq (rg [om 4 (.k (.bool false))]) (.rt)))) }
theorem ZBx:Zk Ucb Zgn ZlC=true:=by kernel_rfl
def ZlD:F2 :=
 { nt:=131,res:=[.c 6 (some 6) [0,4,2,0,2,3]],body:=(.sq (rg [oo 3 (.bt (.t 0)),oo 6 (.al [.int .i64 0,.slice none 0 0,.slice none 0 0,.int .i64 0,.slice none 0 0,.slice none 0 0] [])]) (.sq (.rg (some 0) [qF 13 0 3,oo 14 (.lt none (.t 13)),qF 15 1 3,oo 16 (.lt none (.t 15)),qN 17 16,oo 18 (.ms 3 [.int .i64 0,.int .i64 0,.slice none 0 0] (.t 17)),qF 19 3 3,oo 20 (.lt none (.t 19)),oo 21 (.bs 1 0 [] []),qF 22 4 3,qL 23 22,oo 24 (.a0 1 (.t 21) (.t 23)),oo 25 (.bd [.int .i64 0,.slice none 0 0,.slice none 0 0,.int .i64 0,.slice none 0 0,.slice none 0 0] [(0,1,.t 14),(1,1,.t 18),(3,1,.t 20),(4,1,.t 24)] [(2,1),(5,2)]),oo 7 (.al [.int .i64 0,.slice none 0 0,.slice none 0 0,.int .i64 0,.slice none 0 0,.slice none 0 0] []),
 Zj (.st 6 (.t 7) (.t 25))]) (.sq (.sq (rg [om 8 (i6 0)]) (.bl 0 (.lp [1,2,3,6,7,8] [192,224,576,672,768,800,801,1056,1888,3200,4096] (.sq (.sq (rg [qM 26 8,qF 27 1 3,qL 28 27,qN 29 28,qB 30 .lss 26 29]) (.cd (.t 30) (.sk) (.ex 0))) (.sq (.bl 1 (.sq (rg [oo 33 (.bs 1 0 [] []),qM 9 33]) (.sq (.sq (rg [om 10 (i6 0)]) (.bl 2 (.lp [1,2,3,6,7,8,9,10] [192,224,576,672,768,800,801,1056,1888,3200,4096] (.sq (.sq (rg [qM 34 10,qF 35 1 3,qL 36 35,qM 37 8,qI 38 3 36 37,qF 39 2 38,qL 40 39,qN 41 40,qB 42 .lss 34 41]) (.cd (.t 42) (.sk) (.ex 2))) (.sq (.bl 3 (.rg (some 0) [qM 45 9,qS 46 6 3,qF 47 1 3,qL 48 47,qM 49 8,qI 50 3 48 49,qF 51 2 50,qL 52 51,qM 53 10,qI 54 1 52 53,qL 55 54,qM 56 2,oo 57 (.ca .pure false (.f ZcQ) [.t 46,.t 55,.t 56]),oo 58 (.bs 1 1 [.int .i64 0] [(0,.t 57)]),oo 59 (.ap 1 0 (.t 45) (.t 58)),qM 9 59]))
 (rg [qM 43 10,oo 44 (.bi .add 0 (.t 43) (i6 1)),qM 10 44])))))) (.rg (some 0) [qF 60 1 7,qL 61 60,qM 62 1,qM 63 8,qI 64 1 62 63,qL 65 64,qF 66 1 3,qL 67 66,qM 68 8,qI 69 3 67 68,qF 70 0 69,qL 71 70,qF 72 1 3,qL 73 72,qM 74 8,qI 75 3 73 74,qF 76 1 75,qL 77 76,qM 78 1,oo 79 (.ca .pure false (.f ZcR) [.t 77,.t 78]),qM 80 9,oo 81 (.bd [.int .i64 0,.int .i64 0,.slice none 0 0] [(0,1,.t 71),(1,1,.t 79),(2,1,.t 80)] []),qI 82 3 61 65,
 Zj (.st 3 (.t 82) (.t 81))]))))
 (rg [qM 31 8,oo 32 (.bi .add 0 (.t 31) (i6 1)),qM 8 32])))))) (.sq (.sq (rg [om 11 (i6 0)]) (.bl 4 (.lp [1,2,3,6,7,11] [192,224,576,672,768,800,801,1056,1888,3200,4096] (.sq (.sq (rg [qM 83 11,qF 84 2 3,qL 85 84,qN 86 85,qB 87 .lss 83 86]) (.cd (.t 87) (.sk) (.ex 4))) (.sq (.bl 5 (.rg (some 0) [qF 90 2 7,qL 91 90,qF 92 2 3,qL 93 92,qM 94 11,qI 95 1 93 94,qL 96 95,qM 97 1,oo 98 (.ca .pure false (.f ZcR) [.t 96,.t 97]),oo 99 (.bs 1 1 [.int .i64 0] [(0,.t 98)]),oo 100 (.ap 1 0 (.t 91) (.t 99)),qF 101 2 7,
 Zj (.st 1 (.t 101) (.t 100))]))
 (rg [qM 88 11,oo 89 (.bi .add 0 (.t 88) (i6 1)),qM 11 89])))))) (.sq (.sq (rg [om 12 (i6 0)]) (.bl 6 (.lp [2,3,6,7,12] [192,224,576,672,768,800,801,1056,1888,3200,4096] (.sq (.sq (rg [qM 102 12,qF 103 5 3,qL 104 103,qN 105 104,qB 106 .lss 102 105]) (.cd (.t 106) (.sk) (.ex 6))) (.sq (.bl 7 (.rg (some 0) [qF 109 5 7,qL 110 109,qF 111 5 3,qL 112 111,qM 113 12,qI 114 2 112 113,qF 115 0 114,qL 116 115,qS 117 6 3,qF 118 5 3,qL 119 118,qM 120 12,qI 121 2 119 120,qF 122 1 121,qL 123 122,qM 124 2,oo 125 (.ca .pure false (.f ZcQ) [.t 117,.t 123,.t 124]),oo 126 (.bd [.string ⟨#[]⟩,.int .i64 0] [(0,1,.t 116),(1,1,.t 125)] []),oo 127 (.bs 2 1 [.string ⟨#[]⟩,.int .i64 0] [(0,.t 126)]),oo 128 (.ap 2 0 (.t 110) (.t 127)),qF 129 5 7,
 Zj (.st 1 (.t 129) (.t 128))]))
 (rg [qM 107 12,oo 108 (.bi .add 0 (.t 107) (i6 1)),qM 12 108])))))) (.sq (rg [qS 130 6 7,
 Zj (.st 6 (.t 6) (.t 130))]) (.rt))))))) }
theorem ZBy:Zk Ucb Zgo ZlD=true:=by kernel_rfl
def ZlE:F2 :=
 { nt:=11,res:=[.t 2 [0]],body:=(.sq (rg [om 2 (.k (.bool false))]) (.sq (rg [qM 3 0,oo 4 (.lg (.t 3)),oo 5 (.ca .pure false (.f V4) [.t 4,i6 1,i6 4]),qM 6 5,og 7 6 true (.mv (.t 0) none),og 8 6 true (.ca .pure false (.f Zk4) [.t 7,.k (.string ⟨#[97,98,99,100,101,102,103,104,105,106,107,108,109,110,111,112,113,114,115,116,117,118,119,120,121,122]⟩)]),og 9 6 true (.bi .eql 0 (.t 8) (.k (.string ⟨#[]⟩))),oo 10 (.pk (.t 6) (.t 9) (.k (.bool false))),qM 2 10]) (.rt))) }
theorem ZBz:Zk Ucb UO ZlE=true:=by kernel_rfl
def ZlF:F2 :=
 { nt:=9,res:=[.t 3 [0]],body:=(.sq (rg [oo 2 (.bt (.t 0)),om 3 (.k (.bool false))]) (.sq (rg [qF 4 0 2,qL 5 4,qF 6 0 1,qL 7 6,qB 8 .eql 5 7,qM 3 8]) (.rt))) }
theorem ZBA:Zk Ucb ZcO ZlF=true:=by kernel_rfl
def ZlG:F2 :=
 { nt:=61,res:=[.t 4 [0]],body:=(.sq (rg [oo 3 (.bt (.t 1)),om 4 (.k (.bool false))]) (.sq (.sq (rg [qF 5 3 3,qL 6 5,oo 7 (.ca .pure false (.f Za3) [.t 6,.f ZcS])]) (.cd (.t 7) (.sq (rg [om 4 (.k (.bool false))]) (.rt)) (.sk))) (.sq (.sq (rg [qF 8 0 3,qL 9 8]) (.bl 0 (.sq (rg [oo 11 (.bi .eql 0 (.t 9) (i6 2)),qM 10 11]) (.cd (.t 10) (.sq (rg [qS 12 4 3,oo 13 (.ca .pure false (.f UP) [.t 12,.k (.bool false),.k (.bool true),.k (.bool false)]),qM 14 13,og 15 14 true (.fa 2 (.t 3)),og 16 14 true (.ld none (.t 15)),og 17 14 true (.ca .pure false (.f V4) [.t 16,i6 0,i6 3]),oo 18 (.pk (.t 14) (.t 17) (.k (.bool false))),qM 4 18]) (.rt)) (.sq (rg [oo 20 (.bi .eql 0 (.t 9) (i6 3)),qM 19 20]) (.cd (.t 19) (.sq (.rg (some 0) [qS 21 4 3,oo 22 (.ca .pure false (.f UP) [.t 21,.k (.bool true),.k (.bool false),.k (.bool true)]),qM 23 22,og 24 23 true (.fa 1 (.t 3)),og 25 23 true (.ld none (.t 24)),og 26 23 true (.mv (.t 0) none),og 27 23 true (.ln (.t 26)),og 28 23 true (.bi .sub 0 (.t 27) (i6 1)),og 29 23 true (.ca .pure false (.f V4) [.t 25,i6 0,.t 28]),oo 30 (.pk (.t 23) (.t 29) (.k (.bool false))),qM 31 30,og 32 31 true (.fa 3 (.t 3)),og 33 31 true (.ld none (.t 32)),og 34 31 true (.ln (.t 33)),og 35 31 true (.mv (.t 0) none),og 36 31 true (.fa 1 (.t 3)),og 37 31 true (.ld none (.t 36)),og 38 31 true (.ia 3 (.t 35) (.t 37)),og 39 31 true (.fa 1 (.t 38)),og 40 31 true (.ld none (.t 39)),og 41 31 true (.bi .eql 0 (.t 34) (.t 40)),oo 42 (.pk (.t 31) (.t 41) (.k (.bool false))),qM 4 42]) (.rt)) (.sq (.sq (rg [oo 44 (.bi .eql 0 (.t 9) (i6 6)),qM 43 44]) (.cd (.t 43) (.sk)
 (rg [oo 45 (.bi .eql 0 (.t 9) (i6 7)),qM 43 45]))) (.cd (.t 43) (.sq (rg [qS 46 4 3,oo 47 (.ca .pure false (.f UP) [.t 46,.k (.bool false),.k (.bool false),.k (.bool true)]),qM 48 47,og 49 48 true (.fa 3 (.t 3)),og 50 48 true (.ld none (.t 49)),og 51 48 true (.ln (.t 50)),og 52 48 true (.bi .eql 0 (.t 51) (i6 1)),oo 53 (.pk (.t 48) (.t 52) (.k (.bool false))),qM 4 53]) (.rt)) (.sk))))))))) (.sq (rg [qS 54 4 3,oo 55 (.ca .pure false (.f DH) [.t 54]),oo 56 (.bi .geq 0 (.t 55) (i6 0)),qM 57 56,og 58 57 true (.ld (some 4) (.t 3)),og 59 57 true (.ca .pure false (.f UP) [.t 58,.k (.bool false),.k (.bool false),.k (.bool false)]),oo 60 (.pk (.t 57) (.t 59) (.k (.bool false))),qM 4 60]) (.rt))))) }
theorem ZBB:Zk Ucb Zgp ZlG=true:=by kernel_rfl
def UW:F2 :=
 { nt:=109,res:=[.c 6 (some 7) [0,0,0,0,0,0,0],.t 7 [0]],body:=(.sq (rg [oo 4 (.bt (.t 1)),oo 6 (.al [.int .i64 0,.slice none 0 0,.slice none 0 0,.int .i64 0,.slice none 0 0,.slice none 0 0,.slice none 0 0] []),om 7 (.k (.bool false))]) (.sq (rg [oo 12 (.bd [.int .i64 0,.slice none 0 0,.slice none 0 0,.int .i64 0,.slice none 0 0,.slice none 0 0,.slice none 0 0] [] [(6,1)]),oo 8 (.al [.int .i64 0,.slice none 0 0,.slice none 0 0,.int .i64 0,.slice none 0 0,.slice none 0 0,.slice none 0 0] []),
 Zj (.st 7 (.t 8) (.t 12)),om 9 (.k (.bool true))]) (.sq (.sq (rg [qF 13 0 4,qL 14 13]) (.bl 0 (.sq (rg [oo 18 (.bi .eql 0 (.t 14) (i6 3)),qM 17 18]) (.cd (.t 17) (.rg (some 0) [qM 20 0,qS 21 4 4,qM 22 2,oo 23 (.ia 7 (.t 22) (i6 0)),qF 24 0 23,qS 25 6 24,oo 26 (.ca .pure false (.f Zgx) [.t 20,.t 21,.t 25]),qM 19 26,qE 27 0 19,qE 28 1 19,qF 29 0 8,
 Zj (.s0 6 (.t 29) (.t 27)),qM 9 28]) (.sq (rg [oo 31 (.bi .eql 0 (.t 14) (i6 4)),qM 30 31]) (.cd (.t 30) (.rg (some 0) [qM 33 0,qM 34 2,oo 35 (.ia 7 (.t 34) (i6 0)),qF 36 0 35,qS 37 6 36,qM 38 2,oo 39 (.ia 7 (.t 38) (i6 1)),qF 40 0 39,qS 41 6 40,oo 42 (.ca .pure false (.f ZcT) [.t 33,.t 37,.t 41]),qM 32 42,qE 43 0 32,qE 44 1 32,qF 45 0 8,
 Zj (.s0 6 (.t 45) (.t 43)),qM 9 44]) (.sq (rg [oo 47 (.bi .eql 0 (.t 14) (i6 5)),qM 46 47]) (.cd (.t 46) (.rg (some 0) [qM 49 0,qM 50 2,oo 51 (.ia 7 (.t 50) (i6 0)),qF 52 0 51,qS 53 6 52,qM 54 2,oo 55 (.ia 7 (.t 54) (i6 1)),qF 56 0 55,qS 57 6 56,oo 58 (.ca .pure false (.f ZcU) [.t 49,.t 53,.t 57]),qM 48 58,qE 59 0 48,qE 60 1 48,qF 61 0 8,
 Zj (.s0 6 (.t 61) (.t 59)),qM 9 60]) (.sq (rg [oo 63 (.bi .eql 0 (.t 14) (i6 6)),qM 62 63]) (.cd (.t 62) (.rg (some 0) [qM 65 0,qM 66 2,oo 67 (.ia 7 (.t 66) (i6 0)),qF 68 0 67,qS 69 6 68,qF 70 3 4,qL 71 70,oo 72 (.ia 1 (.t 71) (i6 0)),qL 73 72,oo 74 (.ca .pure false (.f Zgy) [.t 65,.t 69,.t 73]),qM 64 74,qE 75 0 64,qE 76 1 64,qF 77 0 8,
 Zj (.s0 6 (.t 77) (.t 75)),qM 9 76]) (.sq (rg [oo 79 (.bi .eql 0 (.t 14) (i6 7)),qM 78 79]) (.cd (.t 78) (.rg (some 0) [qM 81 0,qM 82 2,oo 83 (.ia 7 (.t 82) (i6 0)),qF 84 0 83,qS 85 6 84,qF 86 3 4,qL 87 86,oo 88 (.ia 1 (.t 87) (i6 0)),qL 89 88,oo 90 (.ca .pure false (.f Zgz) [.t 81,.t 85,.t 89]),qM 80 90,qE 91 0 80,qE 92 1 80,qF 93 0 8,
 Zj (.s0 6 (.t 93) (.t 91)),qM 9 92]) (.sq (rg [qS 15 4 4,oo 16 (.ca .pure false (.f ZgA) [.t 15]),
 Zj (.st 7 (.t 6) (.t 16)),om 7 (.k (.bool true))]) (.rt)))))))))))))) (.sq (.sq (rg [qM 94 2,qN 95 94,om 96 (i6 0)]) (.bl 1 (.lp [6,8,9,94,95,96] [192,256,384,3328] (.sq (rg [qB 97 .lss 96 95]) (.sq (.cd (.t 97) (.sk) (.ex 1)) (.sq (.bl 2 (.sq (rg [qI 98 7 94 96,qS 99 7 98,oo 11 (.al [.int .i64 0,.slice none 0 0,.slice none 0 0,.int .i64 0,.slice none 0 0,.slice none 0 0,.slice none 0 0] []),
 Zj (.st 7 (.t 11) (.t 99))])
 (rg [qF 100 6 8,qL 101 100,qF 102 6 11,qL 103 102,oo 104 (.ap 1 0 (.t 101) (.t 103)),qF 105 6 8,
 Zj (.st 1 (.t 105) (.t 104))])))
 (rg [oo 106 (.bi .add 0 (.t 96) (i6 1)),qM 96 106]))))))) (.sq (rg [qS 107 7 8,qM 108 9,
 Zj (.st 7 (.t 6) (.t 107)),qM 7 108]) (.rt)))))) }
theorem ZBC:Zk Ucb Zgq UW=true:=by kernel_rfl
def ZlH:F2 :=
 { nt:=8,res:=[.t 2 [2]],body:=(.sq (rg [om 2 (.k (.slice none 0 0))]) (.sq (.sq (rg [qM 3 0,oo 4 (.nl false (.t 3))]) (.cd (.t 4) (.sq (rg [om 2 (.k (.slice none 0 0))]) (.rt)) (.sk))) (.sq (rg [oo 5 (.bs 1 0 [] []),qM 6 0,oo 7 (.ap 1 0 (.t 5) (.t 6)),qM 2 7]) (.rt)))) }
theorem ZBD:Zk Ucb DI ZlH=true:=by kernel_rfl
def ZlI:F2 :=
 { nt:=11,res:=[],body:=(.sq (rg [qM 3 0,qN 4 3,qM 2 4])
 (rg [qM 5 0,qM 6 2,qM 7 2,oo 8 (.cv (.int .u64) (.t 7)),oo 9 (.ca .pure false (.f Za5) [.t 8]),oo 10 (.ca .any false (.f Za4) [.t 5,i6 0,.t 6,.t 9])])) }
theorem ZBE:Zk Ucb Zgr ZlI=true:=by kernel_rfl
def ZlJ:F2 :=
 { nt:=8,res:=[.t 2 [3]],body:=(.sq (rg [om 2 (.k (.slice none 0 0))]) (.sq (.sq (rg [qM 3 0,oo 4 (.nl false (.t 3))]) (.cd (.t 4) (.sq (rg [om 2 (.k (.slice none 0 0))]) (.rt)) (.sk))) (.sq (rg [oo 5 (.bs 2 0 [] []),qM 6 0,oo 7 (.ap 2 0 (.t 5) (.t 6)),qM 2 7]) (.rt)))) }
theorem ZBF:Zk Ucb Zgs ZlJ=true:=by kernel_rfl
def ZlK:F2 :=
 { nt:=16,res:=[.t 2 [0]],body:=(.sq (rg [om 2 (.k (.bool false))]) (.sq (.sq (rg [om 3 (i6 0)]) (.bl 0 (.lp [0,3] [] (.sq (.sq (rg [qM 4 3,qM 5 0,qN 6 5,qB 7 .lss 4 6]) (.cd (.t 7) (.sk) (.ex 0))) (.sq (.bl 1 (.sq (rg [qM 10 0,qM 11 3,qI 12 1 10 11,qL 13 12,oo 14 (.ca .pure false (.f Za1) [.t 13]),oo 15 (.nt (.t 14))]) (.cd (.t 15) (.sq (rg [om 2 (.k (.bool false))]) (.rt)) (.sk))))
 (rg [qM 8 3,oo 9 (.bi .add 0 (.t 8) (i6 1)),qM 3 9])))))) (.sq (rg [om 2 (.k (.bool true))]) (.rt)))) }
theorem ZBG:Zk Ucb ZcP ZlK=true:=by kernel_rfl
def Zdm:F2 :=
 { nt:=19,res:=[.c 2 (some 7) [0,0,0,0,0,0,0]],body:=(.sq (rg [oo 1 (.bt (.t 0)),oo 2 (.al [.int .i64 0,.slice none 0 0,.slice none 0 0,.int .i64 0,.slice none 0 0,.slice none 0 0,.slice none 0 0] [])]) (.sq (.sq (rg [qF 3 0 1,qL 4 3]) (.bl 0 (.sq (rg [oo 6 (.bi .eql 0 (.t 4) (i6 0)),qM 5 6]) (.cd (.t 5) (.sq (rg [oo 7 (.bd [.int .i64 0,.slice none 0 0,.slice none 0 0,.int .i64 0,.slice none 0 0,.slice none 0 0] [] []),oo 8 (.bd [.int .i64 0,.slice none 0 0,.slice none 0 0,.int .i64 0,.slice none 0 0,.slice none 0 0,.slice none 0 0] [(0,6,.t 7)] []),
 Zj (.st 7 (.t 2) (.t 8))]) (.rt)) (.sq (rg [oo 10 (.bi .eql 0 (.t 4) (i6 1)),qM 9 10]) (.cd (.t 9) (.sq (rg [oo 11 (.bd [.int .i64 0,.slice none 0 0,.slice none 0 0,.int .i64 0,.slice none 0 0,.slice none 0 0] [(0,1,i6 1)] []),oo 12 (.bd [.int .i64 0,.slice none 0 0,.slice none 0 0,.int .i64 0,.slice none 0 0,.slice none 0 0,.slice none 0 0] [(0,6,.t 11)] []),
 Zj (.st 7 (.t 2) (.t 12))]) (.rt)) (.sk))))))) (.sq (rg [oo 13 (.bs 1 1 [.int .i64 0] [(0,i6 (-1))]),oo 14 (.bd [.int .i64 0,.slice none 0 0,.slice none 0 0,.int .i64 0,.slice none 0 0,.slice none 0 0] [(0,1,i6 1),(2,1,.t 13)] []),qF 15 2 1,qL 16 15,oo 17 (.bs 1 1 [.int .i64 0] [(0,.t 16)]),oo 18 (.bd [.int .i64 0,.slice none 0 0,.slice none 0 0,.int .i64 0,.slice none 0 0,.slice none 0 0,.slice none 0 0] [(0,6,.t 14),(6,1,.t 17)] []),
 Zj (.st 7 (.t 2) (.t 18))]) (.rt)))) }
theorem ZBH:Zk Ucb Zgt Zdm=true:=by kernel_rfl
def ZlL:F2 :=
 { nt:=63,res:=[.c 6 (some 7) [0,0,0,0,0,0,0],.t 7 [0]],body:=(.sq (rg [oo 4 (.bt (.t 1)),oo 5 (.bt (.t 2)),oo 6 (.al [.int .i64 0,.slice none 0 0,.slice none 0 0,.int .i64 0,.slice none 0 0,.slice none 0 0,.slice none 0 0] []),om 7 (.k (.bool false))]) (.sq (.sq (rg [qF 10 0 5,qF 11 0 10,qL 12 11,oo 13 (.bi .neq 0 (.t 12) (i6 1)),qM 14 13,og 15 14 false (.mv (.t 0) none),og 16 14 false (.fa 1 (.t 4)),og 17 14 false (.ld none (.t 16)),og 18 14 false (.ia 3 (.t 15) (.t 17)),og 19 14 false (.fa 2 (.t 18)),og 20 14 false (.ld none (.t 19)),og 21 14 false (.bi .eql 0 (.t 20) (i6 2)),og 22 14 false (.mv (.t 21) none),og 23 22 true (.fa 0 (.t 5)),og 24 22 true (.fa 1 (.t 23)),og 25 22 true (.ld none (.t 24)),og 26 22 true (.ln (.t 25)),og 27 22 true (.fa 0 (.t 5)),og 28 22 true (.fa 2 (.t 27)),og 29 22 true (.ld none (.t 28)),og 30 22 true (.ln (.t 29)),og 31 22 true (.bi .add 0 (.t 26) (.t 30)),og 32 22 true (.bi .gtr 0 (.t 31) (i6 0)),og 33 14 false (.pk (.t 22) (.t 32) (.k (.bool false))),oo 34 (.pk (.t 14) (.k (.bool true)) (.t 33))]) (.cd (.t 34) (.sq (rg [oo 35 (.bd [.int .i64 0,.slice none 0 0,.slice none 0 0,.int .i64 0,.slice none 0 0,.slice none 0 0,.slice none 0 0] [] []),
 Zj (.st 7 (.t 6) (.t 35)),om 7 (.k (.bool false))]) (.rt)) (.sk))) (.sq (rg [qF 36 3 4,qL 37 36,oo 38 (.ca .pure true (.f DJ) [.t 37]),oo 39 (.bd [.int .i64 0,.slice none 0 0,.slice none 0 0,.int .i64 0,.slice none 0 0,.slice none 0 0] [(0,1,i6 1),(4,1,.t 38)] []),oo 8 (.al [.int .i64 0,.slice none 0 0,.slice none 0 0,.int .i64 0,.slice none 0 0,.slice none 0 0] []),
 Zj (.st 6 (.t 8) (.t 39))]) (.sq (.rg (some 0) [qF 40 1 4,qL 41 40,qF 42 3 4,qL 43 42,qF 44 4 8,qL 45 44,oo 46 (.ca .pure true (.f UQ) [.t 43,i6 0,.t 45]),oo 47 (.bd [.int .i64 0,.int .i64 0,.slice none 0 0] [(0,1,.t 41),(1,1,i6 (-1)),(2,1,.t 46)] []),oo 48 (.bw 3 1 [.int .i64 0,.int .i64 0,.slice none 0 0] [(0,.t 47)]),qF 49 1 8,
 Zj (.st 1 (.t 49) (.t 48))]) (.sq (rg [oo 50 (.bs 1 1 [.int .i64 0] [(0,i6 0)]),qF 51 2 8,
 Zj (.st 1 (.t 51) (.t 50))]) (.sq (rg [oo 52 (.lz 6 (.t 8)),qF 53 0 5,qS 54 6 53,oo 55 (.ca .pure false (.f ZgB) [.t 52,.t 54]),oo 9 (.al [.int .i64 0,.slice none 0 0,.slice none 0 0,.int .i64 0,.slice none 0 0,.slice none 0 0] []),
 Zj (.st 6 (.t 9) (.t 55))]) (.sq (.rg (some 0) [qS 56 6 9,qF 57 6 5,qL 58 57,oo 59 (.bd [.int .i64 0,.slice none 0 0,.slice none 0 0,.int .i64 0,.slice none 0 0,.slice none 0 0,.slice none 0 0] [(0,6,.t 56),(6,1,.t 58)] []),qM 60 0,qS 61 6 9,oo 62 (.ca .pure false (.f UR) [.t 60,.t 61]),
 Zj (.st 7 (.t 6) (.t 59)),qM 7 62]) (.rt)))))))) }
theorem ZBI:Zk Ucb Zgu ZlL=true:=by kernel_rfl
def Zbe:F2 :=
 { nt:=47,res:=[.c 6 (some 7) [0,0,0,0,0,0,0],.t 7 [0]],body:=(.sq (rg [oo 4 (.bt (.t 1)),oo 5 (.bt (.t 2)),oo 6 (.al [.int .i64 0,.slice none 0 0,.slice none 0 0,.int .i64 0,.slice none 0 0,.slice none 0 0,.slice none 0 0] []),om 7 (.k (.bool false))]) (.sq (.sq (rg [qF 12 0 4,qL 13 12,oo 14 (.bi .eql 0 (.t 13) (i6 6))]) (.cd (.t 14) (.sq (.rg (some 0) [qM 16 0,qF 17 0 5,qS 18 6 17,qF 19 3 4,qL 20 19,oo 21 (.ia 1 (.t 20) (i6 0)),qL 22 21,oo 23 (.ca .pure false (.f DK) [.t 16,.t 18,.t 22]),qM 15 23,qE 24 0 15,qE 25 1 15,oo 8 (.al [.int .i64 0,.slice none 0 0,.slice none 0 0,.int .i64 0,.slice none 0 0,.slice none 0 0] []),
 Zj (.s0 6 (.t 8) (.t 24)),qM 9 25]) (.sq (rg [qS 26 6 8,qF 27 6 5,qL 28 27,oo 29 (.bd [.int .i64 0,.slice none 0 0,.slice none 0 0,.int .i64 0,.slice none 0 0,.slice none 0 0,.slice none 0 0] [(0,6,.t 26),(6,1,.t 28)] []),qM 30 9,
 Zj (.st 7 (.t 6) (.t 29)),qM 7 30]) (.rt))) (.sk))) (.sq (.rg (some 0) [qM 32 0,qF 33 0 5,qS 34 6 33,qF 35 3 4,qL 36 35,oo 37 (.ia 1 (.t 36) (i6 0)),qL 38 37,oo 39 (.ca .pure false (.f ZgC) [.t 32,.t 34,.t 38]),qM 31 39,qE 40 0 31,qE 41 1 31,oo 10 (.al [.int .i64 0,.slice none 0 0,.slice none 0 0,.int .i64 0,.slice none 0 0,.slice none 0 0] []),
 Zj (.s0 6 (.t 10) (.t 40)),qM 11 41]) (.sq (rg [qS 42 6 10,qF 43 6 5,qL 44 43,oo 45 (.bd [.int .i64 0,.slice none 0 0,.slice none 0 0,.int .i64 0,.slice none 0 0,.slice none 0 0,.slice none 0 0] [(0,6,.t 42),(6,1,.t 44)] []),qM 46 11,
 Zj (.st 7 (.t 6) (.t 45)),qM 7 46]) (.rt))))) }
theorem Zdn:Zk Ucb Zgv Zbe=true:=by kernel_rfl
def ZlM:F2 :=
 { nt:=34,res:=[.c 8 (some 7) [0,0,0,0,0,0,0],.t 9 [0]],body:=(.sq (rg [oo 5 (.bt (.t 1)),oo 6 (.bt (.t 2)),oo 7 (.bt (.t 3)),oo 8 (.al [.int .i64 0,.slice none 0 0,.slice none 0 0,.int .i64 0,.slice none 0 0,.slice none 0 0,.slice none 0 0] []),om 9 (.k (.bool false))]) (.sq (rg [qF 11 0 6,qS 12 6 11,qF 13 0 7,qS 14 6 13,oo 15 (.ca .pure false (.f ZgD) [.t 12,.t 14]),oo 10 (.al [.int .i64 0,.slice none 0 0,.slice none 0 0,.int .i64 0,.slice none 0 0,.slice none 0 0] []),
 Zj (.st 6 (.t 10) (.t 15))]) (.sq (.sq (rg [qM 16 0,qS 17 6 10,oo 18 (.ca .pure false (.f UR) [.t 16,.t 17]),oo 19 (.nt (.t 18))]) (.cd (.t 19) (.sq (rg [oo 20 (.bd [.int .i64 0,.slice none 0 0,.slice none 0 0,.int .i64 0,.slice none 0 0,.slice none 0 0,.slice none 0 0] [] []),
 Zj (.st 7 (.t 8) (.t 20)),om 9 (.k (.bool false))]) (.rt)) (.sk))) (.sq (.sq (rg [qF 21 0 5,qL 22 21,oo 23 (.bi .eql 0 (.t 22) (i6 4))]) (.cd (.t 23) (rg [qS 24 6 10,oo 25 (.ca .pure false (.f ZgE) [.t 24]),
 Zj (.st 6 (.t 10) (.t 25))]) (.sk))) (.sq (.rg (some 0) [oo 26 (.lb (some 6) (.t 10) none),qF 27 6 6,qL 28 27,oo 29 (.ca .pure true (.f ZcL) [.t 28]),qF 30 6 7,qL 31 30,oo 32 (.a0 1 (.t 29) (.t 31)),oo 33 (.bd [.int .i64 0,.slice none 0 0,.slice none 0 0,.int .i64 0,.slice none 0 0,.slice none 0 0,.slice none 0 0] [(0,6,.t 26),(6,1,.t 32)] []),
 Zj (.st 7 (.t 8) (.t 33)),om 9 (.k (.bool true))]) (.rt)))))) }
theorem ZBJ:Zk Ucb Zgw ZlM=true:=by kernel_rfl
def ZlN:F2 :=
 { nt:=16,res:=[.t 6 [0]],body:=(.sq (rg [oo 3 (.bt (.t 0)),om 6 (i6 0)]) (.sq (.sq (rg [qM 7 1,qF 8 3 3,qL 9 8,qB 10 .geq 7 9]) (.cd (.t 10) (.sq (rg [qM 11 1,qM 6 11]) (.rt)) (.sk))) (.sq (rg [qM 12 2,qM 13 1,qI 14 1 12 13,qL 15 14,qM 6 15]) (.rt)))) }
theorem ZBK:Zk Ucb ZcQ ZlN=true:=by kernel_rfl
def ZlO:F2 :=
 { nt:=12,res:=[.t 4 [0]],body:=(.sq (rg [om 4 (i6 0)]) (.sq (.sq (rg [qM 5 0,oo 6 (.bi .lss 0 (.t 5) (i6 0))]) (.cd (.t 6) (.sq (rg [qM 7 0,qM 4 7]) (.rt)) (.sk))) (.sq (rg [qM 8 1,qM 9 0,qI 10 1 8 9,qL 11 10,qM 4 11]) (.rt)))) }
theorem ZBL:Zk Ucb ZcR ZlO=true:=by kernel_rfl
def ZlP:F2 :=
 { nt:=6,res:=[.t 2 [0]],body:=(.sq (rg [om 2 (.k (.bool false))]) (.sq (rg [qM 3 0,oo 4 (.ca .pure false (.f UO) [.t 3]),oo 5 (.nt (.t 4)),qM 2 5]) (.rt))) }
theorem ZBM:Zk Ucb ZcS ZlP=true:=by kernel_rfl
def ZlQ:F2 :=
 { nt:=32,res:=[.t 8 [0]],body:=(.sq (rg [oo 4 (.bt (.t 0)),om 8 (.k (.bool false))]) (.sq (rg [qM 9 1,qM 10 9,og 11 10 false (.fa 1 (.t 4)),og 12 10 false (.ld none (.t 11)),og 13 10 false (.bi .eql 0 (.t 12) (i6 0)),oo 14 (.pk (.t 10) (.k (.bool true)) (.t 13)),qM 15 14,og 16 15 true (.mv (.t 2) none),og 17 15 true (.mv (.t 16) none),og 18 17 false (.fa 2 (.t 4)),og 19 17 false (.ld none (.t 18)),og 20 17 false (.bi .eql 0 (.t 19) (i6 0)),og 21 15 true (.pk (.t 17) (.k (.bool true)) (.t 20)),oo 22 (.pk (.t 15) (.t 21) (.k (.bool false))),qM 23 22,og 24 23 true (.mv (.t 3) none),og 25 23 true (.mv (.t 24) none),og 26 25 false (.fa 3 (.t 4)),og 27 25 false (.ld none (.t 26)),og 28 25 false (.ln (.t 27)),og 29 25 false (.bi .eql 0 (.t 28) (i6 0)),og 30 23 true (.pk (.t 25) (.k (.bool true)) (.t 29)),oo 31 (.pk (.t 23) (.t 30) (.k (.bool false))),qM 8 31]) (.rt))) }
theorem ZBN:Zk Ucb UP ZlQ=true:=by kernel_rfl
def ZlR:F2 :=
 { nt:=62,res:=[.c 6 (some 6) [0,4,2,0,2,3],.t 7 [0]],body:=(.sq (rg [oo 4 (.bt (.t 1)),oo 5 (.bt (.t 2)),oo 6 (.al [.int .i64 0,.slice none 0 0,.slice none 0 0,.int .i64 0,.slice none 0 0,.slice none 0 0] []),om 7 (.k (.bool false))]) (.sq (.sq (rg [qF 12 0 5,qL 13 12,oo 14 (.bi .neq 0 (.t 13) (i6 1))]) (.cd (.t 14) (.sq (rg [oo 15 (.bd [.int .i64 0,.slice none 0 0,.slice none 0 0,.int .i64 0,.slice none 0 0,.slice none 0 0] [] []),
 Zj (.st 6 (.t 6) (.t 15)),om 7 (.k (.bool false))]) (.rt)) (.sk))) (.sq (.sq (rg [qM 16 0,qF 17 1 4,qL 18 17,qI 19 3 16 18,qF 20 2 19,qL 21 20,oo 22 (.bi .neq 0 (.t 21) (i6 2))]) (.cd (.t 22) (.sq (rg [qM 24 0,qF 25 1 4,qL 26 25,qF 27 3 4,qL 28 27,oo 29 (.ca .pure true (.f ZgF) [.t 24,.t 26,.t 28]),qM 23 29,qE 30 0 23,qE 31 1 23,oo 8 (.al [.int .i64 0,.slice none 0 0,.slice none 0 0,.int .i64 0,.slice none 0 0,.slice none 0 0] []),
 Zj (.st 6 (.t 8) (.t 30)),qM 9 31]) (.sq (rg [qM 32 0,qS 33 6 8,qS 34 6 5,oo 35 (.ca .pure true (.f ZgG) [.t 32,.t 33,.t 34]),qE 36 0 35,qE 37 1 35,
 Zj (.st 6 (.t 6) (.t 36)),qM 7 37]) (.rt))) (.sk))) (.sq (.sq (rg [qF 38 1 5,qL 39 38,qN 40 39,qF 41 2 5,qL 42 41,qN 43 42,qB 44 .add 40 43,oo 45 (.bi .gtr 0 (.t 44) (i6 0))]) (.cd (.t 45) (.sq (rg [oo 46 (.bd [.int .i64 0,.slice none 0 0,.slice none 0 0,.int .i64 0,.slice none 0 0,.slice none 0 0] [] []),
 Zj (.st 6 (.t 6) (.t 46)),om 7 (.k (.bool false))]) (.rt)) (.sk))) (.sq (rg [qM 48 0,qF 49 1 4,qL 50 49,qF 51 3 4,qL 52 51,oo 53 (.ca .pure true (.f ZgH) [.t 48,.t 50,.t 52]),qM 47 53,qE 54 0 47,qE 55 1 47,oo 10 (.al [.int .i64 0,.slice none 0 0,.slice none 0 0,.int .i64 0,.slice none 0 0,.slice none 0 0] []),
 Zj (.st 6 (.t 10) (.t 54)),qM 11 55]) (.sq (rg [qM 56 0,qS 57 6 10,qS 58 6 5,oo 59 (.ca .pure true (.f ZcT) [.t 56,.t 57,.t 58]),qE 60 0 59,qE 61 1 59,
 Zj (.st 6 (.t 6) (.t 60)),qM 7 61]) (.rt))))))) }
theorem ZBO:Zk Ucb Zgx ZlR=true:=by kernel_rfl
def ZlS:F2 :=
 { nt:=22,res:=[.c 6 (some 6) [0,4,2,0,2,3],.t 7 [0]],body:=(.sq (rg [oo 4 (.bt (.t 1)),oo 5 (.bt (.t 2)),oo 6 (.al [.int .i64 0,.slice none 0 0,.slice none 0 0,.int .i64 0,.slice none 0 0,.slice none 0 0] []),om 7 (.k (.bool false))]) (.sq (rg [qM 11 0,qS 12 6 4,qS 13 6 5,oo 14 (.ca .pure true (.f ZcU) [.t 11,.t 12,.t 13]),qM 10 14,qE 15 0 10,qE 16 1 10,oo 8 (.al [.int .i64 0,.slice none 0 0,.slice none 0 0,.int .i64 0,.slice none 0 0,.slice none 0 0] []),
 Zj (.st 6 (.t 8) (.t 15)),qM 9 16]) (.sq (.sq (rg [qM 17 9,oo 18 (.nt (.t 17))]) (.cd (.t 18) (.sq (rg [oo 19 (.bd [.int .i64 0,.slice none 0 0,.slice none 0 0,.int .i64 0,.slice none 0 0,.slice none 0 0] [] []),
 Zj (.st 6 (.t 6) (.t 19)),om 7 (.k (.bool false))]) (.rt)) (.sk))) (.sq (rg [qS 20 6 8,oo 21 (.ca .pure true (.f ZgI) [.t 20]),
 Zj (.st 6 (.t 6) (.t 21)),om 7 (.k (.bool true))]) (.rt))))) }
theorem ZBP:Zk Ucb ZcT ZlS=true:=by kernel_rfl
def ZlT:F2 :=
 { nt:=33,res:=[.c 6 (some 6) [0,4,2,0,2,3],.t 7 [0]],body:=(.sq (rg [oo 4 (.bt (.t 1)),oo 5 (.bt (.t 2)),oo 6 (.al [.int .i64 0,.slice none 0 0,.slice none 0 0,.int .i64 0,.slice none 0 0,.slice none 0 0] []),om 7 (.k (.bool false))]) (.sq (.sq (.rg (some 0) [qM 8 0,qS 9 6 4,oo 10 (.ca .pure false (.f Wq) [.t 8,.t 9]),oo 11 (.nt (.t 10)),qM 12 11,og 13 12 false (.mv (.t 0) none),og 14 12 false (.ld (some 6) (.t 5)),og 15 12 false (.ca .pure false (.f Wq) [.t 13,.t 14]),og 16 12 false (.nt (.t 15)),oo 17 (.pk (.t 12) (.k (.bool true)) (.t 16)),qM 18 17,og 19 18 false (.ld (some 6) (.t 4)),og 20 18 false (.ca .pure false (.f Za6) [.t 19]),og 21 18 false (.ld (some 6) (.t 5)),og 22 18 false (.ca .pure false (.f Za6) [.t 21]),og 23 18 false (.ca .pure false (.f ZgJ) [.t 20,.t 22]),oo 24 (.pk (.t 18) (.k (.bool true)) (.t 23))]) (.cd (.t 24) (.sq (rg [oo 25 (.bd [.int .i64 0,.slice none 0 0,.slice none 0 0,.int .i64 0,.slice none 0 0,.slice none 0 0] [] []),
 Zj (.st 6 (.t 6) (.t 25)),om 7 (.k (.bool false))]) (.rt)) (.sk))) (.sq (rg [qM 26 0,qS 27 6 4,qS 28 6 5,oo 29 (.ca .pure false (.f ZgK) [.t 27,.t 28]),oo 30 (.ca .pure true (.f DL) [.t 26,.t 29]),qE 31 0 30,qE 32 1 30,
 Zj (.st 6 (.t 6) (.t 31)),qM 7 32]) (.rt)))) }
theorem ZBQ:Zk Ucb ZcU ZlT=true:=by kernel_rfl
def ZlU:F2 :=
 { nt:=27,res:=[.c 6 (some 6) [0,4,2,0,2,3],.t 7 [0]],body:=(.sq (rg [oo 4 (.bt (.t 1)),oo 6 (.al [.int .i64 0,.slice none 0 0,.slice none 0 0,.int .i64 0,.slice none 0 0,.slice none 0 0] []),om 7 (.k (.bool false))]) (.sq (.sq (rg [qM 8 0,qS 9 6 4,oo 10 (.ca .pure false (.f Wq) [.t 8,.t 9]),oo 11 (.nt (.t 10)),qM 12 11,og 13 12 false (.fa 4 (.t 4)),og 14 12 false (.ld none (.t 13)),og 15 12 false (.mv (.t 2) none),og 16 12 false (.ca .pure false (.f UM) [.t 14,.t 15]),og 17 12 false (.nt (.t 16)),oo 18 (.pk (.t 12) (.k (.bool true)) (.t 17))]) (.cd (.t 18) (.sq (rg [oo 19 (.bd [.int .i64 0,.slice none 0 0,.slice none 0 0,.int .i64 0,.slice none 0 0,.slice none 0 0] [] []),
 Zj (.st 6 (.t 6) (.t 19)),om 7 (.k (.bool false))]) (.rt)) (.sk))) (.sq (rg [qM 20 0,qS 21 6 4,qM 22 2,oo 23 (.ca .pure false (.f ZgL) [.t 21,.t 22]),oo 24 (.ca .pure true (.f DL) [.t 20,.t 23]),qE 25 0 24,qE 26 1 24,
 Zj (.st 6 (.t 6) (.t 25)),qM 7 26]) (.rt)))) }
theorem ZBR:Zk Ucb Zgy ZlU=true:=by kernel_rfl
def ZlV:F2 :=
 { nt:=38,res:=[.c 6 (some 6) [0,4,2,0,2,3],.t 7 [0]],body:=(.sq (rg [oo 4 (.bt (.t 1)),oo 6 (.al [.int .i64 0,.slice none 0 0,.slice none 0 0,.int .i64 0,.slice none 0 0,.slice none 0 0] []),om 7 (.k (.bool false))]) (.sq (.sq (rg [qM 8 0,qS 9 6 4,oo 10 (.ca .pure false (.f Wq) [.t 8,.t 9]),oo 11 (.nt (.t 10)),qM 12 11,og 13 12 false (.mv (.t 2) none),og 14 12 false (.ca .pure false (.f UO) [.t 13]),og 15 12 false (.nt (.t 14)),oo 16 (.pk (.t 12) (.k (.bool true)) (.t 15)),qM 17 16,og 18 17 false (.fa 4 (.t 4)),og 19 17 false (.ld none (.t 18)),og 20 17 false (.mv (.t 2) none),og 21 17 false (.ca .pure false (.f UM) [.t 19,.t 20]),oo 22 (.pk (.t 17) (.k (.bool true)) (.t 21))]) (.cd (.t 22) (.sq (rg [oo 23 (.bd [.int .i64 0,.slice none 0 0,.slice none 0 0,.int .i64 0,.slice none 0 0,.slice none 0 0] [] []),
 Zj (.st 6 (.t 6) (.t 23)),om 7 (.k (.bool false))]) (.rt)) (.sk))) (.sq (.rg (some 0) [qM 24 0,oo 25 (.lt (some 6) (.t 4)),qF 26 3 4,oo 27 (.lt none (.t 26)),qF 28 4 4,qL 29 28,oo 30 (.ca .pure true (.f UN) [.t 29]),qM 31 2,oo 32 (.bs 1 1 [.string ⟨#[]⟩] [(0,.t 31)]),oo 33 (.a0 1 (.t 30) (.t 32)),oo 34 (.ca .pure false (.f Wr) [.t 25,.t 27,.t 33,.f ZcW]),oo 35 (.ca .pure true (.f DL) [.t 24,.t 34]),qE 36 0 35,qE 37 1 35,
 Zj (.st 6 (.t 6) (.t 36)),qM 7 37]) (.rt)))) }
theorem ZBS:Zk Ucb Zgz ZlV=true:=by kernel_rfl
def Zdo:F2 :=
 { nt:=18,res:=[.c 2 (some 7) [0,0,0,0,0,0,0]],body:=(.sq (rg [oo 1 (.bt (.t 0)),oo 2 (.al [.int .i64 0,.slice none 0 0,.slice none 0 0,.int .i64 0,.slice none 0 0,.slice none 0 0,.slice none 0 0] [])]) (.sq (.sq (rg [qF 3 0 1,qL 4 3]) (.bl 0 (.sq (rg [oo 6 (.bi .eql 0 (.t 4) (i6 1)),qM 5 6]) (.cd (.t 5) (.sq (rg [oo 7 (.bd [.int .i64 0,.slice none 0 0,.slice none 0 0,.int .i64 0,.slice none 0 0,.slice none 0 0] [(0,1,i6 1)] []),oo 8 (.bd [.int .i64 0,.slice none 0 0,.slice none 0 0,.int .i64 0,.slice none 0 0,.slice none 0 0,.slice none 0 0] [(0,6,.t 7)] []),
 Zj (.st 7 (.t 2) (.t 8))]) (.rt)) (.sq (rg [oo 10 (.bi .eql 0 (.t 4) (i6 2)),qM 9 10]) (.cd (.t 9) (.sq (rg [oo 11 (.bs 1 1 [.int .i64 0] [(0,i6 (-1))]),oo 12 (.bd [.int .i64 0,.slice none 0 0,.slice none 0 0,.int .i64 0,.slice none 0 0,.slice none 0 0] [(0,1,i6 1),(2,1,.t 11)] []),qF 13 2 1,qL 14 13,oo 15 (.bs 1 1 [.int .i64 0] [(0,.t 14)]),oo 16 (.bd [.int .i64 0,.slice none 0 0,.slice none 0 0,.int .i64 0,.slice none 0 0,.slice none 0 0,.slice none 0 0] [(0,6,.t 12),(6,1,.t 15)] []),
 Zj (.st 7 (.t 2) (.t 16))]) (.rt)) (.sk))))))) (.sq (rg [oo 17 (.bd [.int .i64 0,.slice none 0 0,.slice none 0 0,.int .i64 0,.slice none 0 0,.slice none 0 0,.slice none 0 0] [] []),
 Zj (.st 7 (.t 2) (.t 17))]) (.rt)))) }
theorem ZBT:Zk Ucb ZgA Zdo=true:=by kernel_rfl
def ZlW:F2 :=
 { nt:=134,res:=[],body:=(.sq (rg [om 8 (.k (.bool true))]) (.sq (rg [om 9 (.k (.bool true))]) (.bl 0 (.lp [0,1,2,3,8,9] [] (.bl 1 (.sq (rg [qM 19 2,qM 20 1,qB 21 .sub 19 20,qM 10 21]) (.sq (.sq (rg [qM 22 10,oo 23 (.bi .leq 0 (.t 22) (i6 12))]) (.cd (.t 23) (.sq (rg [qM 24 0,qM 25 1,qM 26 2,oo 27 (.ca .any false (.f ZgM) [.t 24,.t 25,.t 26])]) (.rt)) (.sk))) (.sq (.sq (rg [qM 28 3,oo 29 (.bi .eql 0 (.t 28) (i6 0))]) (.cd (.t 29) (.sq (rg [qM 30 0,qM 31 1,qM 32 2,oo 33 (.ca .pure false (.f ZAE) [.t 30,.t 31,.t 32])]) (.rt)) (.sk))) (.sq (.sq (rg [qM 34 8,oo 35 (.nt (.t 34))]) (.cd (.t 35) (.sq (rg [qM 36 0,qM 37 1,qM 38 2,oo 39 (.ca .pure false (.f ZAF) [.t 36,.t 37,.t 38])])
 (rg [qM 40 3,oo 41 (.bi .sub 0 (.t 40) (i6 1)),qM 3 41])) (.sk))) (.sq (rg [qM 43 0,qM 44 1,qM 45 2,oo 46 (.ca .pure false (.f ZAG) [.t 43,.t 44,.t 45]),qM 42 46,qE 47 0 42,qE 48 1 42,qM 11 47,qM 12 48]) (.sq (.sq (rg [qM 49 12,oo 50 (.bi .eql 0 (.t 49) (i6 2))]) (.cd (.t 50) (.sq (rg [qM 51 0,qM 52 1,qM 53 2,oo 54 (.ca .pure false (.f ZAH) [.t 51,.t 52,.t 53])]) (.sq (rg [qM 55 2,oo 56 (.bi .sub 0 (.t 55) (i6 1)),qM 57 11,qM 58 1,qB 59 .sub 57 58,qB 60 .sub 56 59,qM 11 60])
 (rg [om 12 (i6 1)]))) (.sk))) (.sq (.sq (rg [qM 61 8,qM 62 61,og 63 62 true (.mv (.t 9) none),oo 64 (.pk (.t 62) (.t 63) (.k (.bool false))),qM 65 64,og 66 65 true (.mv (.t 12) none),og 67 65 true (.bi .eql 0 (.t 66) (i6 1)),oo 68 (.pk (.t 65) (.t 67) (.k (.bool false)))]) (.cd (.t 68) (.sq (rg [qM 69 0,qM 70 1,qM 71 2,oo 72 (.ca .pure false (.f ZAI) [.t 69,.t 70,.t 71])]) (.cd (.t 72) (.rt) (.sk))) (.sk))) (.sq (.sq (.rg (some 0) [qM 73 1,oo 74 (.bi .gtr 0 (.t 73) (i6 0)),qM 75 74,og 76 75 true (.mv (.t 0) none),og 77 75 true (.mv (.t 1) none),og 78 75 true (.bi .sub 0 (.t 77) (i6 1)),og 79 75 true (.ia 1 (.t 76) (.t 78)),og 80 75 true (.ld none (.t 79)),og 81 75 true (.mv (.t 0) none),og 82 75 true (.mv (.t 11) none),og 83 75 true (.ia 1 (.t 81) (.t 82)),og 84 75 true (.ld none (.t 83)),og 85 75 true (.ca .pure false (.f ZcX) [.t 80,.t 84]),og 86 75 true (.nt (.t 85)),oo 87 (.pk (.t 75) (.t 86) (.k (.bool false)))]) (.cd (.t 87) (.sq (rg [qM 88 0,qM 89 1,qM 90 2,qM 91 11,oo 92 (.ca .pure false (.f ZAJ) [.t 88,.t 89,.t 90,.t 91]),qM 13 92]) (.sq (rg [qM 93 13,qM 1 93]) (.ex 1))) (.sk))) (.sq (rg [qM 95 0,qM 96 1,qM 97 2,qM 98 11,oo 99 (.ca .pure false (.f ZAK) [.t 95,.t 96,.t 97,.t 98]),qM 94 99,qE 100 0 94,qE 101 1 94,qM 14 100,qM 15 101]) (.sq (rg [qM 102 15,qM 9 102]) (.sq (rg [qM 103 14,qM 104 1,qB 105 .sub 103 104,qM 106 2,qM 107 14,qB 108 .sub 106 107,qM 16 105,qM 17 108]) (.sq (rg [qM 109 10,oo 110 (.bi .quo 0 (.t 109) (i6 8)),qM 18 110]) (.sq (rg [qM 111 16,qM 112 17,qB 113 .lss 111 112]) (.cd (.t 113) (.sq (rg [qM 114 16,qM 115 18,qB 116 .geq 114 115,qM 8 116]) (.sq (rg [qM 117 0,qM 118 1,qM 119 14,qM 120 3,oo 121 (.ca .any false (.f Za4) [.t 117,.t 118,.t 119,.t 120])])
 (rg [qM 122 14,oo 123 (.bi .add 0 (.t 122) (i6 1)),qM 1 123]))) (.sq (rg [qM 124 17,qM 125 18,qB 126 .geq 124 125,qM 8 126]) (.sq (rg [qM 127 0,qM 128 14,oo 129 (.bi .add 0 (.t 128) (i6 1)),qM 130 2,qM 131 3,oo 132 (.ca .any false (.f Za4) [.t 127,.t 129,.t 130,.t 131])])
 (rg [qM 133 14,qM 2 133])))))))))))))))))))))) }
theorem ZBU:Zk Ucb Za4 ZlW=true:=by kernel_rfl
def ZlX:F2 :=
 { nt:=8,res:=[.t 2 [0]],body:=(.sq (rg [om 2 (i6 0)]) (.sq (.cd (.k (.bool false)) (.sq (rg [qM 3 0,oo 4 (.cv (.int .u32) (.t 3)),oo 5 (.ca .pure false (.f ZAL) [.t 4]),qM 2 5]) (.rt)) (.sk)) (.sq (rg [qM 6 0,oo 7 (.ca .pure false (.f ZgN) [.t 6]),qM 2 7]) (.rt)))) }
theorem ZBV:Zk Ucb Za5 ZlX=true:=by kernel_rfl
def ZlY:F2 :=
 { nt:=61,res:=[.t 2 [2]],body:=(.sq (rg [om 2 (.k (.slice none 0 0))]) (.sq (rg [oo 6 (.bs 1 0 [] []),oo 3 (.rk (.t 6))]) (.sq (.sq (rg [om 4 (i6 0)]) (.bl 0 (.lp [0,3,4] [96] (.sq (.sq (rg [qM 7 4,qM 8 0,qN 9 8,qB 10 .lss 7 9]) (.cd (.t 10) (.sk) (.ex 0))) (.sq (.bl 1 (.sq (rg [om 5 (i6 0)]) (.sq (.bl 2 (.lp [0,3,4,5] [96] (.sq (.sq (.rg (some 0) [qM 13 5,qM 14 3,qN 15 14,qB 16 .lss 13 15,qM 17 16,og 18 17 true (.mv (.t 3) none),og 19 17 true (.mv (.t 5) none),og 20 17 true (.ia 1 (.t 18) (.t 19)),og 21 17 true (.ld none (.t 20)),og 22 17 true (.mv (.t 0) none),og 23 17 true (.mv (.t 4) none),og 24 17 true (.ia 1 (.t 22) (.t 23)),og 25 17 true (.ld none (.t 24)),og 26 17 true (.bi .lss 0 (.t 21) (.t 25)),oo 27 (.pk (.t 17) (.t 26) (.k (.bool false)))]) (.cd (.t 27) (.sk) (.ex 2))) (.bl 3 (rg [qM 28 5,oo 29 (.bi .add 0 (.t 28) (i6 1)),qM 5 29]))))) (.sq (.rg (some 0) [qM 30 5,qM 31 3,qN 32 31,qB 33 .eql 30 32,qM 34 33,og 35 34 false (.mv (.t 3) none),og 36 34 false (.mv (.t 5) none),og 37 34 false (.ia 1 (.t 35) (.t 36)),og 38 34 false (.ld none (.t 37)),og 39 34 false (.mv (.t 0) none),og 40 34 false (.mv (.t 4) none),og 41 34 false (.ia 1 (.t 39) (.t 40)),og 42 34 false (.ld none (.t 41)),og 43 34 false (.bi .neq 0 (.t 38) (.t 42)),oo 44 (.pk (.t 34) (.k (.bool true)) (.t 43))]) (.cd (.t 44) (.rg (some 0) [oo 45 (.bs 1 0 [] []),qM 46 3,qM 47 5,oo 48 (.sx 1 (.t 46) none (some (.t 47)) none),oo 49 (.a0 1 (.t 45) (.t 48)),qM 50 0,qM 51 4,oo 52 (.it 1 (.t 50) (.t 51)),oo 53 (.lt none (.t 52)),oo 54 (.bs 1 1 [.string ⟨#[]⟩] [(0,.t 53)]),oo 55 (.a0 1 (.t 49) (.t 54)),qM 56 3,qM 57 5,oo 58 (.sw 1 (.t 56) (some (.t 57)) none none),oo 59 (.ap 1 0 (.t 55) (.t 58)),oo 3 (.rk (.t 59))]) (.sk))))))
 (rg [qM 11 4,oo 12 (.bi .add 0 (.t 11) (i6 1)),qM 4 12])))))) (.sq (rg [qM 60 3,qM 2 60]) (.rt))))) }
theorem ZBW:Zk Ucb DJ ZlY=true:=by kernel_rfl
def ZlZ:F2 :=
 { nt:=28,res:=[.t 6 [2]],body:=(.sq (rg [om 6 (.k (.slice none 0 0))]) (.sq (rg [oo 9 (.bs 1 0 [] []),qM 7 9]) (.sq (.sq (rg [om 8 (i6 0)]) (.bl 0 (.lp [0,1,2,7,8] [288,832] (.sq (.sq (rg [qM 10 8,qM 11 0,qN 12 11,qB 13 .lss 10 12]) (.cd (.t 13) (.sk) (.ex 0))) (.sq (.bl 1 (rg [qM 16 7,qM 17 1,qM 18 2,qM 19 0,qM 20 8,qI 21 1 19 20,qL 22 21,oo 23 (.ca .pure false (.f Xx) [.t 18,.t 22]),qB 24 .add 17 23,oo 25 (.bs 1 1 [.int .i64 0] [(0,.t 24)]),oo 26 (.ap 1 0 (.t 16) (.t 25)),qM 7 26]))
 (rg [qM 14 8,oo 15 (.bi .add 0 (.t 14) (i6 1)),qM 8 15])))))) (.sq (rg [qM 27 7,qM 6 27]) (.rt))))) }
theorem ZBX:Zk Ucb UQ ZlZ=true:=by kernel_rfl
def Zl0:F2 :=
 { nt:=34,res:=[.c 4 (some 6) [0,4,2,0,2,3]],body:=(.sq (rg [oo 2 (.bt (.t 0)),oo 3 (.bt (.t 1)),oo 4 (.al [.int .i64 0,.slice none 0 0,.slice none 0 0,.int .i64 0,.slice none 0 0,.slice none 0 0] [])]) (.sq (.rg (some 0) [oo 7 (.bs 1 0 [] []),qF 8 4 2,qL 9 8,oo 10 (.a0 1 (.t 7) (.t 9)),qF 11 4 3,oo 12 (.lt none (.t 11)),oo 13 (.a0 1 (.t 10) (.t 12)),oo 14 (.ca .pure false (.f DJ) [.t 13]),qF 15 3 2,oo 16 (.lt none (.t 15)),qF 17 3 3,oo 18 (.lt none (.t 17)),qB 19 .add 16 18,qM 5 14,qM 6 19]) (.sq (.rg (some 0) [qS 20 6 2,qS 21 6 3,qM 22 5,qF 23 4 2,qL 24 23,qM 25 6,qM 26 5,oo 27 (.ca .pure false (.f UQ) [.t 24,.t 25,.t 26]),qF 28 4 3,qL 29 28,qM 30 6,qM 31 5,oo 32 (.ca .pure false (.f UQ) [.t 29,.t 30,.t 31]),oo 33 (.ca .pure true (.f ZgO) [.t 20,.t 21,.t 22,.t 27,.t 32]),
 Zj (.st 6 (.t 4) (.t 33))]) (.rt)))) }
theorem ZBY:Zk Ucb ZgB Zl0=true:=by kernel_rfl
def Zl1:F2 :=
 { nt:=98,res:=[.t 4 [0]],body:=(.sq (rg [oo 3 (.bt (.t 1)),om 4 (.k (.bool false))]) (.sq (.sq (rg [qM 8 0,oo 9 (.ca .pure false (.f ZcJ) [.t 8]),oo 10 (.nt (.t 9)),qM 11 10,og 12 11 false (.fa 0 (.t 3)),og 13 11 false (.ld none (.t 12)),og 14 11 false (.ca .pure false (.f VF) [.t 13,i6 0,i6 4]),og 15 11 false (.nt (.t 14)),oo 16 (.pk (.t 11) (.k (.bool true)) (.t 15)),qM 17 16,og 18 17 false (.fa 1 (.t 3)),og 19 17 false (.ld none (.t 18)),og 20 17 false (.ln (.t 19)),og 21 17 false (.bi .gtr 0 (.t 20) (i6 8)),oo 22 (.pk (.t 17) (.k (.bool true)) (.t 21)),qM 23 22,og 24 23 false (.fa 2 (.t 3)),og 25 23 false (.ld none (.t 24)),og 26 23 false (.ln (.t 25)),og 27 23 false (.bi .gtr 0 (.t 26) (i6 4)),oo 28 (.pk (.t 23) (.k (.bool true)) (.t 27)),qM 29 28,og 30 29 false (.fa 3 (.t 3)),og 31 29 false (.ld none (.t 30)),og 32 29 false (.ca .pure false (.f VF) [.t 31,i6 0,i6 8]),og 33 29 false (.nt (.t 32)),oo 34 (.pk (.t 29) (.k (.bool true)) (.t 33))]) (.cd (.t 34) (.sq (rg [om 4 (.k (.bool false))]) (.rt)) (.sk))) (.sq (.sq (rg [qF 35 4 3,qL 36 35,oo 37 (.ca .pure false (.f ZcY) [.t 36]),oo 38 (.nt (.t 37)),qM 39 38,og 40 39 false (.fa 5 (.t 3)),og 41 39 false (.ld none (.t 40)),og 42 39 false (.ln (.t 41)),og 43 39 false (.bi .gtr 0 (.t 42) (i6 16)),oo 44 (.pk (.t 39) (.k (.bool true)) (.t 43)),qM 45 44,og 46 45 false (.ld (some 6) (.t 3)),og 47 45 false (.ca .pure false (.f ZgP) [.t 46]),og 48 45 false (.ca .pure false (.f ZcY) [.t 47]),og 49 45 false (.nt (.t 48)),oo 50 (.pk (.t 45) (.k (.bool true)) (.t 49))]) (.cd (.t 50) (.sq (rg [om 4 (.k (.bool false))]) (.rt)) (.sk))) (.sq (.sq (rg [om 5 (i6 0)]) (.bl 0 (.lp [0,3,5] [] (.sq (.sq (rg [qM 51 5,qF 52 1 3,qL 53 52,qN 54 53,qB 55 .lss 51 54]) (.cd (.t 55) (.sk) (.ex 0))) (.sq (.bl 1 (.sq (rg [qM 58 0,qS 59 6 3,qM 60 5,oo 61 (.ca .pure false (.f ZgQ) [.t 58,.t 59,.t 60]),oo 62 (.nt (.t 61))]) (.cd (.t 62) (.sq (rg [om 4 (.k (.bool false))]) (.rt)) (.sk))))
 (rg [qM 56 5,oo 57 (.bi .add 0 (.t 56) (i6 1)),qM 5 57])))))) (.sq (.sq (rg [om 6 (i6 0)]) (.bl 2 (.lp [0,3,6] [] (.sq (.sq (rg [qM 63 6,qF 64 2 3,qL 65 64,qN 66 65,qB 67 .lss 63 66]) (.cd (.t 67) (.sk) (.ex 2))) (.sq (.bl 3 (.sq (.rg (some 0) [qM 70 0,qS 71 6 3,qF 72 2 3,qL 73 72,qM 74 6,qI 75 1 73 74,qL 76 75,qF 77 1 3,qL 78 77,qN 79 78,oo 80 (.ca .pure false (.f ZcZ) [.t 70,.t 71,.t 76,.t 79]),oo 81 (.nt (.t 80))]) (.cd (.t 81) (.sq (rg [om 4 (.k (.bool false))]) (.rt)) (.sk))))
 (rg [qM 68 6,oo 69 (.bi .add 0 (.t 68) (i6 1)),qM 6 69])))))) (.sq (.sq (rg [om 7 (i6 0)]) (.bl 4 (.lp [3,7] [] (.sq (.sq (rg [qM 82 7,qF 83 5 3,qL 84 83,qN 85 84,qB 86 .lss 82 85]) (.cd (.t 86) (.sk) (.ex 4))) (.sq (.bl 5 (.sq (.rg (some 0) [qS 89 6 3,qF 90 5 3,qL 91 90,qM 92 7,qI 93 2 91 92,qF 94 1 93,qL 95 94,oo 96 (.ca .pure false (.f Zc0) [.t 89,.t 95]),oo 97 (.nt (.t 96))]) (.cd (.t 97) (.sq (rg [om 4 (.k (.bool false))]) (.rt)) (.sk))))
 (rg [qM 87 7,oo 88 (.bi .add 0 (.t 87) (i6 1)),qM 7 88])))))) (.sq (rg [om 4 (.k (.bool true))]) (.rt)))))))) }
theorem ZBZ:Zk Ucb UR Zl1=true:=by kernel_rfl
def Zg8:F2 :=
 { nt:=72,res:=[.c 6 (some 6) [0,4,2,0,2,3],.t 7 [0]],body:=(.sq (rg [oo 4 (.bt (.t 1)),oo 6 (.al [.int .i64 0,.slice none 0 0,.slice none 0 0,.int .i64 0,.slice none 0 0,.slice none 0 0] []),om 7 (.k (.bool false))]) (.sq (rg [qF 12 4 4,qL 13 12,qM 14 2,oo 15 (.ca .pure false (.f Xx) [.t 13,.t 14]),qM 8 15]) (.sq (.sq (rg [qM 16 0,qS 17 6 4,oo 18 (.ca .pure false (.f UR) [.t 16,.t 17]),oo 19 (.nt (.t 18)),qM 20 19,og 21 20 false (.mv (.t 8) none),og 22 20 false (.bi .lss 0 (.t 21) (i6 0)),oo 23 (.pk (.t 20) (.k (.bool true)) (.t 22))]) (.cd (.t 23) (.sq (rg [oo 24 (.bd [.int .i64 0,.slice none 0 0,.slice none 0 0,.int .i64 0,.slice none 0 0,.slice none 0 0] [] []),
 Zj (.st 6 (.t 6) (.t 24)),om 7 (.k (.bool false))]) (.rt)) (.sk))) (.sq (.rg (some 0) [qF 25 4 4,qL 26 25,qM 27 2,oo 28 (.ca .pure false (.f ZgR) [.t 26,.t 27]),qF 29 3 4,qL 30 29,oo 31 (.ca .pure true (.f US) [i6 0,.t 30]),qM 9 28,qM 10 31]) (.sq (.sq (rg [om 11 (i6 0)]) (.bl 0 (.lp [0,4,6,8,9,10,11] [192,992,1472,1920,2208,2209,2210,2211] (.sq (.sq (rg [qM 32 11,qF 33 4 4,qL 34 33,qN 35 34,qB 36 .lss 32 35]) (.cd (.t 36) (.sk) (.ex 0))) (.sq (.bl 1 (.sq (rg [qM 39 11,qM 40 8,qB 41 .eql 39 40]) (.cd (.t 41) (rg [qM 42 10,qF 43 3 4,qL 44 43,oo 45 (.bs 1 1 [.int .i64 0] [(0,.t 44)]),oo 46 (.ap 1 0 (.t 42) (.t 45)),qM 10 46]) (.rg (some 0) [qM 47 10,qF 48 3 4,qL 49 48,oo 50 (.bi .add 0 (.t 49) (i6 1)),qM 51 9,qF 52 4 4,qL 53 52,qM 54 11,qI 55 1 53 54,qL 56 55,oo 57 (.ca .pure false (.f Xx) [.t 51,.t 56]),qB 58 .add 50 57,oo 59 (.bs 1 1 [.int .i64 0] [(0,.t 58)]),oo 60 (.ap 1 0 (.t 47) (.t 59)),qM 10 60]))))
 (rg [qM 37 11,oo 38 (.bi .add 0 (.t 37) (i6 1)),qM 11 38])))))) (.sq (rg [qM 61 0,qS 62 6 4,qM 63 10,qF 64 3 4,qL 65 64,oo 66 (.bi .add 0 (.t 65) (i6 1)),qM 67 9,oo 68 (.ca .pure false (.f ZgS) [.t 62,.t 63,.t 66,.t 67]),oo 69 (.ca .pure true (.f Za7) [.t 61,.t 68]),qE 70 0 69,qE 71 1 69,
 Zj (.st 6 (.t 6) (.t 70)),qM 7 71]) (.rt))))))) }
theorem Zl2:Zk Ucb DK Zg8=true:=by kernel_rfl
def Zl3:F2 :=
 { nt:=38,res:=[.c 6 (some 6) [0,4,2,0,2,3],.t 7 [0]],body:=(.sq (rg [oo 4 (.bt (.t 1)),oo 6 (.al [.int .i64 0,.slice none 0 0,.slice none 0 0,.int .i64 0,.slice none 0 0,.slice none 0 0] []),om 7 (.k (.bool false))]) (.sq (.sq (rg [qM 9 0,qS 10 6 4,oo 11 (.ca .pure false (.f UR) [.t 9,.t 10]),oo 12 (.nt (.t 11)),qM 13 12,og 14 13 false (.fa 4 (.t 4)),og 15 13 false (.ld none (.t 14)),og 16 13 false (.mv (.t 2) none),og 17 13 false (.ca .pure false (.f Xx) [.t 15,.t 16]),og 18 13 false (.bi .geq 0 (.t 17) (i6 0)),oo 19 (.pk (.t 13) (.k (.bool true)) (.t 18))]) (.cd (.t 19) (.sq (rg [oo 20 (.bd [.int .i64 0,.slice none 0 0,.slice none 0 0,.int .i64 0,.slice none 0 0,.slice none 0 0] [] []),
 Zj (.st 6 (.t 6) (.t 20)),om 7 (.k (.bool false))]) (.rt)) (.sk))) (.sq (rg [oo 21 (.bs 1 0 [] []),qF 22 4 4,qL 23 22,oo 24 (.ap 1 0 (.t 21) (.t 23)),qM 25 2,oo 26 (.bs 1 1 [.string ⟨#[]⟩] [(0,.t 25)]),oo 27 (.ap 1 0 (.t 24) (.t 26)),oo 28 (.ca .pure false (.f DJ) [.t 27]),qM 8 28]) (.sq (rg [qM 29 0,qS 30 6 4,qF 31 4 4,qL 32 31,qM 33 8,oo 34 (.ca .pure false (.f Zc1) [.t 30,.t 32,.t 33]),oo 35 (.ca .pure true (.f Za7) [.t 29,.t 34]),qE 36 0 35,qE 37 1 35,
 Zj (.st 6 (.t 6) (.t 36)),qM 7 37]) (.rt))))) }
theorem ZB0:Zk Ucb ZgC Zl3=true:=by kernel_rfl
def Zl4:F2 :=
 { nt:=89,res:=[.c 4 (some 6) [0,4,2,0,2,3]],body:=(.sq (rg [oo 2 (.bt (.t 0)),oo 3 (.bt (.t 1)),oo 4 (.al [.int .i64 0,.slice none 0 0,.slice none 0 0,.int .i64 0,.slice none 0 0,.slice none 0 0] [])]) (.sq (.rg (some 0) [oo 11 (.bs 1 0 [] []),qF 12 4 2,qL 13 12,oo 14 (.a0 1 (.t 11) (.t 13)),qF 15 4 3,oo 16 (.lt none (.t 15)),oo 17 (.a0 1 (.t 14) (.t 16)),oo 18 (.ca .pure true (.f DJ) [.t 17]),qF 19 3 2,oo 20 (.lt none (.t 19)),qF 21 3 3,oo 22 (.lt none (.t 21)),qB 23 .add 20 22,qM 5 18,qM 6 23]) (.sq (.rg (some 0) [qF 24 3 2,qL 25 24,oo 26 (.ca .pure true (.f US) [i6 0,.t 25]),qF 27 4 2,qL 28 27,qM 29 6,qM 30 5,oo 31 (.ca .pure false (.f UQ) [.t 28,.t 29,.t 30]),oo 32 (.ap 1 0 (.t 26) (.t 31)),qM 7 32]) (.sq (.rg (some 0) [qF 33 3 2,qL 34 33,qF 35 3 3,qL 36 35,oo 37 (.ca .pure true (.f US) [.t 34,.t 36]),qF 38 4 3,qL 39 38,qM 40 6,qM 41 5,oo 42 (.ca .pure false (.f UQ) [.t 39,.t 40,.t 41]),oo 43 (.ap 1 0 (.t 37) (.t 42)),qM 8 43]) (.sq (.rg (some 0) [qF 44 0 2,qL 45 44,oo 46 (.ca .pure false (.f DM) [i6 0,.t 45]),qF 47 0 2,qL 48 47,qF 49 0 3,qL 50 49,oo 51 (.ca .pure false (.f DM) [.t 48,.t 50]),qM 9 46,qM 10 51]) (.sq (.rg (some 0) [qF 52 0 2,oo 53 (.lt none (.t 52)),qF 54 0 3,oo 55 (.lt none (.t 54)),qB 56 .add 53 55,qS 57 6 2,qM 58 9,qM 59 7,oo 60 (.ca .pure true (.f UT) [.t 57,i6 0,.t 58,.t 59]),qS 61 6 3,qF 62 1 2,qL 63 62,qN 64 63,qM 65 10,qM 66 8,oo 67 (.ca .pure false (.f UT) [.t 61,.t 64,.t 65,.t 66]),oo 68 (.a1 3 (.t 60) (.t 67)),oo 69 (.lt (some 6) (.t 2)),qM 70 9,oo 71 (.ca .pure true (.f W9) [.t 69,i6 0,.t 70]),oo 72 (.lt (some 6) (.t 3)),qF 73 1 2,oo 74 (.lt none (.t 73)),qN 75 74,qM 76 10,oo 77 (.ca .pure false (.f W9) [.t 72,.t 75,.t 76]),oo 78 (.a0 1 (.t 71) (.t 77)),qM 79 6,qM 80 5,oo 81 (.lt (some 6) (.t 2)),qM 82 7,oo 83 (.ca .pure false (.f DN) [.t 81,.t 82]),oo 84 (.lt (some 6) (.t 3)),qM 85 8,oo 86 (.ca .pure false (.f DN) [.t 84,.t 85]),oo 87 (.ca .pure true (.f ZgT) [.t 83,.t 86]),oo 88 (.bd [.int .i64 0,.slice none 0 0,.slice none 0 0,.int .i64 0,.slice none 0 0,.slice none 0 0] [(0,1,.t 56),(1,1,.t 68),(2,1,.t 78),(3,1,.t 79),(4,1,.t 80),(5,1,.t 87)] []),
 Zj (.st 6 (.t 4) (.t 88))]) (.rt))))))) }
theorem ZB1:Zk Ucb ZgD Zl4=true:=by kernel_rfl
def Zl5:F2 :=
 { nt:=45,res:=[.c 2 (some 6) [0,4,2,0,2,3]],body:=(.sq (rg [oo 1 (.bt (.t 0)),oo 2 (.al [.int .i64 0,.slice none 0 0,.slice none 0 0,.int .i64 0,.slice none 0 0,.slice none 0 0] [])]) (.sq (rg [qS 7 6 1,oo 8 (.ca .pure true (.f DF) [.t 7]),oo 9 (.bs 1 0 [] []),oo 3 (.al [.int .i64 0,.slice none 0 0,.slice none 0 0,.int .i64 0,.slice none 0 0,.slice none 0 0] []),
 Zj (.st 6 (.t 3) (.t 8)),qM 4 9]) (.sq (.sq (rg [om 5 (i6 0)]) (.bl 0 (.lp [1,2,3,4,5] [64,96,256,257,258,259,288,576,1344] (.sq (.sq (rg [qM 10 5,qF 11 0 1,qL 12 11,qB 13 .lss 10 12]) (.cd (.t 13) (.sk) (.ex 0))) (.sq (.bl 1 (rg [qM 16 4,oo 17 (.bs 1 1 [.int .i64 0] [(0,i6 (-1))]),oo 18 (.ap 1 0 (.t 16) (.t 17)),qM 4 18]))
 (rg [qM 14 5,oo 15 (.bi .add 0 (.t 14) (i6 1)),qM 5 15])))))) (.sq (rg [qF 19 0 3,
 Zj (.st 1 (.t 19) (i6 1))]) (.sq (.sq (rg [om 6 (i6 0)]) (.bl 2 (.lp [1,2,3,4,6] [64,96,256,257,258,259,288,576,1344] (.sq (.sq (rg [qM 20 6,qF 21 1 3,qL 22 21,qN 23 22,qB 24 .lss 20 23]) (.cd (.t 24) (.sk) (.ex 2))) (.sq (.bl 3 (.rg (some 0) [qF 27 1 3,qL 28 27,qM 29 6,qF 30 1 3,qL 31 30,qM 32 6,qI 33 3 31 32,qF 34 1 33,qL 35 34,qM 36 4,oo 37 (.ca .pure false (.f Za8) [.t 35,i6 0,.t 36]),qI 38 3 28 29,qF 39 1 38,
 Zj (.st 1 (.t 39) (.t 37))]))
 (rg [qM 25 6,oo 26 (.bi .add 0 (.t 25) (i6 1)),qM 6 26])))))) (.sq (rg [qS 40 6 1,qM 41 4,oo 42 (.ca .pure true (.f W9) [.t 40,i6 0,.t 41]),qF 43 2 3,
 Zj (.st 1 (.t 43) (.t 42))]) (.sq (rg [qS 44 6 3,
 Zj (.st 6 (.t 2) (.t 44))]) (.rt)))))))) }
theorem ZB2:Zk Ucb ZgE Zl5=true:=by kernel_rfl
def Zl6:F2 :=
 { nt:=31,res:=[.c 6 (some 6) [0,4,2,0,2,3],.t 7 [0]],body:=(.sq (rg [oo 6 (.al [.int .i64 0,.slice none 0 0,.slice none 0 0,.int .i64 0,.slice none 0 0,.slice none 0 0] []),om 7 (.k (.bool false))]) (.sq (rg [qM 11 0,qM 12 1,qM 13 2,oo 14 (.ca .pure true (.f Zc2) [.t 11,.t 12,.t 13]),qM 10 14,qE 15 0 10,qE 16 1 10,oo 8 (.al [.int .i64 0,.slice none 0 0,.slice none 0 0,.int .i64 0,.slice none 0 0,.slice none 0 0] []),
 Zj (.st 6 (.t 8) (.t 15)),qM 9 16]) (.sq (.sq (rg [qM 17 9,oo 18 (.nt (.t 17)),qM 19 18,og 20 19 false (.mv (.t 0) none),og 21 19 false (.mv (.t 1) none),og 22 19 false (.ia 3 (.t 20) (.t 21)),og 23 19 false (.fa 2 (.t 22)),og 24 19 false (.ld none (.t 23)),og 25 19 false (.bi .eql 0 (.t 24) (i6 2)),oo 26 (.pk (.t 19) (.k (.bool true)) (.t 25))]) (.cd (.t 26) (.sq (rg [oo 27 (.bd [.int .i64 0,.slice none 0 0,.slice none 0 0,.int .i64 0,.slice none 0 0,.slice none 0 0] [] []),
 Zj (.st 6 (.t 6) (.t 27)),om 7 (.k (.bool false))]) (.rt)) (.sk))) (.sq (rg [oo 28 (.bs 1 1 [.int .i64 0] [(0,i6 0)]),qF 29 2 8,
 Zj (.st 1 (.t 29) (.t 28))]) (.sq (rg [qS 30 6 8,
 Zj (.st 6 (.t 6) (.t 30)),om 7 (.k (.bool true))]) (.rt)))))) }
theorem ZB3:Zk Ucb ZgF Zl6=true:=by kernel_rfl
def Zl7:F2 :=
 { nt:=49,res:=[.c 6 (some 6) [0,4,2,0,2,3],.t 7 [0]],body:=(.sq (rg [oo 4 (.bt (.t 1)),oo 5 (.bt (.t 2)),oo 6 (.al [.int .i64 0,.slice none 0 0,.slice none 0 0,.int .i64 0,.slice none 0 0,.slice none 0 0] []),om 7 (.k (.bool false))]) (.sq (.sq (rg [qM 8 0,qS 9 6 4,oo 10 (.ca .pure false (.f Wq) [.t 8,.t 9]),oo 11 (.nt (.t 10)),qM 12 11,og 13 12 false (.mv (.t 0) none),og 14 12 false (.ld (some 6) (.t 5)),og 15 12 false (.ca .pure false (.f Wq) [.t 13,.t 14]),og 16 12 false (.nt (.t 15)),oo 17 (.pk (.t 12) (.k (.bool true)) (.t 16)),qM 18 17,og 19 18 false (.fa 5 (.t 4)),og 20 18 false (.ld none (.t 19)),og 21 18 false (.ln (.t 20)),og 22 18 false (.bi .gtr 0 (.t 21) (i6 0)),oo 23 (.pk (.t 18) (.k (.bool true)) (.t 22)),qM 24 23,og 25 24 false (.fa 2 (.t 4)),og 26 24 false (.ld none (.t 25)),og 27 24 false (.ln (.t 26)),og 28 24 false (.fa 0 (.t 5)),og 29 24 false (.ld none (.t 28)),og 30 24 false (.bi .neq 0 (.t 27) (.t 29)),oo 31 (.pk (.t 24) (.k (.bool true)) (.t 30))]) (.cd (.t 31) (.sq (rg [oo 32 (.bd [.int .i64 0,.slice none 0 0,.slice none 0 0,.int .i64 0,.slice none 0 0,.slice none 0 0] [] []),
 Zj (.st 6 (.t 6) (.t 32)),om 7 (.k (.bool false))]) (.rt)) (.sk))) (.sq (.rg (some 0) [qM 33 0,qS 34 6 4,qS 35 6 5,qF 36 0 4,qL 37 36,qF 38 4 4,qL 39 38,qF 40 4 5,qL 41 40,oo 42 (.bs 1 2 [.slice none 0 0] [(0,.t 39),(1,.t 41)]),oo 43 (.ca .pure false (.f Zc3) [.t 42]),oo 44 (.mf Zc4 [.t 4]),oo 45 (.ca .pure false (.f Za9) [.t 34,.t 35,.t 37,.k (.slice none 0 0),.t 43,.t 44,.f DO]),oo 46 (.ca .pure true (.f DL) [.t 33,.t 45]),qE 47 0 46,qE 48 1 46,
 Zj (.st 6 (.t 6) (.t 47)),qM 7 48]) (.rt)))) }
theorem ZB4:Zk Ucb ZgG Zl7=true:=by kernel_rfl
def Zl8:F2 :=
 { nt:=14,res:=[.c 6 (some 6) [0,4,2,0,2,3],.t 7 [0]],body:=(.sq (rg [oo 6 (.al [.int .i64 0,.slice none 0 0,.slice none 0 0,.int .i64 0,.slice none 0 0,.slice none 0 0] []),om 7 (.k (.bool false))]) (.sq (rg [qM 8 0,qM 9 1,qM 10 2,oo 11 (.ca .pure true (.f Zc2) [.t 8,.t 9,.t 10]),qE 12 0 11,qE 13 1 11,
 Zj (.st 6 (.t 6) (.t 12)),qM 7 13]) (.rt))) }
theorem ZB5:Zk Ucb ZgH Zl8=true:=by kernel_rfl
def Zl9:F2 :=
 { nt:=44,res:=[.c 2 (some 6) [0,4,2,0,2,3]],body:=(.sq (rg [oo 1 (.bt (.t 0)),oo 2 (.al [.int .i64 0,.slice none 0 0,.slice none 0 0,.int .i64 0,.slice none 0 0,.slice none 0 0] [])]) (.sq (rg [qS 8 6 1,oo 9 (.ca .pure true (.f DG) [.t 8]),oo 3 (.al [.int .i64 0,.slice none 0 0,.slice none 0 0,.int .i64 0,.slice none 0 0,.slice none 0 0] []),
 Zj (.st 6 (.t 3) (.t 9))]) (.sq (rg [qF 10 0 3,
 Zj (.st 1 (.t 10) (i6 1))]) (.sq (.sq (rg [qF 11 1 3,qL 12 11,qN 13 12,om 14 (i6 0)]) (.bl 0 (.lp [2,3,12,13,14] [64,96,288,289,290,291] (.sq (rg [qB 15 .lss 14 13]) (.sq (.cd (.t 15) (.sk) (.ex 0)) (.sq (.bl 1 (.sq (rg [qM 16 14,qI 17 3 12 14,qS 18 3 17,oo 5 (.al [.int .i64 0,.int .i64 0,.slice none 0 0] []),qM 4 16,
 Zj (.st 3 (.t 5) (.t 18))])
 (rg [qF 19 1 3,qL 20 19,qM 21 4,qF 22 1 5,qL 23 22,oo 24 (.mm true (i6 (-1)) (.t 23)),qI 25 3 20 21,qF 26 1 25,
 Zj (.st 1 (.t 26) (.t 24))])))
 (rg [oo 27 (.bi .add 0 (.t 14) (i6 1)),qM 14 27]))))))) (.sq (.sq (rg [qF 28 2 3,qL 29 28,qN 30 29,om 31 (i6 0)]) (.bl 2 (.lp [2,3,29,30,31] [64,96,288,289,290,291] (.sq (rg [qB 32 .lss 31 30]) (.sq (.cd (.t 32) (.sk) (.ex 2)) (.sq (.bl 3 (.sq (rg [qM 33 31,qI 34 1 29 31,qL 35 34,qM 6 33,qM 7 35])
 (rg [qF 36 2 3,qL 37 36,qM 38 6,qM 39 7,oo 40 (.mm true (i6 (-1)) (.t 39)),qI 41 1 37 38,
 Zj (.st 1 (.t 41) (.t 40))])))
 (rg [oo 42 (.bi .add 0 (.t 31) (i6 1)),qM 31 42]))))))) (.sq (rg [qS 43 6 3,
 Zj (.st 6 (.t 2) (.t 43))]) (.rt))))))) }
theorem ZB6:Zk Ucb ZgI Zl9=true:=by kernel_rfl
def Zma:F2 :=
 { nt:=101,res:=[.t 4 [0]],body:=(.sq (rg [oo 2 (.bt (.t 0)),oo 3 (.bt (.t 1)),om 4 (.k (.bool false))]) (.sq (.sq (rg [qL 7 2,oo 8 (.ca .pure false (.f ZaZ) [.t 7]),oo 9 (.nt (.t 8)),qM 10 9,og 11 10 false (.fa 0 (.t 3)),og 12 10 false (.ld none (.t 11)),og 13 10 false (.ca .pure false (.f V4) [.t 12,i6 0,i6 4]),og 14 10 false (.nt (.t 13)),oo 15 (.pk (.t 10) (.k (.bool true)) (.t 14)),qM 16 15,og 17 16 false (.fa 1 (.t 3)),og 18 16 false (.ld none (.t 17)),og 19 16 false (.ln (.t 18)),og 20 16 false (.bi .gtr 0 (.t 19) (i6 8)),oo 21 (.pk (.t 16) (.k (.bool true)) (.t 20)),qM 22 21,og 23 22 false (.fa 2 (.t 3)),og 24 22 false (.ld none (.t 23)),og 25 22 false (.ln (.t 24)),og 26 22 false (.bi .gtr 0 (.t 25) (i6 4)),oo 27 (.pk (.t 22) (.k (.bool true)) (.t 26)),qM 28 27,og 29 28 false (.fa 3 (.t 3)),og 30 28 false (.ld none (.t 29)),og 31 28 false (.ca .pure false (.f V4) [.t 30,i6 0,i6 8]),og 32 28 false (.nt (.t 31)),oo 33 (.pk (.t 28) (.k (.bool true)) (.t 32)),qM 34 33,og 35 34 false (.fa 4 (.t 3)),og 36 34 false (.ld none (.t 35)),og 37 34 false (.ca .pure false (.f Zc5) [.t 36]),og 38 34 false (.nt (.t 37)),oo 39 (.pk (.t 34) (.k (.bool true)) (.t 38)),qM 40 39,og 41 40 false (.ld (some 6) (.t 3)),og 42 40 false (.ca .pure false (.f Za6) [.t 41]),og 43 40 false (.ca .pure false (.f Zc5) [.t 42]),og 44 40 false (.nt (.t 43)),oo 45 (.pk (.t 40) (.k (.bool true)) (.t 44))]) (.cd (.t 45) (.sq (rg [om 4 (.k (.bool false))]) (.rt)) (.sk))) (.sq (.sq (rg [qF 46 1 3,qL 47 46,qN 48 47,om 49 (i6 0)]) (.bl 0 (.lp [2,3,47,48,49] [] (.sq (rg [qB 50 .lss 49 48]) (.sq (.cd (.t 50) (.sk) (.ex 0)) (.sq (.bl 1 (.sq (rg [qM 51 49,qI 52 3 47 49,qS 53 3 52,oo 6 (.al [.int .i64 0,.int .i64 0,.slice none 0 0] []),qM 5 51,
 Zj (.st 3 (.t 6) (.t 53))]) (.sq (.rg (some 0) [qF 54 0 6,qL 55 54,qL 56 2,qN 57 56,oo 58 (.bi .sub 0 (.t 57) (i6 1)),oo 59 (.ca .pure false (.f V4) [.t 55,i6 0,.t 58]),oo 60 (.nt (.t 59)),qM 61 60,og 62 61 false (.ld (some 6) (.t 3)),og 63 61 false (.ld none (.t 2)),og 64 61 false (.fa 1 (.t 6)),og 65 61 false (.ld none (.t 64)),og 66 61 false (.mv (.t 5) none),og 67 61 false (.ca .pure false (.f Zc6) [.t 62,.t 63,.t 65,.t 66]),og 68 61 false (.nt (.t 67)),oo 69 (.pk (.t 61) (.k (.bool true)) (.t 68)),qM 70 69,og 71 70 false (.fa 2 (.t 6)),og 72 70 false (.ld none (.t 71)),og 73 70 false (.ln (.t 72)),og 74 70 false (.ld none (.t 2)),og 75 70 false (.fa 0 (.t 6)),og 76 70 false (.ld none (.t 75)),og 77 70 false (.ia 3 (.t 74) (.t 76)),og 78 70 false (.fa 1 (.t 77)),og 79 70 false (.ld none (.t 78)),og 80 70 false (.bi .neq 0 (.t 73) (.t 79)),oo 81 (.pk (.t 70) (.k (.bool true)) (.t 80)),qM 82 81,og 83 82 false (.fa 2 (.t 6)),og 84 82 false (.ld none (.t 83)),og 85 82 false (.mf ZgV [.t 3]),og 86 82 false (.ca .pure false (.f ZgU) [.t 84,.t 85]),oo 87 (.pk (.t 82) (.k (.bool true)) (.t 86))]) (.cd (.t 87) (.sq (rg [om 4 (.k (.bool false))]) (.rt)) (.sk)))))
 (rg [oo 88 (.bi .add 0 (.t 49) (i6 1)),qM 49 88]))))))) (.sq (rg [qF 89 2 3,qL 90 89,oo 91 (.mf ZgW [.t 3,.t 2]),oo 92 (.ca .pure false (.f ZgU) [.t 90,.t 91]),oo 93 (.nt (.t 92)),qM 94 93,og 95 94 true (.fa 5 (.t 3)),og 96 94 true (.ld none (.t 95)),og 97 94 true (.mf ZgX [.t 3]),og 98 94 true (.ca .pure false (.f Zk6) [.t 96,.t 97]),og 99 94 true (.nt (.t 98)),oo 100 (.pk (.t 94) (.t 99) (.k (.bool false))),qM 4 100]) (.rt))))) }
theorem ZB7:Zk Ucb Wq Zma=true:=by kernel_rfl
def Zmb:F2 :=
 { nt:=8,res:=[.t 4 [0]],body:=(.sq (rg [oo 3 (.bt (.t 1)),om 4 (.k (.bool false))]) (.sq (rg [qM 5 0,oo 6 (.mf Zc8 [.t 3]),oo 7 (.ca .pure false (.f Za3) [.t 5,.t 6]),qM 4 7]) (.rt))) }
theorem ZB8:Zk Ucb ZgJ Zmb=true:=by kernel_rfl
def Zmc:F2 :=
 { nt:=21,res:=[.t 2 [2]],body:=(.sq (rg [oo 1 (.bt (.t 0)),om 2 (.k (.slice none 0 0))]) (.sq (rg [oo 6 (.bs 1 0 [] []),qM 3 6]) (.sq (.sq (rg [qF 7 5 1,qL 8 7,qN 9 8,om 10 (i6 0)]) (.bl 0 (.lp [3,8,9,10] [192,576] (.sq (rg [qB 11 .lss 10 9]) (.sq (.cd (.t 11) (.sk) (.ex 0)) (.sq (.bl 1 (.sq (rg [qI 12 2 8 10,qS 13 2 12,oo 5 (.al [.string ⟨#[]⟩,.int .i64 0] []),
 Zj (.st 2 (.t 5) (.t 13))])
 (rg [qM 14 3,qF 15 0 5,qL 16 15,oo 17 (.bs 1 1 [.string ⟨#[]⟩] [(0,.t 16)]),oo 18 (.ap 1 0 (.t 14) (.t 17)),qM 3 18])))
 (rg [oo 19 (.bi .add 0 (.t 10) (i6 1)),qM 10 19]))))))) (.sq (rg [qM 20 3,qM 2 20]) (.rt))))) }
theorem ZB9:Zk Ucb Za6 Zmc=true:=by kernel_rfl
def Zmd:F2 :=
 { nt:=13,res:=[.c 4 (some 6) [0,4,2,0,2,3],.t 5 [0]],body:=(.sq (rg [oo 3 (.bt (.t 1)),oo 4 (.al [.int .i64 0,.slice none 0 0,.slice none 0 0,.int .i64 0,.slice none 0 0,.slice none 0 0] []),om 5 (.k (.bool false))]) (.sq (.sq (rg [qM 6 0,qS 7 6 3,oo 8 (.ca .pure false (.f Wq) [.t 6,.t 7]),oo 9 (.nt (.t 8))]) (.cd (.t 9) (.sq (rg [oo 10 (.bd [.int .i64 0,.slice none 0 0,.slice none 0 0,.int .i64 0,.slice none 0 0,.slice none 0 0] [] []),
 Zj (.st 6 (.t 4) (.t 10)),om 5 (.k (.bool false))]) (.rt)) (.sk))) (.sq (rg [qS 11 6 3,oo 12 (.ca .pure true (.f DG) [.t 11]),
 Zj (.st 6 (.t 4) (.t 12)),om 5 (.k (.bool true))]) (.rt)))) }
theorem ZCa:Zk Ucb DL Zmd=true:=by kernel_rfl
def Zme:F2 :=
 { nt:=41,res:=[.c 4 (some 6) [0,4,2,0,2,3]],body:=(.sq (rg [oo 2 (.bt (.t 0)),oo 3 (.bt (.t 1)),oo 4 (.al [.int .i64 0,.slice none 0 0,.slice none 0 0,.int .i64 0,.slice none 0 0,.slice none 0 0] [])]) (.sq (rg [qF 8 4 2,qL 9 8,qF 10 4 3,qL 11 10,oo 12 (.bs 1 2 [.slice none 0 0] [(0,.t 9),(1,.t 11)]),oo 13 (.ca .pure false (.f Zc3) [.t 12]),qM 5 13]) (.sq (rg [qS 14 6 2,qS 15 6 3,qF 16 0 2,qL 17 16,qF 18 0 3,qL 19 18,qB 20 .add 17 19,qF 21 2 2,qL 22 21,qM 23 5,oo 24 (.mf Zc9 [.t 2]),oo 25 (.ca .pure true (.f Za9) [.t 14,.t 15,.t 20,.t 22,.t 23,.t 24,.f DO]),oo 6 (.al [.int .i64 0,.slice none 0 0,.slice none 0 0,.int .i64 0,.slice none 0 0,.slice none 0 0] []),
 Zj (.st 6 (.t 6) (.t 25))]) (.sq (rg [qS 26 6 2,qF 27 3 6,qL 28 27,qM 29 5,oo 30 (.ca .pure true (.f Wr) [.t 26,.t 28,.t 29,.f Zda]),oo 7 (.al [.int .i64 0,.slice none 0 0,.slice none 0 0,.int .i64 0,.slice none 0 0,.slice none 0 0] []),
 Zj (.st 6 (.t 7) (.t 30))]) (.sq (rg [qF 31 5 7,qL 32 31,qF 33 5 6,qL 34 33,oo 35 (.ap 2 0 (.t 32) (.t 34)),qF 36 5 6,
 Zj (.st 1 (.t 36) (.t 35))]) (.sq (rg [qF 37 5 6,qL 38 37,oo 39 (.ca .any false (.f Zdb) [.t 38,.f UU])]) (.sq (rg [qS 40 6 6,
 Zj (.st 6 (.t 4) (.t 40))]) (.rt)))))))) }
theorem ZCb:Zk Ucb ZgK Zme=true:=by kernel_rfl
def Zmf:F2 :=
 { nt:=15,res:=[.c 4 (some 6) [0,4,2,0,2,3]],body:=(.sq (rg [oo 2 (.bt (.t 0)),oo 3 (.bt (.t 1)),oo 4 (.al [.int .i64 0,.slice none 0 0,.slice none 0 0,.int .i64 0,.slice none 0 0,.slice none 0 0] [])]) (.sq (.rg (some 0) [qS 5 6 2,qF 6 3 2,qL 7 6,oo 8 (.bi .add 0 (.t 7) (i6 1)),qF 9 4 2,qL 10 9,qL 11 3,oo 12 (.ca .pure false (.f ZgY) [.t 10,.t 11]),oo 13 (.mf Zdc [.t 3,.t 2]),oo 14 (.ca .pure true (.f Wr) [.t 5,.t 8,.t 12,.t 13]),
 Zj (.st 6 (.t 4) (.t 14))]) (.rt))) }
theorem ZCc:Zk Ucb ZgL Zmf=true:=by kernel_rfl
def Zmg:F2 :=
 { nt:=68,res:=[.c 8 (some 6) [0,4,2,0,2,3]],body:=(.sq (rg [oo 4 (.bt (.t 0)),oo 5 (.bt (.t 1)),oo 7 (.bx (.t 3)),oo 8 (.al [.int .i64 0,.slice none 0 0,.slice none 0 0,.int .i64 0,.slice none 0 0,.slice none 0 0] [])]) (.sq (rg [qS 17 6 4,oo 18 (.ca .pure true (.f DG) [.t 17]),oo 9 (.al [.int .i64 0,.slice none 0 0,.slice none 0 0,.int .i64 0,.slice none 0 0,.slice none 0 0] []),
 Zj (.st 6 (.t 9) (.t 18))]) (.sq (.rg (some 0) [qL 19 5,qM 20 2,oo 21 (.ca .pure true (.f Zdd) [.t 20]),qF 22 3 9,
 Zj (.st 1 (.t 22) (.t 19)),qF 23 4 9,
 Zj (.st 1 (.t 23) (.t 21))]) (.sq (rg [oo 24 (.mf Zde [.t 7,.t 4,.t 5,.t 9]),qM 10 24]) (.sq (.sq (rg [qF 25 1 9,qL 26 25,qN 27 26,om 28 (i6 0)]) (.bl 0 (.lp [8,9,10,26,27,28] [224,256,288,576,577,578,579,672] (.sq (rg [qB 29 .lss 28 27]) (.sq (.cd (.t 29) (.sk) (.ex 0)) (.sq (.bl 1 (.sq (rg [qI 30 3 26 28,qS 31 3 30,oo 12 (.al [.int .i64 0,.int .i64 0,.slice none 0 0] []),
 Zj (.st 3 (.t 12) (.t 31))]) (.sq (rg [qF 32 2 12,qL 33 32,qN 34 33,om 35 (i6 0)]) (.bl 2 (.lp [8,9,10,12,26,27,28,33,34,35] [224,256,288,384,576,577,578,579,672] (.sq (rg [qB 36 .lss 35 34]) (.sq (.cd (.t 36) (.sk) (.ex 2)) (.sq (.bl 3 (.sq (rg [qM 37 35,qI 38 1 33 35,qL 39 38,qM 13 37,qM 14 39]) (.rg (some 0) [qF 40 2 12,qL 41 40,qM 42 13,qM 43 10,qM 44 14,oo 45 (.ca .see false (.t 43) [.t 44]),qI 46 1 41 42,
 Zj (.st 1 (.t 46) (.t 45))])))
 (rg [oo 47 (.bi .add 0 (.t 35) (i6 1)),qM 35 47])))))))))
 (rg [oo 48 (.bi .add 0 (.t 28) (i6 1)),qM 28 48]))))))) (.sq (.sq (rg [qF 49 5 9,qL 50 49,qN 51 50,om 52 (i6 0)]) (.bl 4 (.lp [8,9,10,50,51,52] [224,256,288,576,577,578,579,672] (.sq (rg [qB 53 .lss 52 51]) (.sq (.cd (.t 53) (.sk) (.ex 4)) (.sq (.bl 5 (.sq (rg [qM 54 52,qI 55 2 50 52,qS 56 2 55,oo 16 (.al [.string ⟨#[]⟩,.int .i64 0] []),qM 15 54,
 Zj (.st 2 (.t 16) (.t 56))]) (.rg (some 0) [qF 57 5 9,qL 58 57,qM 59 15,qM 60 10,qF 61 1 16,qL 62 61,oo 63 (.ca .see false (.t 60) [.t 62]),qI 64 2 58 59,qF 65 1 64,
 Zj (.st 1 (.t 65) (.t 63))])))
 (rg [oo 66 (.bi .add 0 (.t 52) (i6 1)),qM 52 66]))))))) (.sq (rg [qS 67 6 9,
 Zj (.st 6 (.t 8) (.t 67))]) (.rt)))))))) }
theorem ZCd:Zk Ucb Wr Zmg=true:=by kernel_rfl
def Zmh:F2 :=
 { nt:=4,res:=[.c 2 (some 2) [0,0]],body:=(.sq (rg [oo 1 (.bt (.t 0)),oo 2 (.al [.int .i64 0,.string ⟨#[]⟩] [])]) (.sq (rg [qS 3 2 1,
 Zj (.st 2 (.t 2) (.t 3))]) (.rt))) }
theorem ZCe:Zk Ucb ZcW Zmh=true:=by kernel_rfl
def Zmi:F2 :=
 { nt:=49,res:=[],body:=(.sq (rg [qM 8 1,oo 9 (.bi .add 0 (.t 8) (i6 1)),qM 6 9]) (.bl 0 (.lp [0,1,2,6] [] (.sq (.sq (rg [qM 10 6,qM 11 2,qB 12 .lss 10 11]) (.cd (.t 12) (.sk) (.ex 0))) (.sq (.bl 1 (.sq (rg [qM 15 6,qM 7 15]) (.bl 2 (.lp [0,1,2,6,7] [] (.sq (.sq (.rg (some 0) [qM 16 7,qM 17 1,qB 18 .gtr 16 17,qM 19 18,og 20 19 true (.mv (.t 0) none),og 21 19 true (.mv (.t 7) none),og 22 19 true (.ia 1 (.t 20) (.t 21)),og 23 19 true (.ld none (.t 22)),og 24 19 true (.mv (.t 0) none),og 25 19 true (.mv (.t 7) none),og 26 19 true (.bi .sub 0 (.t 25) (i6 1)),og 27 19 true (.ia 1 (.t 24) (.t 26)),og 28 19 true (.ld none (.t 27)),og 29 19 true (.ca .pure false (.f ZcX) [.t 23,.t 28]),oo 30 (.pk (.t 19) (.t 29) (.k (.bool false)))]) (.cd (.t 30) (.sk) (.ex 2))) (.sq (.bl 3 (.rg (some 0) [qM 33 0,qM 34 7,qM 35 0,qM 36 7,oo 37 (.bi .sub 0 (.t 36) (i6 1)),qM 38 0,qM 39 7,oo 40 (.bi .sub 0 (.t 39) (i6 1)),qI 41 1 38 40,qL 42 41,qM 43 0,qM 44 7,qI 45 1 43 44,qL 46 45,qI 47 1 33 34,
 Zj (.s0 1 (.t 47) (.t 42)),qI 48 1 35 37,
 Zj (.st 1 (.t 48) (.t 46))]))
 (rg [qM 31 7,oo 32 (.bi .sub 0 (.t 31) (i6 1)),qM 7 32])))))))
 (rg [qM 13 6,oo 14 (.bi .add 0 (.t 13) (i6 1)),qM 6 14])))))) }
theorem ZCf:Zk Ucb ZgM Zmi=true:=by kernel_rfl
def Zmj:F2 :=
 { nt:=17,res:=[.t 4 [0]],body:=(.sq (rg [om 4 (.k (.bool false))]) (.sq (rg [qM 5 0,oo 6 (.ca .pure false (.f Zdf) [.t 5]),qM 7 6,og 8 7 true (.mv (.t 1) none),og 9 7 true (.ca .pure false (.f Zdf) [.t 8]),og 10 7 true (.nt (.t 9)),oo 11 (.pk (.t 7) (.t 10) (.k (.bool false))),qM 12 11,og 13 12 false (.mv (.t 0) none),og 14 12 false (.mv (.t 1) none),og 15 12 false (.bi .lss 0 (.t 13) (.t 14)),oo 16 (.pk (.t 12) (.k (.bool true)) (.t 15)),qM 4 16]) (.rt))) }
theorem ZCg:Zk Ucb ZcX Zmj=true:=by kernel_rfl
def V5:F2 :=
 { nt:=25,res:=[.t 2 [0]],body:=(.sq (rg [om 2 (i6 0)]) (.sq (.sq (rg [qM 3 0,oo 4 (.bi .geq 0 (.t 3) (.k (.int .u64 4294967296)))]) (.cd (.t 4) (.sq (rg [qM 5 0,oo 6 (.bi .shr 0 (.t 5) (.k (.int .u64 32))),qM 0 6])
 (rg [om 2 (i6 32)])) (.sk))) (.sq (.sq (rg [qM 7 0,oo 8 (.bi .geq 0 (.t 7) (.k (.int .u64 65536)))]) (.cd (.t 8) (.sq (rg [qM 9 0,oo 10 (.bi .shr 0 (.t 9) (.k (.int .u64 16))),qM 0 10])
 (rg [qM 11 2,oo 12 (.bi .add 0 (.t 11) (i6 16)),qM 2 12])) (.sk))) (.sq (.sq (rg [qM 13 0,oo 14 (.bi .geq 0 (.t 13) (.k (.int .u64 256)))]) (.cd (.t 14) (.sq (rg [qM 15 0,oo 16 (.bi .shr 0 (.t 15) (.k (.int .u64 8))),qM 0 16])
 (rg [qM 17 2,oo 18 (.bi .add 0 (.t 17) (i6 8)),qM 2 18])) (.sk))) (.sq (rg [qM 19 2,qM 20 0,oo 21 (.cv (.int .u8) (.t 20)),oo 22 (.ix (.k (.string ⟨#[0,1,2,2,3,3,3,3,4,4,4,4,4,4,4,4,5,5,5,5,5,5,5,5,5,5,5,5,5,5,5,5,6,6,6,6,6,6,6,6,6,6,6,6,6,6,6,6,6,6,6,6,6,6,6,6,6,6,6,6,6,6,6,6,7,7,7,7,7,7,7,7,7,7,7,7,7,7,7,7,7,7,7,7,7,7,7,7,7,7,7,7,7,7,7,7,7,7,7,7,7,7,7,7,7,7,7,7,7,7,7,7,7,7,7,7,7,7,7,7,7,7,7,7,7,7,7,7,8,8,8,8,8,8,8,8,8,8,8,8,8,8,8,8,8,8,8,8,8,8,8,8,8,8,8,8,8,8,8,8,8,8,8,8,8,8,8,8,8,8,8,8,8,8,8,8,8,8,8,8,8,8,8,8,8,8,8,8,8,8,8,8,8,8,8,8,8,8,8,8,8,8,8,8,8,8,8,8,8,8,8,8,8,8,8,8,8,8,8,8,8,8,8,8,8,8,8,8,8,8,8,8,8,8,8,8,8,8,8,8,8,8,8,8,8,8,8,8,8,8,8,8,8,8,8,8]⟩)) (.t 21)),oo 23 (.cv (.int .i64) (.t 22)),qB 24 .add 19 23,qM 2 24]) (.rt)))))) }
theorem Qo:Zk Ucb ZgN V5=true:=by kernel_rfl
def Zmk:F2 :=
 { nt:=65,res:=[.c 10 (some 6) [0,4,2,0,2,3]],body:=(.sq (rg [oo 5 (.bt (.t 0)),oo 6 (.bt (.t 1)),oo 10 (.al [.int .i64 0,.slice none 0 0,.slice none 0 0,.int .i64 0,.slice none 0 0,.slice none 0 0] [])]) (.sq (rg [qF 15 0 5,qL 16 15,oo 17 (.ca .pure false (.f DM) [i6 0,.t 16]),qM 11 17]) (.sq (.rg (some 0) [qF 18 3 5,qL 19 18,oo 20 (.ca .pure true (.f US) [i6 0,.t 19]),qM 21 3,oo 22 (.a0 1 (.t 20) (.t 21)),qF 23 3 5,oo 24 (.lt none (.t 23)),qF 25 3 6,oo 26 (.lt none (.t 25)),oo 27 (.ca .pure true (.f US) [.t 24,.t 26]),qM 28 4,oo 29 (.ap 1 0 (.t 27) (.t 28)),qM 12 22,qM 13 29]) (.sq (rg [qS 30 6 5,qM 31 11,oo 32 (.ca .pure false (.f W9) [.t 30,i6 0,.t 31]),qM 14 32]) (.sq (.rg (some 0) [qF 33 0 5,oo 34 (.lt none (.t 33)),qS 35 6 5,qM 36 11,qM 37 12,oo 38 (.ca .pure true (.f UT) [.t 35,i6 0,.t 36,.t 37]),qS 39 6 6,qF 40 1 5,qL 41 40,qN 42 41,qM 43 14,qM 44 13,oo 45 (.ca .pure false (.f UT) [.t 39,.t 42,.t 43,.t 44]),oo 46 (.a1 3 (.t 38) (.t 45)),oo 47 (.lt (some 6) (.t 6)),qF 48 1 5,oo 49 (.lt none (.t 48)),qN 50 49,qM 51 14,oo 52 (.ca .pure true (.f W9) [.t 47,.t 50,.t 51]),qF 53 3 5,oo 54 (.lt none (.t 53)),qF 55 3 6,oo 56 (.lt none (.t 55)),qB 57 .add 54 56,oo 58 (.bs 1 0 [] []),qM 59 2,oo 60 (.a0 1 (.t 58) (.t 59)),oo 61 (.lt (some 6) (.t 6)),qM 62 13,oo 63 (.ca .pure true (.f DN) [.t 61,.t 62]),oo 64 (.bd [.int .i64 0,.slice none 0 0,.slice none 0 0,.int .i64 0,.slice none 0 0,.slice none 0 0] [(0,1,.t 34),(1,1,.t 46),(2,1,.t 52),(3,1,.t 57),(4,1,.t 60),(5,1,.t 63)] []),
 Zj (.st 6 (.t 10) (.t 64))]) (.rt)))))) }
theorem ZCh:Zk Ucb ZgO Zmk=true:=by kernel_rfl
def Zml:F2 :=
 { nt:=35,res:=[.t 2 [0]],body:=(.sq (rg [om 2 (.k (.bool false))]) (.sq (.sq (rg [om 3 (i6 0)]) (.bl 0 (.lp [0,3] [] (.sq (.sq (rg [qM 4 3,qM 5 0,qN 6 5,qB 7 .lss 4 6]) (.cd (.t 7) (.sk) (.ex 0))) (.sq (.bl 1 (.sq (.rg (some 0) [qM 10 0,qM 11 3,qI 12 1 10 11,qL 13 12,oo 14 (.ca .pure false (.f Za1) [.t 13]),oo 15 (.nt (.t 14)),qM 16 15,og 17 16 false (.mv (.t 3) none),og 18 16 false (.bi .gtr 0 (.t 17) (i6 0)),og 19 16 false (.mv (.t 18) none),og 20 19 true (.mv (.t 0) none),og 21 19 true (.mv (.t 3) none),og 22 19 true (.bi .sub 0 (.t 21) (i6 1)),og 23 19 true (.ia 1 (.t 20) (.t 22)),og 24 19 true (.ld none (.t 23)),og 25 19 true (.mv (.t 0) none),og 26 19 true (.mv (.t 3) none),og 27 19 true (.ia 1 (.t 25) (.t 26)),og 28 19 true (.ld none (.t 27)),og 29 19 true (.bi .geq 0 (.t 24) (.t 28)),og 30 16 false (.pk (.t 19) (.t 29) (.k (.bool false))),oo 31 (.pk (.t 16) (.k (.bool true)) (.t 30))]) (.cd (.t 31) (.sq (rg [om 2 (.k (.bool false))]) (.rt)) (.sk))))
 (rg [qM 8 3,oo 9 (.bi .add 0 (.t 8) (i6 1)),qM 3 9])))))) (.sq (rg [qM 32 0,qN 33 32,oo 34 (.bi .leq 0 (.t 33) (i6 16)),qM 2 34]) (.rt)))) }
theorem ZCi:Zk Ucb ZcY Zml=true:=by kernel_rfl
def Zmm:F2 :=
 { nt:=23,res:=[.t 2 [2]],body:=(.sq (rg [oo 1 (.bt (.t 0)),om 2 (.k (.slice none 0 0))]) (.sq (rg [oo 5 (.bs 1 0 [] []),qM 3 5]) (.sq (.sq (rg [om 4 (i6 0)]) (.bl 0 (.lp [1,3,4] [160,672] (.sq (.sq (rg [qM 6 4,qF 7 5 1,qL 8 7,qN 9 8,qB 10 .lss 6 9]) (.cd (.t 10) (.sk) (.ex 0))) (.sq (.bl 1 (rg [qM 13 3,qF 14 5 1,qL 15 14,qM 16 4,qI 17 2 15 16,qF 18 0 17,qL 19 18,oo 20 (.bs 1 1 [.string ⟨#[]⟩] [(0,.t 19)]),oo 21 (.ap 1 0 (.t 13) (.t 20)),qM 3 21]))
 (rg [qM 11 4,oo 12 (.bi .add 0 (.t 11) (i6 1)),qM 4 12])))))) (.sq (rg [qM 22 3,qM 2 22]) (.rt))))) }
theorem ZCj:Zk Ucb ZgP Zmm=true:=by kernel_rfl
def Zmn:F2 :=
 { nt:=57,res:=[.t 6 [0]],body:=(.sq (rg [oo 4 (.bt (.t 1)),om 6 (.k (.bool false))]) (.sq (rg [qF 9 1 4,qL 10 9,qM 11 2,qI 12 3 10 11,qS 13 3 12,oo 7 (.al [.int .i64 0,.int .i64 0,.slice none 0 0] []),
 Zj (.st 3 (.t 7) (.t 13))]) (.sq (.sq (.rg (some 0) [qF 14 0 7,qL 15 14,qM 16 0,qN 17 16,oo 18 (.bi .sub 0 (.t 17) (i6 1)),oo 19 (.ca .pure false (.f VF) [.t 15,i6 0,.t 18]),oo 20 (.nt (.t 19)),qM 21 20,og 22 21 false (.mv (.t 0) none),og 23 21 false (.ld (some 6) (.t 4)),og 24 21 false (.fa 1 (.t 7)),og 25 21 false (.ld none (.t 24)),og 26 21 false (.mv (.t 2) none),og 27 21 false (.ca .pure false (.f ZcZ) [.t 22,.t 23,.t 25,.t 26]),og 28 21 false (.nt (.t 27)),oo 29 (.pk (.t 21) (.k (.bool true)) (.t 28)),qM 30 29,og 31 30 false (.fa 2 (.t 7)),og 32 30 false (.ld none (.t 31)),og 33 30 false (.ln (.t 32)),og 34 30 false (.mv (.t 0) none),og 35 30 false (.fa 0 (.t 7)),og 36 30 false (.ld none (.t 35)),og 37 30 false (.ia 3 (.t 34) (.t 36)),og 38 30 false (.fa 1 (.t 37)),og 39 30 false (.ld none (.t 38)),og 40 30 false (.bi .neq 0 (.t 33) (.t 39)),oo 41 (.pk (.t 30) (.k (.bool true)) (.t 40))]) (.cd (.t 41) (.sq (rg [om 6 (.k (.bool false))]) (.rt)) (.sk))) (.sq (.sq (rg [om 8 (i6 0)]) (.bl 0 (.lp [4,7,8] [224] (.sq (.sq (rg [qM 42 8,qF 43 2 7,qL 44 43,qN 45 44,qB 46 .lss 42 45]) (.cd (.t 46) (.sk) (.ex 0))) (.sq (.bl 1 (.sq (.rg (some 0) [qS 49 6 4,qF 50 2 7,qL 51 50,qM 52 8,qI 53 1 51 52,qL 54 53,oo 55 (.ca .pure false (.f Zc0) [.t 49,.t 54]),oo 56 (.nt (.t 55))]) (.cd (.t 56) (.sq (rg [om 6 (.k (.bool false))]) (.rt)) (.sk))))
 (rg [qM 47 8,oo 48 (.bi .add 0 (.t 47) (i6 1)),qM 8 48])))))) (.sq (rg [om 6 (.k (.bool true))]) (.rt)))))) }
theorem ZCk:Zk Ucb ZgQ Zmn=true:=by kernel_rfl
def Zmo:F2 :=
 { nt:=33,res:=[.t 8 [0]],body:=(.sq (rg [oo 5 (.bt (.t 1)),om 8 (.k (.bool false))]) (.sq (.sq (rg [qM 9 2,oo 10 (.bi .lss 0 (.t 9) (i6 0))]) (.cd (.t 10) (.sq (rg [qM 11 2,oo 12 (.bi .sub 0 (i6 (-1)) (.t 11)),qF 13 0 5,qL 14 13,oo 15 (.bi .sub 0 (.t 14) (i6 1)),oo 16 (.ca .pure false (.f VF) [.t 12,i6 0,.t 15]),qM 8 16]) (.rt)) (.sk))) (.sq (rg [qM 17 2,qM 18 3,qB 19 .lss 17 18,qM 20 19,og 21 20 true (.mv (.t 0) none),og 22 20 true (.fa 1 (.t 5)),og 23 20 true (.ld none (.t 22)),og 24 20 true (.mv (.t 2) none),og 25 20 true (.ia 3 (.t 23) (.t 24)),og 26 20 true (.fa 0 (.t 25)),og 27 20 true (.ld none (.t 26)),og 28 20 true (.ia 3 (.t 21) (.t 27)),og 29 20 true (.fa 2 (.t 28)),og 30 20 true (.ld none (.t 29)),og 31 20 true (.bi .neq 0 (.t 30) (i6 2)),oo 32 (.pk (.t 20) (.t 31) (.k (.bool false))),qM 8 32]) (.rt)))) }
theorem ZCl:Zk Ucb ZcZ Zmo=true:=by kernel_rfl
def Zmp:F2 :=
 { nt:=14,res:=[.t 4 [0]],body:=(.sq (rg [oo 2 (.bt (.t 0)),om 4 (.k (.bool false))]) (.sq (rg [qM 5 1,qF 6 3 2,qL 7 6,qF 8 4 2,qL 9 8,qN 10 9,qB 11 .add 7 10,oo 12 (.bi .sub 0 (.t 11) (i6 1)),oo 13 (.ca .pure false (.f VF) [.t 5,i6 0,.t 12]),qM 4 13]) (.rt))) }
theorem ZCm:Zk Ucb Zc0 Zmp=true:=by kernel_rfl
def Zmq:F2 :=
 { nt:=28,res:=[.t 4 [2]],body:=(.sq (rg [om 4 (.k (.slice none 0 0))]) (.sq (rg [oo 7 (.bs 1 0 [] []),qM 5 7]) (.sq (.sq (rg [om 6 (i6 0)]) (.bl 0 (.lp [0,1,5,6] [224,832] (.sq (.sq (rg [qM 8 6,qM 9 0,qN 10 9,qB 11 .lss 8 10]) (.cd (.t 11) (.sk) (.ex 0))) (.sq (.bl 1 (.sq (rg [qM 14 0,qM 15 6,qI 16 1 14 15,qL 17 16,qM 18 1,qB 19 .neq 17 18]) (.cd (.t 19) (rg [qM 20 5,qM 21 0,qM 22 6,qI 23 1 21 22,qL 24 23,oo 25 (.bs 1 1 [.string ⟨#[]⟩] [(0,.t 24)]),oo 26 (.ap 1 0 (.t 20) (.t 25)),qM 5 26]) (.sk))))
 (rg [qM 12 6,oo 13 (.bi .add 0 (.t 12) (i6 1)),qM 6 13])))))) (.sq (rg [qM 27 5,qM 4 27]) (.rt))))) }
theorem ZCn:Zk Ucb ZgR Zmq=true:=by kernel_rfl
def Zmr:F2 :=
 { nt:=20,res:=[.t 4 [2]],body:=(.sq (rg [om 4 (.k (.slice none 0 0))]) (.sq (rg [oo 7 (.bs 1 0 [] []),qM 5 7]) (.sq (.sq (rg [om 6 (i6 0)]) (.bl 0 (.lp [0,1,5,6] [224,576] (.sq (.sq (rg [qM 8 6,qM 9 1,qB 10 .lss 8 9]) (.cd (.t 10) (.sk) (.ex 0))) (.sq (.bl 1 (rg [qM 13 5,qM 14 0,qM 15 6,qB 16 .add 14 15,oo 17 (.bs 1 1 [.int .i64 0] [(0,.t 16)]),oo 18 (.ap 1 0 (.t 13) (.t 17)),qM 5 18]))
 (rg [qM 11 6,oo 12 (.bi .add 0 (.t 11) (i6 1)),qM 6 12])))))) (.sq (rg [qM 19 5,qM 4 19]) (.rt))))) }
theorem ZCo:Zk Ucb US Zmr=true:=by kernel_rfl
def Zg9:F2 :=
 { nt:=12,res:=[.c 4 (some 6) [0,4,2,0,2,3],.t 5 [0]],body:=(.sq (rg [oo 3 (.bt (.t 1)),oo 4 (.al [.int .i64 0,.slice none 0 0,.slice none 0 0,.int .i64 0,.slice none 0 0,.slice none 0 0] []),om 5 (.k (.bool false))]) (.sq (.sq (rg [qM 6 0,qS 7 6 3,oo 8 (.ca .pure false (.f UR) [.t 6,.t 7]),oo 9 (.nt (.t 8))]) (.cd (.t 9) (.sq (rg [oo 10 (.bd [.int .i64 0,.slice none 0 0,.slice none 0 0,.int .i64 0,.slice none 0 0,.slice none 0 0] [] []),
 Zj (.st 6 (.t 4) (.t 10)),om 5 (.k (.bool false))]) (.rt)) (.sk))) (.sq (rg [qS 11 6 3,
 Zj (.st 6 (.t 4) (.t 11)),om 5 (.k (.bool true))]) (.rt)))) }
theorem Zms:Zk Ucb Za7 Zg9=true:=by kernel_rfl
def Zmt:F2 :=
 { nt:=30,res:=[.c 8 (some 6) [0,4,2,0,2,3]],body:=(.sq (rg [oo 4 (.bt (.t 0)),oo 8 (.al [.int .i64 0,.slice none 0 0,.slice none 0 0,.int .i64 0,.slice none 0 0,.slice none 0 0] [])]) (.sq (rg [qF 10 0 4,qL 11 10,oo 12 (.ca .pure false (.f DM) [i6 0,.t 11]),qM 9 12]) (.sq (.rg (some 0) [qF 13 0 4,oo 14 (.lt none (.t 13)),qS 15 6 4,qM 16 9,qM 17 1,oo 18 (.ca .pure true (.f UT) [.t 15,i6 0,.t 16,.t 17]),qS 19 6 4,qM 20 9,oo 21 (.ca .pure true (.f W9) [.t 19,i6 0,.t 20]),qM 22 2,oo 23 (.bs 1 0 [] []),qM 24 3,oo 25 (.a0 1 (.t 23) (.t 24)),oo 26 (.lt (some 6) (.t 4)),qM 27 1,oo 28 (.ca .pure true (.f DN) [.t 26,.t 27]),oo 29 (.bd [.int .i64 0,.slice none 0 0,.slice none 0 0,.int .i64 0,.slice none 0 0,.slice none 0 0] [(0,1,.t 14),(1,1,.t 18),(2,1,.t 21),(3,1,.t 22),(4,1,.t 25),(5,1,.t 28)] []),
 Zj (.st 6 (.t 8) (.t 29))]) (.rt)))) }
theorem ZCp:Zk Ucb ZgS Zmt=true:=by kernel_rfl
def Zmu:F2 :=
 { nt:=105,res:=[.c 6 (some 6) [0,4,2,0,2,3]],body:=(.sq (rg [oo 3 (.bt (.t 0)),oo 6 (.al [.int .i64 0,.slice none 0 0,.slice none 0 0,.int .i64 0,.slice none 0 0,.slice none 0 0] [])]) (.sq (rg [qS 13 6 3,oo 14 (.ca .pure true (.f DF) [.t 13]),oo 7 (.al [.int .i64 0,.slice none 0 0,.slice none 0 0,.int .i64 0,.slice none 0 0,.slice none 0 0] []),
 Zj (.st 6 (.t 7) (.t 14))]) (.sq (rg [oo 15 (.bs 1 0 [] []),qM 16 2,oo 17 (.ap 1 0 (.t 15) (.t 16)),qF 18 4 7,
 Zj (.st 1 (.t 18) (.t 17))]) (.sq (.sq (rg [om 8 (i6 0)]) (.bl 0 (.lp [1,2,3,6,7,8] [192,224,448,449,450,451,480,544] (.sq (.sq (rg [qM 19 8,qF 20 1 7,qL 21 20,qN 22 21,qB 23 .lss 19 22]) (.cd (.t 23) (.sk) (.ex 0))) (.sq (.bl 1 (.sq (rg [om 9 (i6 0)]) (.bl 2 (.lp [1,2,3,6,7,8,9] [192,224,448,449,450,451,480,544] (.sq (.sq (rg [qM 26 9,qF 27 1 7,qL 28 27,qM 29 8,qI 30 3 28 29,qF 31 2 30,qL 32 31,qN 33 32,qB 34 .lss 26 33]) (.cd (.t 34) (.sk) (.ex 2))) (.sq (.bl 3 (.sq (rg [qF 37 1 7,qL 38 37,qM 39 8,qI 40 3 38 39,qF 41 2 40,qL 42 41,qM 43 9,qI 44 1 42 43,qL 45 44,qM 10 45]) (.sq (rg [qM 46 10,qF 47 3 3,qL 48 47,qB 49 .geq 46 48]) (.cd (.t 49) (.rg (some 0) [qF 50 1 7,qL 51 50,qM 52 8,qI 53 3 51 52,qF 54 2 53,qL 55 54,qM 56 9,qF 57 3 3,qL 58 57,qM 59 2,qM 60 1,qM 61 10,qF 62 3 3,qL 63 62,qB 64 .sub 61 63,qI 65 1 60 64,qL 66 65,oo 67 (.ca .pure false (.f Xx) [.t 59,.t 66]),qB 68 .add 58 67,qI 69 1 55 56,
 Zj (.st 1 (.t 69) (.t 68))]) (.sk)))))
 (rg [qM 35 9,oo 36 (.bi .add 0 (.t 35) (i6 1)),qM 9 36])))))))
 (rg [qM 24 8,oo 25 (.bi .add 0 (.t 24) (i6 1)),qM 8 25])))))) (.sq (.sq (rg [om 11 (i6 0)]) (.bl 4 (.lp [1,2,3,6,7,11] [192,224,448,449,450,451,480,544] (.sq (.sq (rg [qM 70 11,qF 71 5 7,qL 72 71,qN 73 72,qB 74 .lss 70 73]) (.cd (.t 74) (.sk) (.ex 4))) (.sq (.bl 5 (.sq (rg [qF 77 5 7,qL 78 77,qM 79 11,qI 80 2 78 79,qF 81 1 80,qL 82 81,qM 12 82]) (.sq (rg [qM 83 12,qF 84 3 3,qL 85 84,qB 86 .geq 83 85]) (.cd (.t 86) (.rg (some 0) [qF 87 5 7,qL 88 87,qM 89 11,qF 90 3 3,qL 91 90,qM 92 2,qM 93 1,qM 94 12,qF 95 3 3,qL 96 95,qB 97 .sub 94 96,qI 98 1 93 97,qL 99 98,oo 100 (.ca .pure false (.f Xx) [.t 92,.t 99]),qB 101 .add 91 100,qI 102 2 88 89,qF 103 1 102,
 Zj (.st 1 (.t 103) (.t 101))]) (.sk)))))
 (rg [qM 75 11,oo 76 (.bi .add 0 (.t 75) (i6 1)),qM 11 76])))))) (.sq (rg [qS 104 6 7,
 Zj (.st 6 (.t 6) (.t 104))]) (.rt))))))) }
theorem ZCq:Zk Ucb Zc1 Zmu=true:=by kernel_rfl
def Zmv:F2 :=
 { nt:=21,res:=[.t 4 [2]],body:=(.sq (rg [om 4 (.k (.slice none 0 0))]) (.sq (rg [oo 7 (.bs 1 0 [] []),qM 5 7]) (.sq (.sq (rg [om 6 (i6 0)]) (.bl 0 (.lp [0,1,5,6] [224,608] (.sq (.sq (rg [qM 8 6,qM 9 1,qB 10 .lss 8 9]) (.cd (.t 10) (.sk) (.ex 0))) (.sq (.bl 1 (rg [qM 13 5,qM 14 0,oo 15 (.bi .sub 0 (i6 (-1)) (.t 14)),qM 16 6,qB 17 .sub 15 16,oo 18 (.bs 1 1 [.int .i64 0] [(0,.t 17)]),oo 19 (.ap 1 0 (.t 13) (.t 18)),qM 5 19]))
 (rg [qM 11 6,oo 12 (.bi .add 0 (.t 11) (i6 1)),qM 6 12])))))) (.sq (rg [qM 20 5,qM 4 20]) (.rt))))) }
theorem ZCr:Zk Ucb DM Zmv=true:=by kernel_rfl
def Zmw:F2 :=
 { nt:=69,res:=[.t 8 [4]],body:=(.sq (rg [oo 4 (.bt (.t 0)),om 8 (.k (.slice none 0 0))]) (.sq (rg [oo 13 (.bs 3 0 [] []),qM 9 13]) (.sq (.sq (rg [om 10 (i6 0)]) (.bl 0 (.lp [1,2,3,4,9,10] [416,2144] (.sq (.sq (rg [qM 14 10,qF 15 1 4,qL 16 15,qN 17 16,qB 18 .lss 14 17]) (.cd (.t 18) (.sk) (.ex 0))) (.sq (.bl 1 (.sq (rg [oo 21 (.bs 1 0 [] []),qM 11 21]) (.sq (.sq (rg [om 12 (i6 0)]) (.bl 2 (.lp [1,2,3,4,9,10,11,12] [416,672,1504,2144] (.sq (.sq (rg [qM 22 12,qF 23 1 4,qL 24 23,qM 25 10,qI 26 3 24 25,qF 27 2 26,qL 28 27,qN 29 28,qB 30 .lss 22 29]) (.cd (.t 30) (.sk) (.ex 2))) (.sq (.bl 3 (rg [qM 33 11,qM 34 3,qF 35 1 4,qL 36 35,qM 37 10,qI 38 3 36 37,qF 39 2 38,qL 40 39,qM 41 12,qI 42 1 40 41,qL 43 42,qI 44 1 34 43,qL 45 44,oo 46 (.bs 1 1 [.int .i64 0] [(0,.t 45)]),oo 47 (.ap 1 0 (.t 33) (.t 46)),qM 11 47]))
 (rg [qM 31 12,oo 32 (.bi .add 0 (.t 31) (i6 1)),qM 12 32])))))) (.rg (some 0) [qM 48 9,qF 49 1 4,qL 50 49,qM 51 10,qI 52 3 50 51,qF 53 0 52,qL 54 53,qF 55 1 4,qL 56 55,qM 57 10,qI 58 3 56 57,qF 59 1 58,qL 60 59,qM 61 1,qM 62 2,oo 63 (.ca .pure false (.f Za8) [.t 60,.t 61,.t 62]),qM 64 11,oo 65 (.bd [.int .i64 0,.int .i64 0,.slice none 0 0] [(0,1,.t 54),(1,1,.t 63),(2,1,.t 64)] []),oo 66 (.bv 3 1 [.int .i64 0,.int .i64 0,.slice none 0 0] [(0,.t 65)]),oo 67 (.ap 3 2 (.t 48) (.t 66)),qM 9 67]))))
 (rg [qM 19 10,oo 20 (.bi .add 0 (.t 19) (i6 1)),qM 10 20])))))) (.sq (rg [qM 68 9,qM 8 68]) (.rt))))) }
theorem ZCs:Zk Ucb UT Zmw=true:=by kernel_rfl
def Zmx:F2 :=
 { nt:=29,res:=[.t 6 [2]],body:=(.sq (rg [oo 3 (.bt (.t 0)),om 6 (.k (.slice none 0 0))]) (.sq (rg [oo 9 (.bs 1 0 [] []),qM 7 9]) (.sq (.sq (rg [om 8 (i6 0)]) (.bl 0 (.lp [1,2,3,7,8] [288,864] (.sq (.sq (rg [qM 10 8,qF 11 2 3,qL 12 11,qN 13 12,qB 14 .lss 10 13]) (.cd (.t 14) (.sk) (.ex 0))) (.sq (.bl 1 (rg [qM 17 7,qF 18 2 3,qL 19 18,qM 20 8,qI 21 1 19 20,qL 22 21,qM 23 1,qM 24 2,oo 25 (.ca .pure false (.f Za8) [.t 22,.t 23,.t 24]),oo 26 (.bs 1 1 [.int .i64 0] [(0,.t 25)]),oo 27 (.ap 1 0 (.t 17) (.t 26)),qM 7 27]))
 (rg [qM 15 8,oo 16 (.bi .add 0 (.t 15) (i6 1)),qM 8 16])))))) (.sq (rg [qM 28 7,qM 6 28]) (.rt))))) }
theorem ZCt:Zk Ucb W9 Zmx=true:=by kernel_rfl
def Zmy:F2 :=
 { nt:=52,res:=[.t 4 [3]],body:=(.sq (rg [om 4 (.k (.slice none 0 0))]) (.sq (rg [oo 8 (.bs 2 0 [] []),qM 9 0,oo 10 (.ap 2 0 (.t 8) (.t 9)),oo 5 (.rk (.t 10))]) (.sq (.sq (rg [om 6 (i6 0)]) (.bl 0 (.lp [1,5,6] [160] (.sq (.sq (rg [qM 11 6,qM 12 1,qN 13 12,qB 14 .lss 11 13]) (.cd (.t 14) (.sk) (.ex 0))) (.sq (.bl 1 (.sq (rg [om 7 (i6 0)]) (.sq (.bl 2 (.lp [1,5,6,7] [160] (.sq (.sq (.rg (some 0) [qM 17 7,qM 18 5,qN 19 18,qB 20 .lss 17 19,qM 21 20,og 22 21 true (.mv (.t 5) none),og 23 21 true (.mv (.t 7) none),og 24 21 true (.ia 2 (.t 22) (.t 23)),og 25 21 true (.fa 0 (.t 24)),og 26 21 true (.ld none (.t 25)),og 27 21 true (.mv (.t 1) none),og 28 21 true (.mv (.t 6) none),og 29 21 true (.ia 2 (.t 27) (.t 28)),og 30 21 true (.fa 0 (.t 29)),og 31 21 true (.ld none (.t 30)),og 32 21 true (.bi .lss 0 (.t 26) (.t 31)),oo 33 (.pk (.t 21) (.t 32) (.k (.bool false)))]) (.cd (.t 33) (.sk) (.ex 2))) (.bl 3 (rg [qM 34 7,oo 35 (.bi .add 0 (.t 34) (i6 1)),qM 7 35]))))) (.rg (some 0) [oo 36 (.bs 2 0 [] []),qM 37 5,qM 38 7,oo 39 (.sx 2 (.t 37) none (some (.t 38)) none),oo 40 (.a0 2 (.t 36) (.t 39)),qM 41 1,qM 42 6,oo 43 (.it 2 (.t 41) (.t 42)),oo 44 (.lt (some 2) (.t 43)),oo 45 (.bs 2 1 [.string ⟨#[]⟩,.int .i64 0] [(0,.t 44)]),oo 46 (.a0 2 (.t 40) (.t 45)),qM 47 5,qM 48 7,oo 49 (.sw 2 (.t 47) (some (.t 48)) none none),oo 50 (.ap 2 0 (.t 46) (.t 49)),oo 5 (.rk (.t 50))]))))
 (rg [qM 15 6,oo 16 (.bi .add 0 (.t 15) (i6 1)),qM 6 16])))))) (.sq (rg [qM 51 5,qM 4 51]) (.rt))))) }
theorem ZCu:Zk Ucb ZgT Zmy=true:=by kernel_rfl
def Zmz:F2 :=
 { nt:=35,res:=[.t 4 [3]],body:=(.sq (rg [oo 2 (.bt (.t 0)),om 4 (.k (.slice none 0 0))]) (.sq (rg [oo 7 (.bs 2 0 [] []),qM 5 7]) (.sq (.sq (rg [om 6 (i6 0)]) (.bl 0 (.lp [1,2,5,6] [224,1056] (.sq (.sq (rg [qM 8 6,qF 9 5 2,qL 10 9,qN 11 10,qB 12 .lss 8 11]) (.cd (.t 12) (.sk) (.ex 0))) (.sq (.bl 1 (.rg (some 0) [qM 15 5,qF 16 5 2,qL 17 16,qM 18 6,qI 19 2 17 18,qF 20 0 19,qL 21 20,qM 22 1,qF 23 5 2,qL 24 23,qM 25 6,qI 26 2 24 25,qF 27 1 26,qL 28 27,qI 29 1 22 28,qL 30 29,oo 31 (.bd [.string ⟨#[]⟩,.int .i64 0] [(0,1,.t 21),(1,1,.t 30)] []),oo 32 (.bs 2 1 [.string ⟨#[]⟩,.int .i64 0] [(0,.t 31)]),oo 33 (.ap 2 0 (.t 15) (.t 32)),qM 5 33]))
 (rg [qM 13 6,oo 14 (.bi .add 0 (.t 13) (i6 1)),qM 6 14])))))) (.sq (rg [qM 34 5,qM 4 34]) (.rt))))) }
theorem ZCv:Zk Ucb DN Zmz=true:=by kernel_rfl
def ZmA:F2 :=
 { nt:=17,res:=[.t 6 [0]],body:=(.sq (rg [om 6 (i6 0)]) (.sq (.sq (rg [qM 7 0,oo 8 (.bi .lss 0 (.t 7) (i6 0))]) (.cd (.t 8) (.sq (rg [qM 9 2,qM 10 0,oo 11 (.bi .sub 0 (i6 (-1)) (.t 10)),qI 12 1 9 11,qL 13 12,qM 6 13]) (.rt)) (.sk))) (.sq (rg [qM 14 0,qM 15 1,qB 16 .add 14 15,qM 6 16]) (.rt)))) }
theorem ZCw:Zk Ucb Za8 ZmA=true:=by kernel_rfl
def ZmB:F2 :=
 { nt:=63,res:=[.c 6 (some 6) [0,4,2,0,2,3],.t 7 [0]],body:=(.sq (rg [oo 6 (.al [.int .i64 0,.slice none 0 0,.slice none 0 0,.int .i64 0,.slice none 0 0,.slice none 0 0] []),om 7 (.k (.bool false))]) (.sq (.sq (rg [qM 12 0,oo 13 (.ca .pure false (.f ZaZ) [.t 12]),oo 14 (.nt (.t 13)),qM 15 14,og 16 15 false (.mv (.t 1) none),og 17 15 false (.mv (.t 0) none),og 18 15 false (.ln (.t 17)),og 19 15 false (.bi .sub 0 (.t 18) (i6 1)),og 20 15 false (.ca .pure false (.f V4) [.t 16,i6 0,.t 19]),og 21 15 false (.nt (.t 20)),oo 22 (.pk (.t 15) (.k (.bool true)) (.t 21)),qM 23 22,og 24 23 false (.mv (.t 2) none),og 25 23 false (.ln (.t 24)),og 26 23 false (.mv (.t 0) none),og 27 23 false (.mv (.t 1) none),og 28 23 false (.ia 3 (.t 26) (.t 27)),og 29 23 false (.fa 1 (.t 28)),og 30 23 false (.ld none (.t 29)),og 31 23 false (.bi .neq 0 (.t 25) (.t 30)),oo 32 (.pk (.t 23) (.k (.bool true)) (.t 31)),qM 33 32,og 34 33 false (.mv (.t 2) none),og 35 33 false (.ca .pure false (.f Za3) [.t 34,.f Zdg]),oo 36 (.pk (.t 33) (.k (.bool true)) (.t 35))]) (.cd (.t 36) (.sq (rg [oo 37 (.bd [.int .i64 0,.slice none 0 0,.slice none 0 0,.int .i64 0,.slice none 0 0,.slice none 0 0] [] []),
 Zj (.st 6 (.t 6) (.t 37)),om 7 (.k (.bool false))]) (.rt)) (.sk))) (.sq (rg [qM 38 2,oo 39 (.ca .pure true (.f Zdd) [.t 38]),oo 40 (.bd [.int .i64 0,.slice none 0 0,.slice none 0 0,.int .i64 0,.slice none 0 0,.slice none 0 0] [(0,1,i6 1),(4,1,.t 39)] []),oo 8 (.al [.int .i64 0,.slice none 0 0,.slice none 0 0,.int .i64 0,.slice none 0 0,.slice none 0 0] []),
 Zj (.st 6 (.t 8) (.t 40))]) (.sq (rg [qM 41 1,oo 42 (.bd [.int .i64 0,.int .i64 0,.slice none 0 0] [(0,1,.t 41),(1,1,i6 (-1))] [(2,1)]),oo 9 (.al [.int .i64 0,.int .i64 0,.slice none 0 0] []),
 Zj (.st 3 (.t 9) (.t 42))]) (.sq (.sq (rg [qM 43 2,qN 44 43,om 45 (i6 0)]) (.bl 0 (.lp [6,8,9,43,44,45] [192,256,288,1248,1344,1792,1920] (.sq (rg [qB 46 .lss 45 44]) (.sq (.cd (.t 46) (.sk) (.ex 0)) (.sq (.bl 1 (.sq (rg [qI 47 1 43 45,qL 48 47,qM 11 48]) (.rg (some 0) [qF 49 2 9,qL 50 49,qF 51 4 8,qL 52 51,qM 53 11,oo 54 (.ca .pure false (.f Za2) [.t 52,.t 53]),oo 55 (.bs 1 1 [.int .i64 0] [(0,.t 54)]),oo 56 (.ap 1 0 (.t 50) (.t 55)),qF 57 2 9,
 Zj (.st 1 (.t 57) (.t 56))])))
 (rg [oo 58 (.bi .add 0 (.t 45) (i6 1)),qM 45 58]))))))) (.sq (rg [qS 59 3 9,oo 60 (.bw 3 1 [.int .i64 0,.int .i64 0,.slice none 0 0] [(0,.t 59)]),qF 61 1 8,
 Zj (.st 1 (.t 61) (.t 60))]) (.sq (rg [qS 62 6 8,
 Zj (.st 6 (.t 6) (.t 62)),om 7 (.k (.bool true))]) (.rt)))))))) }
theorem ZCx:Zk Ucb Zc2 ZmB=true:=by kernel_rfl
def ZmC:F2 :=
 { nt:=86,res:=[.c 14 (some 6) [0,4,2,0,2,0]],body:=(.sq (rg [oo 7 (.bt (.t 0)),oo 8 (.bt (.t 1)),oo 13 (.bx (.t 6)),oo 14 (.al [.int .i64 0,.slice none 0 0,.slice none 0 0,.int .i64 0,.slice none 0 0,.slice none 0 0] [])]) (.sq (rg [qF 23 3 7,qL 24 23,qF 25 3 8,qL 26 25,qB 27 .add 24 26,qM 15 27]) (.sq (rg [qS 28 6 7,qM 29 15,qM 30 4,oo 31 (.ca .pure true (.f Wr) [.t 28,.t 29,.t 30,.f Zdh]),oo 16 (.al [.int .i64 0,.slice none 0 0,.slice none 0 0,.int .i64 0,.slice none 0 0,.slice none 0 0] []),
 Zj (.st 6 (.t 16) (.t 31))]) (.sq (rg [qS 32 6 8,qM 33 15,qM 34 4,oo 35 (.mf DP [.t 7,.t 13]),oo 36 (.ca .see false (.f Wr) [.t 32,.t 33,.t 34,.t 35]),oo 17 (.al [.int .i64 0,.slice none 0 0,.slice none 0 0,.int .i64 0,.slice none 0 0,.slice none 0 0] []),
 Zj (.st 6 (.t 17) (.t 36))]) (.sq (.rg (some 0) [qM 37 2,qF 38 1 16,qL 39 38,qM 40 3,oo 41 (.ca .pure true (.f DI) [.t 40]),qM 42 15,qF 43 4 16,qL 44 43,qF 45 5 17,qL 46 45,oo 47 (.bd [.int .i64 0,.slice none 0 0,.slice none 0 0,.int .i64 0,.slice none 0 0,.slice none 0 0] [(0,1,.t 37),(1,1,.t 39),(2,1,.t 41),(3,1,.t 42),(4,1,.t 44),(5,1,.t 46)] []),oo 18 (.al [.int .i64 0,.slice none 0 0,.slice none 0 0,.int .i64 0,.slice none 0 0,.slice none 0 0] []),
 Zj (.st 6 (.t 18) (.t 47))]) (.sq (.sq (rg [qF 48 1 17,qL 49 48,qN 50 49,om 51 (i6 0)]) (.bl 0 (.lp [5,7,8,14,18,49,50,51] [448,512,544,576,992,993,994,995,1312,2080,2624] (.sq (rg [qB 52 .lss 51 50]) (.sq (.cd (.t 52) (.sk) (.ex 0)) (.sq (.bl 1 (.sq (rg [qI 53 3 49 51,qS 54 3 53,oo 20 (.al [.int .i64 0,.int .i64 0,.slice none 0 0] []),
 Zj (.st 3 (.t 20) (.t 54))]) (.sq (rg [qS 55 6 7,qF 56 1 20,qL 57 56,qM 58 5,oo 59 (.ca .pure false (.f Zdi) [.t 55,.t 57,.t 58]),qF 60 1 20,
 Zj (.st 1 (.t 60) (.t 59))])
 (rg [qF 61 1 18,qL 62 61,qS 63 3 20,oo 64 (.bw 3 1 [.int .i64 0,.int .i64 0,.slice none 0 0] [(0,.t 63)]),oo 65 (.ap 3 2 (.t 62) (.t 64)),qF 66 1 18,
 Zj (.st 1 (.t 66) (.t 65))]))))
 (rg [oo 67 (.bi .add 0 (.t 51) (i6 1)),qM 51 67]))))))) (.sq (.sq (rg [qF 68 2 8,qL 69 68,qN 70 69,om 71 (i6 0)]) (.bl 2 (.lp [5,7,14,18,69,70,71] [448,512,544,576,992,993,994,995,1312,2080,2624] (.sq (rg [qB 72 .lss 71 70]) (.sq (.cd (.t 72) (.sk) (.ex 2)) (.sq (.bl 3 (.sq (rg [qI 73 1 69 71,qL 74 73,qM 22 74]) (.rg (some 0) [qF 75 2 18,qL 76 75,qS 77 6 7,qM 78 22,qM 79 5,oo 80 (.ca .pure false (.f Zdi) [.t 77,.t 78,.t 79]),oo 81 (.bs 1 1 [.int .i64 0] [(0,.t 80)]),oo 82 (.ap 1 0 (.t 76) (.t 81)),qF 83 2 18,
 Zj (.st 1 (.t 83) (.t 82))])))
 (rg [oo 84 (.bi .add 0 (.t 71) (i6 1)),qM 71 84]))))))) (.sq (rg [qS 85 6 18,
 Zj (.st 6 (.t 14) (.t 85))]) (.rt))))))))) }
theorem ZCy:Zk Ucb Za9 ZmC=true:=by kernel_rfl
def ZmD:F2 :=
 { nt:=36,res:=[.t 2 [2]],body:=(.sq (rg [om 2 (.k (.slice none 0 0))]) (.sq (rg [om 3 (i6 0)]) (.sq (.sq (rg [qM 9 0,qN 10 9,om 11 (i6 0)]) (.bl 0 (.lp [0,3,9,10,11] [] (.sq (rg [qB 12 .lss 11 10]) (.sq (.cd (.t 12) (.sk) (.ex 0)) (.sq (.bl 1 (.sq (rg [qI 13 1 9 11,qL 14 13,qM 5 14]) (.sq (rg [qM 15 3,qM 16 5,qN 17 16,qB 18 .add 15 17,qM 3 18]) (.sq (rg [qM 19 3,oo 20 (.bi .lss 0 (.t 19) (i6 0))]) (.cd (.t 20) (rg [oo 21 (.xx),
 Zj (.xx)]) (.sk))))))
 (rg [oo 22 (.bi .add 0 (.t 11) (i6 1)),qM 11 22]))))))) (.sq (rg [qM 23 3,oo 24 (.ca .keep true (.f Zg0) [.k (.slice none 0 0),.t 23]),qM 6 24]) (.sq (.sq (rg [qM 25 0,qN 26 25,om 27 (i6 0)]) (.bl 2 (.lp [6,25,26,27] [768,1056] (.sq (rg [qB 28 .lss 27 26]) (.sq (.cd (.t 28) (.sk) (.ex 2)) (.sq (.bl 3 (.sq (rg [qI 29 1 25 27,qL 30 29,qM 8 30])
 (rg [qM 31 6,qM 32 8,oo 33 (.ap 1 0 (.t 31) (.t 32)),qM 6 33])))
 (rg [oo 34 (.bi .add 0 (.t 27) (i6 1)),qM 27 34]))))))) (.sq (rg [qM 35 6,qM 2 35]) (.rt))))))) }
theorem ZCz:Zk Ucb Zc3 ZmD=true:=by kernel_rfl
def ZmE:F2 :=
 { nt:=10,res:=[.t 3 [0]],body:=(.sq (rg [om 3 (i6 0)]) (.sq (rg [qF 4 2 1,qL 5 4,qM 6 0,oo 7 (.bi .sub 0 (i6 (-1)) (.t 6)),qI 8 1 5 7,qL 9 8,qM 3 9]) (.rt))) }
theorem ZCA:Zk Ucb Zc4 ZmE=true:=by kernel_rfl
def ZmF:F2 :=
 { nt:=5,res:=[.c 2 (some 2) [0,0]],body:=(.sq (rg [oo 2 (.al [.int .i64 0,.string ⟨#[]⟩] [])]) (.sq (rg [qM 3 0,oo 4 (.bd [.int .i64 0,.string ⟨#[]⟩] [(1,1,.t 3)] []),
 Zj (.st 2 (.t 2) (.t 4))]) (.rt))) }
theorem ZCB:Zk Ucb DO ZmF=true:=by kernel_rfl
def ZmG:F2 :=
 { nt:=32,res:=[.t 2 [0]],body:=(.sq (rg [om 2 (.k (.bool false))]) (.sq (.sq (rg [qM 5 0,qN 6 5,om 7 (i6 0)]) (.bl 0 (.lp [0,5,6,7] [] (.sq (rg [qB 8 .lss 7 6]) (.sq (.cd (.t 8) (.sk) (.ex 0)) (.sq (.bl 1 (.sq (rg [qM 9 7,qI 10 1 5 7,qL 11 10,qM 3 9,qM 4 11]) (.sq (rg [qM 12 4,oo 13 (.ca .pure false (.f UO) [.t 12]),oo 14 (.nt (.t 13)),qM 15 14,og 16 15 false (.mv (.t 3) none),og 17 15 false (.bi .gtr 0 (.t 16) (i6 0)),og 18 15 false (.mv (.t 17) none),og 19 18 true (.mv (.t 4) none),og 20 18 true (.mv (.t 0) none),og 21 18 true (.mv (.t 3) none),og 22 18 true (.bi .sub 0 (.t 21) (i6 1)),og 23 18 true (.ia 1 (.t 20) (.t 22)),og 24 18 true (.ld none (.t 23)),og 25 18 true (.bi .leq 0 (.t 19) (.t 24)),og 26 15 false (.pk (.t 18) (.t 25) (.k (.bool false))),oo 27 (.pk (.t 15) (.k (.bool true)) (.t 26))]) (.cd (.t 27) (.sq (rg [om 2 (.k (.bool false))]) (.rt)) (.sk)))))
 (rg [oo 28 (.bi .add 0 (.t 7) (i6 1)),qM 7 28]))))))) (.sq (rg [qM 29 0,qN 30 29,oo 31 (.bi .leq 0 (.t 30) (i6 16)),qM 2 31]) (.rt)))) }
theorem ZCC:Zk Ucb Zc5 ZmG=true:=by kernel_rfl
def ZmH:F2 :=
 { nt:=32,res:=[.t 8 [0]],body:=(.sq (rg [oo 4 (.bt (.t 0)),om 8 (.k (.bool false))]) (.sq (.sq (rg [qM 9 2,oo 10 (.bi .lss 0 (.t 9) (i6 0))]) (.cd (.t 10) (.sq (rg [qM 11 2,qF 12 0 4,qL 13 12,oo 14 (.ng (.t 13)),qB 15 .geq 11 14,qM 8 15]) (.rt)) (.sk))) (.sq (rg [qM 16 2,qM 17 3,qB 18 .lss 16 17,qM 19 18,og 20 19 true (.mv (.t 1) none),og 21 19 true (.fa 1 (.t 4)),og 22 19 true (.ld none (.t 21)),og 23 19 true (.mv (.t 2) none),og 24 19 true (.ia 3 (.t 22) (.t 23)),og 25 19 true (.fa 0 (.t 24)),og 26 19 true (.ld none (.t 25)),og 27 19 true (.ia 3 (.t 20) (.t 26)),og 28 19 true (.fa 2 (.t 27)),og 29 19 true (.ld none (.t 28)),og 30 19 true (.bi .neq 0 (.t 29) (i6 2)),oo 31 (.pk (.t 19) (.t 30) (.k (.bool false))),qM 8 31]) (.rt)))) }
theorem ZCD:Zk Ucb Zc6 ZmH=true:=by kernel_rfl
def ZmI:F2 :=
 { nt:=8,res:=[.t 3 [0]],body:=(.sq (rg [om 3 (.k (.bool false))]) (.sq (rg [qS 4 6 1,qM 5 0,oo 6 (.ca .pure false (.f Zc7) [.t 4,.t 5]),oo 7 (.nt (.t 6)),qM 3 7]) (.rt))) }
theorem ZCE:Zk Ucb ZgV ZmI=true:=by kernel_rfl
def ZmJ:F2 :=
 { nt:=14,res:=[.t 4 [0]],body:=(.sq (rg [oo 2 (.bt (.t 0)),om 4 (.k (.bool false))]) (.sq (rg [qM 5 1,qF 6 3 2,qL 7 6,qF 8 4 2,qL 9 8,qN 10 9,qB 11 .add 7 10,oo 12 (.bi .sub 0 (.t 11) (i6 1)),oo 13 (.ca .pure false (.f V4) [.t 5,i6 0,.t 12]),qM 4 13]) (.rt))) }
theorem ZCF:Zk Ucb Zc7 ZmJ=true:=by kernel_rfl
def ZmK:F2 :=
 { nt:=13,res:=[.t 4 [0]],body:=(.sq (rg [om 4 (.k (.bool false))]) (.sq (rg [qS 5 6 1,qL 6 2,qM 7 0,qF 8 1 1,qL 9 8,qN 10 9,oo 11 (.ca .pure false (.f Zc6) [.t 5,.t 6,.t 7,.t 10]),oo 12 (.nt (.t 11)),qM 4 12]) (.rt))) }
theorem ZCG:Zk Ucb ZgW ZmK=true:=by kernel_rfl
def ZmL:F2 :=
 { nt:=9,res:=[.t 3 [0]],body:=(.sq (rg [oo 2 (.bt (.t 0)),om 3 (.k (.bool false))]) (.sq (rg [qS 4 6 1,qF 5 1 2,qL 6 5,oo 7 (.ca .pure false (.f Zc7) [.t 4,.t 6]),oo 8 (.nt (.t 7)),qM 3 8]) (.rt))) }
theorem ZCH:Zk Ucb ZgX ZmL=true:=by kernel_rfl
def ZmM:F2 :=
 { nt:=7,res:=[.t 3 [0]],body:=(.sq (rg [om 3 (.k (.bool false))]) (.sq (rg [qL 4 1,qM 5 0,oo 6 (.ca .pure false (.f UM) [.t 4,.t 5]),qM 3 6]) (.rt))) }
theorem ZCI:Zk Ucb Zc8 ZmM=true:=by kernel_rfl
def ZmN:F2 :=
 { nt:=8,res:=[.t 3 [0]],body:=(.sq (rg [om 3 (i6 0)]) (.sq (rg [qM 4 0,qF 5 0 1,qL 6 5,qB 7 .sub 4 6,qM 3 7]) (.rt))) }
theorem ZCJ:Zk Ucb Zc9 ZmN=true:=by kernel_rfl
def ZmO:F2 :=
 { nt:=4,res:=[.c 2 (some 2) [0,0]],body:=(.sq (rg [oo 1 (.bt (.t 0)),oo 2 (.al [.int .i64 0,.string ⟨#[]⟩] [])]) (.sq (rg [qS 3 2 1,
 Zj (.st 2 (.t 2) (.t 3))]) (.rt))) }
theorem ZCK:Zk Ucb Zda ZmO=true:=by kernel_rfl
def ZmP:F2 :=
 { nt:=14,res:=[],body:=(.sq (rg [qM 5 0,qN 6 5,qM 4 6])
 (rg [qM 7 0,qM 8 4,qM 9 4,oo 10 (.cv (.int .u64) (.t 9)),oo 11 (.ca .pure false (.f Za5) [.t 10]),qM 12 1,oo 13 (.ca .any false (.f Zba) [.t 7,i6 0,.t 8,.t 11,.t 12])])) }
theorem ZCL:Zk Ucb Zdb ZmP=true:=by kernel_rfl
def ZmQ:F2 :=
 { nt:=9,res:=[.t 4 [2]],body:=(.sq (rg [oo 3 (.bt (.t 1)),om 4 (.k (.slice none 0 0))]) (.sq (rg [qM 5 0,oo 6 (.ca .pure true (.f UN) [.t 5]),oo 7 (.mf Zdj [.t 3]),oo 8 (.ca .any false (.f Zg1) [.t 6,.t 7]),qM 4 8]) (.rt))) }
theorem ZCM:Zk Ucb ZgY ZmQ=true:=by kernel_rfl
def ZmR:F2 :=
 { nt:=13,res:=[.c 4 (some 2) [0,0]],body:=(.sq (rg [oo 3 (.bt (.t 0)),oo 4 (.al [.int .i64 0,.string ⟨#[]⟩] [])]) (.sq (.sq (rg [qF 5 1 3,qL 6 5,qL 7 1,qB 8 .eql 6 7]) (.cd (.t 8) (.sq (rg [qF 9 3 2,qL 10 9,oo 11 (.bd [.int .i64 0,.string ⟨#[]⟩] [(0,1,.t 10)] []),
 Zj (.st 2 (.t 4) (.t 11))]) (.rt)) (.sk))) (.sq (rg [qS 12 2 3,
 Zj (.st 2 (.t 4) (.t 12))]) (.rt)))) }
theorem ZCN:Zk Ucb Zdc ZmR=true:=by kernel_rfl
def ZmS:F2 :=
 { nt:=10,res:=[.t 2 [2]],body:=(.sq (rg [om 2 (.k (.slice none 0 0))]) (.sq (rg [qM 4 0,oo 5 (.ca .pure true (.f UN) [.t 4]),qM 3 5]) (.sq (rg [qM 6 3,oo 7 (.ca .any false (.f Zbb) [.t 6])]) (.sq (rg [qM 8 3,oo 9 (.ca .any false (.f Zg2) [.t 8]),qM 2 9]) (.rt))))) }
theorem ZCO:Zk Ucb Zdd ZmS=true:=by kernel_rfl
def ZmT:F2 :=
 { nt:=25,res:=[.t 6 [0]],body:=(.sq (rg [om 6 (i6 0)]) (.sq (.rg (some 0) [qL 8 1,qS 9 6 2,qM 10 0,oo 11 (.ca .pure false (.f ZgZ) [.t 9,.t 10]),oo 12 (.ca .see false (.t 8) [.t 11]),oo 7 (.al [.int .i64 0,.string ⟨#[]⟩] []),
 Zj (.st 2 (.t 7) (.t 12))]) (.sq (.sq (rg [qF 13 1 7,qL 14 13,oo 15 (.bi .eql 0 (.t 14) (.k (.string ⟨#[]⟩)))]) (.cd (.t 15) (.sq (rg [qF 16 0 7,qL 17 16,qM 6 17]) (.rt)) (.sk))) (.sq (.rg (some 0) [qL 18 3,qF 19 4 4,qL 20 19,qF 21 1 7,qL 22 21,oo 23 (.ca .pure false (.f Za2) [.t 20,.t 22]),qB 24 .add 18 23,qM 6 24]) (.rt))))) }
theorem ZCP:Zk Ucb Zde ZmT=true:=by kernel_rfl
def ZmU:F2 :=
 { nt:=20,res:=[.c 4 (some 2) [0,0]],body:=(.sq (rg [oo 2 (.bt (.t 0)),oo 4 (.al [.int .i64 0,.string ⟨#[]⟩] [])]) (.sq (.sq (rg [qM 5 1,qF 6 3 2,qL 7 6,qB 8 .lss 5 7]) (.cd (.t 8) (.sq (rg [qM 9 1,oo 10 (.bd [.int .i64 0,.string ⟨#[]⟩] [(0,1,.t 9)] []),
 Zj (.st 2 (.t 4) (.t 10))]) (.rt)) (.sk))) (.sq (rg [qF 11 4 2,qL 12 11,qM 13 1,qF 14 3 2,qL 15 14,qB 16 .sub 13 15,qI 17 1 12 16,qL 18 17,oo 19 (.bd [.int .i64 0,.string ⟨#[]⟩] [(1,1,.t 18)] []),
 Zj (.st 2 (.t 4) (.t 19))]) (.rt)))) }
theorem ZCQ:Zk Ucb ZgZ ZmU=true:=by kernel_rfl
def ZmV:F2 :=
 { nt:=6,res:=[.t 2 [0]],body:=(.sq (rg [om 2 (.k (.bool false))]) (.sq (rg [qM 3 0,qM 4 0,qB 5 .neq 3 4,qM 2 5]) (.rt))) }
theorem ZCR:Zk Ucb Zdf ZmV=true:=by kernel_rfl
def ZmW:F2 :=
 { nt:=6,res:=[.t 2 [0]],body:=(.sq (rg [om 2 (.k (.bool false))]) (.sq (rg [qM 3 0,oo 4 (.ca .pure false (.f UO) [.t 3]),oo 5 (.nt (.t 4)),qM 2 5]) (.rt))) }
theorem ZCS:Zk Ucb Zdg ZmW=true:=by kernel_rfl
def ZmX:F2 :=
 { nt:=4,res:=[.c 2 (some 2) [0,0]],body:=(.sq (rg [oo 1 (.bt (.t 0)),oo 2 (.al [.int .i64 0,.string ⟨#[]⟩] [])]) (.sq (rg [qS 3 2 1,
 Zj (.st 2 (.t 2) (.t 3))]) (.rt))) }
theorem ZCT:Zk Ucb Zdh ZmX=true:=by kernel_rfl
def ZmY:F2 :=
 { nt:=18,res:=[.c 4 (some 2) [0,0]],body:=(.sq (rg [oo 3 (.bt (.t 0)),oo 4 (.al [.int .i64 0,.string ⟨#[]⟩] [])]) (.sq (.sq (rg [qF 5 1 3,qL 6 5,oo 7 (.bi .eql 0 (.t 6) (.k (.string ⟨#[]⟩)))]) (.cd (.t 7) (.sq (rg [qF 8 0 3,qL 9 8,qF 10 3 1,qL 11 10,qB 12 .add 9 11,oo 13 (.bd [.int .i64 0,.string ⟨#[]⟩] [(0,1,.t 12)] []),
 Zj (.st 2 (.t 4) (.t 13))]) (.rt)) (.sk))) (.sq (rg [qL 14 2,qF 15 1 3,qL 16 15,oo 17 (.ca .pure false (.t 14) [.t 16]),
 Zj (.st 2 (.t 4) (.t 17))]) (.rt)))) }
theorem ZCU:Zk Ucb DP ZmY=true:=by kernel_rfl
def ZmZ:F2 :=
 { nt:=17,res:=[.t 6 [0]],body:=(.sq (rg [oo 3 (.bt (.t 0)),om 6 (i6 0)]) (.sq (.sq (rg [qM 7 1,oo 8 (.bi .geq 0 (.t 7) (i6 0))]) (.cd (.t 8) (.sq (rg [qM 9 1,qF 10 1 3,qL 11 10,qN 12 11,qB 13 .add 9 12,qM 6 13]) (.rt)) (.sk))) (.sq (rg [qM 14 2,qM 15 1,oo 16 (.ca .pure false (.t 14) [.t 15]),qM 6 16]) (.rt)))) }
theorem ZCV:Zk Ucb Zdi ZmZ=true:=by kernel_rfl
def Zm0:F2 :=
 { nt:=27,res:=[.t 4 [2]],body:=(.sq (rg [om 4 (.k (.slice none 0 0))]) (.sq (.sq (rg [qM 5 1,oo 6 (.bi .lss 0 (.t 5) (i6 0))]) (.cd (.t 6) (rg [oo 7 (.xx),
 Zj (.xx)]) (.sk))) (.sq (.sq (rg [qM 8 1,qM 9 0,oo 10 (.cp (.t 9)),qM 11 0,qN 12 11,qB 13 .sub 10 12,qB 14 .sub 8 13,qM 1 14]) (.sq (rg [qM 15 1,oo 16 (.bi .gtr 0 (.t 15) (i6 0))]) (.cd (.t 16) (rg [qM 17 0,qM 18 0,oo 19 (.cp (.t 18)),oo 20 (.sh 1 (.t 17) (.t 19)),qM 21 1,oo 22 (.az 1 [.string ⟨#[]⟩] (.t 20) (.t 21)),qM 23 0,qN 24 23,oo 25 (.sh 1 (.t 22) (.t 24)),qM 0 25]) (.sk)))) (.sq (rg [qM 26 0,qM 4 26]) (.rt))))) }
theorem ZCW:Zk Ucb Zg0 Zm0=true:=by kernel_rfl
def Zm1:F2 :=
 { nt:=148,res:=[],body:=(.sq (rg [om 10 (.k (.bool true))]) (.sq (rg [om 11 (.k (.bool true))]) (.bl 0 (.lp [0,1,2,3,4,10,11] [] (.bl 1 (.sq (rg [qM 21 2,qM 22 1,qB 23 .sub 21 22,qM 12 23]) (.sq (.sq (rg [qM 24 12,oo 25 (.bi .leq 0 (.t 24) (i6 12))]) (.cd (.t 25) (.sq (rg [qM 26 0,qM 27 1,qM 28 2,qM 29 4,oo 30 (.ca .any false (.f Zg3) [.t 26,.t 27,.t 28,.t 29])]) (.rt)) (.sk))) (.sq (.sq (rg [qM 31 3,oo 32 (.bi .eql 0 (.t 31) (i6 0))]) (.cd (.t 32) (.sq (rg [qM 33 0,qM 34 1,qM 35 2,qM 36 4,oo 37 (.ca .any false (.f ZAM) [.t 33,.t 34,.t 35,.t 36])]) (.rt)) (.sk))) (.sq (.sq (rg [qM 38 10,oo 39 (.nt (.t 38))]) (.cd (.t 39) (.sq (rg [qM 40 0,qM 41 1,qM 42 2,qM 43 4,oo 44 (.ca .any false (.f ZAN) [.t 40,.t 41,.t 42,.t 43])])
 (rg [qM 45 3,oo 46 (.bi .sub 0 (.t 45) (i6 1)),qM 3 46])) (.sk))) (.sq (rg [qM 48 0,qM 49 1,qM 50 2,qM 51 4,oo 52 (.ca .pure false (.f ZAO) [.t 48,.t 49,.t 50,.t 51]),qM 47 52,qE 53 0 47,qE 54 1 47,qM 13 53,qM 14 54]) (.sq (.sq (rg [qM 55 14,oo 56 (.bi .eql 0 (.t 55) (i6 2))]) (.cd (.t 56) (.sq (rg [qM 57 0,qM 58 1,qM 59 2,qM 60 4,oo 61 (.ca .any false (.f ZAP) [.t 57,.t 58,.t 59,.t 60])]) (.sq (rg [qM 62 2,oo 63 (.bi .sub 0 (.t 62) (i6 1)),qM 64 13,qM 65 1,qB 66 .sub 64 65,qB 67 .sub 63 66,qM 13 67])
 (rg [om 14 (i6 1)]))) (.sk))) (.sq (.sq (rg [qM 68 10,qM 69 68,og 70 69 true (.mv (.t 11) none),oo 71 (.pk (.t 69) (.t 70) (.k (.bool false))),qM 72 71,og 73 72 true (.mv (.t 14) none),og 74 72 true (.bi .eql 0 (.t 73) (i6 1)),oo 75 (.pk (.t 72) (.t 74) (.k (.bool false)))]) (.cd (.t 75) (.sq (rg [qM 76 0,qM 77 1,qM 78 2,qM 79 4,oo 80 (.ca .any false (.f ZAQ) [.t 76,.t 77,.t 78,.t 79])]) (.cd (.t 80) (.rt) (.sk))) (.sk))) (.sq (.sq (.rg (some 0) [qM 81 1,oo 82 (.bi .gtr 0 (.t 81) (i6 0)),qM 83 82,og 84 83 true (.mv (.t 4) none),og 85 83 true (.mv (.t 0) none),og 86 83 true (.mv (.t 1) none),og 87 83 true (.bi .sub 0 (.t 86) (i6 1)),og 88 83 true (.ia 2 (.t 85) (.t 87)),og 89 83 true (.ld (some 2) (.t 88)),og 90 83 true (.mv (.t 0) none),og 91 83 true (.mv (.t 13) none),og 92 83 true (.ia 2 (.t 90) (.t 91)),og 93 83 true (.ld (some 2) (.t 92)),og 94 83 true (.ca .pure false (.t 84) [.t 89,.t 93]),og 95 83 true (.bi .lss 0 (.t 94) (i6 0)),og 96 83 true (.nt (.t 95)),oo 97 (.pk (.t 83) (.t 96) (.k (.bool false)))]) (.cd (.t 97) (.sq (rg [qM 98 0,qM 99 1,qM 100 2,qM 101 13,qM 102 4,oo 103 (.ca .any false (.f ZAR) [.t 98,.t 99,.t 100,.t 101,.t 102]),qM 15 103]) (.sq (rg [qM 104 15,qM 1 104]) (.ex 1))) (.sk))) (.sq (rg [qM 106 0,qM 107 1,qM 108 2,qM 109 13,qM 110 4,oo 111 (.ca .any false (.f ZAS) [.t 106,.t 107,.t 108,.t 109,.t 110]),qM 105 111,qE 112 0 105,qE 113 1 105,qM 16 112,qM 17 113]) (.sq (rg [qM 114 17,qM 11 114]) (.sq (rg [qM 115 16,qM 116 1,qB 117 .sub 115 116,qM 118 2,qM 119 16,qB 120 .sub 118 119,qM 18 117,qM 19 120]) (.sq (rg [qM 121 12,oo 122 (.bi .quo 0 (.t 121) (i6 8)),qM 20 122]) (.sq (rg [qM 123 18,qM 124 19,qB 125 .lss 123 124]) (.cd (.t 125) (.sq (rg [qM 126 18,qM 127 20,qB 128 .geq 126 127,qM 10 128]) (.sq (rg [qM 129 0,qM 130 1,qM 131 16,qM 132 3,qM 133 4,oo 134 (.ca .any false (.f Zba) [.t 129,.t 130,.t 131,.t 132,.t 133])])
 (rg [qM 135 16,oo 136 (.bi .add 0 (.t 135) (i6 1)),qM 1 136]))) (.sq (rg [qM 137 19,qM 138 20,qB 139 .geq 137 138,qM 10 139]) (.sq (rg [qM 140 0,qM 141 16,oo 142 (.bi .add 0 (.t 141) (i6 1)),qM 143 2,qM 144 3,qM 145 4,oo 146 (.ca .any false (.f Zba) [.t 140,.t 142,.t 143,.t 144,.t 145])])
 (rg [qM 147 16,qM 2 147])))))))))))))))))))))) }
theorem ZCX:Zk Ucb Zba Zm1=true:=by kernel_rfl
def Zha:F2 :=
 { nt:=42,res:=[.t 4 [2]],body:=(.sq (rg [om 4 (.k (.slice none 0 0))]) (.sq (rg [qM 8 0,qM 9 1,oo 10 (.ca .pure false (.f ZcV) [.t 8,.t 9]),qM 5 10]) (.sq (.sq (rg [qM 11 5,oo 12 (.bi .eql 0 (.t 11) (i6 (-1)))]) (.cd (.t 12) (.sq (rg [qM 13 0,qM 4 13]) (.rt)) (.sk))) (.sq (.sq (rg [qM 14 5,oo 15 (.bi .add 0 (.t 14) (i6 1)),qM 6 15]) (.bl 0 (.lp [0,1,5,6] [] (.sq (.sq (rg [qM 16 6,qM 17 0,qN 18 17,qB 19 .lss 16 18]) (.cd (.t 19) (.sk) (.ex 0))) (.sq (.bl 1 (.sq (rg [qM 22 0,qM 23 6,qI 24 1 22 23,qL 25 24,qM 7 25]) (.sq (rg [qM 26 1,qM 27 7,oo 28 (.ca .pure false (.t 26) [.t 27]),oo 29 (.nt (.t 28))]) (.cd (.t 29) (.sq (rg [qM 30 0,qM 31 5,qM 32 7,qI 33 1 30 31,
 Zj (.st 1 (.t 33) (.t 32))])
 (rg [qM 34 5,oo 35 (.bi .add 0 (.t 34) (i6 1)),qM 5 35])) (.sk)))))
 (rg [qM 20 6,oo 21 (.bi .add 0 (.t 20) (i6 1)),qM 6 21])))))) (.sq (rg [qM 36 0,qM 37 5,oo 38 (.sx 1 (.t 36) (some (.t 37)) none none),
 Zj (.cl 1 [.string ⟨#[]⟩] (.t 38))]) (.sq (rg [qM 39 0,qM 40 5,oo 41 (.sx 1 (.t 39) none (some (.t 40)) none),qM 4 41]) (.rt))))))) }
theorem Zm2:Zk Ucb Zg1 Zha=true:=by kernel_rfl
def Zm3:F2 :=
 { nt:=7,res:=[.t 3 [0]],body:=(.sq (rg [om 3 (.k (.bool false))]) (.sq (rg [qM 4 0,qL 5 1,qB 6 .eql 4 5,qM 3 6]) (.rt))) }
theorem ZCY:Zk Ucb Zdj Zm3=true:=by kernel_rfl
def Zm4:F2 :=
 { nt:=11,res:=[],body:=(.sq (rg [qM 3 0,qN 4 3,qM 2 4])
 (rg [qM 5 0,qM 6 2,qM 7 2,oo 8 (.cv (.int .u64) (.t 7)),oo 9 (.ca .pure false (.f Za5) [.t 8]),oo 10 (.ca .any false (.f Zbc) [.t 5,i6 0,.t 6,.t 9])])) }
theorem ZCZ:Zk Ucb Zbb Zm4=true:=by kernel_rfl
def Zhb:F2 :=
 { nt:=61,res:=[.t 2 [2]],body:=(.sq (rg [om 2 (.k (.slice none 0 0))]) (.sq (.sq (rg [qM 6 0,qN 7 6,oo 8 (.bi .lss 0 (.t 7) (i6 2))]) (.cd (.t 8) (.sq (rg [qM 9 0,qM 2 9]) (.rt)) (.sk))) (.sq (.sq (rg [om 3 (i6 1)]) (.bl 0 (.lp [0,3] [] (.sq (.sq (rg [qM 10 3,qM 11 0,qN 12 11,qB 13 .lss 10 12]) (.cd (.t 13) (.sk) (.ex 0))) (.sq (.bl 1 (.sq (.rg (some 0) [qM 16 0,qM 17 3,qI 18 1 16 17,qL 19 18,qM 20 0,qM 21 3,oo 22 (.bi .sub 0 (.t 21) (i6 1)),qI 23 1 20 22,qL 24 23,qB 25 .eql 19 24]) (.cd (.t 25) (.sq (rg [qM 26 0,qM 27 3,oo 28 (.sx 1 (.t 26) (some (.t 27)) none none),qM 4 28]) (.sq (.sq (rg [om 5 (i6 1)]) (.bl 2 (.lp [0,3,4,5] [] (.sq (.sq (rg [qM 29 5,qM 30 4,qN 31 30,qB 32 .lss 29 31]) (.cd (.t 32) (.sk) (.ex 2))) (.sq (.bl 3 (.sq (.rg (some 0) [qM 35 4,qM 36 5,qI 37 1 35 36,qL 38 37,qM 39 4,qM 40 5,oo 41 (.bi .sub 0 (.t 40) (i6 1)),qI 42 1 39 41,qL 43 42,qB 44 .neq 38 43]) (.cd (.t 44) (.sq (rg [qM 45 0,qM 46 3,qM 47 4,qM 48 5,qI 49 1 47 48,qL 50 49,qI 51 1 45 46,
 Zj (.st 1 (.t 51) (.t 50))])
 (rg [qM 52 3,oo 53 (.bi .add 0 (.t 52) (i6 1)),qM 3 53])) (.sk))))
 (rg [qM 33 5,oo 34 (.bi .add 0 (.t 33) (i6 1)),qM 5 34])))))) (.sq (rg [qM 54 0,qM 55 3,oo 56 (.sx 1 (.t 54) (some (.t 55)) none none),
 Zj (.cl 1 [.string ⟨#[]⟩] (.t 56))]) (.sq (rg [qM 57 0,qM 58 3,oo 59 (.sx 1 (.t 57) none (some (.t 58)) none),qM 2 59]) (.rt))))) (.sk))))
 (rg [qM 14 3,oo 15 (.bi .add 0 (.t 14) (i6 1)),qM 3 15])))))) (.sq (rg [qM 60 0,qM 2 60]) (.rt))))) }
theorem Zm5:Zk Ucb Zg2 Zhb=true:=by kernel_rfl
def Zm6:F2 :=
 { nt:=53,res:=[],body:=(.sq (rg [qM 10 1,oo 11 (.bi .add 0 (.t 10) (i6 1)),qM 8 11]) (.bl 0 (.lp [0,1,2,3,8] [] (.sq (.sq (rg [qM 12 8,qM 13 2,qB 14 .lss 12 13]) (.cd (.t 14) (.sk) (.ex 0))) (.sq (.bl 1 (.sq (rg [qM 17 8,qM 9 17]) (.bl 2 (.lp [0,1,2,3,8,9] [] (.sq (.sq (.rg (some 0) [qM 18 9,qM 19 1,qB 20 .gtr 18 19,qM 21 20,og 22 21 true (.mv (.t 3) none),og 23 21 true (.mv (.t 0) none),og 24 21 true (.mv (.t 9) none),og 25 21 true (.ia 2 (.t 23) (.t 24)),og 26 21 true (.ld (some 2) (.t 25)),og 27 21 true (.mv (.t 0) none),og 28 21 true (.mv (.t 9) none),og 29 21 true (.bi .sub 0 (.t 28) (i6 1)),og 30 21 true (.ia 2 (.t 27) (.t 29)),og 31 21 true (.ld (some 2) (.t 30)),og 32 21 true (.ca .pure false (.t 22) [.t 26,.t 31]),og 33 21 true (.bi .lss 0 (.t 32) (i6 0)),oo 34 (.pk (.t 21) (.t 33) (.k (.bool false)))]) (.cd (.t 34) (.sk) (.ex 2))) (.sq (.bl 3 (.rg (some 0) [qM 37 0,qM 38 9,qM 39 0,qM 40 9,oo 41 (.bi .sub 0 (.t 40) (i6 1)),qM 42 0,qM 43 9,oo 44 (.bi .sub 0 (.t 43) (i6 1)),qI 45 2 42 44,qS 46 2 45,qM 47 0,qM 48 9,qI 49 2 47 48,qS 50 2 49,qI 51 2 37 38,
 Zj (.s0 2 (.t 51) (.t 46)),qI 52 2 39 41,
 Zj (.st 2 (.t 52) (.t 50))]))
 (rg [qM 35 9,oo 36 (.bi .sub 0 (.t 35) (i6 1)),qM 9 36])))))))
 (rg [qM 15 8,oo 16 (.bi .add 0 (.t 15) (i6 1)),qM 8 16])))))) }
theorem ZC0:Zk Ucb Zg3 Zm6=true:=by kernel_rfl
def Zm7:F2 :=
 { nt:=134,res:=[],body:=(.sq (rg [om 8 (.k (.bool true))]) (.sq (rg [om 9 (.k (.bool true))]) (.bl 0 (.lp [0,1,2,3,8,9] [] (.bl 1 (.sq (rg [qM 19 2,qM 20 1,qB 21 .sub 19 20,qM 10 21]) (.sq (.sq (rg [qM 22 10,oo 23 (.bi .leq 0 (.t 22) (i6 12))]) (.cd (.t 23) (.sq (rg [qM 24 0,qM 25 1,qM 26 2,oo 27 (.ca .any false (.f Zg4) [.t 24,.t 25,.t 26])]) (.rt)) (.sk))) (.sq (.sq (rg [qM 28 3,oo 29 (.bi .eql 0 (.t 28) (i6 0))]) (.cd (.t 29) (.sq (rg [qM 30 0,qM 31 1,qM 32 2,oo 33 (.ca .pure false (.f ZAT) [.t 30,.t 31,.t 32])]) (.rt)) (.sk))) (.sq (.sq (rg [qM 34 8,oo 35 (.nt (.t 34))]) (.cd (.t 35) (.sq (rg [qM 36 0,qM 37 1,qM 38 2,oo 39 (.ca .pure false (.f ZAU) [.t 36,.t 37,.t 38])])
 (rg [qM 40 3,oo 41 (.bi .sub 0 (.t 40) (i6 1)),qM 3 41])) (.sk))) (.sq (rg [qM 43 0,qM 44 1,qM 45 2,oo 46 (.ca .pure false (.f ZAV) [.t 43,.t 44,.t 45]),qM 42 46,qE 47 0 42,qE 48 1 42,qM 11 47,qM 12 48]) (.sq (.sq (rg [qM 49 12,oo 50 (.bi .eql 0 (.t 49) (i6 2))]) (.cd (.t 50) (.sq (rg [qM 51 0,qM 52 1,qM 53 2,oo 54 (.ca .pure false (.f ZAW) [.t 51,.t 52,.t 53])]) (.sq (rg [qM 55 2,oo 56 (.bi .sub 0 (.t 55) (i6 1)),qM 57 11,qM 58 1,qB 59 .sub 57 58,qB 60 .sub 56 59,qM 11 60])
 (rg [om 12 (i6 1)]))) (.sk))) (.sq (.sq (rg [qM 61 8,qM 62 61,og 63 62 true (.mv (.t 9) none),oo 64 (.pk (.t 62) (.t 63) (.k (.bool false))),qM 65 64,og 66 65 true (.mv (.t 12) none),og 67 65 true (.bi .eql 0 (.t 66) (i6 1)),oo 68 (.pk (.t 65) (.t 67) (.k (.bool false)))]) (.cd (.t 68) (.sq (rg [qM 69 0,qM 70 1,qM 71 2,oo 72 (.ca .pure false (.f ZAX) [.t 69,.t 70,.t 71])]) (.cd (.t 72) (.rt) (.sk))) (.sk))) (.sq (.sq (.rg (some 0) [qM 73 1,oo 74 (.bi .gtr 0 (.t 73) (i6 0)),qM 75 74,og 76 75 true (.mv (.t 0) none),og 77 75 true (.mv (.t 1) none),og 78 75 true (.bi .sub 0 (.t 77) (i6 1)),og 79 75 true (.ia 1 (.t 76) (.t 78)),og 80 75 true (.ld none (.t 79)),og 81 75 true (.mv (.t 0) none),og 82 75 true (.mv (.t 11) none),og 83 75 true (.ia 1 (.t 81) (.t 82)),og 84 75 true (.ld none (.t 83)),og 85 75 true (.ca .pure false (.f Zdk) [.t 80,.t 84]),og 86 75 true (.nt (.t 85)),oo 87 (.pk (.t 75) (.t 86) (.k (.bool false)))]) (.cd (.t 87) (.sq (rg [qM 88 0,qM 89 1,qM 90 2,qM 91 11,oo 92 (.ca .pure false (.f ZAY) [.t 88,.t 89,.t 90,.t 91]),qM 13 92]) (.sq (rg [qM 93 13,qM 1 93]) (.ex 1))) (.sk))) (.sq (rg [qM 95 0,qM 96 1,qM 97 2,qM 98 11,oo 99 (.ca .pure false (.f ZAZ) [.t 95,.t 96,.t 97,.t 98]),qM 94 99,qE 100 0 94,qE 101 1 94,qM 14 100,qM 15 101]) (.sq (rg [qM 102 15,qM 9 102]) (.sq (rg [qM 103 14,qM 104 1,qB 105 .sub 103 104,qM 106 2,qM 107 14,qB 108 .sub 106 107,qM 16 105,qM 17 108]) (.sq (rg [qM 109 10,oo 110 (.bi .quo 0 (.t 109) (i6 8)),qM 18 110]) (.sq (rg [qM 111 16,qM 112 17,qB 113 .lss 111 112]) (.cd (.t 113) (.sq (rg [qM 114 16,qM 115 18,qB 116 .geq 114 115,qM 8 116]) (.sq (rg [qM 117 0,qM 118 1,qM 119 14,qM 120 3,oo 121 (.ca .any false (.f Zbc) [.t 117,.t 118,.t 119,.t 120])])
 (rg [qM 122 14,oo 123 (.bi .add 0 (.t 122) (i6 1)),qM 1 123]))) (.sq (rg [qM 124 17,qM 125 18,qB 126 .geq 124 125,qM 8 126]) (.sq (rg [qM 127 0,qM 128 14,oo 129 (.bi .add 0 (.t 128) (i6 1)),qM 130 2,qM 131 3,oo 132 (.ca .any false (.f Zbc) [.t 127,.t 129,.t 130,.t 131])])
 (rg [qM 133 14,qM 2 133])))))))))))))))))))))) }
theorem ZC1:Zk Ucb Zbc Zm7=true:=by kernel_rfl
def Zm8:F2 :=
 { nt:=49,res:=[],body:=(.sq (rg [qM 8 1,oo 9 (.bi .add 0 (.t 8) (i6 1)),qM 6 9]) (.bl 0 (.lp [0,1,2,6] [] (.sq (.sq (rg [qM 10 6,qM 11 2,qB 12 .lss 10 11]) (.cd (.t 12) (.sk) (.ex 0))) (.sq (.bl 1 (.sq (rg [qM 15 6,qM 7 15]) (.bl 2 (.lp [0,1,2,6,7] [] (.sq (.sq (.rg (some 0) [qM 16 7,qM 17 1,qB 18 .gtr 16 17,qM 19 18,og 20 19 true (.mv (.t 0) none),og 21 19 true (.mv (.t 7) none),og 22 19 true (.ia 1 (.t 20) (.t 21)),og 23 19 true (.ld none (.t 22)),og 24 19 true (.mv (.t 0) none),og 25 19 true (.mv (.t 7) none),og 26 19 true (.bi .sub 0 (.t 25) (i6 1)),og 27 19 true (.ia 1 (.t 24) (.t 26)),og 28 19 true (.ld none (.t 27)),og 29 19 true (.ca .pure false (.f Zdk) [.t 23,.t 28]),oo 30 (.pk (.t 19) (.t 29) (.k (.bool false)))]) (.cd (.t 30) (.sk) (.ex 2))) (.sq (.bl 3 (.rg (some 0) [qM 33 0,qM 34 7,qM 35 0,qM 36 7,oo 37 (.bi .sub 0 (.t 36) (i6 1)),qM 38 0,qM 39 7,oo 40 (.bi .sub 0 (.t 39) (i6 1)),qI 41 1 38 40,qL 42 41,qM 43 0,qM 44 7,qI 45 1 43 44,qL 46 45,qI 47 1 33 34,
 Zj (.s0 1 (.t 47) (.t 42)),qI 48 1 35 37,
 Zj (.st 1 (.t 48) (.t 46))]))
 (rg [qM 31 7,oo 32 (.bi .sub 0 (.t 31) (i6 1)),qM 7 32])))))))
 (rg [qM 13 6,oo 14 (.bi .add 0 (.t 13) (i6 1)),qM 6 14])))))) }
theorem ZC2:Zk Ucb Zg4 Zm8=true:=by kernel_rfl
def Zm9:F2 :=
 { nt:=17,res:=[.t 4 [0]],body:=(.sq (rg [om 4 (.k (.bool false))]) (.sq (rg [qM 5 0,oo 6 (.ca .pure false (.f Zdl) [.t 5]),qM 7 6,og 8 7 true (.mv (.t 1) none),og 9 7 true (.ca .pure false (.f Zdl) [.t 8]),og 10 7 true (.nt (.t 9)),oo 11 (.pk (.t 7) (.t 10) (.k (.bool false))),qM 12 11,og 13 12 false (.mv (.t 0) none),og 14 12 false (.mv (.t 1) none),og 15 12 false (.bi .lss 0 (.t 13) (.t 14)),oo 16 (.pk (.t 12) (.k (.bool true)) (.t 15)),qM 4 16]) (.rt))) }
theorem ZC3:Zk Ucb Zdk Zm9=true:=by kernel_rfl
def Zna:F2 :=
 { nt:=6,res:=[.t 2 [0]],body:=(.sq (rg [om 2 (.k (.bool false))]) (.sq (rg [qM 3 0,qM 4 0,qB 5 .neq 3 4,qM 2 5]) (.rt))) }
theorem ZC4:Zk Ucb Zdl Zna=true:=by kernel_rfl
def Q5(k:Nat)(m:Option Nat):F2 :=
 { nt:=19,res:=[.t 4 [0]],body:=(.sq (.rg none [⟨some 4,none,.mv (.k (.int .i64 0)) none⟩]) (.sq (.sq (.rg none [⟨some 6,none,.mv (.t 0) none⟩,
    ⟨some 7,none,.ln (.t 6)⟩,
    ⟨some 8,none,.mv (.k (.int .i64 0)) none⟩]) (.bl 0 (.lp [0,1,7,8] [] (.sq (.rg none [⟨some 9,none,.bi .lss 0 (.t 8) (.t 7)⟩]) (.sq (.cd (.t 9) (.sk) (.ex 0)) (.sq (.bl 1 (.sq (.rg none [⟨some 10,none,.mv (.t 8) none⟩,
      ⟨some 5,none,.mv (.t 10) none⟩]) (.sq (.rg none [⟨some 11,none,.mv (.t 1) none⟩,
      ⟨some 12,none,.mv (.t 0) none⟩,
      ⟨some 13,none,.mv (.t 5) none⟩,
      ⟨some 14,none,.ia k (.t 12) (.t 13)⟩,
      ⟨some 15,none,.ld m (.t 14)⟩,
      ⟨some 16,none,.ca .pure false (.t 11) [.t 15]⟩]) (.cd (.t 16) (.sq (.rg none [⟨some 17,none,.mv (.t 5) none⟩,
      ⟨some 4,none,.mv (.t 17) none⟩]) (.rt)) (.sk))))) (.rg none [⟨some 18,none,.bi .add 0 (.t 8) (.k (.int .i64 1))⟩,
    ⟨some 8,none,.mv (.t 18) none⟩]))))))) (.sq (.rg none [⟨some 4,none,.mv (.k (.int .i64 (-1))) none⟩]) (.rt)))) }
def Ua(fi:FuncId):F2 :=
 { nt:=9,res:=[.t 4 [0]],body:=(.sq (.rg none [⟨some 4,none,.mv (.k (.bool false)) none⟩]) (.sq (.rg none [⟨some 5,none,.mv (.t 0) none⟩,
   ⟨some 6,none,.mv (.t 1) none⟩,
   ⟨some 7,none,.ca .pure false (.f fi) [.t 5,.t 6]⟩,
   ⟨some 8,none,.bi .geq 0 (.t 7) (.k (.int .i64 0))⟩,
   ⟨some 4,none,.mv (.t 8) none⟩]) (.rt))) }
def Zdp  : F2 :=
 { nt:=19,res:=[.t 4 [0]],body:=(.sq (.rg none [⟨some 4,none,.mv (.k (.int .i64 0)) none⟩]) (.sq (.sq (.rg none [⟨some 6,none,.mv (.t 0) none⟩,
    ⟨some 7,none,.ln (.t 6)⟩,
    ⟨some 8,none,.mv (.k (.int .i64 0)) none⟩]) (.bl 0 (.lp [0,1,7,8] [] (.sq (.rg none [⟨some 9,none,.bi .lss 0 (.t 8) (.t 7)⟩]) (.sq (.cd (.t 9) (.sk) (.ex 0)) (.sq (.bl 1 (.sq (.rg none [⟨some 10,none,.mv (.t 8) none⟩,
      ⟨some 5,none,.mv (.t 10) none⟩]) (.sq (.rg none [⟨some 11,none,.mv (.t 1) none⟩,
      ⟨some 12,none,.mv (.t 0) none⟩,
      ⟨some 13,none,.mv (.t 5) none⟩,
      ⟨some 14,none,.ia 1 (.t 12) (.t 13)⟩,
      ⟨some 15,none,.ld none (.t 14)⟩,
      ⟨some 16,none,.bi .eql 0 (.t 11) (.t 15)⟩]) (.cd (.t 16) (.sq (.rg none [⟨some 17,none,.mv (.t 5) none⟩,
      ⟨some 4,none,.mv (.t 17) none⟩]) (.rt)) (.sk))))) (.rg none [⟨some 18,none,.bi .add 0 (.t 8) (.k (.int .i64 1))⟩,
    ⟨some 8,none,.mv (.t 18) none⟩]))))))) (.sq (.rg none [⟨some 4,none,.mv (.k (.int .i64 (-1))) none⟩]) (.rt)))) }
def Zhc(fi:FuncId):F2 :=
 { nt:=9,res:=[.t 4 [0]],body:=(.sq (.rg none [⟨some 4,none,.mv (.k (.bool false)) none⟩]) (.sq (.rg none [⟨some 5,none,.mv (.t 0) none⟩,
   ⟨some 6,none,.mv (.t 1) none⟩,
   ⟨some 7,none,.ca .pure false (.f fi) [.t 5,.t 6]⟩,
   ⟨some 8,none,.bi .geq 0 (.t 7) (.k (.int .i64 0))⟩,
   ⟨some 4,none,.mv (.t 8) none⟩]) (.rt))) }
end Go.Fd
namespace Go.Fd
set_option maxRecDepth 20000
section rules
variable {L:Zb} {F:List IV->Prop} {lvl:Nat}
theorem Q6:∀{l:List (List Tr)} {F:List IV->Prop},Z5 L (l.map IV.ta) F=F (l.map IV.ta)
 | [],F=>Zfs
 | x::r,F=>by simp only[Uah];rw[Zkl,Q6];rfl
theorem Vf{Pd:Zd->Prop}:∀{l:List (List Tr)},Zc Pd (l.map IV.ta)=True
 | []=>rfl
 | x::r=>by simp only[Uah,Zc,men,true_and];exact Vf
theorem UX{js:List Nat}{l:List (List Tr)}:VW lvl js (l.map IV.ta)=True:=Vf
end rules
section
variable {P:Program} {α:Type}
theorem Jb{α β:Type}{c:α->β}{l:List α}{j:Nat}(h:j<l.length):(l.map c)[j]? = some (c l[j]):=by simp [h]
theorem ZC5{α:Type}{c:α->List Tr}{l:List α}{j:Nat}:cut (l.map c) 0 (j-0)=(l.take j).map c:=by simp only[cut,Ubl,Nat.sub_zero,Ubj]
theorem Zdq{α:Type}{l:List α}{j:Nat}(h:j<l.length):l.drop j=l[j]::l.drop (j+1):=UaA h
def Yz(f:α->Bool):List α->Int->Int
 | [],_=>-1
 | x::r,j=>if f x=true then j else Yz f r (j+1)
theorem Wt{f:α->Bool}{x:α}{r:List α}{j:Int}:Yz f (x::r) j=if f x=true then j else Yz f r (j+1):=rfl
theorem Zdr{f:α->Bool}:∀{l:List α} {j:Int},0<=j->(0<=Yz f l j↔l.any f=true)
 | [],j,_=>by simp [Yz]
 | x::r,j,h=>by
  rw[Wt,List.any_cons];cases hx:f x with
  | true=>simp [h]
  | false =>
   simp only[Ua0,if_false,Bool.false_or];exact Zdr (by omega)
theorem Znb{fid:FuncId}(hc:Zk P fid (Q5 1 none)=true){t:α->Tr}{f:α->Bool}{fe:FuncId}{cs:List (List Tr)}(l:List α)(hl:l.length<=9223372036854775807)
  (hf:∀ x∈l,∀ lvl S,Sem P fe lvl (.tr (t x)::cs.map IV.ta) S (iB (f x)) S) (lvl:Nat) (S:Zb):Sem P fid lvl [.tr (.sl (l.map fun x=>[t x])),.fn fe (cs.map IV.ta)] S (iI (Yz f l 0)) S:=by
 refine Zl hc trivial ?_;simp only[Q5,Uaa,Za,seval];refine ZP (α:=Unit) l.length (fun j _=>[(8,iI j)]) (fun _ _=>[]) (fun j _=>Yz f (l.drop j) j=Yz f l 0) () (by simp only[UX,Za,seval]) (by (simp only[Za,seval])<;>rfl) rfl ?_;intro j _ hj hA;simp only[Za,seval];refine Zv (fun hlt=>?_) (fun hge=>?_)
 ·have hja:j<l.length:=by omega
  have ga:=Jb (c:=fun x=>[t x]) hja;rw[Zdq hja,Wt] at hA;simp only[ga,Q6,Vf,Za,seval,Zc,men];refine Zf (hf _ (Uaj hja)) ?_;simp only[Vf,Za,seval];refine Zv (fun h=>?_) (fun h=>?_)
  ·rw[if_pos h] at hA;rw[<-hA]
  ·rw[if_neg h] at hA;exact⟨by rw[Ze];omega,Zz () hja rfl hA⟩
 ·have:j=l.length:=by omega
  subst this;rw[Ubo] at hA;rw[<-hA];rfl
theorem ZC6{k:Nat}{fid:FuncId}(hc:Zk P fid (Q5 k (some k))=true){c:α->List Tr}(hk:∀ x,(c x).length=k){f:α->Bool}{fe:FuncId}{cs:List (List Tr)}(l:List α)(hl:l.length<=9223372036854775807)
  (hf:∀ x∈l,∀ lvl S,Sem P fe lvl (.ag ((c x).map .tr)::cs.map IV.ta) S (iB (f x)) S) (lvl:Nat) (S:Zb):Sem P fid lvl [.tr (.sl (l.map c)),.fn fe (cs.map IV.ta)] S (iI (Yz f l 0)) S:=by
 refine Zl hc trivial ?_;simp only[Q5,Uaa,Za,seval];refine ZP (α:=Unit) l.length (fun j _=>[(8,iI j)]) (fun _ _=>[]) (fun j _=>Yz f (l.drop j) j=Yz f l 0) () (by simp only[UX,Za,seval]) (by (simp only[Za,seval])<;>rfl) rfl ?_;intro j _ hj hA;simp only[Za,seval];refine Zv (fun hlt=>?_) (fun hge=>?_)
 ·have hja:j<l.length:=by omega
  have ga:=Jb (c:=c) hja;have hkk:=hk l[j];have htk:(c l[j]).take k=c l[j]:=UaQ (by omega);rw[Zdq hja,Wt] at hA;simp only[ga,hkk,htk,Q6,Zfx,Vf,Zfy,Za,seval,Zc,men];refine Zf (hf _ (Uaj hja)) ?_;simp only[Vf,Za,seval];refine Zv (fun h=>?_) (fun h=>?_)
  ·rw[if_pos h] at hA;rw[<-hA]
  ·rw[if_neg h] at hA;exact⟨by rw[Ze];omega,Zz () hja rfl hA⟩
 ·have:j=l.length:=by omega
  subst this;rw[Ubo] at hA;rw[<-hA];rfl
theorem Znc{fid fi:FuncId}(hc:Zk P fid (Ua fi)=true){es:Row}{f:α->Bool}{fe:FuncId}{cs:List (List Tr)}{l:List α}
  (hi:∀ lvl S,Sem P fi lvl [.tr (.sl es),.fn fe (cs.map IV.ta)] S (iI (Yz f l 0)) S) (lvl:Nat) (S:Zb):Sem P fid lvl [.tr (.sl es),.fn fe (cs.map IV.ta)] S (iB (l.any f)) S:=by
 refine Zl hc trivial ?_;simp only[Ua,Q6,Vf,Za,seval,Zc,men];refine Zf hi ?_;simp only[Za,seval];have:=Zdr (f:=f) (l:=l) (Ubt 0);by_cases h:l.any f=true
 ·simp [h,this.2 h]
 ·simp [h,mt this.1 h]
theorem Zds{fid fi:FuncId}(hc:Zk P fid (Ua fi)=true)(hi:Zk P fi (Q5 1 none)=true){t:α->Tr}{f:α->Bool}{fe:FuncId}{cs:List (List Tr)}(l:List α)(hl:l.length<=9223372036854775807)
  (hf:∀ x∈l,∀ lvl S,Sem P fe lvl (.tr (t x)::cs.map IV.ta) S (iB (f x)) S) (lvl:Nat) (S:Zb):Sem P fid lvl [.tr (.sl (l.map fun x=>[t x])),.fn fe (cs.map IV.ta)] S (iB (l.any f)) S :=
 Znc hc (Znb hi l hl hf) lvl S
theorem Znd{k:Nat}{fid fi:FuncId}(hc:Zk P fid (Ua fi)=true)(hi:Zk P fi (Q5 k (some k))=true){c:α->List Tr}(hk:∀ x,(c x).length=k){f:α->Bool}{fe:FuncId}{cs:List (List Tr)}(l:List α)(hl:l.length<=9223372036854775807)
  (hf:∀ x∈l,∀ lvl S,Sem P fe lvl (.ag ((c x).map .tr)::cs.map IV.ta) S (iB (f x)) S) (lvl:Nat) (S:Zb):Sem P fid lvl [.tr (.sl (l.map c)),.fn fe (cs.map IV.ta)] S (iB (l.any f)) S :=
 Znc hc (ZC6 hi hk l hl hf) lvl S
structure Cmp (t:α->Tr):Prop where
 neq:∀(x y:α) (F:IV->Prop),ZX .neq 0 (.tr (t x)) (.tr (t y)) F=F (iB (!(@decide (x=y) (Classical.propDecidable _))))
 eql:∀(x y:α) (F:IV->Prop),ZX .eql 0 (.tr (t x)) (.tr (t y)) F=F (iB (@decide (x=y) (Classical.propDecidable _)))
theorem Zne:Cmp ts:=⟨fun x y F=>by rw[Zj3];congr 2;by_cases h:x=y<;>simp [h],fun x y F=>by rw[Zj2];congr 2;by_cases h:x=y<;>simp [h]⟩
theorem Znf{fid:FuncId}(hc:Zk P fid Zdp=true)[DecidableEq α]{t:α->Tr}(hT:Cmp t)(l:List α)(v:α)(hl:l.length<=9223372036854775807)(lvl:Nat)(S:Zb):Sem P fid lvl [.tr (.sl (l.map fun x=>[t x])),.tr (t v)] S (iI (Yz (fun x=>decide (v=x)) l 0)) S:=by
 refine Zl hc trivial ?_;simp only[Zdp,Uaa,Za,seval];refine ZP (α:=Unit) l.length (fun j _=>[(8,iI j)]) (fun _ _=>[]) (fun j _=>Yz (fun x=>decide (v=x)) (l.drop j) j=Yz (fun x=>decide (v=x)) l 0) () (by simp only[Za,seval]) (by (simp only[Za,seval])<;>rfl) rfl ?_;intro j _ hj hA;simp only[Za,seval];refine Zv (fun hlt=>?_) (fun hge=>?_)
 ·have hja:j<l.length:=by omega
  have ga:=Jb (c:=fun x=>[t x]) hja;have hq:=hT.eql v l[j];rw[Zdq hja,Wt] at hA;simp only[ga,hq,Za,seval];refine Zv (fun h=>?_) (fun h=>?_)
  ·rw[if_pos (by simpa using h)] at hA;rw[<-hA]
  ·rw[if_neg (by simpa using h)] at hA;exact⟨by rw[Ze];omega,Zz () hja rfl hA⟩
 ·have:j=l.length:=by omega
  subst this;rw[Ubo] at hA;rw[<-hA];rfl
theorem ZC7[DecidableEq α]{l:List α}{v:α}:l.any (fun x=>decide (v=x))=decide (v∈l):=by rw[Bool.eq_iff_iff];simp [Ub4]
theorem ZC8{fid fi:FuncId}(hc:Zk P fid (Zhc fi)=true)(hi:Zk P fi Zdp=true)[DecidableEq α]{t:α->Tr}(hT:Cmp t)(l:List α)(v:α)(hl:l.length<=9223372036854775807)(lvl:Nat)(S:Zb):Sem P fid lvl [.tr (.sl (l.map fun x=>[t x])),.tr (t v)] S (iB (decide (v∈l))) S:=by
 refine Zl hc trivial ?_;simp only[Zhc,Za,seval,Zc,men];refine Zf (Znf hi hT l v hl) ?_;simp only[Za,seval];have:=Zdr (f:=fun x=>decide (v=x)) (l:=l) (Ubt 0);rw[ZC7] at this;by_cases h:v∈l
 ·simp [h,this.2 (by simpa using h)]
 ·have h2:¬ 0<=Yz (fun x=>decide (v=x)) l 0:=fun hh=>h (by simpa using this.1 hh);simp [h,h2]
end
end Go.Fd
namespace Go.Fd
open Go.Proofs.Tryz renaming prog->Ucb
set_option maxRecDepth 20000
noncomputable def dc(p:Prop):Bool:=@decide p (Classical.propDecidable p)
theorem dc_iff{p:Prop}:dc p=true↔p:=by unfold dc;simp
theorem ZU{p:Prop}(h:p):dc p=true:=dc_iff.2 h
theorem Zt{p:Prop}(h:¬ p):dc p=false:=by
 cases hh:dc p with
 | false=>rfl
 | true=>exact absurd (dc_iff.1 hh) h
theorem dc_not{p:Prop}:dc p=false ↔ ¬ p:=⟨fun h hp=>(by rw[ZU hp] at h;cases h),Zt⟩
theorem V6{p q:Prop}(h:p↔q):dc p=dc q:=by rw[propext h]
theorem Wu{p:Prop}[Decidable p]:dc p=decide p:=by
 by_cases h:p
 ·rw[ZU h];simp [h]
 ·rw[Zt h];simp [h]
abbrev g0(l:List Int)(i:Nat):Int:=l.getD i 0
abbrev A3:=Int×Int×Int
abbrev g3(l:List A3)(i:Nat):A3:=l.getD i (0,0,0)
theorem JC{l:List Int}{i:Nat}(h:i<l.length):(rI l)[i]? = some [tv (g0 l i)]:=by simp [h]
def JW(n a b:Int):Bool:=decide (a<=n)&&decide (n<=b)
theorem inB_iff{n a b:Int}:JW n a b=true↔a<=n/\n<=b:=by simp [JW]
theorem inB_not{n a b:Int}:JW n a b=false ↔ ¬ (a<=n/\n<=b):=by rw[<-inB_iff];cases JW n a b<;>simp
theorem Qp(n a b:Int)(lvl:Nat)(S:Zb):Sem Ucb VF lvl [iI n,iI a,iI b] S (iB (JW n a b)) S:=by refine Zl ZA3 trivial ?_;simp only[Zlc,Za,seval];refine Zv (fun h=>?_) (fun h=>?_)<;>simp [JW,h]
theorem QJ(n a b:Int)(lvl:Nat)(S:Zb):Sem Ucb V4 lvl [iI n,iI a,iI b] S (iB (JW n a b)) S:=by refine Zl ZA8 trivial ?_;simp only[Zli,Za,seval];refine Zv (fun h=>?_) (fun h=>?_)<;>simp [JW,h]
theorem ZC9(l:List Int)(n:Int)(hl:l.length<=9223372036854775807)(lvl:Nat)(S:Zb):Sem Ucb Zgn lvl [tI l,iI n] S (iB (decide (n∈l))) S:=by
 refine Zl ZBx trivial ?_;simp only[ZlC,Za,seval];refine J9 (α:=Unit) l.length (fun j _=>⟨lvl,[(0,tI l),(1,iI n),(5,iI j)],[],S⟩) (fun j _=>n ∉ l.take j) () ⟨by simp only[Za,seval],by (simp only[Za,seval])<;>rfl⟩ (by simp) ?_;intro j _ hj hA;simp only[Uaa,Za,seval];refine Zv (fun hlt=>?_) (fun hge=>?_)
 ·have hja:j<l.length:=by omega
  have ga:=JC hja;simp only[ga,Za,seval];have hg:g0 l j=l[j]:=by simp [hja]
  refine Zv (fun he=>?_) (fun hne=>?_)
  ·have:n∈l:=(by rw[<-he,hg];exact Uaj hja);simp [this]
  ·refine⟨by rw[Ze];omega,Zz () hja rfl ?_⟩;rw[Uag hja];simp only[Uaq,UaI,not_or];exact⟨hA,fun e=>hne (by rw[hg,e])⟩
 ·have:j=l.length:=by omega
  subst this;rw[Uap] at hA;simp [hA]
theorem ZDa(x:Int)(lvl:Nat)(S:Zb):Sem Ucb Zdf lvl [iI x] S (iB false) S:=by refine Zl ZCR trivial ?_;simp only[ZmV,Za,seval]
end Go.Fd
