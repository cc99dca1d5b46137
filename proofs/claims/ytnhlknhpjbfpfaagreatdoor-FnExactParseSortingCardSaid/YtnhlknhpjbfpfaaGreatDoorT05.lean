/-
  The annotated codes of the functions, printed by a program of mine (gen.py), and the check that they belong to the program.
-/
import Derived.Test.YtnhlknhpjbfpfaaGreatDoorT04
import Derived.KernelRfl
import Derived.Shelf.Strings.SlTrimAscii
import Derived.Test.YtnhlknhpjbfpfaaGreatDoorProg
import Derived.Shelf.Strconv.Itoa3
import Derived.Shelf.Strings.OnBuilder
import Derived.Lib.AppendIntMem
import Derived.Lib.SplitLaws
import Derived.Lib.IndexLaws
import Derived.Lib.CutLaws
import Derived.Lib.AtoiAll
import Derived.Shelf.Strings.Cut
import Derived.Shelf.Strings.Split
import Derived.Shelf.Strconv.AtoiAll
import Derived.Shelf.Strconv.ErrVarAll
set_option linter.all false
namespace Go.Fd
open Go.Proofs.Tryz renaming prog->UbY
def Zgu:F2 :=
 { nt:=139,res:=[.c 4 (some 5) [2,2,2,2,3],.t 5 [0]],body:=(.sq (rg [oo 4 (.al [.slice none 0 0,.slice none 0 0,.slice none 0 0,.slice none 0 0,.slice none 0 0] []),om 5 (.k (.bool false))]) (.sq (rg [qM 17 1,oo 18 (.ca .pure false (.f Zcz) [.t 17]),qM 6 18]) (.sq (.sq (rg [qM 19 0,oo 20 (.ca .pure false (.f Zam) [.t 19]),oo 21 (.nt (.t 20)),qM 22 21,og 23 22 false (.mv (.t 6) none),og 24 22 false (.ln (.t 23)),og 25 22 false (.mv (.t 0) none),og 26 22 false (.ln (.t 25)),og 27 22 false (.bi .add 0 (.t 26) (i6 3)),og 28 22 false (.bi .neq 0 (.t 24) (.t 27)),oo 29 (.pk (.t 22) (.k (.bool true)) (.t 28))]) (.cd (.t 29) (.sq (rg [oo 30 (.bd [.slice none 0 0,.slice none 0 0,.slice none 0 0,.slice none 0 0,.slice none 0 0] [] [(1,1),(2,1),(4,2)]),
 Jf (.st 5 (.t 4) (.t 30)),om 5 (.k (.bool false))]) (.rt)) (.sk))) (.sq (rg [qM 31 0,qM 32 6,oo 33 (.ia 1 (.t 32) (i6 0)),qL 34 33,oo 35 (.ca .pure false (.f X9) [.t 34,.k (.int .u8 32)]),oo 36 (.ca .pure true (.f Zan) [.t 31,.t 35]),oo 37 (.bd [.slice none 0 0,.slice none 0 0,.slice none 0 0,.slice none 0 0,.slice none 0 0] [(0,1,.t 36)] [(1,1),(2,1),(4,2)]),oo 7 (.al [.slice none 0 0,.slice none 0 0,.slice none 0 0,.slice none 0 0,.slice none 0 0] []),
 Jf (.st 5 (.t 7) (.t 37))]) (.sq (.sq (rg [om 8 (i6 0)]) (.bl 0 (.lp [0,1,4,6,7,8] [128,224,960,961,962,1152,1184,1185,1186,1984,2240,2560,3328,3329,3330,3840,4384,4385,4386] (.sq (.sq (rg [qM 38 8,qM 39 0,qN 40 39,qB 41 .lss 38 40]) (.cd (.t 41) (.sk) (.ex 0))) (.sq (.bl 1 (.sq (rg [qM 44 6,qM 45 8,oo 46 (.bi .add 0 (.t 45) (i6 1)),qI 47 1 44 46,qL 48 47,oo 49 (.ca .pure false (.f X9) [.t 48,.k (.int .u8 32)]),qM 9 49]) (.sq (rg [qM 51 9,oo 52 (.ia 1 (.t 51) (i6 0)),qL 53 52,oo 54 (.ca .pure false (.f ZcA) [.t 53,.k (.int .u8 58)]),qM 50 54,qE 55 0 50,qE 56 1 50,qM 10 55,qM 11 56]) (.sq (.rg (some 0) [qF 57 2 7,qL 58 57,qM 59 11,oo 60 (.ca .pure true (.f Zao) [.t 59]),oo 61 (.bv 1 1 [.slice none 0 0] [(0,.t 60)]),oo 62 (.ap 1 2 (.t 58) (.t 61)),qF 63 2 7,
 Jf (.st 1 (.t 63) (.t 62))]) (.rg (some 0) [qF 64 1 7,qL 65 64,qM 66 0,qM 67 9,oo 68 (.ca .pure true (.f Zan) [.t 66,.t 67]),oo 69 (.bv 1 1 [.slice none 0 0] [(0,.t 68)]),oo 70 (.ap 1 2 (.t 65) (.t 69)),qF 71 1 7,
 Jf (.st 1 (.t 71) (.t 70))])))))
 (rg [qM 42 8,oo 43 (.bi .add 0 (.t 42) (i6 1)),qM 8 43])))))) (.sq (rg [qM 73 6,qM 74 0,qN 75 74,oo 76 (.bi .add 0 (.t 75) (i6 1)),qI 77 1 73 76,qL 78 77,oo 79 (.ca .pure false (.f X9) [.t 78,.k (.int .u8 32)]),oo 80 (.ca .pure true (.f ZcB) [.t 79]),qM 72 80,qE 81 0 72,qE 82 1 72,qM 12 81,qM 13 82]) (.sq (rg [qM 83 12,qF 84 3 7,
 Jf (.st 1 (.t 84) (.t 83))]) (.sq (rg [qM 85 6,qM 86 0,qN 87 86,oo 88 (.bi .add 0 (.t 87) (i6 2)),qI 89 1 85 88,qL 90 89,oo 91 (.ca .pure false (.f X9) [.t 90,.k (.int .u8 32)]),qM 14 91]) (.sq (.sq (rg [om 15 (i6 1)]) (.bl 2 (.lp [0,1,4,7,13,14,15] [128,224,960,961,962,1152,1184,1185,1186,1984,2240,2560,3328,3329,3330,3840,4384,4385,4386] (.sq (.sq (rg [qM 92 15,qM 93 14,qN 94 93,qB 95 .lss 92 94]) (.cd (.t 95) (.sk) (.ex 2))) (.sq (.bl 3 (.sq (.sq (rg [qM 98 14,qM 99 15,qI 100 1 98 99,qL 101 100,oo 102 (.lg (.t 101)),oo 103 (.bi .neq 0 (.t 102) (i6 3))]) (.cd (.t 103) (.sq (rg [oo 104 (.bd [.slice none 0 0,.slice none 0 0,.slice none 0 0,.slice none 0 0,.slice none 0 0] [] [(1,1),(2,1),(4,2)]),
 Jf (.st 5 (.t 4) (.t 104)),om 5 (.k (.bool false))]) (.rt)) (.sk))) (.sq (rg [qM 105 14,qM 106 15,qI 107 1 105 106,qL 108 107,oo 109 (.ca .pure false (.f Zao) [.t 108]),qM 16 109]) (.rg (some 0) [qF 110 4 7,qL 111 110,qM 112 16,oo 113 (.ia 1 (.t 112) (i6 0)),qL 114 113,qM 115 16,oo 116 (.ia 1 (.t 115) (i6 2)),qL 117 116,oo 118 (.bd [.int .i64 0,.int .i64 0] [(0,1,.t 114),(1,1,.t 117)] []),oo 119 (.bs 2 1 [.int .i64 0,.int .i64 0] [(0,.t 118)]),oo 120 (.ap 2 0 (.t 111) (.t 119)),qF 121 4 7,
 Jf (.st 1 (.t 121) (.t 120))]))))
 (rg [qM 96 15,oo 97 (.bi .add 0 (.t 96) (i6 1)),qM 15 97])))))) (.sq (.sq (rg [qM 122 13,oo 123 (.nt (.t 122)),qM 124 123,og 125 124 false (.mv (.t 0) none),og 126 124 false (.ld (some 5) (.t 7)),og 127 124 false (.ca .pure false (.f ZcC) [.t 125,.t 126]),og 128 124 false (.nt (.t 127)),oo 129 (.pk (.t 124) (.k (.bool true)) (.t 128)),qM 130 129,og 131 130 false (.mv (.t 0) none),og 132 130 false (.ld (some 5) (.t 7)),og 133 130 false (.ca .pure false (.f ZcD) [.t 131,.t 132]),og 134 130 false (.mv (.t 1) none),og 135 130 false (.bi .neq 0 (.t 133) (.t 134)),oo 136 (.pk (.t 130) (.k (.bool true)) (.t 135))]) (.cd (.t 136) (.sq (rg [oo 137 (.bd [.slice none 0 0,.slice none 0 0,.slice none 0 0,.slice none 0 0,.slice none 0 0] [] [(1,1),(2,1),(4,2)]),
 Jf (.st 5 (.t 4) (.t 137)),om 5 (.k (.bool false))]) (.rt)) (.sk))) (.sq (rg [qS 138 5 7,
 Jf (.st 5 (.t 4) (.t 138)),om 5 (.k (.bool true))]) (.rt)))))))))))) }
theorem Zs5:Zv UbY Zcv Zgu=true:=by kernel_rfl
def Zgv:F2 :=
 { nt:=163,res:=[.c 4 (some 5) [2,2,2,2,3],.t 5 [0]],body:=(.sq (rg [oo 4 (.al [.slice none 0 0,.slice none 0 0,.slice none 0 0,.slice none 0 0,.slice none 0 0] []),om 5 (.k (.bool false))]) (.sq (rg [qM 26 1,oo 27 (.ca .pure false (.f Zgq) [.t 26,.k (.string ⟨#[59,32]⟩)]),qM 6 27]) (.sq (.sq (rg [qM 28 0,oo 29 (.ca .pure false (.f Zap) [.t 28]),oo 30 (.nt (.t 29)),qM 31 30,og 32 31 false (.mv (.t 6) none),og 33 31 false (.ln (.t 32)),og 34 31 false (.mv (.t 0) none),og 35 31 false (.ln (.t 34)),og 36 31 false (.bi .add 0 (.t 35) (i6 3)),og 37 31 false (.bi .neq 0 (.t 33) (.t 36)),oo 38 (.pk (.t 31) (.k (.bool true)) (.t 37))]) (.cd (.t 38) (.sq (rg [oo 39 (.bd [.slice none 0 0,.slice none 0 0,.slice none 0 0,.slice none 0 0,.slice none 0 0] [] [(1,1),(2,1),(4,2)]),
 Jf (.st 5 (.t 4) (.t 39)),om 5 (.k (.bool false))]) (.rt)) (.sk))) (.sq (rg [qM 40 0,qM 41 6,oo 42 (.ia 1 (.t 41) (i6 0)),qL 43 42,oo 44 (.ca .pure false (.f WQ) [.t 43,.k (.int .u8 32)]),oo 45 (.sx 1 (.t 44) (some (i6 1)) none none),oo 46 (.ca .pure true (.f Zaq) [.t 40,.t 45]),oo 47 (.bd [.slice none 0 0,.slice none 0 0,.slice none 0 0,.slice none 0 0,.slice none 0 0] [(0,1,.t 46)] [(1,1),(2,1),(4,2)]),oo 7 (.al [.slice none 0 0,.slice none 0 0,.slice none 0 0,.slice none 0 0,.slice none 0 0] []),
 Jf (.st 5 (.t 7) (.t 47))]) (.sq (.sq (rg [qM 48 6,qM 49 0,qN 50 49,oo 51 (.bi .add 0 (i6 1) (.t 50)),oo 52 (.sx 1 (.t 48) (some (i6 1)) (some (.t 51)) none),qN 53 52,om 54 (i6 0)]) (.bl 0 (.lp [0,1,4,6,7,52,53,54] [128,224,1248,1249,1250,1472,1504,1505,1506,2880,3040,3456,4704,5152,5153,5154] (.sq (rg [qB 55 .lss 54 53]) (.sq (.cd (.t 55) (.sk) (.ex 0)) (.sq (.bl 1 (.sq (rg [qI 56 1 52 54,qL 57 56,qM 9 57]) (.sq (rg [qM 58 9,oo 59 (.ca .pure false (.f WQ) [.t 58,.k (.int .u8 32)]),qM 10 59]) (.sq (rg [qM 61 10,oo 62 (.ia 1 (.t 61) (i6 0)),qL 63 62,oo 64 (.ca .pure false (.f ZcF) [.t 63,.k (.string ⟨#[58]⟩)]),qM 60 64,qE 65 0 60,qE 66 1 60,qE 67 2 60,qM 11 65,qM 12 66,qM 13 67]) (.sq (rg [oo 68 (.bs 1 0 [] []),qM 14 68]) (.sq (.sq (rg [qM 69 12,oo 70 (.cv .bys (.t 69)),qN 71 70,om 72 (i6 0)]) (.bl 2 (.lp [0,1,4,6,7,10,14,52,53,54,70,71,72] [128,224,1248,1249,1250,1472,1504,1505,1506,2176,2592,2880,3040,3456,4704,5152,5153,5154] (.sq (rg [qB 73 .lss 72 71]) (.sq (.cd (.t 73) (.sk) (.ex 2)) (.sq (.bl 3 (.sq (rg [qI 74 1 70 72,qL 75 74,qM 16 75])
 (rg [qM 76 14,qM 77 16,oo 78 (.cv (.int .i64) (.t 77)),oo 79 (.bi .sub 0 (.t 78) (i6 48)),oo 80 (.bs 1 1 [.int .i64 0] [(0,.t 79)]),oo 81 (.ap 1 0 (.t 76) (.t 80)),qM 14 81])))
 (rg [oo 82 (.bi .add 0 (.t 72) (i6 1)),qM 72 82]))))))) (.rg (some 0) [qF 83 1 7,qL 84 83,qM 85 0,qM 86 10,oo 87 (.sx 1 (.t 86) (some (i6 1)) none none),oo 88 (.ca .pure true (.f Zaq) [.t 85,.t 87]),oo 89 (.bv 1 1 [.slice none 0 0] [(0,.t 88)]),oo 90 (.a4 1 (.t 84) (.t 89)),qF 91 2 7,oo 92 (.lb none (.t 91) none),qM 93 14,oo 94 (.bv 1 1 [.slice none 0 0] [(0,.t 93)]),oo 95 (.a4 1 (.t 92) (.t 94)),qF 96 1 7,
 Jf (.st 1 (.t 96) (.t 90)),qF 97 2 7,
 Jf (.st 1 (.t 97) (.t 95))])))))))
 (rg [oo 98 (.bi .add 0 (.t 54) (i6 1)),qM 54 98]))))))) (.sq (rg [qM 100 6,qM 101 0,qN 102 101,oo 103 (.bi .add 0 (.t 102) (i6 1)),qI 104 1 100 103,qL 105 104,oo 106 (.ca .pure false (.f WQ) [.t 105,.k (.int .u8 32)]),oo 107 (.sx 1 (.t 106) (some (i6 1)) none none),oo 108 (.ca .pure true (.f ZcG) [.t 107]),qM 99 108,qE 109 0 99,qE 110 1 99,qF 111 3 7,
 Jf (.st 1 (.t 111) (.t 109))]) (.sq (.sq (rg [qM 112 6,qM 113 0,qN 114 113,oo 115 (.bi .add 0 (.t 114) (i6 2)),qI 116 1 112 115,qL 117 116,oo 118 (.ca .pure false (.f WQ) [.t 117,.k (.int .u8 32)]),oo 119 (.sx 1 (.t 118) (some (i6 1)) none none),qN 120 119,om 121 (i6 0)]) (.bl 4 (.lp [0,1,4,7,119,120,121] [128,224,1248,1249,1250,1472,1504,1505,1506,2880,3040,3456,4704,5152,5153,5154] (.sq (rg [qB 122 .lss 121 120]) (.sq (.cd (.t 122) (.sk) (.ex 4)) (.sq (.bl 5 (.sq (rg [qI 123 1 119 121,qL 124 123,qM 18 124]) (.sq (rg [qM 126 18,oo 127 (.ca .pure false (.f ZcF) [.t 126,.k (.string ⟨#[45]⟩)]),qM 125 127,qE 128 0 125,qE 129 1 125,qE 130 2 125,qM 19 128,qM 20 129,qM 21 130]) (.sq (rg [qM 132 19,oo 133 (.ca .pure true (.f UP) [.t 132]),qM 131 133,qE 134 0 131,qE 135 1 131,qM 22 134,qM 23 135]) (.sq (rg [qM 137 20,oo 138 (.ca .pure true (.f UP) [.t 137]),qM 136 138,qE 139 0 136,qE 140 1 136,qM 24 139,qM 25 140])
 (rg [qF 141 4 7,qL 142 141,qM 143 22,qM 144 24,oo 145 (.bd [.int .i64 0,.int .i64 0] [(0,1,.t 143),(1,1,.t 144)] []),oo 146 (.bs 2 1 [.int .i64 0,.int .i64 0] [(0,.t 145)]),oo 147 (.ap 2 0 (.t 142) (.t 146)),qF 148 4 7,
 Jf (.st 1 (.t 148) (.t 147))]))))))
 (rg [oo 149 (.bi .add 0 (.t 121) (i6 1)),qM 121 149]))))))) (.sq (.sq (rg [qM 150 0,qS 151 5 7,oo 152 (.ca .pure false (.f ZcH) [.t 150,.t 151]),oo 153 (.nt (.t 152)),qM 154 153,og 155 154 false (.mv (.t 0) none),og 156 154 false (.ld (some 5) (.t 7)),og 157 154 false (.ca .pure false (.f ZcI) [.t 155,.t 156]),og 158 154 false (.mv (.t 1) none),og 159 154 false (.bi .neq 0 (.t 157) (.t 158)),oo 160 (.pk (.t 154) (.k (.bool true)) (.t 159))]) (.cd (.t 160) (.sq (rg [oo 161 (.bd [.slice none 0 0,.slice none 0 0,.slice none 0 0,.slice none 0 0,.slice none 0 0] [] [(1,1),(2,1),(4,2)]),
 Jf (.st 5 (.t 4) (.t 161)),om 5 (.k (.bool false))]) (.rt)) (.sk))) (.sq (rg [qS 162 5 7,
 Jf (.st 5 (.t 4) (.t 162)),om 5 (.k (.bool true))]) (.rt)))))))))) }
theorem Zs6:Zv UbY Zaj Zgv=true:=by kernel_rfl
def Zgw:F2 :=
 { nt:=28,res:=[.t 2 [2]],body:=(.sq (rg [om 2 (.k (.slice none 0 0))]) (.sq (rg [qM 5 0,oo 6 (.ca .pure true (.f X9) [.t 5,.k (.int .u8 59)]),qM 3 6]) (.sq (.sq (rg [om 4 (i6 1)]) (.bl 0 (.lp [3,4] [192] (.sq (.sq (rg [qM 7 4,qM 8 3,qN 9 8,qB 10 .lss 7 9]) (.cd (.t 10) (.sk) (.ex 0))) (.sq (.bl 1 (.sq (rg [qM 13 3,qM 14 4,qI 15 1 13 14,qL 16 15,oo 17 (.lg (.t 16)),oo 18 (.bi .gtr 0 (.t 17) (i6 0))]) (.cd (.t 18) (rg [qM 19 3,qM 20 4,qM 21 3,qM 22 4,qI 23 1 21 22,qL 24 23,oo 25 (.ss (.t 24) (some (i6 1)) none),qI 26 1 19 20,
 Jf (.st 1 (.t 26) (.t 25))]) (.sk))))
 (rg [qM 11 4,oo 12 (.bi .add 0 (.t 11) (i6 1)),qM 4 12])))))) (.sq (rg [qM 27 3,qM 2 27]) (.rt))))) }
theorem Zs7:Zv UbY Zcz Zgw=true:=by kernel_rfl
def Zgx:F2 :=
 { nt:=55,res:=[.t 2 [0]],body:=(.sq (rg [om 2 (.k (.bool false))]) (.sq (.sq (rg [om 3 (i6 0)]) (.bl 0 (.lp [0,3] [] (.sq (.sq (rg [qM 5 3,qM 6 0,qN 7 6,qB 8 .lss 5 7]) (.cd (.t 8) (.sk) (.ex 0))) (.sq (.bl 1 (.sq (.sq (rg [qM 11 0,qM 12 3,qI 13 3 11 12,qF 14 0 13,qL 15 14,oo 16 (.ca .pure false (.f ZcO) [.t 15]),oo 17 (.nt (.t 16)),qM 18 17,og 19 18 false (.mv (.t 0) none),og 20 18 false (.mv (.t 3) none),og 21 18 false (.ia 3 (.t 19) (.t 20)),og 22 18 false (.fa 1 (.t 21)),og 23 18 false (.ld none (.t 22)),og 24 18 false (.ca .pure false (.f V5) [.t 23,i6 0,i6 3]),og 25 18 false (.nt (.t 24)),oo 26 (.pk (.t 18) (.k (.bool true)) (.t 25)),qM 27 26,og 28 27 false (.mv (.t 0) none),og 29 27 false (.mv (.t 3) none),og 30 27 false (.ia 3 (.t 28) (.t 29)),og 31 27 false (.fa 2 (.t 30)),og 32 27 false (.ld none (.t 31)),og 33 27 false (.ca .pure false (.f V5) [.t 32,i6 0,i6 2]),og 34 27 false (.nt (.t 33)),oo 35 (.pk (.t 27) (.k (.bool true)) (.t 34))]) (.cd (.t 35) (.sq (rg [om 2 (.k (.bool false))]) (.rt)) (.sk))) (.sq (rg [om 4 (i6 0)]) (.bl 2 (.lp [0,3,4] [] (.sq (.sq (rg [qM 36 4,qM 37 3,qB 38 .lss 36 37]) (.cd (.t 38) (.sk) (.ex 2))) (.sq (.bl 3 (.sq (.rg (some 0) [qM 41 0,qM 42 4,qI 43 3 41 42,qF 44 0 43,qL 45 44,qM 46 0,qM 47 3,qI 48 3 46 47,qF 49 0 48,qL 50 49,qB 51 .eql 45 50]) (.cd (.t 51) (.sq (rg [om 2 (.k (.bool false))]) (.rt)) (.sk))))
 (rg [qM 39 4,oo 40 (.bi .add 0 (.t 39) (i6 1)),qM 4 40]))))))))
 (rg [qM 9 3,oo 10 (.bi .add 0 (.t 9) (i6 1)),qM 3 10])))))) (.sq (rg [qM 52 0,qN 53 52,oo 54 (.ca .pure false (.f V5) [.t 53,i6 1,i6 6]),qM 2 54]) (.rt)))) }
theorem Zs8:Zv UbY Zam Zgx=true:=by kernel_rfl
def Zgy:F2 :=
 { nt:=24,res:=[.t 4 [2]],body:=(.sq (rg [om 4 (.k (.slice none 0 0))]) (.sq (rg [oo 7 (.bs 1 0 [] []),qM 5 7]) (.sq (.sq (rg [om 6 (i6 1)]) (.bl 0 (.lp [0,1,5,6] [224,704] (.sq (.sq (rg [qM 8 6,qM 9 1,qN 10 9,qB 11 .lss 8 10]) (.cd (.t 11) (.sk) (.ex 0))) (.sq (.bl 1 (rg [qM 14 5,qM 15 0,qM 16 1,qM 17 6,qI 18 1 16 17,qL 19 18,oo 20 (.ca .pure false (.f ZcP) [.t 15,.t 19]),oo 21 (.bs 1 1 [.int .i64 0] [(0,.t 20)]),oo 22 (.ap 1 0 (.t 14) (.t 21)),qM 5 22]))
 (rg [qM 12 6,oo 13 (.bi .add 0 (.t 12) (i6 1)),qM 6 13])))))) (.sq (rg [qM 23 5,qM 4 23]) (.rt))))) }
theorem Zs9:Zv UbY Zan Zgy=true:=by kernel_rfl
def Zgz:F2 :=
 { nt:=35,res:=[.t 4 [2]],body:=(.sq (rg [om 4 (.k (.slice none 0 0))]) (.sq (rg [oo 8 (.bs 1 0 [] []),qM 5 8]) (.sq (rg [om 6 (i6 0)]) (.sq (.sq (rg [om 7 (i6 0)]) (.bl 0 (.lp [0,1,5,6,7] [256,832] (.sq (.sq (rg [qM 9 7,qM 10 0,oo 11 (.lg (.t 10)),qB 12 .lss 9 11]) (.cd (.t 12) (.sk) (.ex 0))) (.sq (.bl 1 (.sq (rg [qM 15 0,qM 16 7,oo 17 (.ix (.t 15) (.t 16)),qM 18 1,qB 19 .eql 17 18]) (.cd (.t 19) (.sq (rg [qM 20 5,qM 21 0,qM 22 6,qM 23 7,oo 24 (.ss (.t 21) (some (.t 22)) (some (.t 23))),oo 25 (.bs 1 1 [.string ⟨#[]⟩] [(0,.t 24)]),oo 26 (.ap 1 0 (.t 20) (.t 25)),qM 5 26])
 (rg [qM 27 7,oo 28 (.bi .add 0 (.t 27) (i6 1)),qM 6 28])) (.sk))))
 (rg [qM 13 7,oo 14 (.bi .add 0 (.t 13) (i6 1)),qM 7 14])))))) (.sq (rg [qM 29 5,qM 30 0,qM 31 6,oo 32 (.ss (.t 30) (some (.t 31)) none),oo 33 (.bs 1 1 [.string ⟨#[]⟩] [(0,.t 32)]),oo 34 (.ap 1 0 (.t 29) (.t 33)),qM 4 34]) (.rt)))))) }
theorem Zta:Zv UbY X9 Zgz=true:=by kernel_rfl
def ZgA:F2 :=
 { nt:=26,res:=[.t 4 [0],.t 5 [0]],body:=(.sq (rg [om 4 (.k (.string ⟨#[]⟩)),om 5 (.k (.string ⟨#[]⟩))]) (.sq (.sq (rg [om 6 (i6 0)]) (.bl 0 (.lp [0,1,6] [] (.sq (.sq (rg [qM 7 6,qM 8 0,oo 9 (.lg (.t 8)),qB 10 .lss 7 9]) (.cd (.t 10) (.sk) (.ex 0))) (.sq (.bl 1 (.sq (rg [qM 13 0,qM 14 6,oo 15 (.ix (.t 13) (.t 14)),qM 16 1,qB 17 .eql 15 16]) (.cd (.t 17) (.sq (.rg (some 0) [qM 18 0,qM 19 6,oo 20 (.ss (.t 18) none (some (.t 19))),qM 21 0,qM 22 6,oo 23 (.bi .add 0 (.t 22) (i6 1)),oo 24 (.ss (.t 21) (some (.t 23)) none),qM 4 20,qM 5 24]) (.rt)) (.sk))))
 (rg [qM 11 6,oo 12 (.bi .add 0 (.t 11) (i6 1)),qM 6 12])))))) (.sq (rg [qM 25 0,qM 4 25,om 5 (.k (.string ⟨#[]⟩))]) (.rt)))) }
theorem Ztb:Zv UbY ZcA ZgA=true:=by kernel_rfl
def ZgB:F2 :=
 { nt:=34,res:=[.t 2 [2]],body:=(.sq (rg [om 2 (.k (.slice none 0 0))]) (.sq (rg [oo 5 (.bs 1 0 [] []),qM 3 5]) (.sq (.sq (rg [om 4 (i6 0)]) (.bl 0 (.lp [0,3,4] [160,928,1024] (.sq (.sq (rg [qM 6 4,qM 7 0,oo 8 (.lg (.t 7)),qB 9 .lss 6 8]) (.cd (.t 9) (.sk) (.ex 0))) (.sq (.bl 1 (.sq (rg [qM 12 0,qM 13 4,oo 14 (.ix (.t 12) (.t 13)),oo 15 (.bi .geq 0 (.t 14) (.k (.int .u8 48))),qM 16 15,og 17 16 true (.mv (.t 0) none),og 18 16 true (.mv (.t 4) none),og 19 16 true (.ix (.t 17) (.t 18)),og 20 16 true (.bi .leq 0 (.t 19) (.k (.int .u8 57))),oo 21 (.pk (.t 16) (.t 20) (.k (.bool false)))]) (.cd (.t 21) (rg [qM 22 3,qM 23 0,qM 24 4,oo 25 (.ix (.t 23) (.t 24)),oo 26 (.bi .sub 1 (.t 25) (.k (.int .u8 48))),oo 27 (.cv (.int .i64) (.t 26)),oo 28 (.bs 1 1 [.int .i64 0] [(0,.t 27)]),oo 29 (.ap 1 0 (.t 22) (.t 28)),qM 3 29])
 (rg [qM 30 3,oo 31 (.bs 1 1 [.int .i64 0] [(0,i6 (-1))]),oo 32 (.ap 1 0 (.t 30) (.t 31)),qM 3 32]))))
 (rg [qM 10 4,oo 11 (.bi .add 0 (.t 10) (i6 1)),qM 4 11])))))) (.sq (rg [qM 33 3,qM 2 33]) (.rt))))) }
theorem Ztc:Zv UbY Zao ZgB=true:=by kernel_rfl
def ZgC:F2 :=
 { nt:=31,res:=[.t 2 [2],.t 3 [0]],body:=(.sq (rg [om 2 (.k (.slice none 0 0)),om 3 (.k (.bool false))]) (.sq (rg [oo 8 (.bs 1 0 [] []),qM 4 8]) (.sq (.sq (rg [om 5 (i6 1)]) (.bl 0 (.lp [0,4,5] [256,928] (.sq (.sq (rg [qM 9 5,qM 10 0,qN 11 10,qB 12 .lss 9 11]) (.cd (.t 12) (.sk) (.ex 0))) (.sq (.bl 1 (.sq (rg [qM 16 0,qM 17 5,qI 18 1 16 17,qL 19 18,oo 20 (.ca .pure true (.f WR) [.t 19]),qM 15 20,qE 21 0 15,qE 22 1 15,qM 6 21,qM 7 22]) (.sq (.sq (rg [qM 23 7,oo 24 (.nt (.t 23))]) (.cd (.t 24) (.sq (rg [oo 25 (.bs 1 0 [] []),qM 2 25,om 3 (.k (.bool false))]) (.rt)) (.sk)))
 (rg [qM 26 4,qM 27 6,oo 28 (.bs 1 1 [.int .i64 0] [(0,.t 27)]),oo 29 (.ap 1 0 (.t 26) (.t 28)),qM 4 29]))))
 (rg [qM 13 5,oo 14 (.bi .add 0 (.t 13) (i6 1)),qM 5 14])))))) (.sq (rg [qM 30 4,qM 2 30,om 3 (.k (.bool true))]) (.rt))))) }
theorem Ztd:Zv UbY ZcB ZgC=true:=by kernel_rfl
def ZgD:F2 :=
 { nt:=101,res:=[.t 4 [0]],body:=(.sq (rg [oo 3 (.bt (.t 1)),om 4 (.k (.bool false))]) (.sq (.sq (rg [qM 8 0,oo 9 (.ca .pure false (.f Zam) [.t 8]),oo 10 (.nt (.t 9)),qM 11 10,og 12 11 false (.mv (.t 0) none),og 13 11 false (.fa 0 (.t 3)),og 14 11 false (.ld none (.t 13)),og 15 11 false (.ca .pure false (.f Zau) [.t 12,.t 14]),og 16 11 false (.nt (.t 15)),oo 17 (.pk (.t 11) (.k (.bool true)) (.t 16)),qM 18 17,og 19 18 false (.mv (.t 0) none),og 20 18 false (.fa 1 (.t 3)),og 21 18 false (.ld none (.t 20)),og 22 18 false (.ca .pure false (.f ZcQ) [.t 19,.t 21]),og 23 18 false (.nt (.t 22)),oo 24 (.pk (.t 18) (.k (.bool true)) (.t 23)),qM 25 24,og 26 25 false (.fa 3 (.t 3)),og 27 25 false (.ld none (.t 26)),og 28 25 false (.ln (.t 27)),og 29 25 false (.ca .pure false (.f V5) [.t 28,i6 1,i6 4]),og 30 25 false (.nt (.t 29)),oo 31 (.pk (.t 25) (.k (.bool true)) (.t 30)),qM 32 31,og 33 32 false (.mv (.t 0) none),og 34 32 false (.fa 2 (.t 3)),og 35 32 false (.ld none (.t 34)),og 36 32 false (.fa 3 (.t 3)),og 37 32 false (.ld none (.t 36)),og 38 32 false (.ln (.t 37)),og 39 32 false (.ca .pure false (.f ZcR) [.t 33,.t 35,.t 38]),og 40 32 false (.nt (.t 39)),oo 41 (.pk (.t 32) (.k (.bool true)) (.t 40))]) (.cd (.t 41) (.sq (rg [om 4 (.k (.bool false))]) (.rt)) (.sk))) (.sq (.sq (rg [om 5 (i6 0)]) (.bl 0 (.lp [3,5] [] (.sq (.sq (rg [qM 42 5,qF 43 3 3,qL 44 43,qN 45 44,qB 46 .lss 42 45]) (.cd (.t 46) (.sk) (.ex 0))) (.sq (.bl 1 (.sq (rg [qF 49 3 3,qL 50 49,qM 51 5,qI 52 1 50 51,qL 53 52,oo 54 (.ca .pure false (.f V5) [.t 53,i6 0,i6 24]),oo 55 (.nt (.t 54))]) (.cd (.t 55) (.sq (rg [om 4 (.k (.bool false))]) (.rt)) (.sk))))
 (rg [qM 47 5,oo 48 (.bi .add 0 (.t 47) (i6 1)),qM 5 48])))))) (.sq (.sq (rg [om 6 (i6 0)]) (.bl 2 (.lp [3,6] [] (.sq (.sq (rg [qM 56 6,qF 57 4 3,qL 58 57,qN 59 58,qB 60 .lss 56 59]) (.cd (.t 60) (.sk) (.ex 2))) (.sq (.bl 3 (.sq (rg [qF 63 4 3,qL 64 63,qM 65 6,qI 66 2 64 65,qS 67 2 66,oo 7 (.al [.int .i64 0,.int .i64 0] []),
 Jf (.st 2 (.t 7) (.t 67))]) (.sq (.rg (some 0) [oo 68 (.ja 1 2 (.t 7) (i6 0)),qL 69 68,oo 70 (.bi .lss 0 (.t 69) (i6 0)),qM 71 70,og 72 71 false (.ja 1 2 (.t 7) (i6 0)),og 73 71 false (.ld none (.t 72)),og 74 71 false (.ja 1 2 (.t 7) (i6 1)),og 75 71 false (.ld none (.t 74)),og 76 71 false (.bi .geq 0 (.t 73) (.t 75)),oo 77 (.pk (.t 71) (.k (.bool true)) (.t 76)),qM 78 77,og 79 78 false (.ja 1 2 (.t 7) (i6 1)),og 80 78 false (.ld none (.t 79)),og 81 78 false (.fa 3 (.t 3)),og 82 78 false (.ld none (.t 81)),og 83 78 false (.ln (.t 82)),og 84 78 false (.bi .geq 0 (.t 80) (.t 83)),oo 85 (.pk (.t 78) (.k (.bool true)) (.t 84)),qM 86 85,og 87 86 false (.mv (.t 6) none),og 88 86 false (.bi .gtr 0 (.t 87) (i6 0)),og 89 86 false (.mv (.t 88) none),og 90 89 true (.fa 4 (.t 3)),og 91 89 true (.ld none (.t 90)),og 92 89 true (.mv (.t 6) none),og 93 89 true (.bi .sub 0 (.t 92) (i6 1)),og 94 89 true (.ia 2 (.t 91) (.t 93)),og 95 89 true (.ld (some 2) (.t 94)),og 96 89 true (.ld (some 2) (.t 7)),og 97 89 true (.ca .pure false (.f ZcS) [.t 95,.t 96]),og 98 89 true (.nt (.t 97)),og 99 86 false (.pk (.t 89) (.t 98) (.k (.bool false))),oo 100 (.pk (.t 86) (.k (.bool true)) (.t 99))]) (.cd (.t 100) (.sq (rg [om 4 (.k (.bool false))]) (.rt)) (.sk)))))
 (rg [qM 61 6,oo 62 (.bi .add 0 (.t 61) (i6 1)),qM 6 62])))))) (.sq (rg [om 4 (.k (.bool true))]) (.rt)))))) }
theorem Zte:Zv UbY ZcC ZgD=true:=by kernel_rfl
def ZgE:F2 :=
 { nt:=93,res:=[.t 4 [0]],body:=(.sq (rg [oo 3 (.bt (.t 1)),om 4 (.k (.string ⟨#[]⟩))]) (.sq (rg [qM 9 0,qF 10 0 3,qL 11 10,oo 12 (.ca .pure false (.f Zav) [.t 9,.t 11]),oo 13 (.bi .add 0 (.k (.string ⟨#[116,111,112,115]⟩)) (.t 12)),qM 5 13]) (.sq (.sq (rg [om 6 (i6 0)]) (.bl 0 (.lp [0,3,5,6] [] (.sq (.sq (rg [qM 14 6,qM 15 0,qN 16 15,qB 17 .lss 14 16]) (.cd (.t 17) (.sk) (.ex 0))) (.sq (.bl 1 (.sq (rg [qM 20 5,oo 21 (.bi .add 0 (.t 20) (.k (.string ⟨#[59,32]⟩))),qM 22 0,qM 23 6,qI 24 3 22 23,qF 25 0 24,qL 26 25,qB 27 .add 21 26,oo 28 (.bi .add 0 (.t 27) (.k (.string ⟨#[58]⟩))),qM 5 28]) (.sq (.sq (rg [om 7 (i6 0)]) (.bl 2 (.lp [0,3,5,6,7] [] (.sq (.sq (rg [qM 29 7,qF 30 2 3,qL 31 30,qM 32 6,qI 33 1 31 32,qL 34 33,qN 35 34,qB 36 .lss 29 35]) (.cd (.t 36) (.sk) (.ex 2))) (.sq (.bl 3 (rg [qM 39 5,qF 40 2 3,qL 41 40,qM 42 6,qI 43 1 41 42,qL 44 43,qM 45 7,qI 46 1 44 45,qL 47 46,oo 48 (.ca .pure false (.f Vt) [.t 47]),qB 49 .add 39 48,qM 5 49]))
 (rg [qM 37 7,oo 38 (.bi .add 0 (.t 37) (i6 1)),qM 7 38]))))))
 (rg [qM 50 5,qM 51 0,qF 52 1 3,qL 53 52,qM 54 6,qI 55 1 53 54,qL 56 55,oo 57 (.ca .pure false (.f Zav) [.t 51,.t 56]),qB 58 .add 50 57,qM 5 58]))))
 (rg [qM 18 6,oo 19 (.bi .add 0 (.t 18) (i6 1)),qM 6 19])))))) (.sq (rg [qM 59 5,oo 60 (.bi .add 0 (.t 59) (.k (.string ⟨#[59,32,109,111,115,116]⟩))),qF 61 3 3,qL 62 61,oo 63 (.ca .pure false (.f ZcT) [.t 62]),qB 64 .add 60 63,oo 65 (.bi .add 0 (.t 64) (.k (.string ⟨#[59,32,97,112,97,114,116]⟩))),qM 5 65]) (.sq (.sq (rg [om 8 (i6 0)]) (.bl 4 (.lp [3,5,8] [] (.sq (.sq (rg [qM 66 8,qF 67 4 3,qL 68 67,qN 69 68,qB 70 .lss 66 69]) (.cd (.t 70) (.sk) (.ex 4))) (.sq (.bl 5 (.rg (some 0) [qM 73 5,oo 74 (.bi .add 0 (.t 73) (.k (.string ⟨#[32]⟩))),qF 75 4 3,qL 76 75,qM 77 8,qI 78 2 76 77,oo 79 (.ja 1 2 (.t 78) (i6 0)),qL 80 79,oo 81 (.ca .pure false (.f Vt) [.t 80]),qB 82 .add 74 81,oo 83 (.bi .add 0 (.t 82) (.k (.string ⟨#[45]⟩))),qF 84 4 3,qL 85 84,qM 86 8,qI 87 2 85 86,oo 88 (.ja 1 2 (.t 87) (i6 1)),qL 89 88,oo 90 (.ca .pure false (.f Vt) [.t 89]),qB 91 .add 83 90,qM 5 91]))
 (rg [qM 71 8,oo 72 (.bi .add 0 (.t 71) (i6 1)),qM 8 72])))))) (.sq (rg [qM 92 5,qM 4 92]) (.rt))))))) }
theorem Ztf:Zv UbY ZcD ZgE=true:=by kernel_rfl
def ZgF:F2 :=
 { nt:=40,res:=[.t 2 [0]],body:=(.sq (rg [om 2 (.k (.bool false))]) (.sq (.sq (rg [qM 5 0,qN 6 5,oo 7 (.ca .pure false (.f VH) [.t 6,i6 1,i6 6]),oo 8 (.nt (.t 7))]) (.cd (.t 8) (.sq (rg [om 2 (.k (.bool false))]) (.rt)) (.sk))) (.sq (.sq (rg [qM 9 0,qN 10 9,om 11 (i6 0)]) (.bl 0 (.lp [0,9,10,11] [] (.sq (rg [qB 12 .lss 11 10]) (.sq (.cd (.t 12) (.sk) (.ex 0)) (.sq (.bl 1 (.sq (rg [qM 13 11,qI 14 3 9 11,qS 15 3 14,oo 4 (.al [.string ⟨#[]⟩,.int .i64 0,.int .i64 0] []),qM 3 13,
 Jf (.st 3 (.t 4) (.t 15))]) (.sq (rg [qF 16 0 4,qL 17 16,oo 18 (.ca .pure false (.f ZcU) [.t 17]),oo 19 (.nt (.t 18)),qM 20 19,og 21 20 false (.fa 1 (.t 4)),og 22 20 false (.ld none (.t 21)),og 23 20 false (.ca .pure false (.f VH) [.t 22,i6 0,i6 3]),og 24 20 false (.nt (.t 23)),oo 25 (.pk (.t 20) (.k (.bool true)) (.t 24)),qM 26 25,og 27 26 false (.fa 2 (.t 4)),og 28 26 false (.ld none (.t 27)),og 29 26 false (.ca .pure false (.f VH) [.t 28,i6 0,i6 2]),og 30 26 false (.nt (.t 29)),oo 31 (.pk (.t 26) (.k (.bool true)) (.t 30)),qM 32 31,og 33 32 false (.mv (.t 0) none),og 34 32 false (.mv (.t 3) none),og 35 32 false (.sx 3 (.t 33) none (some (.t 34)) none),og 36 32 false (.mf Zaw [.t 4]),og 37 32 false (.ca .pure false (.f Zgr) [.t 35,.t 36]),oo 38 (.pk (.t 32) (.k (.bool true)) (.t 37))]) (.cd (.t 38) (.sq (rg [om 2 (.k (.bool false))]) (.rt)) (.sk)))))
 (rg [oo 39 (.bi .add 0 (.t 11) (i6 1)),qM 11 39]))))))) (.sq (rg [om 2 (.k (.bool true))]) (.rt))))) }
theorem Ztg:Zv UbY Zap ZgF=true:=by kernel_rfl
def ZgG:F2 :=
 { nt:=23,res:=[.t 4 [2]],body:=(.sq (rg [om 4 (.k (.slice none 0 0))]) (.sq (rg [oo 8 (.bs 1 0 [] []),qM 5 8]) (.sq (.sq (rg [qM 9 1,qN 10 9,om 11 (i6 0)]) (.bl 0 (.lp [0,5,9,10,11] [256,640] (.sq (rg [qB 12 .lss 11 10]) (.sq (.cd (.t 12) (.sk) (.ex 0)) (.sq (.bl 1 (.sq (rg [qI 13 1 9 11,qL 14 13,qM 7 14])
 (rg [qM 15 5,qM 16 0,qM 17 7,oo 18 (.ca .pure false (.f ZcV) [.t 16,.t 17]),oo 19 (.bs 1 1 [.int .i64 0] [(0,.t 18)]),oo 20 (.ap 1 0 (.t 15) (.t 19)),qM 5 20])))
 (rg [oo 21 (.bi .add 0 (.t 11) (i6 1)),qM 11 21]))))))) (.sq (rg [qM 22 5,qM 4 22]) (.rt))))) }
theorem Zth:Zv UbY Zaq ZgG=true:=by kernel_rfl
def ZgH:F2 :=
 { nt:=35,res:=[.t 4 [2]],body:=(.sq (rg [om 4 (.k (.slice none 0 0))]) (.sq (rg [oo 8 (.bs 1 0 [] []),qM 5 8]) (.sq (rg [om 6 (i6 0)]) (.sq (.sq (rg [qM 9 0,oo 10 (.lg (.t 9)),om 11 (i6 0)]) (.bl 0 (.lp [0,1,5,6,10,11] [256,800] (.sq (rg [qB 12 .lss 11 10]) (.sq (.cd (.t 12) (.sk) (.ex 0)) (.sq (.bl 1 (.sq (rg [qM 13 11,qM 7 13]) (.sq (rg [qM 14 0,qM 15 7,oo 16 (.ix (.t 14) (.t 15)),qM 17 1,qB 18 .eql 16 17]) (.cd (.t 18) (.sq (rg [qM 19 5,qM 20 0,qM 21 6,qM 22 7,oo 23 (.ss (.t 20) (some (.t 21)) (some (.t 22))),oo 24 (.bs 1 1 [.string ⟨#[]⟩] [(0,.t 23)]),oo 25 (.ap 1 0 (.t 19) (.t 24)),qM 5 25])
 (rg [qM 26 7,oo 27 (.bi .add 0 (.t 26) (i6 1)),qM 6 27])) (.sk)))))
 (rg [oo 28 (.bi .add 0 (.t 11) (i6 1)),qM 11 28]))))))) (.sq (rg [qM 29 5,qM 30 0,qM 31 6,oo 32 (.ss (.t 30) (some (.t 31)) none),oo 33 (.bs 1 1 [.string ⟨#[]⟩] [(0,.t 32)]),oo 34 (.ap 1 0 (.t 29) (.t 33)),qM 4 34]) (.rt)))))) }
theorem Zti:Zv UbY WQ ZgH=true:=by kernel_rfl
def ZgI:F2 :=
 { nt:=29,res:=[.t 2 [2],.t 3 [0]],body:=(.sq (rg [om 2 (.k (.slice none 0 0)),om 3 (.k (.bool false))]) (.sq (rg [oo 9 (.bs 1 0 [] []),qM 4 9]) (.sq (.sq (rg [qM 10 0,qN 11 10,om 12 (i6 0)]) (.bl 0 (.lp [4,10,11,12] [288,832] (.sq (rg [qB 13 .lss 12 11]) (.sq (.cd (.t 13) (.sk) (.ex 0)) (.sq (.bl 1 (.sq (rg [qI 14 1 10 12,qL 15 14,qM 6 15]) (.sq (rg [qM 17 6,oo 18 (.ca .pure true (.f UP) [.t 17]),qM 16 18,qE 19 0 16,qE 20 1 16,qM 7 19,qM 8 20]) (.sq (.sq (rg [qM 21 8,oo 22 (.nt (.t 21))]) (.cd (.t 22) (.sq (rg [om 2 (.k (.slice none 0 0)),om 3 (.k (.bool false))]) (.rt)) (.sk)))
 (rg [qM 23 4,qM 24 7,oo 25 (.bs 1 1 [.int .i64 0] [(0,.t 24)]),oo 26 (.ap 1 0 (.t 23) (.t 25)),qM 4 26])))))
 (rg [oo 27 (.bi .add 0 (.t 12) (i6 1)),qM 12 27]))))))) (.sq (rg [qM 28 4,qM 2 28,om 3 (.k (.bool true))]) (.rt))))) }
theorem Ztj:Zv UbY ZcG ZgI=true:=by kernel_rfl
def ZgJ:F2 :=
 { nt:=20,res:=[.t 2 [0],.t 3 [0]],body:=(.sq (rg [om 2 (i6 0),om 3 (.k (.bool false))]) (.sq (rg [qM 7 0,oo 8 (.ca .pure true (.f ZcW) [.t 7]),qM 6 8,qE 9 0 6,qE 10 1 6,qM 4 9,qM 5 10]) (.sq (.sq (rg [qM 11 5,oo 12 (.bi .neq 3 (.t 11) (.k (.nilIface))),qM 13 12,og 14 13 false (.mv (.t 4) none),og 15 13 false (.ca .pure false (.f XC) [.t 14]),og 16 13 false (.mv (.t 0) none),og 17 13 false (.bi .neq 0 (.t 15) (.t 16)),oo 18 (.pk (.t 13) (.k (.bool true)) (.t 17))]) (.cd (.t 18) (.sq (rg [om 2 (i6 0),om 3 (.k (.bool false))]) (.rt)) (.sk))) (.sq (rg [qM 19 4,qM 2 19,om 3 (.k (.bool true))]) (.rt))))) }
theorem Ztk:Zv UbY UP ZgJ=true:=by kernel_rfl
def ZgK:F2 :=
 { nt:=104,res:=[.t 4 [0]],body:=(.sq (rg [oo 3 (.bt (.t 1)),om 4 (.k (.bool false))]) (.sq (.sq (rg [qM 7 0,oo 8 (.ca .pure false (.f Zap) [.t 7]),oo 9 (.nt (.t 8)),qM 10 9,og 11 10 false (.fa 0 (.t 3)),og 12 10 false (.ld none (.t 11)),og 13 10 false (.mv (.t 0) none),og 14 10 false (.ln (.t 13)),og 15 10 false (.ca .pure false (.f Zax) [.t 12,.t 14]),og 16 10 false (.nt (.t 15)),oo 17 (.pk (.t 10) (.k (.bool true)) (.t 16)),qM 18 17,og 19 18 false (.fa 1 (.t 3)),og 20 18 false (.ld none (.t 19)),og 21 18 false (.ln (.t 20)),og 22 18 false (.mv (.t 0) none),og 23 18 false (.ln (.t 22)),og 24 18 false (.bi .neq 0 (.t 21) (.t 23)),oo 25 (.pk (.t 18) (.k (.bool true)) (.t 24)),qM 26 25,og 27 26 false (.fa 2 (.t 3)),og 28 26 false (.ld none (.t 27)),og 29 26 false (.ln (.t 28)),og 30 26 false (.mv (.t 0) none),og 31 26 false (.ln (.t 30)),og 32 26 false (.bi .neq 0 (.t 29) (.t 31)),oo 33 (.pk (.t 26) (.k (.bool true)) (.t 32))]) (.cd (.t 33) (.sq (rg [om 4 (.k (.bool false))]) (.rt)) (.sk))) (.sq (.sq (rg [qF 34 3 3,qL 35 34,qN 36 35,oo 37 (.ca .pure false (.f VH) [.t 36,i6 1,i6 4]),oo 38 (.nt (.t 37)),qM 39 38,og 40 39 false (.fa 3 (.t 3)),og 41 39 false (.ld none (.t 40)),og 42 39 false (.ca .pure false (.f ZcX) [.t 41,.f ZcY]),oo 43 (.pk (.t 39) (.k (.bool true)) (.t 42)),qM 44 43,og 45 44 false (.fa 4 (.t 3)),og 46 44 false (.ld none (.t 45)),og 47 44 false (.fa 3 (.t 3)),og 48 44 false (.ld none (.t 47)),og 49 44 false (.ln (.t 48)),og 50 44 false (.ca .pure false (.f ZcZ) [.t 46,.t 49]),og 51 44 false (.nt (.t 50)),oo 52 (.pk (.t 44) (.k (.bool true)) (.t 51))]) (.cd (.t 52) (.sq (rg [om 4 (.k (.bool false))]) (.rt)) (.sk))) (.sq (.sq (rg [qM 53 0,qN 54 53,om 55 (i6 0)]) (.bl 0 (.lp [0,3,53,54,55] [] (.sq (rg [qB 56 .lss 55 54]) (.sq (.cd (.t 56) (.sk) (.ex 0)) (.sq (.bl 1 (.sq (rg [qM 57 55,qI 58 3 53 55,qS 59 3 58,oo 6 (.al [.string ⟨#[]⟩,.int .i64 0,.int .i64 0] []),qM 5 57,
 Jf (.st 3 (.t 6) (.t 59))]) (.sq (.rg (some 0) [qF 60 1 3,qL 61 60,qM 62 5,qI 63 1 61 62,qL 64 63,qM 65 0,qN 66 65,oo 67 (.ca .pure false (.f Zax) [.t 64,.t 66]),oo 68 (.nt (.t 67)),qM 69 68,og 70 69 false (.fa 2 (.t 6)),og 71 69 false (.ld none (.t 70)),og 72 69 false (.bi .eql 0 (.t 71) (i6 2)),og 73 69 false (.mv (.t 72) none),og 74 73 true (.fa 1 (.t 3)),og 75 73 true (.ld none (.t 74)),og 76 73 true (.mv (.t 5) none),og 77 73 true (.ia 1 (.t 75) (.t 76)),og 78 73 true (.ld none (.t 77)),og 79 73 true (.ln (.t 78)),og 80 73 true (.bi .gtr 0 (.t 79) (i6 0)),og 81 69 false (.pk (.t 73) (.t 80) (.k (.bool false))),oo 82 (.pk (.t 69) (.k (.bool true)) (.t 81)),qM 83 82,og 84 83 false (.fa 2 (.t 3)),og 85 83 false (.ld none (.t 84)),og 86 83 false (.mv (.t 5) none),og 87 83 false (.ia 1 (.t 85) (.t 86)),og 88 83 false (.ld none (.t 87)),og 89 83 false (.ln (.t 88)),og 90 83 false (.fa 1 (.t 6)),og 91 83 false (.ld none (.t 90)),og 92 83 false (.bi .neq 0 (.t 89) (.t 91)),oo 93 (.pk (.t 83) (.k (.bool true)) (.t 92)),qM 94 93,og 95 94 false (.fa 2 (.t 3)),og 96 94 false (.ld none (.t 95)),og 97 94 false (.mv (.t 5) none),og 98 94 false (.ia 1 (.t 96) (.t 97)),og 99 94 false (.ld none (.t 98)),og 100 94 false (.mf Zc0 [.t 3]),og 101 94 false (.ca .pure false (.f ZcX) [.t 99,.t 100]),oo 102 (.pk (.t 94) (.k (.bool true)) (.t 101))]) (.cd (.t 102) (.sq (rg [om 4 (.k (.bool false))]) (.rt)) (.sk)))))
 (rg [oo 103 (.bi .add 0 (.t 55) (i6 1)),qM 55 103]))))))) (.sq (rg [om 4 (.k (.bool true))]) (.rt)))))) }
theorem Ztl:Zv UbY ZcH ZgK=true:=by kernel_rfl
def ZgL:F2 :=
 { nt:=71,res:=[.t 4 [0]],body:=(.sq (rg [oo 3 (.bt (.t 1)),om 4 (.k (.string ⟨#[]⟩))]) (.sq (rg [qM 11 0,qF 12 0 3,qL 13 12,oo 14 (.ca .pure false (.f Zay) [.t 11,.k (.string ⟨#[116,111,112,115]⟩),.t 13]),oo 15 (.bs 1 1 [.string ⟨#[]⟩] [(0,.t 14)]),qM 5 15]) (.sq (.sq (rg [qM 16 0,qN 17 16,om 18 (i6 0)]) (.bl 0 (.lp [0,3,5,16,17,18] [480,1344] (.sq (rg [qB 19 .lss 18 17]) (.sq (.cd (.t 19) (.sk) (.ex 0)) (.sq (.bl 1 (.sq (rg [qM 20 18,qI 21 3 16 18,qS 22 3 21,oo 7 (.al [.string ⟨#[]⟩,.int .i64 0,.int .i64 0] []),qM 6 20,
 Jf (.st 3 (.t 7) (.t 22))]) (.rg (some 0) [qM 23 5,qM 24 0,qF 25 0 7,qL 26 25,oo 27 (.bi .add 0 (.t 26) (.k (.string ⟨#[58]⟩))),qF 28 2 3,qL 29 28,qM 30 6,qI 31 1 29 30,qL 32 31,oo 33 (.ca .pure false (.f Zc1) [.t 32]),qB 34 .add 27 33,qF 35 1 3,qL 36 35,qM 37 6,qI 38 1 36 37,qL 39 38,oo 40 (.ca .pure false (.f Zay) [.t 24,.t 34,.t 39]),oo 41 (.bs 1 1 [.string ⟨#[]⟩] [(0,.t 40)]),oo 42 (.ap 1 0 (.t 23) (.t 41)),qM 5 42])))
 (rg [oo 43 (.bi .add 0 (.t 18) (i6 1)),qM 18 43]))))))) (.sq (rg [om 8 (.k (.string ⟨#[97,112,97,114,116]⟩))]) (.sq (.sq (rg [qF 44 4 3,qL 45 44,qN 46 45,om 47 (i6 0)]) (.bl 2 (.lp [3,5,8,45,46,47] [480,1344] (.sq (rg [qB 48 .lss 47 46]) (.sq (.cd (.t 48) (.sk) (.ex 2)) (.sq (.bl 3 (.sq (rg [qI 49 2 45 47,qS 50 2 49,oo 10 (.al [.int .i64 0,.int .i64 0] []),
 Jf (.st 2 (.t 10) (.t 50))]) (.rg (some 0) [qM 51 8,oo 52 (.ja 1 2 (.t 10) (i6 0)),qL 53 52,oo 54 (.ca .pure false (.f XC) [.t 53]),oo 55 (.bi .add 0 (.k (.string ⟨#[32]⟩)) (.t 54)),oo 56 (.bi .add 0 (.t 55) (.k (.string ⟨#[45]⟩))),oo 57 (.ja 1 2 (.t 10) (i6 1)),qL 58 57,oo 59 (.ca .pure false (.f XC) [.t 58]),qB 60 .add 56 59,qB 61 .add 51 60,qM 8 61])))
 (rg [oo 62 (.bi .add 0 (.t 47) (i6 1)),qM 47 62]))))))) (.sq (rg [qM 63 5,qF 64 3 3,qL 65 64,oo 66 (.ca .pure false (.f Zc3) [.k (.string ⟨#[109,111,115,116]⟩),.t 65]),qM 67 8,oo 68 (.bs 1 2 [.string ⟨#[]⟩] [(0,.t 66),(1,.t 67)]),oo 69 (.ap 1 0 (.t 63) (.t 68)),oo 70 (.ca .pure false (.f Zc2) [.t 69,.k (.string ⟨#[59,32]⟩)]),qM 4 70]) (.rt))))))) }
theorem Ztm:Zv UbY ZcI ZgL=true:=by kernel_rfl
def ZgM:F2 :=
 { nt:=23,res:=[.t 2 [0]],body:=(.sq (rg [om 2 (.k (.bool false))]) (.sq (.sq (rg [om 3 (i6 0)]) (.bl 0 (.lp [0,3] [] (.sq (.sq (rg [qM 4 3,qM 5 0,oo 6 (.lg (.t 5)),qB 7 .lss 4 6]) (.cd (.t 7) (.sk) (.ex 0))) (.sq (.bl 1 (.sq (rg [qM 10 0,qM 11 3,oo 12 (.ix (.t 10) (.t 11)),oo 13 (.bi .lss 0 (.t 12) (.k (.int .u8 97))),qM 14 13,og 15 14 false (.mv (.t 0) none),og 16 14 false (.mv (.t 3) none),og 17 14 false (.ix (.t 15) (.t 16)),og 18 14 false (.bi .gtr 0 (.t 17) (.k (.int .u8 122))),oo 19 (.pk (.t 14) (.k (.bool true)) (.t 18))]) (.cd (.t 19) (.sq (rg [om 2 (.k (.bool false))]) (.rt)) (.sk))))
 (rg [qM 8 3,oo 9 (.bi .add 0 (.t 8) (i6 1)),qM 3 9])))))) (.sq (rg [qM 20 0,oo 21 (.lg (.t 20)),oo 22 (.ca .pure false (.f V5) [.t 21,i6 1,i6 4]),qM 2 22]) (.rt)))) }
theorem Ztn:Zv UbY ZcO ZgM=true:=by kernel_rfl
def ZgN:F2 :=
 { nt:=15,res:=[.t 6 [0]],body:=(.sq (rg [om 6 (.k (.bool false))]) (.sq (rg [qM 7 0,qM 8 1,qB 9 .geq 7 8,qM 10 9,og 11 10 true (.mv (.t 0) none),og 12 10 true (.mv (.t 2) none),og 13 10 true (.bi .leq 0 (.t 11) (.t 12)),oo 14 (.pk (.t 10) (.t 13) (.k (.bool false))),qM 6 14]) (.rt))) }
theorem Zto:Zv UbY V5 ZgN=true:=by kernel_rfl
def ZgO:F2 :=
 { nt:=20,res:=[.t 4 [0]],body:=(.sq (rg [om 4 (i6 0)]) (.sq (.sq (rg [om 5 (i6 0)]) (.bl 0 (.lp [0,1,5] [] (.sq (.sq (rg [qM 6 5,qM 7 0,qN 8 7,qB 9 .lss 6 8]) (.cd (.t 9) (.sk) (.ex 0))) (.sq (.bl 1 (.sq (rg [qM 12 0,qM 13 5,qI 14 3 12 13,qF 15 0 14,qL 16 15,qM 17 1,qB 18 .eql 16 17]) (.cd (.t 18) (.sq (rg [qM 19 5,qM 4 19]) (.rt)) (.sk))))
 (rg [qM 10 5,oo 11 (.bi .add 0 (.t 10) (i6 1)),qM 5 11])))))) (.sq (rg [om 4 (i6 (-1))]) (.rt)))) }
theorem Ztp:Zv UbY ZcP ZgO=true:=by kernel_rfl
def ZaB:F2 :=
 { nt:=58,res:=[.t 2 [0],.t 3 [0]],body:=(.sq (rg [om 2 (i6 0),om 3 (.k (.bool false))]) (.sq (rg [qM 7 0,qM 4 7]) (.sq (.sq (rg [qM 8 4,oo 9 (.lg (.t 8)),oo 10 (.bi .gtr 0 (.t 9) (i6 1)),qM 11 10,og 12 11 true (.mv (.t 4) none),og 13 11 true (.ix (.t 12) (i6 0)),og 14 11 true (.bi .eql 0 (.t 13) (.k (.int .u8 45))),oo 15 (.pk (.t 11) (.t 14) (.k (.bool false)))]) (.cd (.t 15) (rg [qM 16 4,oo 17 (.ss (.t 16) (some (i6 1)) none),qM 4 17]) (.sk))) (.sq (.sq (rg [qM 18 4,oo 19 (.lg (.t 18)),oo 20 (.ca .pure false (.f V5) [.t 19,i6 1,i6 6]),oo 21 (.nt (.t 20))]) (.cd (.t 21) (.sq (rg [om 2 (i6 0),om 3 (.k (.bool false))]) (.rt)) (.sk))) (.sq (rg [om 5 (i6 0)]) (.sq (.sq (rg [om 6 (i6 0)]) (.bl 0 (.lp [0,4,5,6] [] (.sq (.sq (rg [qM 22 6,qM 23 4,oo 24 (.lg (.t 23)),qB 25 .lss 22 24]) (.cd (.t 25) (.sk) (.ex 0))) (.sq (.bl 1 (.sq (.sq (rg [qM 28 4,qM 29 6,oo 30 (.ix (.t 28) (.t 29)),oo 31 (.bi .lss 0 (.t 30) (.k (.int .u8 48))),qM 32 31,og 33 32 false (.mv (.t 4) none),og 34 32 false (.mv (.t 6) none),og 35 32 false (.ix (.t 33) (.t 34)),og 36 32 false (.bi .gtr 0 (.t 35) (.k (.int .u8 57))),oo 37 (.pk (.t 32) (.k (.bool true)) (.t 36))]) (.cd (.t 37) (.sq (rg [om 2 (i6 0),om 3 (.k (.bool false))]) (.rt)) (.sk)))
 (rg [qM 38 5,oo 39 (.bi .mul 0 (i6 10) (.t 38)),qM 40 4,qM 41 6,oo 42 (.ix (.t 40) (.t 41)),oo 43 (.bi .sub 1 (.t 42) (.k (.int .u8 48))),oo 44 (.cv (.int .i64) (.t 43)),qB 45 .add 39 44,qM 5 45])))
 (rg [qM 26 6,oo 27 (.bi .add 0 (.t 26) (i6 1)),qM 6 27])))))) (.sq (.sq (rg [qM 46 4,oo 47 (.lg (.t 46)),qM 48 0,oo 49 (.lg (.t 48)),qB 50 .lss 47 49]) (.cd (.t 50) (rg [qM 51 5,oo 52 (.ng (.t 51)),qM 5 52]) (.sk))) (.sq (.sq (rg [qM 53 5,oo 54 (.ca .pure false (.f Vt) [.t 53]),qM 55 0,qB 56 .neq 54 55]) (.cd (.t 56) (.sq (rg [om 2 (i6 0),om 3 (.k (.bool false))]) (.rt)) (.sk))) (.sq (rg [qM 57 5,qM 2 57,om 3 (.k (.bool true))]) (.rt)))))))))) }
theorem Zdb:Zv UbY WR ZaB=true:=by kernel_rfl
def ZgP:F2 :=
 { nt:=10,res:=[.t 4 [0]],body:=(.sq (rg [om 4 (.k (.bool false))]) (.sq (rg [qM 5 1,qM 6 0,qN 7 6,oo 8 (.bi .sub 0 (.t 7) (i6 1)),oo 9 (.ca .pure false (.f Zc5) [.t 5,i6 0,.t 8]),qM 4 9]) (.rt))) }
theorem Ztq:Zv UbY Zau ZgP=true:=by kernel_rfl
def ZgQ:F2 :=
 { nt:=40,res:=[.t 4 [0]],body:=(.sq (rg [om 4 (.k (.bool false))]) (.sq (.sq (rg [qM 6 1,qN 7 6,qM 8 0,qN 9 8,qB 10 .neq 7 9]) (.cd (.t 10) (.sq (rg [om 4 (.k (.bool false))]) (.rt)) (.sk))) (.sq (.sq (rg [om 5 (i6 0)]) (.bl 0 (.lp [0,1,5] [] (.sq (.sq (rg [qM 11 5,qM 12 1,qN 13 12,qB 14 .lss 11 13]) (.cd (.t 14) (.sk) (.ex 0))) (.sq (.bl 1 (.sq (rg [qM 17 0,qM 18 1,qM 19 5,qI 20 1 18 19,qL 21 20,oo 22 (.ca .pure false (.f Zau) [.t 17,.t 21]),oo 23 (.nt (.t 22)),qM 24 23,og 25 24 false (.mv (.t 0) none),og 26 24 false (.mv (.t 5) none),og 27 24 false (.ia 3 (.t 25) (.t 26)),og 28 24 false (.fa 2 (.t 27)),og 29 24 false (.ld none (.t 28)),og 30 24 false (.bi .eql 0 (.t 29) (i6 2)),og 31 24 false (.mv (.t 30) none),og 32 31 true (.mv (.t 1) none),og 33 31 true (.mv (.t 5) none),og 34 31 true (.ia 1 (.t 32) (.t 33)),og 35 31 true (.ld none (.t 34)),og 36 31 true (.ln (.t 35)),og 37 31 true (.bi .gtr 0 (.t 36) (i6 0)),og 38 24 false (.pk (.t 31) (.t 37) (.k (.bool false))),oo 39 (.pk (.t 24) (.k (.bool true)) (.t 38))]) (.cd (.t 39) (.sq (rg [om 4 (.k (.bool false))]) (.rt)) (.sk))))
 (rg [qM 15 5,oo 16 (.bi .add 0 (.t 15) (i6 1)),qM 5 16])))))) (.sq (rg [om 4 (.k (.bool true))]) (.rt))))) }
theorem Ztr:Zv UbY ZcQ ZgQ=true:=by kernel_rfl
def ZgR:F2 :=
 { nt:=51,res:=[.t 6 [0]],body:=(.sq (rg [om 6 (.k (.bool false))]) (.sq (.sq (rg [qM 9 1,qN 10 9,qM 11 0,qN 12 11,qB 13 .neq 10 12]) (.cd (.t 13) (.sq (rg [om 6 (.k (.bool false))]) (.rt)) (.sk))) (.sq (.sq (rg [om 7 (i6 0)]) (.bl 0 (.lp [0,1,2,7] [] (.sq (.sq (rg [qM 14 7,qM 15 1,qN 16 15,qB 17 .lss 14 16]) (.cd (.t 17) (.sk) (.ex 0))) (.sq (.bl 1 (.sq (.sq (.rg (some 0) [qM 20 1,qM 21 7,qI 22 1 20 21,qL 23 22,qN 24 23,qM 25 0,qM 26 7,qI 27 3 25 26,qF 28 1 27,qL 29 28,qB 30 .neq 24 29]) (.cd (.t 30) (.sq (rg [om 6 (.k (.bool false))]) (.rt)) (.sk))) (.sq (rg [om 8 (i6 0)]) (.bl 2 (.lp [0,1,2,7,8] [] (.sq (.sq (rg [qM 31 8,qM 32 1,qM 33 7,qI 34 1 32 33,qL 35 34,qN 36 35,qB 37 .lss 31 36]) (.cd (.t 37) (.sk) (.ex 2))) (.sq (.bl 3 (.sq (rg [qM 40 1,qM 41 7,qI 42 1 40 41,qL 43 42,qM 44 8,qI 45 1 43 44,qL 46 45,qM 47 2,oo 48 (.bi .sub 0 (.t 47) (i6 1)),oo 49 (.ca .pure false (.f V5) [.t 46,i6 0,.t 48]),oo 50 (.nt (.t 49))]) (.cd (.t 50) (.sq (rg [om 6 (.k (.bool false))]) (.rt)) (.sk))))
 (rg [qM 38 8,oo 39 (.bi .add 0 (.t 38) (i6 1)),qM 8 39]))))))))
 (rg [qM 18 7,oo 19 (.bi .add 0 (.t 18) (i6 1)),qM 7 19])))))) (.sq (rg [om 6 (.k (.bool true))]) (.rt))))) }
theorem Zts:Zv UbY ZcR ZgR=true:=by kernel_rfl
def ZgS:F2 :=
 { nt:=24,res:=[.t 4 [0]],body:=(.sq (rg [oo 2 (.bt (.t 0)),oo 3 (.bt (.t 1)),om 4 (.k (.bool false))]) (.sq (rg [oo 5 (.ja 1 2 (.t 2) (i6 0)),qL 6 5,oo 7 (.ja 1 2 (.t 3) (i6 0)),qL 8 7,qB 9 .lss 6 8,qM 10 9,og 11 10 false (.ja 1 2 (.t 2) (i6 0)),og 12 10 false (.ld none (.t 11)),og 13 10 false (.ja 1 2 (.t 3) (i6 0)),og 14 10 false (.ld none (.t 13)),og 15 10 false (.bi .eql 0 (.t 12) (.t 14)),og 16 10 false (.mv (.t 15) none),og 17 16 true (.ja 1 2 (.t 2) (i6 1)),og 18 16 true (.ld none (.t 17)),og 19 16 true (.ja 1 2 (.t 3) (i6 1)),og 20 16 true (.ld none (.t 19)),og 21 16 true (.bi .lss 0 (.t 18) (.t 20)),og 22 10 false (.pk (.t 16) (.t 21) (.k (.bool false))),oo 23 (.pk (.t 10) (.k (.bool true)) (.t 22)),qM 4 23]) (.rt))) }
theorem Ztt:Zv UbY ZcS ZgS=true:=by kernel_rfl
def ZgT:F2 :=
 { nt:=25,res:=[.t 4 [0]],body:=(.sq (rg [om 4 (.k (.string ⟨#[]⟩))]) (.sq (rg [om 5 (.k (.string ⟨#[]⟩))]) (.sq (.sq (rg [om 6 (i6 0)]) (.bl 0 (.lp [0,1,5,6] [] (.sq (.sq (rg [qM 7 6,qM 8 1,qN 9 8,qB 10 .lss 7 9]) (.cd (.t 10) (.sk) (.ex 0))) (.sq (.bl 1 (rg [qM 13 5,oo 14 (.bi .add 0 (.t 13) (.k (.string ⟨#[32]⟩))),qM 15 0,qM 16 1,qM 17 6,qI 18 1 16 17,qL 19 18,qI 20 3 15 19,qF 21 0 20,qL 22 21,qB 23 .add 14 22,qM 5 23]))
 (rg [qM 11 6,oo 12 (.bi .add 0 (.t 11) (i6 1)),qM 6 12])))))) (.sq (rg [qM 24 5,qM 4 24]) (.rt))))) }
theorem Ztu:Zv UbY Zav ZgT=true:=by kernel_rfl
def UT:F2 :=
 { nt:=25,res:=[.t 2 [0]],body:=(.sq (rg [om 2 (.k (.string ⟨#[]⟩))]) (.sq (.sq (rg [qM 3 0,oo 4 (.bi .lss 0 (.t 3) (i6 0))]) (.cd (.t 4) (.sq (rg [qM 5 0,oo 6 (.ng (.t 5)),oo 7 (.ca .pure false (.f Vt) [.t 6]),oo 8 (.bi .add 0 (.k (.string ⟨#[45]⟩)) (.t 7)),qM 2 8]) (.rt)) (.sk))) (.sq (.sq (rg [qM 9 0,oo 10 (.bi .lss 0 (.t 9) (i6 10))]) (.cd (.t 10) (.sq (rg [qM 11 0,qM 12 0,oo 13 (.bi .add 0 (.t 12) (i6 1)),oo 14 (.ss (.k (.string ⟨#[48,49,50,51,52,53,54,55,56,57]⟩)) (some (.t 11)) (some (.t 13))),qM 2 14]) (.rt)) (.sk))) (.sq (.rg (some 0) [qM 15 0,oo 16 (.bi .quo 0 (.t 15) (i6 10)),oo 17 (.ca .pure false (.f Vt) [.t 16]),qM 18 0,oo 19 (.bi .rem 0 (.t 18) (i6 10)),qM 20 0,oo 21 (.bi .rem 0 (.t 20) (i6 10)),oo 22 (.bi .add 0 (.t 21) (i6 1)),oo 23 (.ss (.k (.string ⟨#[48,49,50,51,52,53,54,55,56,57]⟩)) (some (.t 19)) (some (.t 22))),qB 24 .add 17 23,qM 2 24]) (.rt))))) }
theorem ZaC:Zv UbY Vt UT=true:=by kernel_rfl
def ZgU:F2 :=
 { nt:=20,res:=[.t 2 [0]],body:=(.sq (rg [om 2 (.k (.string ⟨#[]⟩))]) (.sq (rg [om 3 (.k (.string ⟨#[]⟩))]) (.sq (.sq (rg [om 4 (i6 0)]) (.bl 0 (.lp [0,3,4] [] (.sq (.sq (rg [qM 5 4,qM 6 0,qN 7 6,qB 8 .lss 5 7]) (.cd (.t 8) (.sk) (.ex 0))) (.sq (.bl 1 (rg [qM 11 3,oo 12 (.bi .add 0 (.t 11) (.k (.string ⟨#[32]⟩))),qM 13 0,qM 14 4,qI 15 1 13 14,qL 16 15,oo 17 (.ca .pure false (.f Vt) [.t 16]),qB 18 .add 12 17,qM 3 18]))
 (rg [qM 9 4,oo 10 (.bi .add 0 (.t 9) (i6 1)),qM 4 10])))))) (.sq (rg [qM 19 3,qM 2 19]) (.rt))))) }
theorem Ztv:Zv UbY ZcT ZgU=true:=by kernel_rfl
def ZgV:F2 :=
 { nt:=15,res:=[.t 6 [0]],body:=(.sq (rg [om 6 (.k (.bool false))]) (.sq (rg [qM 7 0,qM 8 1,qB 9 .geq 7 8,qM 10 9,og 11 10 true (.mv (.t 0) none),og 12 10 true (.mv (.t 2) none),og 13 10 true (.bi .leq 0 (.t 11) (.t 12)),oo 14 (.pk (.t 10) (.t 13) (.k (.bool false))),qM 6 14]) (.rt))) }
theorem Ztw:Zv UbY VH ZgV=true:=by kernel_rfl
def ZgW:F2 :=
 { nt:=11,res:=[.t 2 [0]],body:=(.sq (rg [om 2 (.k (.bool false))]) (.sq (rg [qM 3 0,oo 4 (.lg (.t 3)),oo 5 (.ca .pure false (.f VH) [.t 4,i6 1,i6 4]),qM 6 5,og 7 6 true (.mv (.t 0) none),og 8 6 true (.ca .pure false (.f Zgs) [.t 7,.k (.string ⟨#[97,98,99,100,101,102,103,104,105,106,107,108,109,110,111,112,113,114,115,116,117,118,119,120,121,122]⟩)]),og 9 6 true (.bi .eql 0 (.t 8) (.k (.string ⟨#[]⟩))),oo 10 (.pk (.t 6) (.t 9) (.k (.bool false))),qM 2 10]) (.rt))) }
theorem Ztx:Zv UbY ZcU ZgW=true:=by kernel_rfl
def ZgX:F2 :=
 { nt:=9,res:=[.t 3 [0]],body:=(.sq (rg [oo 2 (.bt (.t 0)),om 3 (.k (.bool false))]) (.sq (rg [qF 4 0 2,qL 5 4,qF 6 0 1,qL 7 6,qB 8 .eql 5 7,qM 3 8]) (.rt))) }
theorem Zty:Zv UbY Zaw ZgX=true:=by kernel_rfl
def ZgY:F2 :=
 { nt:=8,res:=[.t 4 [0]],body:=(.sq (rg [oo 3 (.bt (.t 1)),om 4 (i6 0)]) (.sq (rg [qM 5 0,oo 6 (.mf Zaz [.t 3]),oo 7 (.ca .pure false (.f Zc6) [.t 5,.t 6]),qM 4 7]) (.rt))) }
theorem Ztz:Zv UbY ZcV ZgY=true:=by kernel_rfl
def Zdc:F2 :=
 { nt:=5,res:=[.t 2 [0]],body:=(.sq (rg [om 2 (.k (.string ⟨#[]⟩))]) (.sq (rg [qM 3 0,oo 4 (.ca .pure false (.f Zc7) [.t 3]),qM 2 4]) (.rt))) }
theorem ZgZ:Zv UbY XC Zdc=true:=by kernel_rfl
def Zg0:F2 :=
 { nt:=33,res:=[.t 4 [0]],body:=(.sq (rg [om 4 (.k (.bool false))]) (.sq (.sq (rg [qM 7 0,qN 8 7,om 9 (i6 0)]) (.bl 0 (.lp [0,1,7,8,9] [] (.sq (rg [qB 10 .lss 9 8]) (.sq (.cd (.t 10) (.sk) (.ex 0)) (.sq (.bl 1 (.sq (rg [qM 11 9,qI 12 1 7 9,qL 13 12,qM 5 11,qM 6 13]) (.sq (rg [qM 14 6,qM 15 1,oo 16 (.bi .sub 0 (.t 15) (i6 1)),oo 17 (.ca .pure false (.f VH) [.t 14,i6 0,.t 16]),oo 18 (.nt (.t 17)),qM 19 18,og 20 19 false (.mv (.t 5) none),og 21 19 false (.bi .gtr 0 (.t 20) (i6 0)),og 22 19 false (.mv (.t 21) none),og 23 22 true (.mv (.t 6) none),og 24 22 true (.mv (.t 0) none),og 25 22 true (.mv (.t 5) none),og 26 22 true (.bi .sub 0 (.t 25) (i6 1)),og 27 22 true (.ia 1 (.t 24) (.t 26)),og 28 22 true (.ld none (.t 27)),og 29 22 true (.bi .leq 0 (.t 23) (.t 28)),og 30 19 false (.pk (.t 22) (.t 29) (.k (.bool false))),oo 31 (.pk (.t 19) (.k (.bool true)) (.t 30))]) (.cd (.t 31) (.sq (rg [om 4 (.k (.bool false))]) (.rt)) (.sk)))))
 (rg [oo 32 (.bi .add 0 (.t 9) (i6 1)),qM 9 32]))))))) (.sq (rg [om 4 (.k (.bool true))]) (.rt)))) }
theorem ZtA:Zv UbY Zax Zg0=true:=by kernel_rfl
def Zg1:F2 :=
 { nt:=6,res:=[.t 2 [0]],body:=(.sq (rg [om 2 (.k (.bool false))]) (.sq (rg [qM 3 0,oo 4 (.ca .pure false (.f VH) [.t 3,i6 0,i6 24]),oo 5 (.nt (.t 4)),qM 2 5]) (.rt))) }
theorem ZtB:Zv UbY ZcY Zg1=true:=by kernel_rfl
def Zg2:F2 :=
 { nt:=44,res:=[.t 4 [0]],body:=(.sq (rg [om 4 (.k (.bool false))]) (.sq (.sq (rg [qM 7 0,qN 8 7,om 9 (i6 0)]) (.bl 0 (.lp [0,1,7,8,9] [] (.sq (rg [qB 10 .lss 9 8]) (.sq (.cd (.t 10) (.sk) (.ex 0)) (.sq (.bl 1 (.sq (rg [qM 11 9,qI 12 2 7 9,qS 13 2 12,oo 6 (.al [.int .i64 0,.int .i64 0] []),qM 5 11,
 Jf (.st 2 (.t 6) (.t 13))]) (.sq (.rg (some 0) [oo 14 (.ja 1 2 (.t 6) (i6 0)),qL 15 14,oo 16 (.ja 1 2 (.t 6) (i6 1)),qL 17 16,oo 18 (.bi .sub 1 (.t 17) (i6 1)),oo 19 (.ca .pure false (.f VH) [.t 15,i6 0,.t 18]),oo 20 (.nt (.t 19)),qM 21 20,og 22 21 false (.ja 1 2 (.t 6) (i6 1)),og 23 21 false (.ld none (.t 22)),og 24 21 false (.mv (.t 1) none),og 25 21 false (.bi .sub 0 (.t 24) (i6 1)),og 26 21 false (.ca .pure false (.f VH) [.t 23,i6 0,.t 25]),og 27 21 false (.nt (.t 26)),oo 28 (.pk (.t 21) (.k (.bool true)) (.t 27)),qM 29 28,og 30 29 false (.mv (.t 5) none),og 31 29 false (.bi .gtr 0 (.t 30) (i6 0)),og 32 29 false (.mv (.t 31) none),og 33 32 true (.mv (.t 0) none),og 34 32 true (.mv (.t 5) none),og 35 32 true (.bi .sub 0 (.t 34) (i6 1)),og 36 32 true (.ia 2 (.t 33) (.t 35)),og 37 32 true (.ld (some 2) (.t 36)),og 38 32 true (.ld (some 2) (.t 6)),og 39 32 true (.ca .pure false (.f Zc8) [.t 37,.t 38]),og 40 32 true (.bi .geq 0 (.t 39) (i6 0)),og 41 29 false (.pk (.t 32) (.t 40) (.k (.bool false))),oo 42 (.pk (.t 29) (.k (.bool true)) (.t 41))]) (.cd (.t 42) (.sq (rg [om 4 (.k (.bool false))]) (.rt)) (.sk)))))
 (rg [oo 43 (.bi .add 0 (.t 9) (i6 1)),qM 9 43]))))))) (.sq (rg [om 4 (.k (.bool true))]) (.rt)))) }
theorem ZtC:Zv UbY ZcZ Zg2=true:=by kernel_rfl
def Zg3:F2 :=
 { nt:=11,res:=[.t 3 [0]],body:=(.sq (rg [om 3 (.k (.bool false))]) (.sq (rg [qM 4 0,qF 5 3 1,qL 6 5,qN 7 6,oo 8 (.bi .sub 0 (.t 7) (i6 1)),oo 9 (.ca .pure false (.f VH) [.t 4,i6 0,.t 8]),oo 10 (.nt (.t 9)),qM 3 10]) (.rt))) }
theorem ZtD:Zv UbY Zc0 Zg3=true:=by kernel_rfl
def Zg4:F2 :=
 { nt:=25,res:=[.t 6 [0]],body:=(.sq (rg [om 6 (.k (.string ⟨#[]⟩))]) (.sq (.sq (rg [qM 9 2,qN 10 9,om 11 (i6 0)]) (.bl 0 (.lp [0,1,9,10,11] [] (.sq (rg [qB 12 .lss 11 10]) (.sq (.cd (.t 12) (.sk) (.ex 0)) (.sq (.bl 1 (.sq (rg [qI 13 1 9 11,qL 14 13,qM 8 14])
 (rg [qM 15 1,qM 16 0,qM 17 8,qI 18 3 16 17,qF 19 0 18,qL 20 19,oo 21 (.bi .add 0 (.k (.string ⟨#[32]⟩)) (.t 20)),qB 22 .add 15 21,qM 1 22])))
 (rg [oo 23 (.bi .add 0 (.t 11) (i6 1)),qM 11 23]))))))) (.sq (rg [qM 24 1,qM 6 24]) (.rt)))) }
theorem ZtE:Zv UbY Zay Zg4=true:=by kernel_rfl
def Zg5:F2 :=
 { nt:=18,res:=[.t 2 [0]],body:=(.sq (rg [om 2 (.k (.string ⟨#[]⟩))]) (.sq (rg [om 3 (.k (.string ⟨#[]⟩))]) (.sq (.sq (rg [qM 6 0,qN 7 6,om 8 (i6 0)]) (.bl 0 (.lp [3,6,7,8] [] (.sq (rg [qB 9 .lss 8 7]) (.sq (.cd (.t 9) (.sk) (.ex 0)) (.sq (.bl 1 (.sq (rg [qI 10 1 6 8,qL 11 10,qM 5 11])
 (rg [qM 12 3,qM 13 5,oo 14 (.ca .pure false (.f XC) [.t 13]),qB 15 .add 12 14,qM 3 15])))
 (rg [oo 16 (.bi .add 0 (.t 8) (i6 1)),qM 8 16]))))))) (.sq (rg [qM 17 3,qM 2 17]) (.rt))))) }
theorem ZtF:Zv UbY Zc1 Zg5=true:=by kernel_rfl
def Zg6:F2 :=
 { nt:=20,res:=[.t 4 [0]],body:=(.sq (rg [om 4 (.k (.string ⟨#[]⟩))]) (.sq (.sq (rg [qM 7 1,qN 8 7,om 9 (i6 0)]) (.bl 0 (.lp [0,7,8,9] [] (.sq (rg [qB 10 .lss 9 8]) (.sq (.cd (.t 10) (.sk) (.ex 0)) (.sq (.bl 1 (.sq (rg [qI 11 1 7 9,qL 12 11,qM 6 12])
 (rg [qM 13 0,qM 14 6,oo 15 (.ca .pure false (.f XC) [.t 14]),oo 16 (.bi .add 0 (.k (.string ⟨#[32]⟩)) (.t 15)),qB 17 .add 13 16,qM 0 17])))
 (rg [oo 18 (.bi .add 0 (.t 9) (i6 1)),qM 9 18]))))))) (.sq (rg [qM 19 0,qM 4 19]) (.rt)))) }
theorem ZtG:Zv UbY Zc3 Zg6=true:=by kernel_rfl
def Zg7:F2 :=
 { nt:=38,res:=[.t 6 [0]],body:=(.sq (rg [om 6 (.k (.bool false))]) (.sq (.sq (rg [om 7 (i6 0)]) (.bl 0 (.lp [0,1,2,7] [] (.sq (.sq (rg [qM 8 7,qM 9 0,qN 10 9,qB 11 .lss 8 10]) (.cd (.t 11) (.sk) (.ex 0))) (.sq (.bl 1 (.sq (.rg (some 0) [qM 14 0,qM 15 7,qI 16 1 14 15,qL 17 16,qM 18 1,qM 19 2,oo 20 (.ca .pure false (.f V5) [.t 17,.t 18,.t 19]),oo 21 (.nt (.t 20)),qM 22 21,og 23 22 false (.mv (.t 7) none),og 24 22 false (.bi .gtr 0 (.t 23) (i6 0)),og 25 22 false (.mv (.t 24) none),og 26 25 true (.mv (.t 0) none),og 27 25 true (.mv (.t 7) none),og 28 25 true (.bi .sub 0 (.t 27) (i6 1)),og 29 25 true (.ia 1 (.t 26) (.t 28)),og 30 25 true (.ld none (.t 29)),og 31 25 true (.mv (.t 0) none),og 32 25 true (.mv (.t 7) none),og 33 25 true (.ia 1 (.t 31) (.t 32)),og 34 25 true (.ld none (.t 33)),og 35 25 true (.bi .geq 0 (.t 30) (.t 34)),og 36 22 false (.pk (.t 25) (.t 35) (.k (.bool false))),oo 37 (.pk (.t 22) (.k (.bool true)) (.t 36))]) (.cd (.t 37) (.sq (rg [om 6 (.k (.bool false))]) (.rt)) (.sk))))
 (rg [qM 12 7,oo 13 (.bi .add 0 (.t 12) (i6 1)),qM 7 13])))))) (.sq (rg [om 6 (.k (.bool true))]) (.rt)))) }
theorem ZtH:Zv UbY Zc5 Zg7=true:=by kernel_rfl
def Zg8:F2 :=
 { nt:=8,res:=[.t 3 [0]],body:=(.sq (rg [oo 2 (.bt (.t 0)),om 3 (.k (.bool false))]) (.sq (rg [qF 4 0 2,qL 5 4,qL 6 1,qB 7 .eql 5 6,qM 3 7]) (.rt))) }
theorem ZtI:Zv UbY Zaz Zg8=true:=by kernel_rfl
def Zg9:F2 :=
 { nt:=8,res:=[.t 4 [0]],body:=(.sq (rg [oo 2 (.bt (.t 0)),oo 3 (.bt (.t 1)),om 4 (i6 0)]) (.sq (.rg (some 0) [oo 5 (.sa 2 (.t 2)),oo 6 (.sa 2 (.t 3)),oo 7 (.ca .pure false (.f Zc9) [.t 5,.t 6]),qM 4 7]) (.rt))) }
theorem ZtJ:Zv UbY Zc8 Zg9=true:=by kernel_rfl
def Zha:F2 :=
 { nt:=36,res:=[.t 4 [0]],body:=(.sq (rg [om 4 (i6 0)]) (.sq (.sq (rg [qM 9 0,qN 10 9,om 11 (i6 0)]) (.bl 0 (.lp [0,1,9,10,11] [] (.sq (rg [qB 12 .lss 11 10]) (.sq (.cd (.t 12) (.sk) (.ex 0)) (.sq (.bl 1 (.sq (rg [qM 13 11,qI 14 1 9 11,qL 15 14,qM 5 13,qM 6 15]) (.sq (.sq (rg [qM 16 5,qM 17 1,qN 18 17,qB 19 .geq 16 18]) (.cd (.t 19) (.sq (rg [om 4 (i6 1)]) (.rt)) (.sk))) (.sq (rg [qM 20 1,qM 21 5,qI 22 1 20 21,qL 23 22,qM 7 23]) (.sq (rg [qM 24 6,qM 25 7,oo 26 (.ca .pure false (.f Zda) [.t 24,.t 25]),qM 8 26]) (.sq (rg [qM 27 8,oo 28 (.bi .neq 0 (.t 27) (i6 0))]) (.cd (.t 28) (.sq (rg [qM 29 8,qM 4 29]) (.rt)) (.sk))))))))
 (rg [oo 30 (.bi .add 0 (.t 11) (i6 1)),qM 11 30]))))))) (.sq (.sq (rg [qM 31 0,qN 32 31,qM 33 1,qN 34 33,qB 35 .lss 32 34]) (.cd (.t 35) (.sq (rg [om 4 (i6 (-1))]) (.rt)) (.sk))) (.sq (rg [om 4 (i6 0)]) (.rt))))) }
theorem ZtK:Zv UbY Zc9 Zha=true:=by kernel_rfl
def Zhb:F2 :=
 { nt:=20,res:=[.t 4 [0]],body:=(.sq (rg [om 4 (i6 0)]) (.sq (rg [qM 7 0,oo 8 (.ca .pure false (.f ZaA) [.t 7]),qM 5 8]) (.sq (rg [qM 9 1,oo 10 (.ca .pure false (.f ZaA) [.t 9]),qM 6 10]) (.sq (.sq (rg [qM 11 5]) (.cd (.t 11) (.sq (.sq (rg [qM 12 6]) (.cd (.t 12) (.sq (rg [om 4 (i6 0)]) (.rt)) (.sk))) (.sq (rg [om 4 (i6 (-1))]) (.rt))) (.sk))) (.sq (.sq (rg [qM 13 6]) (.cd (.t 13) (.sq (rg [om 4 (i6 1)]) (.rt)) (.sk))) (.sq (.sq (rg [qM 14 0,qM 15 1,qB 16 .lss 14 15]) (.cd (.t 16) (.sq (rg [om 4 (i6 (-1))]) (.rt)) (.sk))) (.sq (.sq (rg [qM 17 0,qM 18 1,qB 19 .gtr 17 18]) (.cd (.t 19) (.sq (rg [om 4 (i6 1)]) (.rt)) (.sk))) (.sq (rg [om 4 (i6 0)]) (.rt))))))))) }
theorem ZtL:Zv UbY Zda Zhb=true:=by kernel_rfl
def Zhc:F2 :=
 { nt:=6,res:=[.t 2 [0]],body:=(.sq (rg [om 2 (.k (.bool false))]) (.sq (rg [qM 3 0,qM 4 0,qB 5 .neq 3 4,qM 2 5]) (.rt))) }
theorem ZtM:Zv UbY ZaA Zhc=true:=by kernel_rfl
def XD(k:Nat)(m:Option Nat):F2 :=
 { nt:=19,res:=[.t 4 [0]],body:=(.sq (.rg none [⟨some 4,none,.mv (.k (.int .i64 0)) none⟩]) (.sq (.sq (.rg none [⟨some 6,none,.mv (.t 0) none⟩,
    ⟨some 7,none,.ln (.t 6)⟩,
    ⟨some 8,none,.mv (.k (.int .i64 0)) none⟩]) (.bl 0 (.lp [0,1,7,8] [] (.sq (.rg none [⟨some 9,none,.bi .lss 0 (.t 8) (.t 7)⟩]) (.sq (.cd (.t 9) (.sk) (.ex 0)) (.sq (.bl 1 (.sq (.rg none [⟨some 10,none,.mv (.t 8) none⟩,
      ⟨some 5,none,.mv (.t 10) none⟩]) (.sq (.rg none [⟨some 11,none,.mv (.t 1) none⟩,
      ⟨some 12,none,.mv (.t 0) none⟩,
      ⟨some 13,none,.mv (.t 5) none⟩,
      ⟨some 14,none,.ia k (.t 12) (.t 13)⟩,
      ⟨some 15,none,.ld m (.t 14)⟩,
      ⟨some 16,none,.ca .pure false (.t 11) [.t 15]⟩]) (.cd (.t 16) (.sq (.rg none [⟨some 17,none,.mv (.t 5) none⟩,
      ⟨some 4,none,.mv (.t 17) none⟩]) (.rt)) (.sk))))) (.rg none [⟨some 18,none,.bi .add 0 (.t 8) (.k (.int .i64 1))⟩,
    ⟨some 8,none,.mv (.t 18) none⟩]))))))) (.sq (.rg none [⟨some 4,none,.mv (.k (.int .i64 (-1))) none⟩]) (.rt)))) }
def WS(fi:FuncId):F2 :=
 { nt:=9,res:=[.t 4 [0]],body:=(.sq (.rg none [⟨some 4,none,.mv (.k (.bool false)) none⟩]) (.sq (.rg none [⟨some 5,none,.mv (.t 0) none⟩,
   ⟨some 6,none,.mv (.t 1) none⟩,
   ⟨some 7,none,.ca .pure false (.f fi) [.t 5,.t 6]⟩,
   ⟨some 8,none,.bi .geq 0 (.t 7) (.k (.int .i64 0))⟩,
   ⟨some 4,none,.mv (.t 8) none⟩]) (.rt))) }
end Go.Fd

namespace Go.Fd
set_option maxRecDepth 20000
section rules
variable {L:Zc} {F:List IV->Prop} {lvl:Nat}
theorem UU:∀{l:List (List Tr)} {F:List IV->Prop},ZQ L (l.map IV.ta) F=F (l.map IV.ta)
 | [],F=>Zb7
 | x::r,F=>by
  simp only[UaH]
  rw[Zf0,UU]
  rfl
theorem XE{Pd:Zd->Prop}:∀{l:List (List Tr)},Za Pd (l.map IV.ta)=True
 | []=>rfl
 | x::r=>by
  simp only[UaH,Za,men,true_and]
  exact XE
theorem V6{js:List Nat}{l:List (List Tr)}:Vl lvl js (l.map IV.ta)=True:=XE
end rules
section
variable {P:Program} {α:Type}
theorem Jn{α β:Type}{c:α->β}{l:List α}{j:Nat}(h:j<l.length):(l.map c)[j]? = some (c l[j]):=by simp [h]
theorem ZtN{α:Type}{c:α->List Tr}{l:List α}{j:Nat}:cut (l.map c) 0 (j-0)=(l.take j).map c:=by
 simp only[cut,Ubi,Nat.sub_zero,List.map_take]
theorem ZaD{α:Type}{l:List α}{j:Nat}(h:j<l.length):l.drop j=l[j]::l.drop (j+1):=Ua3 h
def YO(f:α->Bool):List α->Int->Int
 | [],_=>-1
 | x::r,j=>if f x=true then j else YO f r (j+1)
theorem WT{f:α->Bool}{x:α}{r:List α}{j:Int}:YO f (x::r) j=if f x=true then j else YO f r (j+1):=rfl
theorem Zhd{f:α->Bool}:∀{l:List α} {j:Int},0<=j->(0<=YO f l j↔l.any f=true)
 | [],j,_=>by simp [YO]
 | x::r,j,h=>by
  rw[WT,List.any_cons]
  cases hx:f x with
  | true=>simp [h]
  | false =>
   simp only[Ua2,if_false,Bool.false_or]
   exact Zhd (by omega)
theorem ZtO{fid:FuncId}(hc:Zv P fid (XD 1 none)=true){t:α->Tr}{f:α->Bool}{fe:FuncId}{cs:List (List Tr)}(l:List α)(hl:l.length<=9223372036854775807)
  (hf:∀ x∈l,∀ lvl S,Sem P fe lvl (.tr (t x)::cs.map IV.ta) S (iB (f x)) S) (lvl:Nat) (S:Zc):Sem P fid lvl [.tr (.sl (l.map fun x=>[t x])),.fn fe (cs.map IV.ta)] S (iI (YO f l 0)) S:=by
 refine ZA hc trivial ?_
 simp only[XD,Uab,V6,Zb,seval,Za,men]
 refine Z7 (α:=Unit) l.length (fun j _=>[(8,iI j)]) (fun _ _=>[]) (fun j _=>YO f (l.drop j) j=YO f l 0) () (by simp only[V6,Zb,seval,Za,men]) (by (simp only[Zb,seval,Za,men]) <;> rfl) rfl ?_
 intro j _ hj hA
 simp only[Uab,V6,Zb,seval,Za,men]
 refine Zu (fun hlt=>?_) (fun hge=>?_)
 ·have hja:j<l.length:=by omega
  have ga:=Jn (c:=fun x=>[t x]) hja
  rw[ZaD hja,WT] at hA
  simp only[ga,V6,UU,XE,Zb,seval,Za,men]
  refine Zi (hf _ (Ual hja)) ?_
  simp only[XE,V6,Zb,seval,Za,men]
  refine Zu (fun h=>?_) (fun h=>?_)
  ·rw[if_pos h] at hA
   rw[<-hA]
  ·rw[if_neg h] at hA
   exact⟨by rw[Zl];omega,ZC () hja rfl hA⟩
 ·have:j=l.length:=by omega
  subst this
  rw[Ubr] at hA
  rw[<-hA]
  rfl
theorem Zhe{k:Nat}{fid:FuncId}(hc:Zv P fid (XD k (some k))=true){c:α->List Tr}(hk:∀ x,(c x).length=k){f:α->Bool}{fe:FuncId}{cs:List (List Tr)}(l:List α)(hl:l.length<=9223372036854775807)
  (hf:∀ x∈l,∀ lvl S,Sem P fe lvl (.ag ((c x).map .tr)::cs.map IV.ta) S (iB (f x)) S) (lvl:Nat) (S:Zc):Sem P fid lvl [.tr (.sl (l.map c)),.fn fe (cs.map IV.ta)] S (iI (YO f l 0)) S:=by
 refine ZA hc trivial ?_
 simp only[XD,Uab,V6,Zb,seval,Za,men]
 refine Z7 (α:=Unit) l.length (fun j _=>[(8,iI j)]) (fun _ _=>[]) (fun j _=>YO f (l.drop j) j=YO f l 0) () (by simp only[V6,Zb,seval,Za,men]) (by (simp only[Zb,seval,Za,men]) <;> rfl) rfl ?_
 intro j _ hj hA
 simp only[Uab,V6,Zb,seval,Za,men]
 refine Zu (fun hlt=>?_) (fun hge=>?_)
 ·have hja:j<l.length:=by omega
  have ga:=Jn (c:=c) hja
  have hkk:=hk l[j]
  have htk:(c l[j]).take k=c l[j]:=Uas (by omega)
  rw[ZaD hja,WT] at hA
  simp only[ga,hkk,htk,V6,UU,Zcc,XE,Zab,Zb,seval,Za,men]
  refine Zi (hf _ (Ual hja)) ?_
  simp only[XE,Zab,V6,Zb,seval,Za,men]
  refine Zu (fun h=>?_) (fun h=>?_)
  ·rw[if_pos h] at hA
   rw[<-hA]
  ·rw[if_neg h] at hA
   exact⟨by rw[Zl];omega,ZC () hja rfl hA⟩
 ·have:j=l.length:=by omega
  subst this
  rw[Ubr] at hA
  rw[<-hA]
  rfl
theorem Zhf{fid fi:FuncId}(hc:Zv P fid (WS fi)=true){es:Ze}{f:α->Bool}{fe:FuncId}{cs:List (List Tr)}{l:List α}
  (hi:∀ lvl S,Sem P fi lvl [.tr (.sl es),.fn fe (cs.map IV.ta)] S (iI (YO f l 0)) S) (lvl:Nat) (S:Zc):Sem P fid lvl [.tr (.sl es),.fn fe (cs.map IV.ta)] S (iB (l.any f)) S:=by
 refine ZA hc trivial ?_
 simp only[WS,UU,XE,V6,Zb,seval,Za,men]
 refine Zi hi ?_
 simp only[UU,XE,Zb,seval,Za,men]
 have:=Zhd (f:=f) (l:=l) (Ubv 0)
 by_cases h:l.any f=true
 ·simp [h,this.2 h]
 ·simp [h,mt this.1 h]
theorem Zdd{fid fi:FuncId}(hc:Zv P fid (WS fi)=true)(hi:Zv P fi (XD 1 none)=true){t:α->Tr}{f:α->Bool}{fe:FuncId}{cs:List (List Tr)}(l:List α)(hl:l.length<=9223372036854775807)
  (hf:∀ x∈l,∀ lvl S,Sem P fe lvl (.tr (t x)::cs.map IV.ta) S (iB (f x)) S) (lvl:Nat) (S:Zc):Sem P fid lvl [.tr (.sl (l.map fun x=>[t x])),.fn fe (cs.map IV.ta)] S (iB (l.any f)) S :=
 Zhf hc (ZtO hi l hl hf) lvl S
theorem ZtP{k:Nat}{fid fi:FuncId}(hc:Zv P fid (WS fi)=true)(hi:Zv P fi (XD k (some k))=true){c:α->List Tr}(hk:∀ x,(c x).length=k){f:α->Bool}{fe:FuncId}{cs:List (List Tr)}(l:List α)(hl:l.length<=9223372036854775807)
  (hf:∀ x∈l,∀ lvl S,Sem P fe lvl (.ag ((c x).map .tr)::cs.map IV.ta) S (iB (f x)) S) (lvl:Nat) (S:Zc):Sem P fid lvl [.tr (.sl (l.map c)),.fn fe (cs.map IV.ta)] S (iB (l.any f)) S :=
 Zhf hc (Zhe hi hk l hl hf) lvl S
end
end Go.Fd

namespace Go.Fd
open Go.Proofs.Tryz renaming prog->UbY
set_option maxRecDepth 20000
noncomputable def dc(p:Prop):Bool:=@decide p (Classical.propDecidable p)
theorem dc_iff{p:Prop}:dc p=true↔p:=by unfold dc;simp
theorem Yg{p:Prop}(h:p):dc p=true:=dc_iff.2 h
theorem ZT{p:Prop}(h:¬ p):dc p=false:=by
 cases hh:dc p with
 | false=>rfl
 | true=>exact absurd (dc_iff.1 hh) h
theorem dc_not{p:Prop}:dc p=false ↔ ¬ p:=⟨fun h hp=>(by rw[Yg hp] at h;cases h),ZT⟩
theorem Zde{p q:Prop}(h:p↔q):dc p=dc q:=by rw[propext h]
theorem ZtQ{p:Prop}[Decidable p]:dc p=decide p:=by
 by_cases h:p
 ·rw[Yg h];simp [h]
 ·rw[ZT h];simp [h]
abbrev g0(l:List Int)(i:Nat):Int:=l.getD i 0
abbrev A3:=Int×Int×Int
abbrev g3(l:List A3)(i:Nat):A3:=l.getD i (0,0,0)
theorem YP{l:List Int}{i:Nat}(h:i<l.length):(rI l)[i]? = some [tv (g0 l i)]:=by simp [h]
def Z4(n a b:Int):Bool:=decide (a<=n)&&decide (n<=b)
theorem inB_iff{n a b:Int}:Z4 n a b=true↔a<=n/\n<=b:=by simp [Z4]
theorem inB_not{n a b:Int}:Z4 n a b=false ↔ ¬ (a<=n/\n<=b):=by
 rw[<-inB_iff];cases Z4 n a b <;> simp
theorem Vf(n a b:Int)(lvl:Nat)(S:Zc):Sem UbY V5 lvl [iI n,iI a,iI b] S (iB (Z4 n a b)) S:=by
 refine ZA Zto trivial ?_
 simp only[ZgN,Zb,seval,Za,men]
 refine Zu (fun h=>?_) (fun h=>?_) <;> simp [Z4,h]
theorem Qx(n a b:Int)(lvl:Nat)(S:Zc):Sem UbY VH lvl [iI n,iI a,iI b] S (iB (Z4 n a b)) S:=by
 refine ZA Ztw trivial ?_
 simp only[ZgV,Zb,seval,Za,men]
 refine Zu (fun h=>?_) (fun h=>?_) <;> simp [Z4,h]
def J4(lo hi:Int)(l:List Int):Prop:=∀ i,i<l.length->lo<=g0 l i/\g0 l i<=hi/\(0<i->g0 l (i-1)<g0 l i)
theorem ZtR(l:List Int)(lo hi:Int)(hl:l.length<=9223372036854775807)(lvl:Nat)(S:Zc):Sem UbY Zc5 lvl [tI l,iI lo,iI hi] S (iB (dc (J4 lo hi l))) S:=by
 refine ZA ZtH trivial ?_
 simp only[Zg7,Zb,seval,Za,men]
 refine J3 (α:=Unit) l.length (fun j _=>⟨lvl,[(0,tI l),(1,iI lo),(2,iI hi),(7,iI j)],[],S⟩) (fun j _=>∀ i,i<j->lo<=g0 l i/\g0 l i<=hi/\(0<i->g0 l (i-1)<g0 l i)) () ⟨by simp only[Zb,seval,Za,men],by (simp only[Zb,seval,Za,men]) <;> rfl⟩ (fun i hi=>by omega) ?_
 intro j _ hj hA
 simp only[Uab,Zb,seval,Za,men]
 refine Zu (fun hlt=>?_) (fun hge=>?_)
 ·have hja:j<l.length:=by omega
  have ga:=YP hja
  simp only[ga,Zb,seval,Za,men]
  refine Zi (Vf (g0 l j) lo hi) ?_
  simp only[Zb,seval,Za,men]
  refine Zu (fun hin=>?_) (fun hin=>?_)
  ·have hin':=inB_iff.1 hin
   have hgo:(0<j->g0 l (j-1)<g0 l j)->∀ i,i<j+1->lo<=g0 l i/\g0 l i<=hi/\(0<i->g0 l (i-1)<g0 l i):=fun hp i hi=>by
    by_cases e:i=j
    ·subst e;exact⟨hin'.1,hin'.2,hp⟩
    ·exact hA i (by omega)
   refine Zu (fun hpos=>?_) (fun hpos=>?_)
   ·have hp:((j:Int)-1).toNat=j-1:=by omega
    have hp0:(0:Int)<=j-1:=by omega
    have gb:=YP (l:=l) (i:=j-1) (by omega)
    simp only[hp,hp0,gb,ga,Zb,seval,Za,men]
    refine⟨by rw[Zl];omega,Zu (fun hge=>?_) (fun hlt2=>?_)⟩
    ·have:¬ J4 lo hi l:=fun hr=>by have:=(hr j hja).2.2 (by omega);omega
     rw[ZT this]
    ·exact⟨by rw[Zl];omega,ZC () hja rfl (hgo fun _=>by omega)⟩
   ·exact⟨by rw[Zl];omega,ZC () hja rfl (hgo fun h=>by omega)⟩
  ·have:¬ J4 lo hi l:=fun hr=>hin (inB_iff.2 ⟨(hr j hja).1,(hr j hja).2.1⟩)
   rw[ZT this]
 ·have:j=l.length:=by omega
  subst this
  rw[Yg (p:=J4 lo hi l) hA]
theorem Zhg(l:List Int)(JS:Int)(hl:l.length<=9223372036854775807)(hb:0<=JS)(hb2:JS<=9223372036854775807)(lvl:Nat)(S:Zc):Sem UbY Zax lvl [tI l,iI JS] S (iB (dc (J4 0 (JS-1) l))) S:=by
 refine ZA ZtA trivial ?_
 simp only[Zg0,Uab,Zb,seval,Za,men]
 refine J3 (α:=Unit) l.length (fun j _=>⟨lvl,[(0,tI l),(1,iI JS),(7,tI l),(8,iI l.length),(9,iI j)],[],S⟩) (fun j _=>∀ i,i<j->0<=g0 l i/\g0 l i<=JS-1/\(0<i->g0 l (i-1)<g0 l i)) () ⟨by simp only[Zb,seval,Za,men],by (simp only[Zb,seval,Za,men]) <;> rfl⟩ (fun i hi=>by omega) ?_
 intro j _ hj hA
 simp only[Uab,Zb,seval,Za,men]
 refine Zu (fun hlt=>?_) (fun hge=>?_)
 ·have hja:j<l.length:=by omega
  have ga:=YP hja
  have hfb:JO .i64 (JS-1):=by rw[Zl];omega
  simp only[ga,hfb,Zb,seval,Za,men]
  refine Zi (Qx (g0 l j) 0 (JS-1)) ?_
  simp only[Zb,seval,Za,men]
  refine Zu (fun hin=>?_) (fun hin=>?_)
  ·have hin':=inB_iff.1 hin
   have hgo:(0<j->g0 l (j-1)<g0 l j)->∀ i,i<j+1->0<=g0 l i/\g0 l i<=JS-1/\(0<i->g0 l (i-1)<g0 l i):=fun hp i hi=>by
    by_cases e:i=j
    ·subst e;exact⟨hin'.1,hin'.2,hp⟩
    ·exact hA i (by omega)
   refine Zu (fun hpos=>?_) (fun hpos=>?_)
   ·have hp:((j:Int)-1).toNat=j-1:=by omega
    have hp0:(0:Int)<=j-1:=by omega
    have gb:=YP (l:=l) (i:=j-1) (by omega)
    simp only[hp,hp0,gb,ga,Zb,seval,Za,men]
    refine⟨by rw[Zl];omega,Zu (fun hge=>?_) (fun hlt2=>?_)⟩
    ·have:¬ J4 0 (JS-1) l:=fun hr=>by have:=(hr j hja).2.2 (by omega);omega
     rw[ZT this]
    ·exact⟨by rw[Zl];omega,ZC () hja rfl (hgo fun _=>by omega)⟩
   ·exact⟨by rw[Zl];omega,ZC () hja rfl (hgo fun h=>by omega)⟩
  ·have:¬ J4 0 (JS-1) l:=fun hr=>hin (inB_iff.2 ⟨(hr j hja).1,(hr j hja).2.1⟩)
   rw[ZT this]
 ·have:j=l.length:=by omega
  subst this
  rw[Yg (p:=J4 0 (JS-1) l) hA]
def Qy:List Int->List Int->Int
 | [],[]=>0
 | [],_::_=>-1
 | _::_,[]=>1
 | x::r,y::s=>if x<y then -1 else if y<x then 1 else Qy r s
def Zdf(x y:Int):Int:=if x<y then -1 else if y<x then 1 else 0
theorem Zhh(x:Int)(lvl:Nat)(S:Zc):Sem UbY ZaA lvl [iI x] S (iB false) S:=by
 refine ZA ZtM trivial ?_
 simp only[Zhc,Zb,seval,Za,men]
theorem ZtS(x y:Int)(lvl:Nat)(S:Zc):Sem UbY Zda lvl [iI x,iI y] S (iI (Zdf x y)) S:=by
 refine ZA ZtL trivial ?_
 simp only[Zhb,Zb,seval,Za,men]
 refine Zi (Zhh x) ?_
 simp only[Zb,seval,Za,men]
 refine Zi (Zhh y) ?_
 simp only[Zb,seval,Za,men]
 unfold Zdf
 refine Zu (fun h=>?_) (fun h=>?_)
 ·rw[if_pos h]
 ·rw[if_neg h]
  refine Zu (fun h2=>?_) (fun h2=>?_)
  ·rw[if_pos h2]
  ·rw[if_neg h2]
theorem ZtT(a b:List Int)(ha:a.length<=9223372036854775807)(hb:b.length<=9223372036854775807)(lvl:Nat)(S:Zc):Sem UbY Zc9 lvl [tI a,tI b] S (iI (Qy a b)) S:=by
 refine ZA ZtK trivial ?_
 simp only[Zha,Uab,Zb,seval,Za,men]
 refine J3 (α:=Unit) a.length (fun j _=>⟨lvl,[(0,tI a),(1,tI b),(9,tI a),(10,iI a.length),(11,iI j)],[],S⟩) (fun j _=>j<=b.length/\Qy (a.drop j) (b.drop j)=Qy a b) () ⟨by simp only[Zb,seval,Za,men],by (simp only[Zb,seval,Za,men]) <;> rfl⟩ ⟨Ubd _,rfl⟩ ?_
 intro j _ hj ⟨hjb,hA⟩
 simp only[Uab,Zb,seval,Za,men]
 refine Zu (fun hlt=>?_) (fun hge=>?_)
 ·have hja:j<a.length:=by omega
  have ga:=YP hja
  have e1:a.drop j=g0 a j::a.drop (j+1):=by rw[Ua3 hja];simp [hja]
  rw[e1] at hA
  simp only[ga,Uab,Zb,seval,Za,men]
  refine Zu (fun hbe=>?_) (fun hbl=>?_)
  ·have:b.drop j=[]:=List.drop_eq_nil_of_le (by omega)
   rw[this] at hA
   simp only[Qy] at hA
   rw[<-hA]
  ·have hjb2:j<b.length:=by omega
   have gb:=YP hjb2
   have e2:b.drop j=g0 b j::b.drop (j+1):=by rw[Ua3 hjb2];simp [hjb2]
   rw[e2] at hA
   simp only[Qy] at hA
   simp only[gb,Zb,seval,Za,men]
   refine Zi (ZtS (g0 a j) (g0 b j)) ?_
   simp only[Zb,seval,Za,men]
   unfold Zdf
   by_cases h1:g0 a j<g0 b j
   ·rw[if_pos h1] at hA
    rw[if_pos h1,if_pos (by decide),<-hA]
   ·rw[if_neg h1] at hA
    rw[if_neg h1]
    by_cases h2:g0 b j<g0 a j
    ·rw[if_pos h2] at hA
     rw[if_pos h2,if_pos (by decide),<-hA]
    ·rw[if_neg h2] at hA
     rw[if_neg h2,if_neg (by decide)]
     exact⟨by rw[Zl];omega,ZC () hja rfl ⟨by omega,hA⟩⟩
 ·have:j=a.length:=by omega
  subst this
  rw[Ubr] at hA
  refine Zu (fun h1=>?_) (fun h1=>?_)
  ·have hb1:a.length<b.length:=by omega
   have e2:b.drop a.length=g0 b a.length::b.drop (a.length+1):=by rw[Ua3 hb1];simp [hb1]
   rw[e2] at hA
   simp only[Qy] at hA
   rw[<-hA]
  ·have:b.drop a.length=[]:=List.drop_eq_nil_of_le (by omega)
   rw[this] at hA
   simp only[Qy] at hA
   rw[<-hA]
end Go.Fd

namespace Go.Proofs
open Go.Shelf
def Tryz.lays160_ren:Go.Shelf.Ren:=⟨fun | 160=>78 | 232=>94 | 231=>93 | 227=>95 | 234=>97 | 233=>96 | 236=>99 | 235=>98 | 228=>114 | 271=>116 | 151=>115 | 197=>91 | 120=>127 | 152=>126 | 260=>113 | 137=>135 | 119=>136 | 224=>102 | 225=>101 | 217=>100 | 266=>117 | n=>n,fun | 9=>9 | 4=>4 | 3=>3 | 5=>5 | 117=>113 | 116=>112 | 0=>0 | 124=>116 | 21=>21 | 105=>107 | 46=>118 | 119=>144 | 139=>147 | 138=>146 | n=>n,fun | 3=>3 | 4=>4 | n=>n⟩
theorem Tryz.lays160:Go.Proofs.Lays.n160 Tryz.prog Tryz.lays160_ren:={
  mixed:=by kernel_rfl,
  f119:=Tryz.func136.trans (congrArg some (by kernel_rfl)),
  f120:=Tryz.func127.trans (congrArg some (by kernel_rfl)),
  f137:=Tryz.func135.trans (congrArg some (by kernel_rfl)),
  f151:=Tryz.func115.trans (congrArg some (by kernel_rfl)),
  f152:=Tryz.func126.trans (congrArg some (by kernel_rfl)),
  f160:=Tryz.func78.trans (congrArg some (by kernel_rfl)),
  f197:=Tryz.func91.trans (congrArg some (by kernel_rfl)),
  f217:=Tryz.func100.trans (congrArg some (by kernel_rfl)),
  f224:=Tryz.func102.trans (congrArg some (by kernel_rfl)),
  f225:=Tryz.func101.trans (congrArg some (by kernel_rfl)),
  f227:=Tryz.func95.trans (congrArg some (by kernel_rfl)),
  f228:=Tryz.func114.trans (congrArg some (by kernel_rfl)),
  f231:=Tryz.func93.trans (congrArg some (by kernel_rfl)),
  f232:=Tryz.func94.trans (congrArg some (by kernel_rfl)),
  f233:=Tryz.func96.trans (congrArg some (by kernel_rfl)),
  f234:=Tryz.func97.trans (congrArg some (by kernel_rfl)),
  f235:=Tryz.func98.trans (congrArg some (by kernel_rfl)),
  f236:=Tryz.func99.trans (congrArg some (by kernel_rfl)),
  f260:=Tryz.func113.trans (congrArg some (by kernel_rfl)),
  f266:=Tryz.func117.trans (congrArg some (by kernel_rfl)),
  f271:=Tryz.func116.trans (congrArg some (by kernel_rfl)),
  t0:=Tryz.underlying0,
  a0:=Tryz.isAgg0,
  z0:=Tryz.sizeOf0,
  v0:=Tryz.zeroValue0,
  t3:=Tryz.underlying3,
  a3:=Tryz.isAgg3,
  z3:=Tryz.sizeOf3,
  v3:=Tryz.zeroValue3,
  t4:=Tryz.underlying4,
  a4:=Tryz.isAgg4,
  z4:=Tryz.sizeOf4,
  v4:=Tryz.zeroValue4,
  t5:=Tryz.underlying5,
  a5:=Tryz.isAgg5,
  z5:=Tryz.sizeOf5,
  v5:=Tryz.zeroValue5,
  t9:=Tryz.underlying9,
  a9:=Tryz.isAgg9,
  z9:=Tryz.sizeOf9,
  v9:=Tryz.zeroValue9,
  t21:=Tryz.underlying21,
  a21:=Tryz.isAgg21,
  z21:=Tryz.sizeOf21,
  v21:=Tryz.zeroValue21,
  t46:=Tryz.underlying118,
  a46:=Tryz.isAgg118,
  z46:=Tryz.sizeOf118,
  v46:=Tryz.zeroValue118,
  t105:=Tryz.underlying107,
  a105:=Tryz.isAgg107,
  z105:=Tryz.sizeOf107,
  v105:=Tryz.zeroValue107,
  t116:=Tryz.underlying112,
  a116:=Tryz.isAgg112,
  z116:=Tryz.sizeOf112,
  t117:=Tryz.underlying113,
  a117:=Tryz.isAgg113,
  z117:=Tryz.sizeOf113,
  v117:=Tryz.zeroValue113,
  t119:=Tryz.underlying144,
  a119:=Tryz.isAgg144,
  z119:=Tryz.sizeOf144,
  t124:=Tryz.underlying116,
  a124:=Tryz.isAgg116,
  z124:=Tryz.sizeOf116,
  v124:=Tryz.zeroValue116,
  t138:=Tryz.underlying146,
  a138:=Tryz.isAgg146,
  z138:=Tryz.sizeOf146,
  v138:=Tryz.zeroValue146,
  t139:=Tryz.underlying147,
  a139:=Tryz.isAgg147,
  z139:=Tryz.sizeOf147,
  v139:=Tryz.zeroValue147,
  g3:=by kernel_rfl,
  g4:=by kernel_rfl }
end Go.Proofs

namespace Go.Fd
open Go.Proofs.Tryz renaming prog->UbY
set_option maxRecDepth 20000
def Zhi(P:Program)(f:FuncId):Bool:=match P.funcs[f]? with | some fn=>fn.body.isSome && !(fn.name == "runtime.NumGoroutine") | none=>false
theorem XF{P:Program}{f:FuncId}(h:Zhi P f=true):Uh P f:=by
 unfold Zhi at h
 split at h
 ·rename_i fn hf
  simp only[Uad,Uaw] at h
  exact⟨fn,hf,h.1,h.2⟩
 ·cases h
abbrev AZ:ByteArray:=⟨#[97,98,99,100,101,102,103,104,105,106,107,108,109,110,111,112,113,114,115,116,117,118,119,120,121,122]⟩
theorem ZtU(s:ByteArray)(hs:s.size<=9223372036854775807)(lvl:Nat)(S:Zc):Sem UbY Zgs lvl [iS s,iS AZ] S (iS ⟨(Lib.trimS s.data.toList AZ.data.toList).toArray⟩) S :=
 Zga (xs:=[.string s,.string AZ]) (XF (by kernel_rfl)) rfl (fun w=>Go.Proofs.Any.strings_Trim_laid Proofs.Tryz.lays160 (by kernel_rfl) s AZ w hs (by decide) (Go.Proofs.ascii_of_all (by decide)))
def Qz(s:ByteArray):Prop:=(∀ b∈s.data.toList,97<=b.toNat/\b.toNat<=122)/\1<=s.size/\s.size<=4
theorem Zdg(s:ByteArray):s.size=s.data.toList.length:=by rw[Array.length_toList];rfl
theorem Zhj(b:UInt8):b∈AZ.data.toList↔97<=b.toNat/\b.toNat<=122:=by
 have:∀ n:Fin 256,(UInt8.ofNat n.val)∈AZ.data.toList↔97<=n.val/\n.val<=122:=by decide +kernel
 have h:UInt8.ofNat b.toNat∈AZ.data.toList↔97<=b.toNat/\b.toNat<=122:=this ⟨b.toNat,b.toNat_lt⟩
 rw[show UInt8.ofNat b.toNat=b from UInt8.ofNat_toNat] at h
 exact h
theorem Zdh{p:UInt8->Bool}:∀{l:List UInt8},l.dropWhile p=[]↔∀ b∈l,p b=true
 | []=>by simp
 | x::r=>by
  simp only[List.dropWhile_cons,UaF,forall_eq_or_imp]
  cases h:p x with
  | true=>simp [Zdh (l:=r)]
  | false=>simp
theorem Zhk{p:UInt8->Bool}{b:UInt8}:∀{l:List UInt8},b∈l.takeWhile p->p b=true
 | [],h=>by simp at h
 | x::r,h=>by
  rw[List.takeWhile_cons] at h
  split at h
  ·rename_i hx
   rcases UaF.1 h with rfl | h
   ·exact hx
   ·exact Zhk h
  ·cases h
theorem ZtV{l cs:List UInt8}(h:∀ b∈l,b∈cs):l.dropWhile (cs.contains ·)=[]:=by
 rw[Zdh]
 intro b hb
 simpa using h b hb
theorem trimS_nil{l cs:List UInt8}:Lib.trimS l cs=[]↔∀ b∈l,b∈cs:=by
 unfold Lib.trimS Lib.trimLeftS Lib.trimRightS
 constructor
 ·intro h b hb
  rw[Zdh] at h
  have hrev:∀ x∈(l.reverse.dropWhile (cs.contains ·)),x∈cs:=fun x hx=>by
   have:=h x (by simpa using hx)
   simpa using this
  have hsplit:l.reverse=l.reverse.takeWhile (cs.contains ·)++l.reverse.dropWhile (cs.contains ·):=(List.takeWhile_append_dropWhile).symm
  have hb2:b∈l.reverse:=by simpa using hb
  rw[hsplit] at hb2
  rcases Uav.1 hb2 with h1 | h1
  ·have:=Zhk h1
   simpa using this
  ·exact hrev b h1
 ·intro h
  rw[ZtV (l:=l.reverse) (fun b hb=>h b (by simpa using hb))]
  rfl
theorem ZtW(s:ByteArray)(hs:s.size<=9223372036854775807)(lvl:Nat)(S:Zc):Sem UbY ZcO lvl [iS s] S (iB (dc (Qz s))) S:=by
 refine ZA Ztn trivial ?_
 simp only[ZgM,Zb,seval,Za,men]
 refine Z7 (α:=Unit) s.size (fun j _=>[(3,iI j)]) (fun _ _=>[]) (fun j _=>∀ b∈s.data.toList.take j,97<=b.toNat/\b.toNat<=122) () (by simp only[Zb,seval,Za,men]) (by (simp only[Zb,seval,Za,men]) <;> rfl) (fun b hb=>by simp at hb) ?_
 intro j _ hj hA
 simp only[Zb,seval,Za,men]
 refine Zu (fun hlt=>?_) (fun hge=>?_)
 ·have hja:j<s.data.toList.length:=by rw[<-Zdg];omega
  have ga:s.data.toList[j]? = some (s.data.toList[j]):=Uaf hja
  have hno:¬ (97<=(s.data.toList[j]).toNat/\(s.data.toList[j]).toNat<=122) -> ¬ Qz s:=fun h hn=>h (hn.1 _ (Ual hja))
  by_cases h1:((s.data.toList[j]).toNat:Int)<97
  ·simp only[ga,h1,Zb,seval,Za,men]
   rw[ZT (hno (by omega))]
  by_cases h2:(122:Int)<(s.data.toList[j]).toNat
  ·simp only[ga,h1,h2,Zb,seval,Za,men]
   rw[ZT (hno (by omega))]
  ·simp only[ga,h1,h2,Zb,seval,Za,men]
   refine⟨by rw[Zl];omega,ZC () (by omega) rfl ?_⟩
   intro b hb
   rw[Uah hja] at hb
   rcases Uav.1 hb with h | h
   ·exact hA b h
   ·have:b=s.data.toList[j]:=by simpa using h
    subst this
    omega
 ·have:j=s.size:=by omega
  subst this
  rw[Zdg,UaC] at hA
  refine Zi (Vf s.size 1 4) ?_
  simp only[Zb,seval,Za,men]
  rw[Zde (q:=1<=s.size/\s.size<=4) ⟨fun h=>h.2,fun h=>⟨hA,h⟩⟩]
  by_cases h:1<=s.size/\s.size<=4
  ·rw[Yg h,inB_iff.2 (by omega)]
  ·rw[ZT h,inB_not.2 (by omega)]
theorem ZtX(s:ByteArray)(hs:s.size<=9223372036854775807)(lvl:Nat)(S:Zc):Sem UbY ZcU lvl [iS s] S (iB (dc (Qz s))) S:=by
 refine ZA Ztx trivial ?_
 simp only[ZgW,Zb,seval,Za,men]
 refine Zi (Qx s.size 1 4) ?_
 simp only[Zb,seval,Za,men]
 cases hin:Z4 (s.size:Int) 1 4 with
 | false =>
  have:¬ Qz s:=fun h=>(inB_not.1 hin) (by have:=h.2;omega)
  rw[ZT this]
  simp only[Zb,seval,Za,men]
 | true =>
  have hin':=inB_iff.1 hin
  simp only[Zb,seval,Za,men]
  refine Zi (ZtU s hs) ?_
  simp only[Zb,seval,Za,men]
  by_cases h:Qz s
  ·have:Lib.trimS s.data.toList AZ.data.toList=[]:=trimS_nil.2 (fun b hb=>(Zhj b).2 (h.1 b hb))
   rw[Yg h,this]
   rfl
  ·have:¬ Lib.trimS s.data.toList AZ.data.toList=[]:=fun e=>h ⟨fun b hb=>(Zhj b).1 (trimS_nil.1 e b hb),by omega,by omega⟩
   rw[ZT h]
   have h2:¬ (⟨(Lib.trimS s.data.toList AZ.data.toList).toArray⟩:ByteArray)=⟨#[]⟩:=fun e=>this (by
    have:=congrArg (fun b:ByteArray=>b.data.toList) e
    simpa using this)
   simp [h2]
def Zdi(c:TControl):Prop:=Qz c.name/\(0<=c.ports/\c.ports<=3)/\0<=c.kind_/\c.kind_<=2
def UV(sig:List TControl)(i:Nat):Prop:=∀ h:i<sig.length,Zdi sig[i]/\∀ k (hk:k<i),(sig[k]'(by omega)).name≠sig[i].name
def JC(sig:List TControl):Prop:=(∀ i,UV sig i)/\1<=sig.length/\sig.length<=6
theorem ZtY(c d:TControl)(lvl:Nat)(S:Zc):Sem UbY Zaw lvl [.ag ((Zp d).map .tr),.ta (Zp c)] S (iB (decide (d.name=c.name))) S:=by
 refine ZA Zty trivial ?_
 simp only[ZgX,Zp,Zb,seval,Za,men]
theorem Zhl:Zv UbY Zc6 (XD 3 (some 3))=true:=by kernel_rfl
theorem ZtZ:Zv UbY Zgr (WS Zc6)=true:=by kernel_rfl
theorem Zhm(sig:List TControl)(hl:sig.length<=9223372036854775807)(hb:∀ y∈sig,JU 9223372036854775807 y)(lvl:Nat)(S:Zc):Sem UbY Zam lvl [.tr (.sl (sig.map Zp))] S (iB (dc (JC sig))) S:=by
 refine ZA Zs8 trivial ?_
 simp only[Zgx,Uab,Zb,seval,Za,men]
 refine Z7 (α:=Unit) sig.length (fun j _=>[(3,iI j)]) (fun _ _=>[]) (fun j _=>∀ i,i<j->UV sig i) () (by simp only[Zb,seval,Za,men]) (by (simp only[Zb,seval,Za,men]) <;> rfl) (fun i hi=>by omega) ?_
 intro j _ hj hA
 simp only[Uab,Zb,seval,Za,men]
 refine Zu (fun hlt=>?_) (fun hge=>?_)
 ·have hja:j<sig.length:=by omega
  have ga:=Jn (c:=Zp) hja
  have hbj:sig[j].name.size<=9223372036854775807:=hb _ (Ual hja)
  have hno:¬ Zdi sig[j] -> ¬ JC sig:=fun h hs=>h (hs.1 j hja).1
  simp only[ga,Zp,Zb,seval,Za,men]
  refine Zi (ZtW sig[j].name hbj) ?_
  simp only[ga,Zp,Zb,seval,Za,men]
  cases hn:dc (Qz sig[j].name) with
  | false =>
   simp only[Zb,seval,Za,men]
   rw[ZT (hno fun h=>dc_not.1 hn h.1)]
  | true =>
   have hn':=dc_iff.1 hn
   simp only[ga,Zp,Zb,seval,Za,men]
   refine Zi (Vf sig[j].ports 0 3) ?_
   simp only[ga,Zp,Zb,seval,Za,men]
   cases hp:Z4 sig[j].ports 0 3 with
   | false =>
    simp only[Zb,seval,Za,men]
    rw[ZT (hno fun h=>inB_not.1 hp h.2.1)]
   | true =>
    have hp':=inB_iff.1 hp
    simp only[ga,Zp,Zb,seval,Za,men]
    refine Zi (Vf sig[j].kind_ 0 2) ?_
    simp only[ga,Zp,Zb,seval,Za,men]
    cases hk:Z4 sig[j].kind_ 0 2 with
    | false =>
     simp only[Zb,seval,Za,men]
     rw[ZT (hno fun h=>inB_not.1 hk h.2.2)]
    | true =>
     have hk':=inB_iff.1 hk
     simp only[Zb,seval,Za,men]
     refine Z7 (α:=Unit) j (fun k _=>[(4,iI k)]) (fun _ _=>[]) (fun k _=>∀ i (hi:i<k),k<=j->∀ hi2:i<sig.length,(sig[i]'hi2).name≠sig[j].name) () (by simp only[Zb,seval,Za,men]) (by (simp only[Zb,seval,Za,men]) <;> rfl) (fun i hi=>by omega) ?_
     intro k _ hkj hB
     simp only[Uab,Zb,seval,Za,men]
     refine Zu (fun hlt2=>?_) (fun hge2=>?_)
     ·have hka:k<sig.length:=by omega
      have gb:=Jn (c:=Zp) hka
      simp only[ga,gb,Zp,Zb,seval,Za,men]
      refine Zu (fun he=>?_) (fun hne=>?_)
      ·rw[ZT (fun hs:JC sig=>(hs.1 j hja).2 k (by omega) he)]
      ·refine⟨by rw[Zl];omega,ZC () (by omega) rfl (fun i hi _ hi2=>?_)⟩
       by_cases e:i=k
       ·subst e;exact hne
       ·exact hB i (by omega) (by omega) hi2
     ·have:k=j:=by omega
      subst this
      refine⟨by rw[Zl];omega,ZC () hja rfl (fun i hi=>?_)⟩
      by_cases e:i=k
      ·subst e
       exact fun h=>⟨⟨hn',hp',hk'⟩,fun q hq=>hB q hq (Uag _) (by omega)⟩
      ·exact hA i (by omega)
 ·have:j=sig.length:=by omega
  subst this
  refine Zi (Vf sig.length 1 6) ?_
  simp only[Zb,seval,Za,men]
  have hall:∀ i,UV sig i:=fun i h=>hA i h h
  rw[Zde (q:=1<=sig.length/\sig.length<=6) ⟨fun h=>h.2,fun h=>⟨hall,h⟩⟩]
  by_cases h:1<=sig.length/\sig.length<=6
  ·rw[Yg h,inB_iff.2 (by omega)]
  ·rw[ZT h,inB_not.2 (by omega)]
theorem Zhn(sig:List TControl)(hl:sig.length<=9223372036854775807)(hb:∀ y∈sig,JU 9223372036854775807 y)(lvl:Nat)(S:Zc):Sem UbY Zap lvl [.tr (.sl (sig.map Zp))] S (iB (dc (JC sig))) S:=by
 refine ZA Ztg trivial ?_
 simp only[ZgF,Uab,Zb,seval,Za,men]
 refine Zi (Qx sig.length 1 6) ?_
 simp only[Uab,Zb,seval,Za,men]
 refine Zu (fun h=>?_) (fun h=>?_)
 ·rw[ZT (fun hs:JC sig=>(inB_not.1 h) (by have:=hs.2;omega))]
 have hln:=inB_iff.1 (by simpa using h)
 refine Z7 (α:=Unit) sig.length (fun j _=>[(11,iI j)]) (fun _ _=>[]) (fun j _=>∀ i,i<j->UV sig i) () (by simp only[Zb,seval,Za,men]) (by (simp only[Zb,seval,Za,men]) <;> rfl) (fun i hi=>by omega) ?_
 intro j _ hj hA
 simp only[Uab,Zb,seval,Za,men]
 refine Zu (fun hlt=>?_) (fun hge=>?_)
 ·have hja:j<sig.length:=by omega
  have ga:=Jn (c:=Zp) hja
  have hbj:sig[j].name.size<=9223372036854775807:=hb _ (Ual hja)
  have hno:¬ Zdi sig[j] -> ¬ JC sig:=fun h hs=>h (hs.1 j hja).1
  simp only[ga,Zp,Zb,seval,Za,men]
  refine Zi (ZtX sig[j].name hbj) ?_
  simp only[ga,Zp,Zb,seval,Za,men]
  cases hn:dc (Qz sig[j].name) with
  | false =>
   simp only[Zb,seval,Za,men]
   rw[ZT (hno fun h=>dc_not.1 hn h.1)]
  | true =>
   have hn':=dc_iff.1 hn
   simp only[ga,Zp,Zb,seval,Za,men]
   refine Zi (Qx sig[j].ports 0 3) ?_
   simp only[ga,Zp,Zb,seval,Za,men]
   cases hp:Z4 sig[j].ports 0 3 with
   | false =>
    simp only[Zb,seval,Za,men]
    rw[ZT (hno fun h=>inB_not.1 hp h.2.1)]
   | true =>
    have hp':=inB_iff.1 hp
    simp only[ga,Zp,Zb,seval,Za,men]
    refine Zi (Qx sig[j].kind_ 0 2) ?_
    simp only[ga,Zp,Zb,seval,Za,men]
    cases hk:Z4 sig[j].kind_ 0 2 with
    | false =>
     simp only[Zb,seval,Za,men]
     rw[ZT (hno fun h=>inB_not.1 hk h.2.2)]
    | true =>
     have hk':=inB_iff.1 hk
     have hjl:j<=sig.length:=by omega
     simp only[Uab,hjl,Zb,seval,Za,men]
     have hc:=ZtP (P:=UbY) ZtZ Zhl Zct (f:=fun d:TControl=>decide (d.name=sig[j].name)) (fe:=Zaw) (cs:=[Zp sig[j]]) (sig.take j) (by rw[Uak];omega) (fun d _ lvl S=>ZtY sig[j] d lvl S)
     rw[<-ZtN] at hc
     refine⟨fun h=>h.elim,Ubd _,Zi hc ?_⟩
     simp only[Zb,seval,Za,men]
     cases ha:(sig.take j).any (fun d:TControl=>decide (d.name=sig[j].name)) with
     | true =>
      simp only[Zb,seval,Za,men]
      obtain⟨d,hd,he⟩:=List.any_eq_true.1 ha
      obtain⟨q,hq,rfl⟩:=UaR hd
      rw[Uak] at hq
      rw[ZT (fun hs:JC sig=>(hs.1 j hja).2 q (by omega) (by simpa using he))]
     | false =>
      simp only[Zb,seval,Za,men]
      refine⟨by rw[Zl];omega,ZC () hja rfl (fun i hi=>?_)⟩
      by_cases e:i=j
      ·subst e
       refine fun h=>⟨⟨hn',hp',hk'⟩,fun q hq=>?_⟩
       have:=(List.any_eq_false.1 ha) sig[q] (by
        rw[List.mem_take_iff_getElem]
        exact⟨q,by omega,rfl⟩)
       simpa using this
      ·exact hA i (by omega)
 ·have:j=sig.length:=by omega
  subst this
  have hall:∀ i,UV sig i:=fun i h=>hA i h h
  rw[Yg (p:=JC sig) ⟨hall,by omega,by omega⟩]
theorem WU(a b:List Int):rI (a++b)=rI a++rI b:=Uaz
theorem Zdj:Zv UbY Zgt (XD 1 none)=true:=by kernel_rfl
theorem Zdk:Zv UbY ZcX (WS Zgt)=true:=by kernel_rfl
def Zm(s:Int->Int)(P:Prop):Prop:=∀ l:Int,0<=l->l<=1048576->s l<=l/\(0<=s l->P)
theorem Zt0:Zm (fun l=>l) True:=fun _ _ _=>⟨Ubv _,fun _=>trivial⟩
theorem Zt1{s g:Int->Int}{P Q:Prop}(hs:Zm s P)(hg:Zm g Q):Zm (fun l=>V4 (s l) g) (P/\Q):=fun l h0 h1=>by
 have a:=hs l h0 h1
 by_cases h:s l<0
 ·simp only[V4,if_pos h]
  exact⟨by omega,fun h=>by omega⟩
 ·simp only[V4,if_neg h]
  have b:=hg (s l) (by omega) (by omega)
  exact⟨by omega,fun h2=>⟨a.2 (by omega),b.2 h2⟩⟩
theorem Zt2(n:Nat):Zm (fun l=>l-n) (n<=4294967296):=fun l h0 h1=>⟨by simp only;omega,fun h=>by simp only at h;omega⟩
theorem Zho{α:Type}{f:α->Int->Int}{P:α->Prop}(hf:∀ x,Zm (f x) (P x)):∀(a:List α),Zm (fun l=>Vc f a l) (∀ y∈a,P y)
 | []=>fun l _ _=>⟨Ubv l,fun _ y hy=>by cases hy⟩
 | x::r=>fun l h0 h1=>by
  simp only[Vc]
  have a:=hf x l h0 h1
  split
  ·exact⟨by omega,fun h=>by omega⟩
  ·have b:=Zho hf r (f x l) (by omega) (by omega)
   refine⟨by simp only at b;omega,fun h y hy=>?_⟩
   cases hy with
   | head=>exact a.2 (by omega)
   | tail _ hy=>exact b.2 h y hy
theorem Zt3{α:Type}{f:α->Int->Int}{P:α->Prop}(hf:∀ x,Zm (f x) (P x))(a:List α):Zm (fun l=>Qu f a l) (a.length<=4294967296/\∀ y∈a,P y):=fun l h0 h1=>by
 simp only[Qu]
 split
 ·exact⟨by omega,fun h=>by omega⟩
 ·have b:=Zho hf a (l-a.length) (by omega) (by omega)
  simp only at b
  exact⟨by omega,fun h=>⟨by omega,b.2 h⟩⟩
theorem Zt4{s:Int->Int}{P Q:Prop}(h:Zm s P)(hq:P->Q):Zm s Q:=fun l h0 h1=>⟨(h l h0 h1).1,fun h2=>hq ((h l h0 h1).2 h2)⟩
theorem Zt5(x:TControl):Zm (fun l=>VG x l) (JU 4294967296 x):=by
 unfold VG
 exact Zt4 (Zt1 (Zt2 _) Zt0) (fun h=>by unfold JU;simp only[and_assoc,and_true,true_and,implies_true,forall_const] at h ⊢;try exact h)
theorem XG{a:Nat}(h:a<=4294967296):a<=9223372036854775807:=by omega
theorem Zhp{x:TControl}(h:JU 4294967296 x):JU 9223372036854775807 x:=by
 exact(XG h)
theorem Zdl{x:TSorting}(h:YC 4294967296 x):YC 9223372036854775807 x:=by
 obtain⟨b0,b1,b2,b3,b4,b5,b6⟩:=h
 exact⟨(XG b0),(XG b1),(fun y0 hy0=>(XG (b2 y0 hy0))),(XG b3),(fun y0 hy0=>(XG (b4 y0 hy0))),(XG b5),(XG b6)⟩
theorem V7{P:Nat->Prop}{j:Nat}(h:∀ k,k<j->P k)(hj:P j):∀ k,k<j+1->P k:=fun k hk=>by
 by_cases e:k=j
 ·subst e;exact hj
 ·exact h k (by omega)
abbrev A2:=Int×Int
abbrev QE:List Int->List Tr:=fun l=>[Tr.sl (rI l)]
def UW(sig:List TControl)(nest:List (List Int))(k:Nat):Prop:=∀(h:k<nest.length) (h2:k<sig.length),J4 0 ((sig.length:Int)-1) nest[k]/\(sig[k].kind_=2->nest[k]=[])
def UX(sig:List TControl)(sorts:List (List Int))(many:Nat)(k:Nat):Prop:=∀(h:k<sorts.length) (h2:k<sig.length),(sorts[k].length:Int)=sig[k].ports/\∀ n∈sorts[k],0<=n/\n<=(many:Int)-1
def Xb(a b:A2):Prop:=a.1<b.1\/a.1=b.1/\a.2<b.2
def XH(l:List A2)(many:Nat)(i:Nat):Prop:=∀ h:i<l.length,0<=l[i].1/\l[i].1<l[i].2/\l[i].2<(many:Int)/\(∀ h0:0<i,Xb (l[i-1]'(by omega)) l[i])
structure sortOK (sig:List TControl) (s:TSorting):Prop where
 sg:JC sig
 tops:J4 0 ((sig.length:Int)-1) s.tops
 nestL:s.nest.length=sig.length
 nest:∀ k,UW sig s.nest k
 sortsL:s.sorts.length=sig.length
 sorts:∀ k,UX sig s.sorts s.most.length k
 many:1<=s.most.length/\s.most.length<=4
 most:∀ n∈s.most,0<=n/\n<=24
 apart:∀ i,XH s.apart s.most.length i
theorem Xc{es:Ze}{n:Nat}(h:es.length=n):cut es 0 n=es:=by
 simp only[cut,Ubi]
 exact Uas (by omega)
theorem Zhq(sig:List TControl)(l:List Int)(hn:sig.length<=4294967296)(hl:l.length<=9223372036854775807)(lvl:Nat)(S:Zc):Sem UbY Zau lvl [.tr (.sl (sig.map Zp)),tI l] S (iB (dc (J4 0 ((sig.length:Int)-1) l))) S:=by
 refine ZA Ztq trivial ?_
 simp only[ZgP,Uab,Zb,seval,Za,men]
 refine⟨by rw[Zl];omega,?_⟩
 refine Zi (ZtR l 0 ((sig.length:Int)-1) hl) ?_
 simp only[Zb,seval,Za,men]
def Wa(sig:List TControl)(nest:List (List Int)):Prop:=nest.length=sig.length/\∀ k,UW sig nest k
theorem Zt6(sig:List TControl)(nest:List (List Int))(hn:sig.length<=4294967296)(hl:nest.length<=4294967296)(hb:∀ y∈nest,y.length<=4294967296)(lvl:Nat)(S:Zc):Sem UbY ZcQ lvl [.tr (.sl (sig.map Zp)),.tr (.sl (nest.map QE))] S (iB (dc (Wa sig nest))) S:=by
 refine ZA Ztr trivial ?_
 simp only[ZgQ,Uab,Zb,seval,Za,men]
 refine Zu (fun hne=>?_) (fun heq=>?_)
 ·have:¬ Wa sig nest:=fun h=>by have:=h.1;omega
  rw[ZT this]
 have hE:nest.length=sig.length:=by omega
 refine Z7 (α:=Unit) nest.length (fun j _=>[(5,iI j)]) (fun j _=>[]) (fun j _=>∀ k,k<j->UW sig nest k) () (by simp only[Zb,seval,Za,men]) (by (simp only[Zb,seval,Za,men]) <;> rfl) (fun k hk=>absurd hk (UaE k)) ?_
 intro j _ hj hA
 simp only[Uab,Zb,seval,Za,men]
 refine Zu (fun hlt=>?_) (fun hge=>?_)
 ·have hja:j<nest.length:=by omega
  have hjs:j<sig.length:=by omega
  have ga:=Jn (c:=QE) hja
  have gs:=Jn (c:=Zp) hjs
  have hy:nest[j].length<=4294967296:=hb _ (Ual hja)
  simp only[ga,gs,Uab,Zp,Zb,seval,Za,men]
  refine Zi (Zhq sig nest[j] hn (by omega)) ?_
  cases hc:dc (J4 0 ((sig.length:Int)-1) nest[j])
  ·simp only[Zb,seval,Za,men]
   have:¬ Wa sig nest:=fun h=>dc_not.1 hc (h.2 j hja hjs).1
   rw[ZT this]
  have hR:=dc_iff.1 hc
  by_cases hk:sig[j].kind_=2
  ·simp only[ga,gs,Uab,Zp,hk,Zb,seval,Za,men]
   refine Zu (fun hpos=>?_) (fun hz=>?_)
   ·have:¬ Wa sig nest:=fun h=>by
     have:=(h.2 j hja hjs).2 hk
     rw[this] at hpos
     simp at hpos
    rw[ZT this]
   ·have hz2:nest[j]=[]:=List.length_eq_zero_iff.1 (by omega)
    exact⟨by rw[Zl];omega,ZC () hja rfl (V7 hA fun _ _=>⟨hR,fun _=>hz2⟩)⟩
  ·simp only[ga,gs,Uab,Zp,hk,Zb,seval,Za,men]
   exact⟨by rw[Zl];omega,ZC () hja rfl (V7 hA fun _ _=>⟨hR,fun h=>absurd h hk⟩)⟩
 ·have:j=nest.length:=by omega
  subst this
  have:Wa sig nest:=⟨hE,fun k h h2=>hA k h h h2⟩
  rw[Yg this]
def Wb(sig:List TControl)(sorts:List (List Int))(many:Nat):Prop:=sorts.length=sig.length/\∀ k,UX sig sorts many k
theorem Zt7(sig:List TControl)(sorts:List (List Int))(many:Nat)(hm:many<=4294967296)(hn:sig.length<=4294967296)(hl:sorts.length<=4294967296)(hb:∀ y∈sorts,y.length<=4294967296)(lvl:Nat)(S:Zc):Sem UbY ZcR lvl [.tr (.sl (sig.map Zp)),.tr (.sl (sorts.map QE)),iI many] S (iB (dc (Wb sig sorts many))) S:=by
 refine ZA Zts trivial ?_
 simp only[ZgR,Uab,Zb,seval,Za,men]
 refine Zu (fun hne=>?_) (fun heq=>?_)
 ·have:¬ Wb sig sorts many:=fun h=>by have:=h.1;omega
  rw[ZT this]
 have hE:sorts.length=sig.length:=by omega
 refine Z7 (α:=Unit) sorts.length (fun j _=>[(7,iI j)]) (fun j _=>[]) (fun j _=>∀ k,k<j->UX sig sorts many k) () (by simp only[Zb,seval,Za,men]) (by (simp only[Zb,seval,Za,men]) <;> rfl) (fun k hk=>absurd hk (UaE k)) ?_
 intro j _ hj hA
 simp only[Uab,Zb,seval,Za,men]
 refine Zu (fun hlt=>?_) (fun hge=>?_)
 ·have hja:j<sorts.length:=by omega
  have hjs:j<sig.length:=by omega
  have ga:=Jn (c:=QE) hja
  have gs:=Jn (c:=Zp) hjs
  have hy:sorts[j].length<=4294967296:=hb _ (Ual hja)
  simp only[ga,gs,Uab,Zp,Zb,seval,Za,men]
  refine Zu (fun hne=>?_) (fun heq=>?_)
  ·have:¬ Wb sig sorts many:=fun h=>hne (h.2 j hja hjs).1
   rw[ZT this]
  have heq2:(sorts[j].length:Int)=sig[j].ports:=by omega
  refine Z7 (α:=Unit) sorts[j].length (fun i _=>[(8,iI i)]) (fun i _=>[]) (fun i _=>∀ k,k<i->0<=g0 sorts[j] k/\g0 sorts[j] k<=(many:Int)-1) () (by simp only[Zb,seval,Za,men]) (by (simp only[Zb,seval,Za,men]) <;> rfl) (fun k hk=>absurd hk (UaE k)) ?_
  intro i _ hi hB
  simp only[ga,gs,Uab,Zp,Zb,seval,Za,men]
  refine Zu (fun hlt2=>?_) (fun hge2=>?_)
  ·have hia:i<sorts[j].length:=by omega
   have gi:=YP hia
   simp only[ga,gs,gi,Uab,Zb,seval,Za,men]
   refine⟨by rw[Zl];omega,?_⟩
   refine Zi (Vf (g0 sorts[j] i) 0 ((many:Int)-1)) ?_
   cases hc:Z4 (g0 sorts[j] i) 0 ((many:Int)-1)
   ·simp only[Zb,seval,Za,men]
    have:¬ Wb sig sorts many:=fun h=>inB_not.1 hc (by
     have:=(h.2 j hja hjs).2 (g0 sorts[j] i) (by simp [hia])
     exact this)
    rw[ZT this]
   ·simp only[Zb,seval,Za,men]
    exact⟨by rw[Zl];omega,ZC () hia rfl (V7 hB (inB_iff.1 hc))⟩
  ·have:i=sorts[j].length:=by omega
   subst this
   exact⟨by rw[Zl];omega,ZC () hja rfl (V7 hA fun _ _=>⟨heq2,fun n hn=>by
    obtain⟨k,hk,rfl⟩:=UaR hn
    have:=hB k hk
    simpa [hk] using this⟩)⟩
 ·have:j=sorts.length:=by omega
  subst this
  have:Wb sig sorts many:=⟨hE,fun k h h2=>hA k h h h2⟩
  rw[Yg this]
theorem Zt8(a b:A2)(lvl:Nat)(S:Zc):Sem UbY ZcS lvl [.ag ((ZE a).map .tr),.ag ((ZE b).map .tr)] S (iB (dc (Xb a b))) S:=by
 refine ZA Ztt trivial ?_
 simp only[ZgS,ZE,Zb,seval,Za,men]
 by_cases h1:a.1<b.1
 ·simp only[h1,Zb,seval,Za,men]
  have:Xb a b:=.inl h1
  rw[Yg this]
 by_cases h2:a.1=b.1
 ·have h3:¬ b.1<b.1:=Int.lt_irrefl _
  simp only[h1,h2,h3,Zb,seval,Za,men]
  have:Xb a b↔a.2<b.2:=⟨fun h=>by rcases h with h | h <;> omega,fun h=>.inr ⟨h2,h⟩⟩
  rw[Zde this,ZtQ]
 ·simp only[h1,h2,Zb,seval,Za,men]
  have:¬ Xb a b:=fun h=>by rcases h with h | h <;> omega
  rw[ZT this]
theorem sortOK_iff{sig:List TControl}{s:TSorting}:sortOK sig s↔JC sig/\J4 0 ((sig.length:Int)-1) s.tops/\Wa sig s.nest/\Wb sig s.sorts s.most.length/\(1<=s.most.length/\s.most.length<=4)/\(∀ n∈s.most,0<=n/\n<=24)/\∀ i,XH s.apart s.most.length i :=
 ⟨fun h=>⟨h.sg,h.tops,⟨h.nestL,h.nest⟩,⟨h.sortsL,h.sorts⟩,h.many,h.most,h.apart⟩,fun⟨a,b,c,d,e,f,g⟩=>⟨a,b,c.1,c.2,d.1,d.2,e,f,g⟩⟩
set_option maxHeartbeats 1000000 in
theorem Zt9(sig:List TControl)(s:TSorting)(hn:sig.length<=4294967296)(hbs:∀ y∈sig,JU 4294967296 y)(hb:YC 4294967296 s)(lvl:Nat)(S:Zc):Sem UbY ZcC lvl [.tr (.sl (sig.map Zp)),.ag ((Zw s).map .tr)] S (iB (dc (sortOK sig s))) S:=by
 obtain⟨b1,b2,b3,b4,b5,b6,b7⟩:=hb
 refine ZA Zte trivial ?_
 simp only[ZgD,Uab,Zw,Zb,seval,Za,men]
 refine Zi (Zhm sig (by omega) (fun y hy=>Zhp (hbs y hy))) ?_
 cases h1:dc (JC sig)
 ·simp only[Zb,seval,Za,men]
  rw[ZT fun h=>dc_not.1 h1 h.sg]
 simp only[Uab,Zw,Zb,seval,Za,men]
 refine Zi (Zhq sig s.tops hn (by omega)) ?_
 cases h2:dc (J4 0 ((sig.length:Int)-1) s.tops)
 ·simp only[Zb,seval,Za,men]
  rw[ZT fun h=>dc_not.1 h2 h.tops]
 simp only[Uab,Zw,Zb,seval,Za,men]
 refine Zi (Zt6 sig s.nest hn b2 b3) ?_
 cases h3:dc (Wa sig s.nest)
 ·simp only[Zb,seval,Za,men]
  rw[ZT fun h=>dc_not.1 h3 ⟨h.nestL,h.nest⟩]
 simp only[Uab,Zw,Zb,seval,Za,men]
 refine Zi (Vf s.most.length 1 4) ?_
 cases h4:Z4 s.most.length 1 4
 ·simp only[Zb,seval,Za,men]
  rw[ZT fun h=>inB_not.1 h4 (by have:=h.many;omega)]
 simp only[Uab,Zw,Zb,seval,Za,men]
 refine Zi (Zt7 sig s.sorts s.most.length b6 hn b4 b5) ?_
 cases h5:dc (Wb sig s.sorts s.most.length)
 ·simp only[Zb,seval,Za,men]
  rw[ZT fun h=>dc_not.1 h5 ⟨h.sortsL,h.sorts⟩]
 simp only[Uab,Zw,Zb,seval,Za,men]
 refine Z7 (α:=Unit) s.most.length (fun j _=>[(5,iI j)]) (fun j _=>[]) (fun j _=>∀ k,k<j->0<=g0 s.most k/\g0 s.most k<=24) () (by simp only[Zb,seval,Za,men]) (by (simp only[Zb,seval,Za,men]) <;> rfl) (fun k hk=>absurd hk (UaE k)) ?_
 intro j _ hj hA
 simp only[Uab,Zw,Zb,seval,Za,men]
 refine Zu (fun hlt=>?_) (fun hge=>?_)
 ·have hja:j<s.most.length:=by omega
  have ga:=YP hja
  simp only[ga,Uab,Zw,Zb,seval,Za,men]
  refine Zi (Vf (g0 s.most j) 0 24) ?_
  cases hc:Z4 (g0 s.most j) 0 24
  ·simp only[Zb,seval,Za,men]
   rw[ZT fun h=>inB_not.1 hc (h.most _ (by simp [hja]))]
  ·simp only[Zb,seval,Za,men]
   exact⟨by rw[Zl];omega,ZC () hja rfl (V7 hA (inB_iff.1 hc))⟩
 have hj0:j=s.most.length:=by omega
 subst hj0
 have hM:∀ n∈s.most,0<=n/\n<=24:=fun n hn=>by
  obtain⟨k,hk,rfl⟩:=UaR hn
  have:=hA k hk
  simpa [hk] using this
 refine Z7 (α:=Unit) s.apart.length (fun j _=>[(6,iI j)]) (fun j _=>[]) (fun j _=>∀ k,k<j->XH s.apart s.most.length k) () (by simp only[Zb,seval,Za,men]) (by (simp only[Zb,seval,Za,men]) <;> rfl) (fun k hk=>absurd hk (UaE k)) ?_
 intro j _ hj hB
 simp only[Uab,Zw,Zb,seval,Za,men]
 refine Zu (fun hlt=>?_) (fun hge=>?_)
 ·have hja:j<s.apart.length:=by omega
  have ga:=Jn (c:=ZE) hja
  have hno:¬ XH s.apart s.most.length j->dc (sortOK sig s)=false:=fun h=>ZT fun g=>h (g.apart j)
  simp only[ga,Uab,Zw,ZE,Zb,seval,Za,men]
  by_cases q1:s.apart[j].1<0
  ·simp only[q1,Zb,seval,Za,men]
   rw[hno fun h=>by have:=(h hja).1;omega]
  by_cases q2:s.apart[j].1 ≥ s.apart[j].2
  ·simp only[q1,q2,Zb,seval,Za,men]
   rw[hno fun h=>by have:=(h hja).2.1;omega]
  by_cases q3:s.apart[j].2 ≥ (s.most.length:Int)
  ·simp only[q1,q2,q3,Uab,Zw,Zb,seval,Za,men]
   rw[hno fun h=>by have:=(h hja).2.2.1;omega]
  by_cases q4:0<j
  ·have e1:((j:Int)-1).toNat=j-1:=by omega
   have e2:(0:Int)<=j-1:=by omega
   have q5:(0:Int)<j:=by omega
   have gb:=Jn (c:=ZE) (l:=s.apart) (j:=j-1) (by omega)
   simp only[q1,q2,q3,q5,e1,e2,ga,gb,Uab,Zw,ZE,Zb,seval,Za,men]
   refine⟨by rw[Zl];omega,?_⟩
   refine Zi (Zt8 (s.apart[j-1]'(by omega)) s.apart[j]) ?_
   cases hc:dc (Xb (s.apart[j-1]'(by omega)) s.apart[j])
   ·simp only[Zb,seval,Za,men]
    rw[hno fun h=>dc_not.1 hc ((h hja).2.2.2 q4)]
   ·simp only[Zb,seval,Za,men]
    exact⟨by rw[Zl];omega,ZC () hja rfl (V7 hB fun _=>⟨by omega,by omega,by omega,fun _=>dc_iff.1 hc⟩)⟩
  ·have q5:¬ (0:Int)<j:=by omega
   simp only[q1,q2,q3,q5,ga,Uab,Zw,ZE,Zb,seval,Za,men]
   exact⟨by rw[Zl];omega,ZC () hja rfl (V7 hB fun _=>⟨by omega,by omega,by omega,fun h=>absurd h q4⟩)⟩
 ·have hj1:j=s.apart.length:=by omega
  subst hj1
  rw[Yg (sortOK_iff.2 ⟨dc_iff.1 h1,dc_iff.1 h2,dc_iff.1 h3,dc_iff.1 h5,by have:=inB_iff.1 h4;omega,hM,fun i h=>hB i h h⟩)]
def UY(a b:A2):Int:=Qy [a.1,a.2] [b.1,b.2]
theorem cmp2_lt{a b:A2}:UY a b<0↔Xb a b:=by
 unfold UY Xb
 simp only[Qy]
 by_cases h1:a.1<b.1
 ·simp [h1]
 ·by_cases h2:b.1<a.1
  ·simp [h1,h2];omega
  ·by_cases h3:a.2<b.2
   ·simp [h1,h2,h3];omega
   ·by_cases h4:b.2<a.2 <;> simp [h1,h2,h3,h4]
theorem Zua(a b:A2)(lvl:Nat)(S:Zc):Sem UbY Zc8 lvl [.ag ((ZE a).map .tr),.ag ((ZE b).map .tr)] S (iI (UY a b)) S:=by
 refine ZA ZtJ trivial ?_
 simp only[Zg9,ZE,Zb,seval,Za,men]
 refine Zi (ZtT [a.1,a.2] [b.1,b.2] (by simp) (by simp)) ?_
 simp only[Zb,seval,Za,men]
 rfl
def ZaE(l:List A2)(many:Nat):Prop:=∀ i,XH l many i
theorem Zub(l:List A2)(many:Nat)(hm:many<=4294967296)(hl:l.length<=4294967296)(lvl:Nat)(S:Zc):Sem UbY ZcZ lvl [.tr (.sl (l.map ZE)),iI many] S (iB (dc (ZaE l many))) S:=by
 refine ZA ZtC trivial ?_
 simp only[Zg2,Uab,Zb,seval,Za,men]
 refine Z7 (α:=Unit) l.length (fun j _=>[(9,iI j)]) (fun j _=>[]) (fun j _=>∀ k,k<j->XH l many k) () (by simp only[Zb,seval,Za,men]) (by (simp only[Zb,seval,Za,men]) <;> rfl) (fun k hk=>absurd hk (UaE k)) ?_
 intro j _ hj hB
 simp only[Uab,Zb,seval,Za,men]
 refine Zu (fun hlt=>?_) (fun hge=>?_)
 ·have hja:j<l.length:=by omega
  have ga:=Jn (c:=ZE) hja
  have hno:¬ XH l many j->dc (ZaE l many)=false:=fun h=>ZT fun g=>h (g j)
  simp only[ga,Uab,ZE,Zb,seval,Za,men]
  refine Zi (Qx l[j].1 0 (IntKind.wrap .i64 (l[j].2-1))) ?_
  cases p1:Z4 l[j].1 0 (IntKind.wrap .i64 (l[j].2-1))
  ·simp only[Zb,seval,Za,men]
   rw[hno fun h=>inB_not.1 p1 (by
    have h2:=h hja
    rw[Vn (by rw[Zl];omega)]
    omega)]
  simp only[ga,Uab,ZE,Zb,seval,Za,men]
  refine⟨by rw[Zl];omega,?_⟩
  refine Zi (Qx l[j].2 0 ((many:Int)-1)) ?_
  cases p2:Z4 l[j].2 0 ((many:Int)-1)
  ·simp only[Zb,seval,Za,men]
   rw[hno fun h=>inB_not.1 p2 (by
    have h2:=h hja
    omega)]
  have r2:=inB_iff.1 p2
  have r1:=inB_iff.1 p1
  rw[Vn (by rw[Zl];omega)] at r1
  by_cases q4:0<j
  ·have e1:((j:Int)-1).toNat=j-1:=by omega
   have e2:(0:Int)<=j-1:=by omega
   have q5:(0:Int)<j:=by omega
   have gb:=Jn (c:=ZE) (l:=l) (j:=j-1) (by omega)
   simp only[q5,e1,e2,ga,gb,Uab,ZE,Zb,seval,Za,men]
   refine⟨by rw[Zl];omega,?_⟩
   refine Zi (Zua (l[j-1]'(by omega)) l[j]) ?_
   by_cases hc:0<=UY (l[j-1]'(by omega)) l[j]
   ·simp only[hc,Zb,seval,Za,men]
    rw[hno fun h=>by
     have:=cmp2_lt.2 ((h hja).2.2.2 q4)
     omega]
   ·have hc2:UY (l[j-1]'(by omega)) l[j]<0:=by omega
    simp only[hc,Zb,seval,Za,men]
    exact⟨by rw[Zl];omega,ZC () hja rfl (V7 hB fun _=>⟨by omega,by omega,by omega,fun _=>cmp2_lt.1 hc2⟩)⟩
  ·have q5:¬ (0:Int)<j:=by omega
   simp only[q5,ga,Uab,ZE,Zb,seval,Za,men]
   exact⟨by rw[Zl];omega,ZC () hja rfl (V7 hB fun _=>⟨by omega,by omega,by omega,fun h=>absurd h q4⟩)⟩
 ·have hj1:j=l.length:=by omega
  subst hj1
  have:ZaE l many:=fun i h=>hB i h h
  rw[Yg this]
theorem Zuc(n:Int)(lvl:Nat)(S:Zc):Sem UbY ZcY lvl [iI n] S (iB (!Z4 n 0 24)) S:=by
 refine ZA ZtB trivial ?_
 simp only[Zg1,Zb,seval,Za,men]
 refine Zi (Qx n 0 24) ?_
 simp only[Zb,seval,Za,men]
theorem Zhr(n:Int)(s:TSorting)(hm:s.most.length<=4294967296)(lvl:Nat)(S:Zc):Sem UbY Zc0 lvl [iI n,.ta (Zw s)] S (iB (!Z4 n 0 ((s.most.length:Int)-1))) S:=by
 refine ZA ZtD trivial ?_
 simp only[Zg3,Zw,Uab,Zb,seval,Za,men]
 refine⟨by rw[Zl];omega,?_⟩
 refine Zi (Qx n 0 ((s.most.length:Int)-1)) ?_
 simp only[Zb,seval,Za,men]
theorem any_out{l:List Int}{a b:Int}:(l.any fun n=>!Z4 n a b)=false↔∀ n∈l,a<=n/\n<=b:=by
 simp only[List.any_eq_false,Uaw,Bool.not_eq_false,inB_iff]
set_option maxHeartbeats 2000000 in
theorem Zud(sig:List TControl)(s:TSorting)(hn:sig.length<=4294967296)(hbs:∀ y∈sig,JU 4294967296 y)(hb:YC 4294967296 s)(lvl:Nat)(S:Zc):Sem UbY ZcH lvl [.tr (.sl (sig.map Zp)),.ag ((Zw s).map .tr)] S (iB (dc (sortOK sig s))) S:=by
 obtain⟨b1,b2,b3,b4,b5,b6,b7⟩:=hb
 refine ZA Ztl trivial ?_
 simp only[ZgK,Uab,Zw,Zb,seval,Za,men]
 refine Zi (Zhn sig (by omega) (fun y hy=>Zhp (hbs y hy))) ?_
 cases h1:dc (JC sig)
 ·simp only[Zb,seval,Za,men]
  rw[ZT fun h=>dc_not.1 h1 h.sg]
 simp only[Uab,Zw,Zb,seval,Za,men]
 refine Zi (Zhg s.tops sig.length (by omega) (by omega) (by omega)) ?_
 cases h2:dc (J4 0 ((sig.length:Int)-1) s.tops)
 ·simp only[Zb,seval,Za,men]
  rw[ZT fun h=>dc_not.1 h2 h.tops]
 by_cases e3:s.nest.length=sig.length
 case neg =>
  have e3':¬ (s.nest.length:Int)=sig.length:=by omega
  simp only[e3',Uab,Zw,Zb,seval,Za,men]
  rw[ZT fun h=>e3 h.nestL]
 by_cases e4:s.sorts.length=sig.length
 case neg =>
  have e4':¬ (s.sorts.length:Int)=sig.length:=by omega
  simp only[e3,e4',Uab,Zw,Zb,seval,Za,men]
  rw[ZT fun h=>e4 h.sortsL]
 simp only[e3,e4,Uab,Zw,Zb,seval,Za,men]
 refine Zi (Qx s.most.length 1 4) ?_
 cases h4:Z4 s.most.length 1 4
 ·simp only[Zb,seval,Za,men]
  rw[ZT fun h=>inB_not.1 h4 (by have:=h.many;omega)]
 simp only[Uab,Zw,Zb,seval,Za,men]
 refine Zi (Zdd (t:=tv) (cs:=[]) Zdk Zdj s.most (by omega) (fun x _ lvl S=>Zuc x lvl S)) ?_
 cases h5:s.most.any fun n=>!Z4 n 0 24
 case true =>
  simp only[Zb,seval,Za,men]
  rw[ZT fun h=>by rw[any_out.2 h.most] at h5;cases h5]
 simp only[Uab,Zw,Zb,seval,Za,men]
 refine Zi (Zub s.apart s.most.length b6 b7) ?_
 cases h6:dc (ZaE s.apart s.most.length)
 ·simp only[Zb,seval,Za,men]
  rw[ZT fun h=>dc_not.1 h6 h.apart]
 simp only[Uab,Zw,Zb,seval,Za,men]
 refine Z7 (α:=Unit) sig.length (fun j _=>[(55,iI j)]) (fun j _=>[]) (fun j _=>∀ k,k<j->UW sig s.nest k/\UX sig s.sorts s.most.length k) () (by simp only[Zb,seval,Za,men]) (by (simp only[Zb,seval,Za,men]) <;> rfl) (fun k hk=>absurd hk (UaE k)) ?_
 intro j _ hj hA
 simp only[Uab,Zw,Zb,seval,Za,men]
 refine Zu (fun hlt=>?_) (fun hge=>?_)
 ·have hja:j<sig.length:=by omega
  have hjn:j<s.nest.length:=by omega
  have hjs:j<s.sorts.length:=by omega
  have ga:=Jn (c:=Zp) hja
  have gn:=Jn (c:=QE) hjn
  have gs:=Jn (c:=QE) hjs
  have y1:s.nest[j].length<=4294967296:=b3 _ (Ual hjn)
  have y2:s.sorts[j].length<=4294967296:=b5 _ (Ual hjs)
  simp only[ga,gn,gs,Uab,Zw,Zp,Zb,seval,Za,men]
  refine Zi (Zhg s.nest[j] sig.length (by omega) (by omega) (by omega)) ?_
  cases p1:dc (J4 0 ((sig.length:Int)-1) s.nest[j])
  ·simp only[Zb,seval,Za,men]
   rw[ZT fun h=>dc_not.1 p1 (h.nest j hjn hja).1]
  by_cases p2:sig[j].kind_=2/\(0:Int)<s.nest[j].length
  ·simp only[p2.1,p2.2,ga,gn,gs,Uab,Zw,Zp,Zb,seval,Za,men]
   rw[ZT fun h=>by
    have h1:=(h.nest j hjn hja).2 p2.1
    have h2:=p2.2
    rw[h1] at h2
    simp at h2]
  have hN:UW sig s.nest j:=fun _ _=>⟨dc_iff.1 p1,fun h=>List.length_eq_zero_iff.1 (by
   have:¬ (0:Int)<s.nest[j].length:=fun h2=>p2 ⟨h,h2⟩
   omega)⟩
  have go:∀ K:Prop,((¬ (s.sorts[j].length:Int)=sig[j].ports->dc (sortOK sig s)=false)->(∀ e:(s.sorts[j].length:Int)=sig[j].ports,(s.sorts[j].any (fun n=>!Z4 n 0 ((s.most.length:Int)-1)))=true->dc (sortOK sig s)=false)->(∀ e:(s.sorts[j].length:Int)=sig[j].ports,(s.sorts[j].any (fun n=>!Z4 n 0 ((s.most.length:Int)-1)))=false->UX sig s.sorts s.most.length j)->K)->K:=fun K h=>h
   (fun h=>ZT fun g=>h (g.sorts j hjs hja).1)
   (fun e h=>ZT fun g=>by rw[any_out.2 (g.sorts j hjs hja).2] at h;cases h)
   (fun e h _ _=>⟨e,any_out.1 h⟩)
  refine go _ fun g1 g2 g3=>?_
  by_cases k1:sig[j].kind_=2
  ·have k2:¬ (0:Int)<s.nest[j].length:=fun h=>p2 ⟨k1,h⟩
   by_cases k3:(s.sorts[j].length:Int)=sig[j].ports
   case neg =>
    simp only[k1,k2,k3,ga,gn,gs,Uab,Zw,Zp,Zb,seval,Za,men]
    rw[g1 k3]
   simp only[k1,k2,k3,ga,gn,gs,Uab,Zw,Zp,Zb,seval,Za,men]
   refine Zi (Zdd (t:=tv) (cs:=[Zw s]) Zdk Zdj s.sorts[j] (by omega) (fun x _ lvl S=>Zhr x s b6 lvl S)) ?_
   cases h7:s.sorts[j].any fun n=>!Z4 n 0 ((s.most.length:Int)-1)
   case true =>
    simp only[Zb,seval,Za,men]
    rw[g2 k3 h7]
   simp only[Zb,seval,Za,men]
   exact⟨by rw[Zl];omega,ZC () hja rfl (V7 hA ⟨hN,g3 k3 h7⟩)⟩
  ·by_cases k3:(s.sorts[j].length:Int)=sig[j].ports
   case neg =>
    simp only[k1,k3,ga,gn,gs,Uab,Zw,Zp,Zb,seval,Za,men]
    rw[g1 k3]
   simp only[k1,k3,ga,gn,gs,Uab,Zw,Zp,Zb,seval,Za,men]
   refine Zi (Zdd (t:=tv) (cs:=[Zw s]) Zdk Zdj s.sorts[j] (by omega) (fun x _ lvl S=>Zhr x s b6 lvl S)) ?_
   cases h7:s.sorts[j].any fun n=>!Z4 n 0 ((s.most.length:Int)-1)
   case true =>
    simp only[Zb,seval,Za,men]
    rw[g2 k3 h7]
   simp only[Zb,seval,Za,men]
   exact⟨by rw[Zl];omega,ZC () hja rfl (V7 hA ⟨hN,g3 k3 h7⟩)⟩
 ·have hj1:j=sig.length:=by omega
  subst hj1
  have:sortOK sig s:=⟨dc_iff.1 h1,dc_iff.1 h2,e3,fun k hk h2=>(hA k h2).1 hk h2,e4,fun k hk h2=>(hA k h2).2 hk h2,by have:=inB_iff.1 h4;omega,any_out.1 h5,dc_iff.1 h6⟩
  rw[Yg this]
def bl(s:ByteArray):List UInt8:=s.data.toList
theorem JL(a b:ByteArray):bl (a++b)=bl a++bl b:=by simp [bl,ByteArray.data_append]
theorem VI{a b:ByteArray}(h:bl a=bl b):a=b:=by
 cases a with | mk a=>cases b with | mk b=>exact congrArg ByteArray.mk (Array.toList_inj.1 h)
theorem YQ(l:List UInt8):bl ⟨l.toArray⟩=l:=by simp [bl]
theorem Z3(a:ByteArray):(bl a).length=a.size:=(Zdg a).symm
abbrev SP:ByteArray:=⟨#[32]⟩
def ZP(n:Int):ByteArray:=⟨(Lib.decDigits n.toNat).toArray⟩
theorem WV{u:Nat}(h:u<10):Lib.decDigits u=[UInt8.ofNat (48+u)]:=by rw[Lib.decDigits,dif_pos h]
theorem dd2{u:Nat}(h0:10<=u)(h:u<100):Lib.decDigits u=[UInt8.ofNat (48+u / 10),UInt8.ofNat (48+u % 10)]:=by
 rw[Lib.decDigits,dif_neg (by omega),WV (by omega)]
 rfl
theorem YD{n:Int}(h0:0<=n)(h1:n<100):(ZP n).size<=2:=by
 rw[<-Z3,ZP,YQ]
 by_cases h:n.toNat<10
 ·rw[WV h];simp
 ·rw[dd2 (by omega) (by omega)];simp
abbrev DIG:ByteArray:=⟨#[48,49,50,51,52,53,54,55,56,57]⟩
theorem ZaF:∀ n:Fin 10,bl (DIG.extract n.val (n.val+1))=[UInt8.ofNat (48+n.val)]:=by decide +kernel
theorem Zue{n:Nat}(h:n<10):DIG.extract n (n+1)=ZP n:=VI (by
 rw[ZaF ⟨n,h⟩,ZP,YQ,Int.toNat_natCast,WV h])
theorem Zuf{n:Nat}(h0:10<=n)(h:n<100):ZP ((n / 10:Nat):Int)++DIG.extract (n % 10) (n % 10+1)=ZP n:=VI (by
 rw[JL,ZaF ⟨n % 10,by omega⟩,ZP,YQ,Int.toNat_natCast,WV (by omega),ZP,YQ,Int.toNat_natCast,dd2 h0 h]
 rfl)
def ZZ(f:Int->ByteArray)(w:ByteArray)(l:List Int):ByteArray:=l.foldl (fun w k=>w++f k) w
theorem WW{f:Int->ByteArray}{w:ByteArray}{l:List Int}{j:Nat}(h:j<l.length):ZZ f w (l.take (j+1))=ZZ f w (l.take j)++f (g0 l j):=by
 have e:g0 l j=l[j]:=by simp [h]
 unfold ZZ
 rw[Uah h,List.foldl_append,e]
 rfl
theorem QF(f:Int->ByteArray):∀(l:List Int) (w:ByteArray),bl (ZZ f w l)=bl w++l.flatMap fun k=>bl (f k)
 | [],w=>by simp [ZZ]
 | k::r,w=>by
  have:=QF f r (w++f k)
  unfold ZZ at this ⊢
  rw[List.foldl_cons,this,JL,UaJ,Uaq]
theorem Vg{f:Int->ByteArray}{B:Nat}:∀(l:List Int) (w:ByteArray),(∀ k∈l,(f k).size<=B)->(ZZ f w l).size<=w.size+l.length*B
 | [],w,_=>by simp [ZZ]
 | k::r,w,h=>by
  have ih:=Vg (f:=f) (B:=B) r (w++f k) fun q hq=>h q (by simp [hq])
  have h1:=h k (by simp)
  unfold ZZ at ih ⊢
  rw[List.foldl_cons]
  rw[Uai] at ih
  rw[List.length_cons,Nat.succ_mul]
  omega
def JV(sig:List TControl)(k:Int):ByteArray:=((sig[k.toNat]?).map TControl.name).getD ⟨#[]⟩
theorem Zdm{sig:List TControl}{k:Nat}(h:k<sig.length):JV sig k=sig[k].name:=by simp [JV,h]
theorem ZaG{sig:List TControl}(h:JC sig)(k:Int):(JV sig k).size<=4:=by
 unfold JV
 cases e:sig[k.toNat]? with
 | none=>decide
 | some x =>
  obtain⟨hl,rfl⟩:=Uac.1 e
  exact((h.1 _ hl).1).1.2.2
theorem Zhs{lo hi:Int}{l:List Int}(h:J4 lo hi l):∀{i:Nat},i<l.length->lo+i<=g0 l i
 | 0,hi=>by have:=(h 0 hi).1;omega
 | i+1,hi=>by
  have ih:=Zhs h (i:=i) (by omega)
  have:=(h (i+1) hi).2.2 (by omega)
  simp only[UbX] at this
  omega
theorem Zug{hi:Int}{l:List Int}(h:J4 0 hi l):(l.length:Int)<=hi+1\/l=[]:=by
 cases e:l.length with
 | zero=>exact .inr (Uar e)
 | succ n =>
  have h1:=Zhs h (i:=n) (by omega)
  have h2:=(h n (by omega)).2.1
  exact .inl (by omega)
def Yr(f:A2->ByteArray)(w:ByteArray)(l:List A2):ByteArray:=l.foldl (fun w k=>w++f k) w
theorem Zht{f:A2->ByteArray}{w:ByteArray}{l:List A2}{j:Nat}(h:j<l.length):Yr f w (l.take (j+1))=Yr f w (l.take j)++f l[j]:=by
 unfold Yr
 rw[Uah h,List.foldl_append]
 rfl
theorem Zdn(f:A2->ByteArray):∀(l:List A2) (w:ByteArray),bl (Yr f w l)=bl w++l.flatMap fun k=>bl (f k)
 | [],w=>by simp [Yr]
 | k::r,w=>by
  have:=Zdn f r (w++f k)
  unfold Yr at this ⊢
  rw[List.foldl_cons,this,JL,UaJ,Uaq]
theorem ZaH{f:A2->ByteArray}{B:Nat}:∀(l:List A2) (w:ByteArray),(∀ k∈l,(f k).size<=B)->(Yr f w l).size<=w.size+l.length*B
 | [],w,_=>by simp [Yr]
 | k::r,w,h=>by
  have ih:=ZaH (f:=f) (B:=B) r (w++f k) fun q hq=>h q (by simp [hq])
  have h1:=h k (by simp)
  unfold Yr at ih ⊢
  rw[List.foldl_cons]
  rw[Uai] at ih
  rw[List.length_cons,Nat.succ_mul]
  omega
end Go.Fd

namespace Go.Proofs
open Go.Shelf
def Tryz.lays171_ren:Go.Shelf.Ren:=⟨fun | 171=>84 | 243=>109 | 246=>122 | 283=>130 | 284=>131 | 285=>132 | 286=>133 | 129=>138 | 317=>137 | 318=>139 | 319=>140 | 320=>141 | 337=>142 | 338=>143 | n=>n,fun | 3=>3 | 9=>9 | 2=>2 | 4=>4 | 171=>153 | 0=>0 | 53=>132 | 37=>59 | 5=>5 | 173=>156 | 212=>160 | 51=>129 | 20=>20 | 213=>161 | 46=>118 | 232=>164 | 233=>165 | n=>n,fun | 17=>5 | 18=>6 | 19=>7 | n=>n⟩
theorem Tryz.lays171:Go.Proofs.Lays.n171 Tryz.prog Tryz.lays171_ren:={
  mixed:=by kernel_rfl,
  f129:=Tryz.func138.trans (congrArg some (by kernel_rfl)),
  f171:=Tryz.func84.trans (congrArg some (by kernel_rfl)),
  f243:=Tryz.func109.trans (congrArg some (by kernel_rfl)),
  f246:=Tryz.func122.trans (congrArg some (by kernel_rfl)),
  f283:=Tryz.func130.trans (congrArg some (by kernel_rfl)),
  f284:=Tryz.func131.trans (congrArg some (by kernel_rfl)),
  f285:=Tryz.func132.trans (congrArg some (by kernel_rfl)),
  f286:=Tryz.func133.trans (congrArg some (by kernel_rfl)),
  f317:=Tryz.func137.trans (congrArg some (by kernel_rfl)),
  f318:=Tryz.func139.trans (congrArg some (by kernel_rfl)),
  f319:=Tryz.func140.trans (congrArg some (by kernel_rfl)),
  f320:=Tryz.func141.trans (congrArg some (by kernel_rfl)),
  f337:=Tryz.func142.trans (congrArg some (by kernel_rfl)),
  f338:=Tryz.func143.trans (congrArg some (by kernel_rfl)),
  t0:=Tryz.underlying0,
  a0:=Tryz.isAgg0,
  z0:=Tryz.sizeOf0,
  v0:=Tryz.zeroValue0,
  t2:=Tryz.underlying2,
  a2:=Tryz.isAgg2,
  z2:=Tryz.sizeOf2,
  v2:=Tryz.zeroValue2,
  t3:=Tryz.underlying3,
  a3:=Tryz.isAgg3,
  z3:=Tryz.sizeOf3,
  v3:=Tryz.zeroValue3,
  t4:=Tryz.underlying4,
  a4:=Tryz.isAgg4,
  z4:=Tryz.sizeOf4,
  v4:=Tryz.zeroValue4,
  t5:=Tryz.underlying5,
  a5:=Tryz.isAgg5,
  z5:=Tryz.sizeOf5,
  v5:=Tryz.zeroValue5,
  t9:=Tryz.underlying9,
  a9:=Tryz.isAgg9,
  z9:=Tryz.sizeOf9,
  v9:=Tryz.zeroValue9,
  t20:=Tryz.underlying20,
  a20:=Tryz.isAgg20,
  z20:=Tryz.sizeOf20,
  v20:=Tryz.zeroValue20,
  t37:=Tryz.underlying59,
  a37:=Tryz.isAgg59,
  z37:=Tryz.sizeOf59,
  v37:=Tryz.zeroValue59,
  t46:=Tryz.underlying118,
  a46:=Tryz.isAgg118,
  z46:=Tryz.sizeOf118,
  v46:=Tryz.zeroValue118,
  t51:=Tryz.underlying129,
  a51:=Tryz.isAgg129,
  z51:=Tryz.sizeOf129,
  v51:=Tryz.zeroValue129,
  t53:=Tryz.underlying132,
  a53:=Tryz.isAgg132,
  z53:=Tryz.sizeOf132,
  v53:=Tryz.zeroValue132,
  t171:=Tryz.underlying153,
  a171:=Tryz.isAgg153,
  z171:=Tryz.sizeOf153,
  v171:=Tryz.zeroValue153,
  t173:=Tryz.underlying156,
  a173:=Tryz.isAgg156,
  z173:=Tryz.sizeOf156,
  v173:=Tryz.zeroValue156,
  t212:=Tryz.underlying160,
  a212:=Tryz.isAgg160,
  z212:=Tryz.sizeOf160,
  v212:=Tryz.zeroValue160,
  t213:=Tryz.underlying161,
  a213:=Tryz.isAgg161,
  z213:=Tryz.sizeOf161,
  t232:=Tryz.underlying164,
  a232:=Tryz.isAgg164,
  z232:=Tryz.sizeOf164,
  v232:=Tryz.zeroValue164,
  t233:=Tryz.underlying165,
  a233:=Tryz.isAgg165,
  z233:=Tryz.sizeOf165,
  v233:=Tryz.zeroValue165,
  g17:=by kernel_rfl,
  g18:=by kernel_rfl,
  g19:=by kernel_rfl }
end Go.Proofs

namespace Go.Proofs
open Go.Shelf
def Tryz.lays156_ren:Go.Shelf.Ren:=⟨fun | 156=>71 | 165=>87 | 166=>88 | 169=>89 | 240=>111 | 241=>112 | 276=>124 | 277=>125 | n=>n,fun | 31=>41 | 9=>9 | 3=>3 | 4=>4 | 0=>0 | 20=>20 | 72=>103 | 76=>84 | 70=>101 | 37=>59 | 75=>83 | 127=>126 | 164=>141 | 5=>5 | 80=>105 | n=>n,fun | n=>n⟩
theorem Tryz.lays156:Go.Proofs.Lays.n156 Tryz.prog Tryz.lays156_ren:={
  mixed:=by kernel_rfl,
  f156:=Tryz.func71.trans (congrArg some (by kernel_rfl)),
  f165:=Tryz.func87.trans (congrArg some (by kernel_rfl)),
  f166:=Tryz.func88.trans (congrArg some (by kernel_rfl)),
  f169:=Tryz.func89.trans (congrArg some (by kernel_rfl)),
  f240:=Tryz.func111.trans (congrArg some (by kernel_rfl)),
  f241:=Tryz.func112.trans (congrArg some (by kernel_rfl)),
  f276:=Tryz.func124.trans (congrArg some (by kernel_rfl)),
  f277:=Tryz.func125.trans (congrArg some (by kernel_rfl)),
  t0:=Tryz.underlying0,
  a0:=Tryz.isAgg0,
  z0:=Tryz.sizeOf0,
  v0:=Tryz.zeroValue0,
  t3:=Tryz.underlying3,
  a3:=Tryz.isAgg3,
  z3:=Tryz.sizeOf3,
  v3:=Tryz.zeroValue3,
  t4:=Tryz.underlying4,
  a4:=Tryz.isAgg4,
  z4:=Tryz.sizeOf4,
  v4:=Tryz.zeroValue4,
  t9:=Tryz.underlying9,
  a9:=Tryz.isAgg9,
  z9:=Tryz.sizeOf9,
  v9:=Tryz.zeroValue9,
  t20:=Tryz.underlying20,
  a20:=Tryz.isAgg20,
  z20:=Tryz.sizeOf20,
  v20:=Tryz.zeroValue20,
  t31:=Tryz.underlying41,
  a31:=Tryz.isAgg41,
  z31:=Tryz.sizeOf41,
  v31:=Tryz.zeroValue41,
  t37:=Tryz.underlying59,
  a37:=Tryz.isAgg59,
  z37:=Tryz.sizeOf59,
  v37:=Tryz.zeroValue59,
  t70:=Tryz.underlying101,
  a70:=Tryz.isAgg101,
  z70:=Tryz.sizeOf101,
  v70:=Tryz.zeroValue101,
  t72:=Tryz.underlying103,
  a72:=Tryz.isAgg103,
  z72:=Tryz.sizeOf103,
  v72:=Tryz.zeroValue103,
  t75:=Tryz.underlying83,
  a75:=Tryz.isAgg83,
  z75:=Tryz.sizeOf83,
  v75:=Tryz.zeroValue83,
  t76:=Tryz.underlying84,
  a76:=Tryz.isAgg84,
  z76:=Tryz.sizeOf84,
  v76:=Tryz.zeroValue84,
  t127:=Tryz.underlying126,
  a127:=Tryz.isAgg126,
  z127:=Tryz.sizeOf126,
  v127:=Tryz.zeroValue126,
  t164:=Tryz.underlying141,
  a164:=Tryz.isAgg141,
  z164:=Tryz.sizeOf141,
  v164:=Tryz.zeroValue141 }
end Go.Proofs

namespace Go.Fd
open Go.Proofs.Tryz renaming prog->UbY
open Go.RowKit
set_option maxRecDepth 20000
theorem Zuh{n:Int}(h0:0<=n)(h1:n<100)(lvl:Nat)(S:Zc):Sem UbY Zc7 lvl [iI n] S (iS (ZP n)) S:=by
 obtain⟨u,rfl⟩:=UaN h0
 exact Zga (xs:=[.int .i64 u]) (XF (by kernel_rfl)) rfl (fun w=>(Go.Proofs.Any.strconv_Itoa_small Proofs.Tryz.lays171 u (by omega) w).mono fun e w' ⟨h,h'⟩=>⟨h,h' ▸ Below.refl _ _⟩)
theorem ZaI{n:Int}(h0:0<=n)(h1:n<100)(lvl:Nat)(S:Zc):Sem UbY XC lvl [iI n] S (iS (ZP n)) S:=by
 refine ZA ZgZ trivial ?_
 simp only[Zdc,Zb,seval,Za,men]
 refine Zi (Zuh h0 h1) ?_
 simp only[Zb,seval,Za,men]
theorem Zhu:Go.Proofs.Builder.Extra UbY Proofs.Tryz.lays156_ren where
 sizeBuilder:=by kernel_rfl
 liesBuilder:=by kernel_rfl
 t5:=Proofs.Tryz.underlying5
 a5:=Proofs.Tryz.isAgg5
 z5:=Proofs.Tryz.sizeOf5
 v5:=Proofs.Tryz.zeroValue5
 infoByte:=by kernel_rfl
 cellsByte:=by kernel_rfl
 sizeByte:=by kernel_rfl
 neB5:=by decide
def Xd(xs:List ByteArray)(sep:ByteArray):ByteArray:=⟨(Lib.join (xs.map fun x=>x.data.toList) sep.data.toList).toArray⟩
theorem Zdo{x:ByteArray}{r:List ByteArray}{sep:ByteArray}:bl (Xd (x::r) sep)=bl x++r.flatMap fun y=>bl sep++bl y:=by
 unfold Xd
 rw[YQ,UaH,Lib.join_cons,Lib.joinTail,Ubc,List.flatMap_def]
 rfl
theorem Zui(xs:List ByteArray)(sep:ByteArray)(hN:xs.length<=4294967296)(hlen:(Xd xs sep).size<=140737488355328)(lvl:Nat)(S:Zc):Sem UbY Zc2 lvl [tS xs,iS sep] S (iS (Xd xs sep)) S:=by
 have hlen':(Lib.join (xs.map fun x=>x.data.toList) sep.data.toList).length<=140737488355328:=by
  rw[<-Z3,Xd,YQ] at hlen
  exact hlen
 refine Zci (XF (by kernel_rfl)) rfl trivial fun _ G w vs hok hv=>?_
 simp only[Zk] at hv
 obtain⟨v,vr,rfl,h1,v2,vr2,rfl,h2,rfl⟩:=hv
 have h2':Rds w (Av G S w) v2 (.v (.string sep)):=h2
 cases h2'
 have h1':Rds w (Av G S w) v (.sl (rS xs)):=h1
 generalize hes:rS xs=es at h1'
 have hnil:xs=[]->∀ a c,Calls UbY Zc2 #[.slice a 0 c,.string sep] w fun e w' => ∃ v,e = .returned v/\VR G S w' (iS (Xd xs sep)) v/\Below w.heap.size w w':=by
  rintro rfl a c
  refine(Go.Proofs.Any.strings_Join_none Proofs.Tryz.lays156 Zhu a c sep w).mono fun e w' ⟨he,hw⟩=>⟨_,he,?_,hw ▸ Below.refl _ _⟩
  exact Rds.v _ rfl
 cases h1' with
 | nil a c=>exact hnil (by cases xs with | nil=>rfl | cons x r=>cases hes) a c
 | sl b o c k _ f hA hk hl hc hr =>
  subst hes
  by_cases hx:xs=[]
  ·subst hx
   exact hnil rfl _ _
  obtain⟨x0,r0,hxs⟩:∃ x r,xs=x::r:=by
   cases xs with
   | nil=>exact absurd rfl hx
   | cons x r=>exact⟨x,r,rfl⟩
  have hk1:k=1:=(hk [ts x0] (by simp [hxs])).symm
  subst hk1
  rw[Uab] at hl ⊢
  refine(Go.Proofs.Any.strings_Join Proofs.Tryz.lays156 Zhu b o c xs sep w ?_ hA.1 (by omega) hl hlen').mono fun e w' ⟨he,hw⟩=>⟨_,he,Rds.v _ rfl,hw⟩
  intro j x hj
  have e1:(rS xs)[j]? = some [ts x]:=by simp [hj]
  have e2:=hc j _ 0 _ e1 rfl
  have e3:=hr j _ 0 _ e1 rfl
  rw[show o+j*1+0=o+j by omega] at e2
  rw[e2]
  generalize f j 0=y at e3
  cases e3
  rfl
theorem Zdp{n:Nat}(h:n<10)(lvl:Nat)(S:Zc):Sem UbY Vt lvl [iI n] S (iS (ZP n)) S:=by
 refine ZA ZaC trivial ?_
 have h0:¬ (n:Int)<0:=by omega
 have h1:(n:Int)<10:=by omega
 have h2:((n:Int)+1).toNat=n+1:=by omega
 simp only[UT,h0,h1,h2,Zb,seval,Za,men]
 refine⟨by rw[Zl];omega,by omega,by omega,?_,?_⟩
 ·show n+1<=10
  omega
 ·rw[<-Zue h]
theorem Zuj{n:Nat}(h0:10<=n)(h:n<100)(lvl:Nat)(S:Zc):Sem UbY Vt lvl [iI n] S (iS (ZP n)) S:=by
 refine ZA ZaC trivial ?_
 have g0:¬ (n:Int)<0:=by omega
 have g1:¬ (n:Int)<10:=by omega
 have e1:(n:Int) / 10=((n / 10:Nat):Int):=by omega
 have e2:(n:Int) % 10=((n % 10:Nat):Int):=by omega
 have e3:(((n % 10:Nat):Int)+1).toNat=n % 10+1:=by omega
 simp only[UT,g0,g1,e1,e2,e3,Zb,seval,Za,men]
 refine⟨by rw[Zl];omega,?_⟩
 refine Zi (Zdp (n:=n / 10) (by omega)) ?_
 simp only[e2,e3,Zb,seval,Za,men]
 have s1:=YD (n:=((n / 10:Nat):Int)) (by omega) (by omega)
 have d2:=Zuf h0 h
 refine⟨by rw[Zl];omega,by omega,by omega,?_,?_,?_⟩
 ·show n % 10+1<=10
  omega
 ·have:=congrArg ByteArray.size d2
  rw[Uai] at this
  have s2:=YD (n:=(n:Int)) (by omega) (by omega)
  show (ZP ((n / 10:Nat):Int)).size+(DIG.extract (n % 10) (n % 10+1)).size<=4294967296
  omega
 ·rw[<-d2]
theorem ZaJ{n:Int}(h0:0<=n)(h1:n<100)(lvl:Nat)(S:Zc):Sem UbY Vt lvl [iI n] S (iS (ZP n)) S:=by
 obtain⟨u,rfl⟩:=UaN h0
 by_cases h:u<10
 ·exact Zdp h lvl S
 ·exact Zuj (by omega) (by omega) lvl S
theorem Vu:(⟨#[32]⟩:ByteArray).size=1:=rfl
abbrev J5(sig:List TControl)(k:Int):ByteArray:=SP++JV sig k
abbrev Yh(k:Int):ByteArray:=SP++ZP k
def Wc(n:Nat)(l:List Int):Prop:=∀ k∈l,0<=k/\k<n
theorem Zhv{n:Nat}{l:List Int}(h:J4 0 ((n:Int)-1) l):Wc n l:=fun k hk=>by
 obtain⟨i,hi,rfl⟩:=UaR hk
 have:=h i hi
 have e:g0 l i=l[i]:=by simp [hi]
 rw[e] at this
 omega
theorem Wd{sig:List TControl}(h:JC sig)(k:Int):(J5 sig k).size<=5:=by
 have:=ZaG h k
 rw[Uai,show SP.size=1 from rfl]
 omega
theorem ZaK{k:Int}(h0:0<=k)(h1:k<100):(Yh k).size<=3:=by
 have:=YD h0 h1
 rw[Uai,show SP.size=1 from rfl]
 omega
theorem Zhw(sig:List TControl)(word:ByteArray)(l:List Int)(hs:JC sig)(hl:Wc sig.length l)(hw:word.size<=1000)(hL:l.length<=100)(lvl:Nat)(S:Zc):Sem UbY Zay lvl [.tr (.sl (sig.map Zp)),iS word,tI l] S (iS (ZZ (J5 sig) word l)) S:=by
 refine ZA ZtE trivial ?_
 simp only[Zg4,Uab,Zb,seval,Za,men]
 refine Z7 (α:=Unit) l.length (fun j _=>[(1,iS (ZZ (J5 sig) word (l.take j))),(11,iI j)]) (fun j _=>[]) (fun _ _=>True) () (by simp only[Zb,seval,Za,men]) (by (simp only[Zb,seval,Za,men]) <;> rfl) trivial ?_
 intro j _ hj _
 simp only[Uab,Zb,seval,Za,men]
 refine Zu (fun hlt=>?_) (fun hge=>?_)
 ·have hja:j<l.length:=by omega
  have ga:=YP hja
  have e:g0 l j=l[j]:=by simp [hja]
  have hk:=hl l[j] (Ual hja)
  rw[<-e] at hk
  have gs:=Jn (c:=Zp) (l:=sig) (j:=(g0 l j).toNat) (by omega)
  have q1:g0 l j<(sig.length:Int):=hk.2
  have en:JV sig (g0 l j)=(sig[(g0 l j).toNat]'(by omega)).name:=by
   unfold JV
   rw[Uaf (by omega)]
   rfl
  have z1:=Vg (f:=J5 sig) (B:=5) (l.take j) word fun k _=>Wd hs k
  have z2:(l.take j).length=j:=by rw[Uak];omega
  have z3:=Wd hs (g0 l j)
  rw[z2] at z1
  unfold J5 at z3
  rw[en,Uai,Vu] at z3
  simp only[ga,hk.1,q1,gs,Zp,Uab,Uai,Vu,Zb,seval,Za,men]
  exact⟨by omega,by omega,by rw[Zl];omega,ZC () hja (by rw[WW hja,J5,en];rfl) trivial⟩
 ·have:j=l.length:=by omega
  subst this
  rw[UaC]
theorem Zhx(sig:List TControl)(l:List Int)(hs:JC sig)(hl:Wc sig.length l)(hL:l.length<=100)(lvl:Nat)(S:Zc):Sem UbY Zav lvl [.tr (.sl (sig.map Zp)),tI l] S (iS (ZZ (J5 sig) ⟨#[]⟩ l)) S:=by
 refine ZA Ztu trivial ?_
 simp only[ZgT,Uab,Zb,seval,Za,men]
 refine Z7 (α:=Unit) l.length (fun j _=>[(5,iS (ZZ (J5 sig) ⟨#[]⟩ (l.take j))),(6,iI j)]) (fun j _=>[]) (fun _ _=>True) () (by simp only[Zb,seval,Za,men]) (by (simp only[Zb,seval,Za,men]) <;> rfl) trivial ?_
 intro j _ hj _
 simp only[Uab,Zb,seval,Za,men]
 refine Zu (fun hlt=>?_) (fun hge=>?_)
 ·have hja:j<l.length:=by omega
  have ga:=YP hja
  have e:g0 l j=l[j]:=by simp [hja]
  have hk:=hl l[j] (Ual hja)
  rw[<-e] at hk
  have gs:=Jn (c:=Zp) (l:=sig) (j:=(g0 l j).toNat) (by omega)
  have q1:g0 l j<(sig.length:Int):=hk.2
  have en:JV sig (g0 l j)=(sig[(g0 l j).toNat]'(by omega)).name:=by
   unfold JV
   rw[Uaf (by omega)]
   rfl
  have z1:=Vg (f:=J5 sig) (B:=5) (l.take j) ⟨#[]⟩ fun k _=>Wd hs k
  have z2:(l.take j).length=j:=by rw[Uak];omega
  have z3:=Wd hs (g0 l j)
  rw[z2,show (⟨#[]⟩:ByteArray).size=0 from rfl] at z1
  unfold J5 at z3
  rw[en,Uai,Vu] at z3
  simp only[ga,hk.1,q1,gs,Zp,Uab,Uai,Vu,Zb,seval,Za,men]
  exact⟨by omega,by omega,by rw[Zl];omega,ZC () hja (by rw[WW hja,J5,en,<-ByteArray.append_assoc];rfl) trivial⟩
 ·have:j=l.length:=by omega
  subst this
  rw[UaC]
def UZ(l:List Int):Prop:=∀ k∈l,0<=k/\k<100
theorem Zuk(l:List Int)(hl:UZ l)(hL:l.length<=100)(lvl:Nat)(S:Zc):Sem UbY Zc1 lvl [tI l] S (iS (ZZ ZP ⟨#[]⟩ l)) S:=by
 refine ZA ZtF trivial ?_
 simp only[Zg5,Uab,Zb,seval,Za,men]
 refine Z7 (α:=Unit) l.length (fun j _=>[(3,iS (ZZ ZP ⟨#[]⟩ (l.take j))),(8,iI j)]) (fun j _=>[]) (fun _ _=>True) () (by simp only[Zb,seval,Za,men]) (by (simp only[Zb,seval,Za,men]) <;> rfl) trivial ?_
 intro j _ hj _
 simp only[Uab,Zb,seval,Za,men]
 refine Zu (fun hlt=>?_) (fun hge=>?_)
 ·have hja:j<l.length:=by omega
  have ga:=YP hja
  have e:g0 l j=l[j]:=by simp [hja]
  have hk:=hl l[j] (Ual hja)
  rw[<-e] at hk
  have z1:=Vg (f:=ZP) (B:=2) (l.take j) ⟨#[]⟩ fun k hk=>YD (hl k (Uau hk)).1 (hl k (Uau hk)).2
  have z2:(l.take j).length=j:=by rw[Uak];omega
  have z3:=YD hk.1 hk.2
  rw[z2,show (⟨#[]⟩:ByteArray).size=0 from rfl] at z1
  simp only[ga,Uab,Zb,seval,Za,men]
  refine Zi (ZaI hk.1 hk.2) ?_
  simp only[Zb,seval,Za,men]
  exact⟨by omega,by rw[Zl];omega,ZC () hja (by rw[WW hja];rfl) trivial⟩
 ·have:j=l.length:=by omega
  subst this
  rw[UaC]
theorem Zul(word:ByteArray)(l:List Int)(hl:UZ l)(hw:word.size<=1000)(hL:l.length<=100)(lvl:Nat)(S:Zc):Sem UbY Zc3 lvl [iS word,tI l] S (iS (ZZ Yh word l)) S:=by
 refine ZA ZtG trivial ?_
 simp only[Zg6,Uab,Zb,seval,Za,men]
 refine Z7 (α:=Unit) l.length (fun j _=>[(0,iS (ZZ Yh word (l.take j))),(9,iI j)]) (fun j _=>[]) (fun _ _=>True) () (by simp only[Zb,seval,Za,men]) (by (simp only[Zb,seval,Za,men]) <;> rfl) trivial ?_
 intro j _ hj _
 simp only[Uab,Zb,seval,Za,men]
 refine Zu (fun hlt=>?_) (fun hge=>?_)
 ·have hja:j<l.length:=by omega
  have ga:=YP hja
  have e:g0 l j=l[j]:=by simp [hja]
  have hk:=hl l[j] (Ual hja)
  rw[<-e] at hk
  have z1:=Vg (f:=Yh) (B:=3) (l.take j) word fun k hk=>ZaK (hl k (Uau hk)).1 (hl k (Uau hk)).2
  have z2:(l.take j).length=j:=by rw[Uak];omega
  have z3:=YD hk.1 hk.2
  rw[z2] at z1
  simp only[ga,Uab,Zb,seval,Za,men]
  refine Zi (ZaI hk.1 hk.2) ?_
  simp only[Uai,Vu,Zb,seval,Za,men]
  exact⟨by omega,by omega,by rw[Zl];omega,ZC () hja (by rw[WW hja];rfl) trivial⟩
 ·have:j=l.length:=by omega
  subst this
  rw[UaC]
theorem Zum(l:List Int)(hl:UZ l)(hL:l.length<=100)(lvl:Nat)(S:Zc):Sem UbY ZcT lvl [tI l] S (iS (ZZ Yh ⟨#[]⟩ l)) S:=by
 refine ZA Ztv trivial ?_
 simp only[ZgU,Uab,Zb,seval,Za,men]
 refine Z7 (α:=Unit) l.length (fun j _=>[(3,iS (ZZ Yh ⟨#[]⟩ (l.take j))),(4,iI j)]) (fun j _=>[]) (fun _ _=>True) () (by simp only[Zb,seval,Za,men]) (by (simp only[Zb,seval,Za,men]) <;> rfl) trivial ?_
 intro j _ hj _
 simp only[Uab,Zb,seval,Za,men]
 refine Zu (fun hlt=>?_) (fun hge=>?_)
 ·have hja:j<l.length:=by omega
  have ga:=YP hja
  have e:g0 l j=l[j]:=by simp [hja]
  have hk:=hl l[j] (Ual hja)
  rw[<-e] at hk
  have z1:=Vg (f:=Yh) (B:=3) (l.take j) ⟨#[]⟩ fun k hk=>ZaK (hl k (Uau hk)).1 (hl k (Uau hk)).2
  have z2:(l.take j).length=j:=by rw[Uak];omega
  have z3:=YD hk.1 hk.2
  rw[z2,show (⟨#[]⟩:ByteArray).size=0 from rfl] at z1
  simp only[ga,Uab,Uai,Vu,Zb,seval,Za,men]
  refine⟨by omega,Zi (ZaJ hk.1 hk.2) ?_⟩
  simp only[Uai,Vu,Zb,seval,Za,men]
  exact⟨by omega,by rw[Zl];omega,ZC () hja (by rw[WW hja,Yh,<-ByteArray.append_assoc];rfl) trivial⟩
 ·have:j=l.length:=by omega
  subst this
  rw[UaC]
end Go.Fd

namespace Go.Proofs
open Go.Shelf
def Tryz.laysM171_ren:Go.Shelf.Ren:=⟨fun | 171=>84 | 243=>109 | 246=>122 | 283=>130 | 284=>131 | 285=>132 | 286=>133 | 129=>138 | 317=>137 | 318=>139 | 319=>140 | 320=>141 | 337=>142 | 338=>143 | n=>n,fun | 3=>3 | 9=>9 | 2=>2 | 4=>4 | 171=>153 | 0=>0 | 53=>132 | 37=>59 | 5=>5 | 173=>156 | 212=>160 | 51=>129 | 20=>20 | 213=>161 | 46=>118 | 232=>164 | 233=>165 | n=>n,fun | 17=>5 | 18=>6 | 19=>7 | n=>n⟩
theorem Tryz.laysM171:Go.Proofs.LaysM.n171 Tryz.prog Tryz.laysM171_ren:={
  mixed:=by kernel_rfl,
  f129:=Tryz.func138.trans (congrArg some (by kernel_rfl)),
  f171:=Tryz.func84.trans (congrArg some (by kernel_rfl)),
  f243:=Tryz.func109.trans (congrArg some (by kernel_rfl)),
  f246:=Tryz.func122.trans (congrArg some (by kernel_rfl)),
  f283:=Tryz.func130.trans (congrArg some (by kernel_rfl)),
  f284:=Tryz.func131.trans (congrArg some (by kernel_rfl)),
  f285:=Tryz.func132.trans (congrArg some (by kernel_rfl)),
  f286:=Tryz.func133.trans (congrArg some (by kernel_rfl)),
  f317:=Tryz.func137.trans (congrArg some (by kernel_rfl)),
  f318:=Tryz.func139.trans (congrArg some (by kernel_rfl)),
  f319:=Tryz.func140.trans (congrArg some (by kernel_rfl)),
  f320:=Tryz.func141.trans (congrArg some (by kernel_rfl)),
  f337:=Tryz.func142.trans (congrArg some (by kernel_rfl)),
  f338:=Tryz.func143.trans (congrArg some (by kernel_rfl)),
  t0:=Tryz.underlying0,
  a0:=Tryz.isAgg0,
  z0:=Tryz.sizeOf0,
  v0:=Tryz.zeroValue0,
  t2:=Tryz.underlying2,
  a2:=Tryz.isAgg2,
  z2:=Tryz.sizeOf2,
  v2:=Tryz.zeroValue2,
  t3:=Tryz.underlying3,
  a3:=Tryz.isAgg3,
  z3:=Tryz.sizeOf3,
  v3:=Tryz.zeroValue3,
  t4:=Tryz.underlying4,
  a4:=Tryz.isAgg4,
  z4:=Tryz.sizeOf4,
  v4:=Tryz.zeroValue4,
  t5:=Tryz.underlying5,
  a5:=Tryz.isAgg5,
  z5:=Tryz.sizeOf5,
  v5:=Tryz.zeroValue5,
  t9:=Tryz.underlying9,
  a9:=Tryz.isAgg9,
  z9:=Tryz.sizeOf9,
  v9:=Tryz.zeroValue9,
  t20:=Tryz.underlying20,
  a20:=Tryz.isAgg20,
  z20:=Tryz.sizeOf20,
  v20:=Tryz.zeroValue20,
  t37:=Tryz.underlying59,
  a37:=Tryz.isAgg59,
  z37:=Tryz.sizeOf59,
  v37:=Tryz.zeroValue59,
  t46:=Tryz.underlying118,
  a46:=Tryz.isAgg118,
  z46:=Tryz.sizeOf118,
  v46:=Tryz.zeroValue118,
  t51:=Tryz.underlying129,
  a51:=Tryz.isAgg129,
  z51:=Tryz.sizeOf129,
  v51:=Tryz.zeroValue129,
  t53:=Tryz.underlying132,
  a53:=Tryz.isAgg132,
  z53:=Tryz.sizeOf132,
  v53:=Tryz.zeroValue132,
  t171:=Tryz.underlying153,
  a171:=Tryz.isAgg153,
  z171:=Tryz.sizeOf153,
  v171:=Tryz.zeroValue153,
  t173:=Tryz.underlying156,
  a173:=Tryz.isAgg156,
  z173:=Tryz.sizeOf156,
  v173:=Tryz.zeroValue156,
  t212:=Tryz.underlying160,
  a212:=Tryz.isAgg160,
  z212:=Tryz.sizeOf160,
  v212:=Tryz.zeroValue160,
  t213:=Tryz.underlying161,
  a213:=Tryz.isAgg161,
  z213:=Tryz.sizeOf161,
  t232:=Tryz.underlying164,
  a232:=Tryz.isAgg164,
  z232:=Tryz.sizeOf164,
  v232:=Tryz.zeroValue164,
  t233:=Tryz.underlying165,
  a233:=Tryz.isAgg165,
  z233:=Tryz.sizeOf165,
  v233:=Tryz.zeroValue165,
  g17:=by kernel_rfl,
  g18:=by kernel_rfl,
  g19:=by kernel_rfl,
  i0:=by kernel_rfl,
  i2:=by kernel_rfl,
  i3:=by kernel_rfl,
  i4:=by kernel_rfl,
  i5:=by kernel_rfl,
  i9:=by kernel_rfl,
  i20:=by kernel_rfl,
  i37:=by kernel_rfl,
  i46:=by kernel_rfl,
  i51:=by kernel_rfl,
  i53:=by kernel_rfl,
  i171:=by kernel_rfl,
  i173:=by kernel_rfl,
  i212:=by kernel_rfl,
  i232:=by kernel_rfl,
  i233:=by kernel_rfl,
  m17:=by kernel_rfl,
  m18:=by kernel_rfl,
  m19:=by kernel_rfl }
end Go.Proofs

namespace Go.Fd
set_option maxRecDepth 20000
def Jo(n:Int):ByteArray:=⟨(Lib.itoa n).toArray⟩
theorem WX{n:Int}(h:0<=n):Jo n=ZP n:=by unfold Jo ZP Lib.itoa;rw[if_neg (by omega)]
theorem Zhy{n:Int}(h:n<0):Jo n=⟨#[45]⟩++ZP (-n):=VI (by
 rw[JL]
 unfold Jo ZP Lib.itoa
 rw[if_pos h,YQ,YQ,show (-n).toNat=n.natAbs by omega]
 rfl)
def WY(n:Int):Prop:=-100<n/\n<100
def smL(l:List Int):Prop:=∀ k∈l,WY k
theorem WZ(s:ByteArray)(a c:Nat):bl (s.extract a c)=((bl s).take c).drop a:=by
 unfold bl
 rw[ByteArray.data_extract,Array.toList_extract,List.extract_eq_take_drop,List.drop_take]
def Zz(s:ByteArray)(b:UInt8):Nat->List ByteArray×Nat
 | 0=>([],0)
 | i+1=>if (bl s)[i]? = some b then ((Zz s b i).1++[s.extract (Zz s b i).2 i],i+1) else Zz s b i
def Js(s:ByteArray)(b:UInt8):List ByteArray:=(Zz s b s.size).1++[s.extract (Zz s b s.size).2 s.size]
theorem U0{s:ByteArray}{b:UInt8}:∀{i:Nat},(Zz s b i).2<=i
 | 0=>Uag 0
 | i+1=>by
  rw[Zz]
  split
  ·exact Uag _
  ·exact Nat.le_succ_of_le U0
theorem ZaL{s:ByteArray}{b:UInt8}:∀{i:Nat},(Zz s b i).1.length<=i
 | 0=>Uag 0
 | i+1=>by
  rw[Zz]
  have:=ZaL (s:=s) (b:=b) (i:=i)
  split
  ·simp;omega
  ·omega
theorem Zdq{s:ByteArray}{b:UInt8}:∀{i:Nat},∀ k,(Zz s b i).2<=k->k<i->(bl s)[k]? ≠ some b
 | 0,k,_,h=>by omega
 | i+1,k,h1,h2=>by
  rw[Zz] at h1
  split at h1
  ·simp only at h1;omega
  ·rename_i hn
   by_cases e:k=i
   ·rw[e];exact hn
   ·exact Zdq k h1 (by omega)
theorem Zhz{s:ByteArray}{b:UInt8}{a c:Nat}(h:∀ k,a<=k->k<c->(bl s)[k]? ≠ some b):b ∉ bl (s.extract a c):=by
 rw[WZ]
 intro hb
 obtain⟨k,hk⟩:=Ua5 hb
 rw[UaG,Uat] at hk
 split at hk
 ·exact h (a+k) (by omega) (by assumption) hk
 ·cases hk
theorem Zdr{s:ByteArray}{b:UInt8}:∀{i:Nat},∀ p∈(Zz s b i).1,b ∉ bl p
 | 0,p,h=>by simp [Zz] at h
 | i+1,p,h=>by
  rw[Zz] at h
  split at h
  ·rcases Uav.1 h with h | h
   ·exact Zdr p h
   ·rw[UaP] at h
    subst h
    exact Zhz fun k h1 h2=>Zdq k h1 h2
  ·exact Zdr p h
theorem ZhA{s:ByteArray}{b:UInt8}:∀{i:Nat},i<=s.size->((Zz s b i).1.flatMap fun p=>bl p++[b])=(bl s).take (Zz s b i).2
 | 0,_=>by simp [Zz]
 | i+1,hi=>by
  have ih:=ZhA (s:=s) (b:=b) (i:=i) (by omega)
  have hl:=U0 (s:=s) (b:=b) (i:=i)
  rw[Zz]
  split
  ·rename_i hb
   simp only[UbW,UaJ,Ubt,Ubb,ih,WZ]
   have hlt:i<(bl s).length:=by rw[Z3];omega
   rw[Uaf hlt] at hb
   rw[Uah hlt,UaM hb,<-Uaq]
   congr 1
   generalize (Zz s b i).2=f at hl
   have:(bl s).take f=((bl s).take i).take f:=by rw[List.take_take];congr 1;omega
   rw[this,Ubl]
  ·exact ih
theorem Zun{s:ByteArray}{b:UInt8}:∀ p∈Js s b,b ∉ bl p:=fun p hp=>by
 unfold Js at hp
 rcases Uav.1 hp with h | h
 ·exact Zdr p h
 ·rw[UaP] at h
  subst h
  exact Zhz fun k h1 h2=>Zdq k h1 h2
theorem ZhB{s:ByteArray}{b:UInt8}:bl s=((Zz s b s.size).1.flatMap fun p=>bl p++[b])++bl (s.extract (Zz s b s.size).2 s.size):=by
 have h1:=ZhA (s:=s) (b:=b) (Uag s.size)
 have h2:=U0 (s:=s) (b:=b) (i:=s.size)
 rw[h1,WZ]
 have:(bl s).take s.size=bl s:=Uas (by rw[Z3];exact Uag _)
 rw[this,Ubl]
theorem Zds{b:UInt8}:∀(l:List ByteArray) (z:ByteArray),∃ y r,l++[z]=y::r/\(l.flatMap fun p=>bl p++[b])++bl z=bl y++r.flatMap fun p=>b::bl p
 | [],z=>⟨z,[],rfl,by simp⟩
 | x::l,z=>by
  obtain⟨y,r,h1,h2⟩:=Zds (b:=b) l z
  refine⟨x,y::r,by rw[List.cons_append,h1],?_⟩
  rw[UaJ,UaJ,Uaq,h2]
  simp
theorem ZhC{b:UInt8}:∀{x x' t t':List UInt8},b ∉ x->b ∉ x'->(t=[]\/∃ u,t=b::u)->(t'=[]\/∃ u,t'=b::u)->x++t=x'++t'->x=x'/\t=t'
 | [],[],t,t',_,_,_,_,h=>⟨rfl,h⟩
 | [],c::x',t,t',_,h2,h3,_,h=>by
  rcases h3 with rfl | ⟨u,rfl⟩
  ·cases h
  ·rw[List.nil_append,List.cons_append] at h
   injection h with e _
   exact absurd (by simp [e]) h2
 | c::x,[],t,t',h1,_,_,h4,h=>by
  rcases h4 with rfl | ⟨u,rfl⟩
  ·cases h
  ·rw[List.nil_append,List.cons_append] at h
   injection h with e _
   exact absurd (by simp [e]) h1
 | c::x,d::x',t,t',h1,h2,h3,h4,h=>by
  rw[List.cons_append,List.cons_append] at h
  injection h with e h
  obtain⟨g1,g2⟩:=ZhC (x:=x) (x':=x') (fun q=>h1 (by simp [q])) (fun q=>h2 (by simp [q])) h3 h4 h
  exact⟨by rw[e,g1],g2⟩
theorem ZhD{b:UInt8}{r:List ByteArray}:(r.flatMap fun p=>b::bl p)=[]\/∃ u,(r.flatMap fun p=>b::bl p)=b::u:=by
 cases r with
 | nil=>exact .inl rfl
 | cons x r=>exact .inr ⟨_,by rw[UaJ,List.cons_append]⟩
theorem ZhE{b:UInt8}:∀{x y:ByteArray} {r q:List ByteArray},b ∉ bl x->b ∉ bl y->(∀ p∈r,b ∉ bl p)->(∀ p∈q,b ∉ bl p)->bl x++(r.flatMap fun p=>b::bl p)=bl y++(q.flatMap fun p=>b::bl p)->x=y/\r=q
 | x,y,r,q,hx,hy,hr,hq,h=>by
  obtain⟨h1,h2⟩:=ZhC hx hy ZhD ZhD h
  refine⟨VI h1,?_⟩
  match r,q with
  | [],[]=>rfl
  | [],z::q=>rw[Ubt,UaJ] at h2;cases h2
  | z::r,[]=>rw[Ubt,UaJ] at h2;cases h2
  | z::r,z'::q =>
   rw[UaJ,UaJ,List.cons_append,List.cons_append] at h2
   injection h2 with _ h2
   obtain⟨g1,g2⟩:=ZhE (hr z (by simp)) (hq z' (by simp)) (fun p hp=>hr p (by simp [hp])) (fun p hp=>hq p (by simp [hp])) h2
   rw[g1,g2]
  termination_by _ _ r=>r.length
theorem ZhF{s x:ByteArray}{b:UInt8}{r:List ByteArray}(h:bl s=bl x++r.flatMap fun p=>b::bl p)(hx:b ∉ bl x)(hr:∀ p∈r,b ∉ bl p):Js s b=x::r:=by
 have h1:=ZhB (s:=s) (b:=b)
 obtain⟨y,q,e,h2⟩:=Zds (b:=b) (Zz s b s.size).1 (s.extract (Zz s b s.size).2 s.size)
 have hf:=Zun (s:=s) (b:=b)
 have es:Js s b=y::q:=e
 rw[es] at hf ⊢
 rw[h2,h] at h1
 obtain⟨g1,g2⟩:=ZhE hx (hf y (by simp)) hr (fun p hp=>hf p (by simp [hp])) h1
 rw[g1,g2]
theorem ZaM{s:ByteArray}{b:UInt8}:Js s b≠[]:=by simp [Js]
theorem Zdt{s:ByteArray}{b:UInt8}:(Js s b).length<=s.size+1:=by
 have:=ZaL (s:=s) (b:=b) (i:=s.size)
 simp [Js];omega
theorem ZhG{b:UInt8}:∀{q:List ByteArray} {p:ByteArray},p∈q->p.size+1<=(q.flatMap fun p=>b::bl p).length
 | [],p,h=>by cases h
 | z::q,p,h=>by
  rw[UaJ,Uan,List.length_cons,Z3]
  rcases UaF.1 h with rfl | h
  ·omega
  ·have:=ZhG (b:=b) h
   omega
theorem ZaN{s:ByteArray}{b:UInt8}{p:ByteArray}(h:p∈Js s b):p.size<=s.size:=by
 have h1:=ZhB (s:=s) (b:=b)
 obtain⟨y,q,e,h2⟩:=Zds (b:=b) (Zz s b s.size).1 (s.extract (Zz s b s.size).2 s.size)
 have es:Js s b=y::q:=e
 rw[es] at h
 rw[h2] at h1
 have hl:=congrArg List.length h1
 rw[Uan,Z3,Z3] at hl
 rcases UaF.1 h with rfl | h
 ·omega
 ·have:=ZhG (b:=b) h
  omega
def JW(s sep:ByteArray):ByteArray×ByteArray:=(⟨(Lib.cut (bl s) (bl sep)).1.toArray⟩,⟨(Lib.cut (bl s) (bl sep)).2.1.toArray⟩)
theorem Zdu{s sep:List UInt8}{j k:Nat}{c:UInt8}(h:Lib.occAt s sep j=true)(hk:sep[k]? = some c):s[j+k]? = some c:=by
 unfold Lib.occAt at h
 rw[List.isPrefixOf_iff_prefix] at h
 obtain⟨t,ht⟩:=h
 have e:(s.drop j)[k]? = some c:=by
  rw[<-ht,Uap (Uac.1 hk).1,hk]
 rw[UaG] at e
 exact e
theorem Zdv{x y sep p q:List UInt8}{c:UInt8}(hs:sep=p++c::q)(hx:c ∉ x)(hp:c ∉ p):Lib.index (x++(sep++y)) sep=x.length:=by
 refine Lib.index_first (by simp) ?_ fun j hj=>?_
 ·unfold Lib.occAt
  rw[UbU,List.isPrefixOf_iff_prefix]
  exact⟨y,rfl⟩
 ·cases e:Lib.occAt (x++(sep++y)) sep j
  ·rfl
  ·exfalso
   have h:=Zdu (k:=p.length) (c:=c) e (by rw[hs];simp)
   have hlt:j+p.length<x.length+p.length:=by omega
   rw[hs,Uaq,<-Uaq x,Uap (by rw[Uan];exact hlt)] at h
   rcases Uav.1 (Uae h) with g | g
   ·exact hx g
   ·exact hp g
theorem Zuo{x sep:List UInt8}{c:UInt8}(hs:c∈sep)(hx:c ∉ x):Lib.index x sep = -1:=by
 refine Lib.index_none fun j hj=>?_
 cases e:Lib.occAt x sep j
 ·rfl
 ·obtain⟨k,hk⟩:=Ua5 hs
  exact absurd (Uae (Zdu e hk)) hx
theorem ZhH{s x y sep:ByteArray}{p q:List UInt8}{c:UInt8}(h:bl s=bl x++(bl sep++bl y))(hs:bl sep=p++c::q)(hx:c ∉ bl x)(hp:c ∉ p):JW s sep=(x,y):=by
 have hi:=Zdv (y:=bl y) hs hx hp
 unfold JW Lib.cut
 rw[h,hi,if_pos (by omega)]
 simp only[Int.toNat_natCast,List.take_left]
 refine Prod.ext (VI (by rw[YQ])) (VI ?_)
 show bl ⟨(List.drop _ _).toArray⟩=_
 rw[YQ,<-Uaq,show (bl x).length+(bl sep).length=(bl x++bl sep).length by rw[Uan],UbU]
def J6(s sep:ByteArray):List ByteArray:=Lib.splitB sep 0 (Lib.countB s sep) s
theorem ZhI{sep q:List UInt8}{c:UInt8}(hs:sep=c::q):∀{r:List ByteArray} {x:ByteArray} {fuel:Nat},r.length<fuel->c ∉ bl x->(∀ p∈r,c ∉ bl p)->Lib.countFrom sep fuel (bl x++r.flatMap fun p=>sep++bl p)=r.length
 | [],x,fuel+1,_,hx,_=>by
  rw[Ubt,Ubb,Lib.countFrom,Zuo (c:=c) (by rw[hs];simp) hx]
  rfl
 | y::r,x,fuel+1,hf,hx,hr=>by
  have hi:=Zdv (y:=bl y++r.flatMap fun p=>sep++bl p) (p:=[]) (q:=q) hs hx (by simp)
  rw[UaJ,Uaq,Lib.countFrom,hi,if_neg (by simp),Int.toNat_natCast,<-Uaq (bl x),show (bl x).length+sep.length=(bl x++sep).length by rw[Uan],UbU,
   ZhI hs (by simp at hf;omega) (hr y (by simp)) fun p hp=>hr p (by simp [hp])]
  simp;omega
theorem ZhJ{sep q:List UInt8}{c:UInt8}(hs:sep=c::q):∀{r:List ByteArray} {x:ByteArray},c ∉ bl x->(∀ p∈r,c ∉ bl p)->Lib.splitK sep 0 r.length (bl x++r.flatMap fun p=>sep++bl p)=bl x::r.map bl
 | [],x,hx,_=>by
  rw[Ubt,Ubb]
  rfl
 | y::r,x,hx,hr=>by
  have hi:=Zdv (y:=bl y++r.flatMap fun p=>sep++bl p) (p:=[]) (q:=q) hs hx (by simp)
  rw[UaJ,Uaq,List.length_cons,Lib.splitK,hi,if_neg (by simp),Int.toNat_natCast,Nat.add_zero,List.take_left,<-Uaq (bl x),show (bl x).length+sep.length=(bl x++sep).length by rw[Uan],UbU,
   ZhJ hs (hr y (by simp)) fun p hp=>hr p (by simp [hp])]
  rfl
theorem Zup{s x sep:ByteArray}{q:List UInt8}{c:UInt8}{r:List ByteArray}(hs:bl sep=c::q)(h:bl s=bl x++r.flatMap fun p=>bl sep++bl p)(hx:c ∉ bl x)(hr:∀ p∈r,c ∉ bl p):J6 s sep=x::r:=by
 have hlen:r.length<=(bl s).length:=by
  rw[h,Uan]
  clear h
  induction r with
  | nil=>simp
  | cons y r ih =>
   have:=ih fun p hp=>hr p (by simp [hp])
   rw[UaJ,Uan,Uan,hs]
   simp only[List.length_cons]
   rw[hs] at this
   omega
 have hc:Lib.countB s sep=r.length:=by
  show Lib.count (bl s) (bl sep)=_
  unfold Lib.count
  rw[h]
  exact ZhI hs (by rw[<-h];omega) hx hr
 have h1:=Lib.splitB_data sep 0 (Lib.countB s sep) s
 rw[hc] at h1
 have h2:Lib.splitK (bl sep) 0 r.length (bl s)=bl x::r.map bl:=by rw[h];exact ZhJ hs hx hr
 unfold J6
 rw[hc]
 have h3:(Lib.splitB sep 0 r.length s).map bl=(x::r).map bl:=h1.trans h2
 exact(List.map_inj_right fun a b e=>VI e).1 h3
end Go.Fd

namespace Go.Proofs
open Go.Shelf
def Tryz.lays145_ren:Go.Shelf.Ren:=⟨fun | 145=>28 | 220=>61 | 219=>81 | 217=>100 | 225=>101 | 224=>102 | 267=>103 | 266=>117 | 314=>118 | n=>n,fun | 9=>9 | 4=>4 | 59=>57 | 3=>3 | 5=>5 | 46=>118 | 146=>130 | 51=>129 | n=>n,fun | 1=>0 | n=>n⟩
theorem Tryz.lays145:Go.Proofs.Lays.n145 Tryz.prog Tryz.lays145_ren:={
  mixed:=by kernel_rfl,
  f145:=Tryz.func28.trans (congrArg some (by kernel_rfl)),
  f217:=Tryz.func100.trans (congrArg some (by kernel_rfl)),
  f219:=Tryz.func81.trans (congrArg some (by kernel_rfl)),
  f220:=Tryz.func61.trans (congrArg some (by kernel_rfl)),
  f224:=Tryz.func102.trans (congrArg some (by kernel_rfl)),
  f225:=Tryz.func101.trans (congrArg some (by kernel_rfl)),
  f266:=Tryz.func117.trans (congrArg some (by kernel_rfl)),
  f267:=Tryz.func103.trans (congrArg some (by kernel_rfl)),
  f314:=Tryz.func118.trans (congrArg some (by kernel_rfl)),
  t3:=Tryz.underlying3,
  a3:=Tryz.isAgg3,
  z3:=Tryz.sizeOf3,
  v3:=Tryz.zeroValue3,
  t4:=Tryz.underlying4,
  a4:=Tryz.isAgg4,
  z4:=Tryz.sizeOf4,
  v4:=Tryz.zeroValue4,
  t5:=Tryz.underlying5,
  a5:=Tryz.isAgg5,
  z5:=Tryz.sizeOf5,
  v5:=Tryz.zeroValue5,
  t9:=Tryz.underlying9,
  a9:=Tryz.isAgg9,
  z9:=Tryz.sizeOf9,
  v9:=Tryz.zeroValue9,
  t46:=Tryz.underlying118,
  a46:=Tryz.isAgg118,
  z46:=Tryz.sizeOf118,
  v46:=Tryz.zeroValue118,
  t51:=Tryz.underlying129,
  a51:=Tryz.isAgg129,
  z51:=Tryz.sizeOf129,
  v51:=Tryz.zeroValue129,
  t59:=Tryz.underlying57,
  a59:=Tryz.isAgg57,
  z59:=Tryz.sizeOf57,
  v59:=Tryz.zeroValue57,
  t146:=Tryz.underlying130,
  a146:=Tryz.isAgg130,
  z146:=Tryz.sizeOf130,
  v146:=Tryz.zeroValue130,
  g1:=by kernel_rfl }
def Tryz.lays146_ren:Go.Shelf.Ren:=⟨fun | 146=>24 | 221=>55 | 268=>75 | 138=>76 | 143=>77 | 195=>90 | 197=>91 | 218=>92 | 219=>81 | 260=>113 | 217=>100 | 225=>101 | 224=>102 | 267=>103 | 266=>117 | 314=>118 | n=>n,fun | 9=>9 | 31=>41 | 3=>3 | 4=>4 | 0=>0 | 105=>107 | 21=>21 | 5=>5 | 46=>118 | 119=>144 | 139=>147 | 138=>146 | 146=>130 | 51=>129 | n=>n,fun | 1=>0 | 3=>3 | 4=>4 | n=>n⟩
theorem Tryz.lays146:Go.Proofs.Lays.n146 Tryz.prog Tryz.lays146_ren:={
  mixed:=by kernel_rfl,
  f138:=Tryz.func76.trans (congrArg some (by kernel_rfl)),
  f143:=Tryz.func77.trans (congrArg some (by kernel_rfl)),
  f146:=Tryz.func24.trans (congrArg some (by kernel_rfl)),
  f195:=Tryz.func90.trans (congrArg some (by kernel_rfl)),
  f197:=Tryz.func91.trans (congrArg some (by kernel_rfl)),
  f217:=Tryz.func100.trans (congrArg some (by kernel_rfl)),
  f218:=Tryz.func92.trans (congrArg some (by kernel_rfl)),
  f219:=Tryz.func81.trans (congrArg some (by kernel_rfl)),
  f221:=Tryz.func55.trans (congrArg some (by kernel_rfl)),
  f224:=Tryz.func102.trans (congrArg some (by kernel_rfl)),
  f225:=Tryz.func101.trans (congrArg some (by kernel_rfl)),
  f260:=Tryz.func113.trans (congrArg some (by kernel_rfl)),
  f266:=Tryz.func117.trans (congrArg some (by kernel_rfl)),
  f267:=Tryz.func103.trans (congrArg some (by kernel_rfl)),
  f268:=Tryz.func75.trans (congrArg some (by kernel_rfl)),
  f314:=Tryz.func118.trans (congrArg some (by kernel_rfl)),
  t0:=Tryz.underlying0,
  a0:=Tryz.isAgg0,
  z0:=Tryz.sizeOf0,
  v0:=Tryz.zeroValue0,
  t3:=Tryz.underlying3,
  a3:=Tryz.isAgg3,
  z3:=Tryz.sizeOf3,
  v3:=Tryz.zeroValue3,
  t4:=Tryz.underlying4,
  a4:=Tryz.isAgg4,
  z4:=Tryz.sizeOf4,
  v4:=Tryz.zeroValue4,
  t5:=Tryz.underlying5,
  a5:=Tryz.isAgg5,
  z5:=Tryz.sizeOf5,
  v5:=Tryz.zeroValue5,
  t9:=Tryz.underlying9,
  a9:=Tryz.isAgg9,
  z9:=Tryz.sizeOf9,
  v9:=Tryz.zeroValue9,
  t21:=Tryz.underlying21,
  a21:=Tryz.isAgg21,
  z21:=Tryz.sizeOf21,
  v21:=Tryz.zeroValue21,
  t31:=Tryz.underlying41,
  a31:=Tryz.isAgg41,
  z31:=Tryz.sizeOf41,
  v31:=Tryz.zeroValue41,
  t46:=Tryz.underlying118,
  a46:=Tryz.isAgg118,
  z46:=Tryz.sizeOf118,
  v46:=Tryz.zeroValue118,
  t51:=Tryz.underlying129,
  a51:=Tryz.isAgg129,
  z51:=Tryz.sizeOf129,
  v51:=Tryz.zeroValue129,
  t105:=Tryz.underlying107,
  a105:=Tryz.isAgg107,
  z105:=Tryz.sizeOf107,
  v105:=Tryz.zeroValue107,
  t119:=Tryz.underlying144,
  a119:=Tryz.isAgg144,
  z119:=Tryz.sizeOf144,
  t138:=Tryz.underlying146,
  a138:=Tryz.isAgg146,
  z138:=Tryz.sizeOf146,
  v138:=Tryz.zeroValue146,
  t139:=Tryz.underlying147,
  a139:=Tryz.isAgg147,
  z139:=Tryz.sizeOf147,
  v139:=Tryz.zeroValue147,
  t146:=Tryz.underlying130,
  a146:=Tryz.isAgg130,
  z146:=Tryz.sizeOf130,
  v146:=Tryz.zeroValue130,
  g1:=by kernel_rfl,
  g3:=by kernel_rfl,
  g4:=by kernel_rfl }
end Go.Proofs

namespace Go.Proofs
open Go.Shelf
def Tryz.laysC172_ren:Go.Shelf.Ren:=⟨fun | 172=>62 | 244=>82 | 245=>83 | 247=>104 | 279=>105 | 280=>106 | 281=>107 | 282=>108 | 287=>119 | 316=>120 | 171=>84 | 205=>121 | 321=>128 | 322=>129 | 243=>109 | 246=>122 | 283=>130 | 284=>131 | 285=>132 | 286=>133 | 129=>138 | 317=>137 | 318=>139 | 319=>140 | 320=>141 | 337=>142 | 338=>143 | n=>n,fun | 9=>9 | 3=>3 | 75=>83 | 76=>84 | 4=>4 | 5=>5 | 167=>119 | 37=>59 | 0=>0 | 85=>120 | 2=>2 | 168=>122 | 53=>132 | 175=>133 | 46=>118 | 210=>137 | 127=>126 | 145=>152 | 143=>150 | 21=>21 | 171=>153 | 173=>156 | 212=>160 | 51=>129 | 20=>20 | 213=>161 | 232=>164 | 233=>165 | 80=>105 | n=>n,fun | 15=>1 | 16=>2 | 17=>5 | 18=>6 | 19=>7 | n=>n⟩
theorem Tryz.laysC172:Go.Proofs.LaysC.n172 Tryz.prog Tryz.laysC172_ren:={
  mixed:=by kernel_rfl,
  f129:=Tryz.func138.trans (congrArg some (by kernel_rfl)),
  f171:=Tryz.func84.trans (congrArg some (by kernel_rfl)),
  f172:=Tryz.func62.trans (congrArg some (by kernel_rfl)),
  f205:=Tryz.func121.trans (congrArg some (by kernel_rfl)),
  f243:=Tryz.func109.trans (congrArg some (by kernel_rfl)),
  f244:=Tryz.func82.trans (congrArg some (by kernel_rfl)),
  f245:=Tryz.func83.trans (congrArg some (by kernel_rfl)),
  f246:=Tryz.func122.trans (congrArg some (by kernel_rfl)),
  f247:=Tryz.func104.trans (congrArg some (by kernel_rfl)),
  f279:=Tryz.func105.trans (congrArg some (by kernel_rfl)),
  f280:=Tryz.func106.trans (congrArg some (by kernel_rfl)),
  f281:=Tryz.func107.trans (congrArg some (by kernel_rfl)),
  f282:=Tryz.func108.trans (congrArg some (by kernel_rfl)),
  f283:=Tryz.func130.trans (congrArg some (by kernel_rfl)),
  f284:=Tryz.func131.trans (congrArg some (by kernel_rfl)),
  f285:=Tryz.func132.trans (congrArg some (by kernel_rfl)),
  f286:=Tryz.func133.trans (congrArg some (by kernel_rfl)),
  f287:=Tryz.func119.trans (congrArg some (by kernel_rfl)),
  f316:=Tryz.func120.trans (congrArg some (by kernel_rfl)),
  f317:=Tryz.func137.trans (congrArg some (by kernel_rfl)),
  f318:=Tryz.func139.trans (congrArg some (by kernel_rfl)),
  f319:=Tryz.func140.trans (congrArg some (by kernel_rfl)),
  f320:=Tryz.func141.trans (congrArg some (by kernel_rfl)),
  f321:=Tryz.func128.trans (congrArg some (by kernel_rfl)),
  f322:=Tryz.func129.trans (congrArg some (by kernel_rfl)),
  f337:=Tryz.func142.trans (congrArg some (by kernel_rfl)),
  f338:=Tryz.func143.trans (congrArg some (by kernel_rfl)),
  t0:=Tryz.underlying0,
  a0:=Tryz.isAgg0,
  z0:=Tryz.sizeOf0,
  v0:=Tryz.zeroValue0,
  t2:=Tryz.underlying2,
  a2:=Tryz.isAgg2,
  z2:=Tryz.sizeOf2,
  v2:=Tryz.zeroValue2,
  t3:=Tryz.underlying3,
  a3:=Tryz.isAgg3,
  z3:=Tryz.sizeOf3,
  v3:=Tryz.zeroValue3,
  t4:=Tryz.underlying4,
  a4:=Tryz.isAgg4,
  z4:=Tryz.sizeOf4,
  v4:=Tryz.zeroValue4,
  t5:=Tryz.underlying5,
  a5:=Tryz.isAgg5,
  z5:=Tryz.sizeOf5,
  v5:=Tryz.zeroValue5,
  t9:=Tryz.underlying9,
  a9:=Tryz.isAgg9,
  z9:=Tryz.sizeOf9,
  v9:=Tryz.zeroValue9,
  t20:=Tryz.underlying20,
  a20:=Tryz.isAgg20,
  z20:=Tryz.sizeOf20,
  v20:=Tryz.zeroValue20,
  t21:=Tryz.underlying21,
  a21:=Tryz.isAgg21,
  z21:=Tryz.sizeOf21,
  v21:=Tryz.zeroValue21,
  t37:=Tryz.underlying59,
  a37:=Tryz.isAgg59,
  z37:=Tryz.sizeOf59,
  v37:=Tryz.zeroValue59,
  t46:=Tryz.underlying118,
  a46:=Tryz.isAgg118,
  z46:=Tryz.sizeOf118,
  v46:=Tryz.zeroValue118,
  t51:=Tryz.underlying129,
  a51:=Tryz.isAgg129,
  z51:=Tryz.sizeOf129,
  v51:=Tryz.zeroValue129,
  t53:=Tryz.underlying132,
  a53:=Tryz.isAgg132,
  z53:=Tryz.sizeOf132,
  v53:=Tryz.zeroValue132,
  t75:=Tryz.underlying83,
  a75:=Tryz.isAgg83,
  z75:=Tryz.sizeOf83,
  v75:=Tryz.zeroValue83,
  t76:=Tryz.underlying84,
  a76:=Tryz.isAgg84,
  z76:=Tryz.sizeOf84,
  v76:=Tryz.zeroValue84,
  t85:=Tryz.underlying120,
  a85:=Tryz.isAgg120,
  z85:=Tryz.sizeOf120,
  v85:=Tryz.zeroValue120,
  t127:=Tryz.underlying126,
  a127:=Tryz.isAgg126,
  z127:=Tryz.sizeOf126,
  v127:=Tryz.zeroValue126,
  t143:=Tryz.underlying150,
  a143:=Tryz.isAgg150,
  z143:=Tryz.sizeOf150,
  v143:=Tryz.zeroValue150,
  t145:=Tryz.underlying152,
  a145:=Tryz.isAgg152,
  z145:=Tryz.sizeOf152,
  v145:=Tryz.zeroValue152,
  t167:=Tryz.underlying119,
  a167:=Tryz.isAgg119,
  z167:=Tryz.sizeOf119,
  v167:=Tryz.zeroValue119,
  t168:=Tryz.underlying122,
  a168:=Tryz.isAgg122,
  z168:=Tryz.sizeOf122,
  v168:=Tryz.zeroValue122,
  t171:=Tryz.underlying153,
  a171:=Tryz.isAgg153,
  z171:=Tryz.sizeOf153,
  v171:=Tryz.zeroValue153,
  t173:=Tryz.underlying156,
  a173:=Tryz.isAgg156,
  z173:=Tryz.sizeOf156,
  v173:=Tryz.zeroValue156,
  t175:=Tryz.underlying133,
  a175:=Tryz.isAgg133,
  z175:=Tryz.sizeOf133,
  v175:=Tryz.zeroValue133,
  t210:=Tryz.underlying137,
  a210:=Tryz.isAgg137,
  z210:=Tryz.sizeOf137,
  v210:=Tryz.zeroValue137,
  t212:=Tryz.underlying160,
  a212:=Tryz.isAgg160,
  z212:=Tryz.sizeOf160,
  v212:=Tryz.zeroValue160,
  t213:=Tryz.underlying161,
  a213:=Tryz.isAgg161,
  z213:=Tryz.sizeOf161,
  t232:=Tryz.underlying164,
  a232:=Tryz.isAgg164,
  z232:=Tryz.sizeOf164,
  v232:=Tryz.zeroValue164,
  t233:=Tryz.underlying165,
  a233:=Tryz.isAgg165,
  z233:=Tryz.sizeOf165,
  v233:=Tryz.zeroValue165,
  g15:=by kernel_rfl,
  g16:=by kernel_rfl,
  g17:=by kernel_rfl,
  g18:=by kernel_rfl,
  g19:=by kernel_rfl,
  t80:=Tryz.underlying105,
  a80:=Tryz.isAgg105,
  z80:=Tryz.sizeOf105,
  v80:=Tryz.zeroValue105,
  i0:=by kernel_rfl,
  i2:=by kernel_rfl,
  i3:=by kernel_rfl,
  i4:=by kernel_rfl,
  i5:=by kernel_rfl,
  i9:=by kernel_rfl,
  i20:=by kernel_rfl,
  i21:=by kernel_rfl,
  i37:=by kernel_rfl,
  i46:=by kernel_rfl,
  i51:=by kernel_rfl,
  i53:=by kernel_rfl,
  i75:=by kernel_rfl,
  i76:=by kernel_rfl,
  i80:=by kernel_rfl,
  i85:=by kernel_rfl,
  i127:=by kernel_rfl,
  i143:=by kernel_rfl,
  i145:=by kernel_rfl,
  i167:=by kernel_rfl,
  i168:=by kernel_rfl,
  i171:=by kernel_rfl,
  i173:=by kernel_rfl,
  i175:=by kernel_rfl,
  i210:=by kernel_rfl,
  i212:=by kernel_rfl,
  i232:=by kernel_rfl,
  i233:=by kernel_rfl,
  m15:=by kernel_rfl,
  m16:=by kernel_rfl,
  m17:=by kernel_rfl,
  m18:=by kernel_rfl,
  m19:=by kernel_rfl,
  c0:=by kernel_rfl,
  c2:=by kernel_rfl,
  c3:=by kernel_rfl,
  c4:=by kernel_rfl,
  c5:=by kernel_rfl,
  c9:=by kernel_rfl,
  c20:=by kernel_rfl,
  c21:=by kernel_rfl,
  c37:=by kernel_rfl,
  c46:=by kernel_rfl,
  c51:=by kernel_rfl,
  c53:=by kernel_rfl,
  c75:=by kernel_rfl,
  c76:=by kernel_rfl,
  c80:=by kernel_rfl,
  c85:=by kernel_rfl,
  c127:=by kernel_rfl,
  c143:=by kernel_rfl,
  c145:=by kernel_rfl,
  c167:=by kernel_rfl,
  c168:=by kernel_rfl,
  c171:=by kernel_rfl,
  c173:=by kernel_rfl,
  c175:=by kernel_rfl,
  c210:=by kernel_rfl,
  c212:=by kernel_rfl,
  c213:=by kernel_rfl,
  c232:=by kernel_rfl,
  c233:=by kernel_rfl }
end Go.Proofs

namespace Go.Fd
open Go.Proofs.Tryz renaming prog->UbY
open Go.RowKit
set_option maxRecDepth 20000
abbrev iU(b:UInt8):IV:=.tr (.v (.int .u8 b.toNat))
theorem u8_inj{a b:UInt8}:((a.toNat:Int)=b.toNat)↔a=b:=by
 constructor
 ·intro h
  exact UInt8.toNat_inj.1 (by omega)
 ·intro h
  rw[h]
theorem ZaO{a b:List ByteArray}:rS (a++b)=rS a++rS b:=Uaz
theorem Zdw{P:Program}{w0 w:World}{nm:String}{cs:Array Value}(hb:∀ b,b<w0.heap.size->w.heap[b]? = w0.heap[b]?)(h:w0.var? P nm=some cs):w.var? P nm=some cs:=by
 unfold World.var? at h ⊢
 generalize P.globalNamed nm=o at h ⊢
 cases o with
 | none=>exact h
 | some g =>
  simp only[Option.bind_some] at h ⊢
  rcases Nat.lt_or_ge g w0.heap.size with hl | hl
  ·rw[hb g hl];exact h
  ·rw[Array.getElem?_eq_none hl] at h;cases h
theorem Zdx{G:Gh}{S:Zc}{w:World}(h:Fix G S w):Zcj UbY w:=by
 obtain⟨w0,hg,hs,hb⟩:=h
 have hg':Zcj UbY w0:=hg
 obtain⟨h1,⟨m,h2⟩,⟨t,p,h3⟩,⟨t',p',h4⟩⟩:=hg'
 have k:∀ b,b<w0.heap.size->w.heap[b]? = w0.heap[b]?:=fun b hl=>(hb b hl).2
 exact⟨Zdw k h1,⟨m,(U6 (k _ (Lib.lt_of_cell h2))).trans h2⟩,⟨t,p,Zdw k h3⟩,⟨t',p',Zdw k h4⟩⟩
theorem ZhK{G:Gh}{S:Zc}{w:World}(h:Fix G S w):∃ m,w.cell? ⟨0,0,none⟩=some (.int .i64 m):=(Zdx h).2.1
def ZhL(s sep:ByteArray):Bool:=(Lib.cut (bl s) (bl sep)).2.2
theorem ZhM(s sep:ByteArray)(hs:s.size<=4000000000)(lvl:Nat)(S:Zc):Sem UbY ZcF lvl [iS s,iS sep] S (.tu [iS (JW s sep).1,iS (JW s sep).2,iB (ZhL s sep)]) S:=by
 refine UL (XF (by kernel_rfl)) rfl (by simp [low,men,Za]) fun _ G w vs _ hv hf=>?_
 rw[X3 (xs:=[.string s,.string sep]) hv]
 obtain⟨m,hm⟩:=ZhK hf
 refine(Go.Proofs.Any.strings_Cut Proofs.Tryz.lays145 s sep m w (by omega) hm).mono fun e w' ⟨h,n,h'⟩=>⟨_,h,?_,h' ▸ ⟨rfl,rfl,rfl,Uag _,fun _ _=>rfl⟩⟩
 simp only[VR]
 exact⟨_,rfl,Zch (xs:=[.string (JW s sep).1,.string (JW s sep).2,.bool (ZhL s sep)]) fun y hy=>by
  simp only[UaF,Ua9,or_false] at hy
  rcases hy with rfl | rfl | rfl <;> rfl⟩
theorem Zuq(s sep:ByteArray)(hs:s.size<=4000000000)(h1:1<=sep.size)(lvl:Nat)(S:Zc):Sem UbY Zgq lvl [iS s,iS sep] S (.tr (.sl (rS (J6 s sep)))) S:=by
 refine UL (XF (by kernel_rfl)) rfl trivial fun _ G w vs hok hv hf=>?_
 rw[X3 (xs:=[.string s,.string sep]) hv]
 obtain⟨m,hm⟩:=ZhK hf
 have hlen:=Lib.splitB_all sep h1 0 _ s rfl
 refine(Go.Proofs.Any.strings_Split Proofs.Tryz.lays146 (by kernel_rfl) s sep m w (by omega) hm h1).mono fun e w' ⟨he,hw⟩=>⟨_,he,?_,hw ▸ Below.alloc (Below.refl _ _) (Uag _) _⟩
 show Rds w' (Av G S w') _ (.sl (rS (J6 s sep)))
 have hl:(rS (J6 s sep)).length=Lib.countB s sep+1:=by rw[Uab];exact hlen
 rw[<-hl]
 refine Rds.sl w.heap.size 0 _ 1 _ (fun i _=>.string ((J6 s sep).getD i ⟨#[]⟩)) ⟨by rw[hw];show w.heap.size<(w.heap.push _).size;rw[Array.size_push];exact UaX _,fun id ob ho hown=>absurd (JP (hok.obs id ob ho) hown) (Ua1 _)⟩ (Zce (fun n:ByteArray=>[ts n]) (fun _=>rfl) _) (Uag _) (fun i e j t h1 h2=>?_) fun i e j t h1 h2=>?_
 ·have hi:i<(J6 s sep).length:=by
   have:=(Uac.1 h1).1
   rw[Uab] at this
   exact this
  have e1:(rS (J6 s sep))[i]? = some [ts (J6 s sep)[i]]:=by simp [hi]
  rw[e1] at h1
  have h1':=UaM h1
  subst h1'
  have hj:j=0:=by
   have:=(Uac.1 h2).1
   simp at this
   exact this
  subst hj
  rw[hw,Uay,Nat.mul_one,Nat.add_zero,World.cell?_alloc_mark]
  show ((Lib.splitB sep 0 (Lib.countB s sep) s).map Value.string).toArray[i]? = _
  have hi':i<(Lib.splitB sep 0 (Lib.countB s sep) s).length:=hi
  rw[Ubn,Uax,Uaf hi']
  simp [J6,hi']
 ·have hi:i<(J6 s sep).length:=by
   have:=(Uac.1 h1).1
   rw[Uab] at this
   exact this
  have e1:(rS (J6 s sep))[i]? = some [ts (J6 s sep)[i]]:=by simp [hi]
  rw[e1] at h1
  have h1':=UaM h1
  subst h1'
  have hj:j=0:=by
   have:=(Uac.1 h2).1
   simp at this
   exact this
  subst hj
  have ht:ts (J6 s sep)[i]=t:=UaM h2
  subst ht
  simp only[List.getD_eq_getElem?_getD,Uaf hi,Option.getD_some]
  exact Rds.v _ rfl
def ZhN(s:ByteArray):Int:=match Lib.atoiAll (bl s) with | .ok v=>v | .range=>Lib.atoiSat (bl s) | _=>0
theorem Zur(s:ByteArray)(hs:s.size<=4000000000)(v:Int)(h:Lib.atoiAll (bl s) = .ok v)(lvl:Nat)(S:Zc):Sem UbY ZcW lvl [iS s] S (.tu [iI v,.tr (.v .nilIface)]) S:=by
 refine Zci (XF (by kernel_rfl)) rfl (by simp [low,men,Za]) fun _ G w vs _ hv=>?_
 rw[X3 (xs:=[.string s]) hv]
 refine(Go.Proofs.Any.strconv_Atoi_ok Proofs.Tryz.laysC172 s (by omega) v h w).mono fun e w' ⟨he,hw⟩=>⟨_,he,?_,by rcases hw with rfl | ⟨t,rfl⟩;exact Below.refl _ _;exact Lib.bytesWorld_below _ _ _⟩
 simp only[VR]
 exact⟨_,rfl,Zch (xs:=[.int .i64 v,.nilIface]) fun y hy=>by
  simp only[UaF,Ua9,or_false] at hy
  rcases hy with rfl | rfl <;> rfl⟩
theorem Zus(s:ByteArray)(hs:s.size<=4000000000)(h:∀ v,Lib.atoiAll (bl s) ≠ .ok v)(lvl:Nat)(S:Zc):Sem UbY ZcW lvl [iS s] S (.tu [iI (ZhN s),.er]) S:=by
 refine UL (XF (by kernel_rfl)) rfl (by simp [low,men,Za]) fun _ G w vs _ hv hf=>?_
 rw[X3 (xs:=[.string s]) hv]
 obtain⟨_,_,⟨t,p,h3⟩,⟨t',p',h4⟩⟩:=Zdx hf
 have Jd:∀(x:Int) (T:TypeId) (a:Value) (w':World),VR G S w' (.tu [iI x,.er]) (.tuple #[.int .i64 x,.iface T a]):=fun x T a w' => by
  simp only[VR,Zk]
  exact⟨_,rfl,_,_,rfl,Rds.v _ rfl,_,_,rfl,⟨_,_,rfl⟩,rfl⟩
 unfold ZhN
 cases e:Lib.atoiAll (bl s)
 ·exact absurd e (h _)
 ·exact(Go.Proofs.Any.strconv_Atoi_syntax_var Proofs.Tryz.laysC172 s (by omega) e t p w h3).mono fun e w' ⟨N,he,_,_,hb⟩=>⟨_,he,Jd _ _ _ _,hb⟩
 ·exact(Go.Proofs.Any.strconv_Atoi_range_var Proofs.Tryz.laysC172 s (by omega) e t' p' w h4).mono fun e w' ⟨N,he,_,_,hb⟩=>⟨_,he,Jd _ _ _ _,hb⟩
def n64(n:Int):Prop:=-9223372036854775808<=n/\n<=9223372036854775807
theorem Zut(n:Int)(hn:n64 n)(lvl:Nat)(S:Zc):Sem UbY Zc7 lvl [iI n] S (iS (Jo n)) S:=by
 obtain⟨h0,h1⟩:=hn
 refine UL (XF (by kernel_rfl)) rfl trivial fun _ G w vs _ hv hf=>?_
 rw[X3 (xs:=[.int .i64 n]) hv]
 exact(Go.Proofs.Any.strconv_Itoa Proofs.Tryz.laysM171 n (by omega) (by omega) w (Zdx hf).1).mono fun e w' ⟨h,k,os,h'⟩=>⟨_,h,.v _ rfl,h' ▸ Go.Lib.below_grow _ w (Uag _) k os⟩
theorem Zuu(n:Int)(hn:n64 n)(lvl:Nat)(S:Zc):Sem UbY XC lvl [iI n] S (iS (Jo n)) S:=by
 refine ZA ZgZ trivial ?_
 simp only[Zdc,Zb,seval,Za,men]
 refine Zi (Zut n hn) ?_
 simp only[Zb,seval,Za,men]
def Jp(s:ByteArray):Option Int:=match Lib.atoiAll (bl s) with | .ok v=>if Jo v=s then some v else none | _=>none
theorem Zdy(s:ByteArray)(hs:s.size<=4000000000)(lvl:Nat)(S:Zc):Sem UbY UP lvl [iS s] S (.tu [iI ((Jp s).getD 0),iB (Jp s).isSome]) S:=by
 refine ZA Ztk (by simp [low,men,Za]) ?_
 simp only[ZgJ,Zb,seval,Za,men]
 by_cases hv:∃ v,Lib.atoiAll (bl s) = .ok v
 ·obtain⟨v,hv⟩:=hv
  refine Zi (Zur s hs v hv) ?_
  simp only[Zb,seval,Za,men]
  refine Zi (Zuu v (Lib.atoiAll_bounds hv)) ?_
  by_cases e:Jo v=s
  ·have hr:Jp s=some v:=by unfold Jp;rw[hv];exact if_pos e
   have e':=eq_true e
   rw[hr]
   simp only[e',ne_eq,not_true_eq_false,Option.isSome_some,Zb,seval,Za,men]
   try rfl
  ·have hr:Jp s=none:=by unfold Jp;rw[hv];exact if_neg e
   have e':=eq_false e
   rw[hr]
   simp only[e',ne_eq,not_false_eq_true,Option.isSome_none,Zb,seval,Za,men]
   try rfl
 ·have hr:Jp s=none:=by
   unfold Jp
   split
   ·rename_i u hu;exact absurd ⟨u,hu⟩ hv
   ·rfl
  refine Zi (Zus s hs fun v h=>hv ⟨v,h⟩) ?_
  rw[hr]
  simp only[Option.isSome_none,Zb,seval,Za,men]
  try rfl
theorem ZaP(s:ByteArray)(b:UInt8)(hs:s.size<=2000000)(lvl:Nat)(S:Zc):Sem UbY WQ lvl [iS s,iU b] S (.ow 1 (rS (Js s b)) true) S:=by
 refine ZA Zti trivial ?_
 simp only[ZgH,Zb,seval,Za,men]
 refine Z7 (α:=Unit) s.size (fun j _=>[(5,.hd (lvl,256) [] 0 (Zz s b j).1.length none (Zz s b j).1.length),(6,iI (Zz s b j).2),(11,iI j)]) (fun j _=>[(256,.ar 1 (rS (Zz s b j).1) true (Zz s b j).1.length 0)]) (fun _ _=>True) () (by simp only[Zb,seval,Za,men]) (by (simp only[Zb,seval,Za,men]) <;> rfl) trivial ?_
 intro j _ hj _
 have hle:=U0 (s:=s) (b:=b) (i:=j)
 have hln:=ZaL (s:=s) (b:=b) (i:=j)
 simp only[Zb,seval,Za,men]
 refine Zu (fun hlt=>?_) (fun hge=>?_)
 ·have hja:j<s.size:=by omega
  have hjl:j<(bl s).length:=by rw[Z3];exact hja
  have gb:s.data.toList[j]? = some (bl s)[j]:=Uaf hjl
  have gb2:(bl s)[j]? = some (bl s)[j]:=Uaf hjl
  simp only[gb,Int.toNat_natCast,Zb,seval,Za,men]
  refine Zu (fun he=>?_) (fun hne=>?_)
  ·have hsp:Zz s b (j+1)=((Zz s b j).1++[s.extract (Zz s b j).2 j],j+1):=by
    rw[Zz,if_pos (by rw[gb2,u8_inj.1 he])]
   have hmx:max (Zz s b j).1.length ((Zz s b j).1.length+1)=(Zz s b j).1.length+1:=by omega
   have e1:rS (Zz s b j).1++[[ts (s.extract (Zz s b j).2 j)]]=rS (Zz s b (j+1)).1:=by
    rw[hsp,ZaO]
    rfl
   have e2:(Zz s b (j+1)).1.length=(Zz s b j).1.length+1:=by rw[hsp];simp
   have e3:(Zz s b (j+1)).2=j+1:=by rw[hsp]
   simp only[hmx,e1,Uab,Int.toNat_natCast,Zb,seval,Za,men]
   exact⟨hle,by omega,by omega,by rw[Zl];omega,by rw[Zl];omega,ZC () hja (by rw[e2,e3];rfl) trivial⟩
  ·have hsp:Zz s b (j+1)=Zz s b j:=by
    rw[Zz,if_neg (by rw[gb2];intro q;exact hne (u8_inj.2 (UaM q)))]
   exact⟨by rw[Zl];omega,ZC () hja (by rw[hsp];rfl) trivial⟩
 ·have hj1:j=s.size:=by omega
  subst hj1
  have hmx:max (Zz s b s.size).1.length ((Zz s b s.size).1.length+1)=(Zz s b s.size).1.length+1:=by omega
  have e1:rS (Zz s b s.size).1++[[ts (s.extract (Zz s b s.size).2 s.size)]]=rS (Js s b):=by
   unfold Js
   rw[ZaO]
   rfl
  have e2:(Js s b).length=(Zz s b s.size).1.length+1:=by simp [Js]
  simp only[hmx,e1,e2,Uab,Int.toNat_natCast,Zb,seval,Za,men]
  exact⟨hle,by omega⟩
theorem U1(s:ByteArray)(b:UInt8)(hs:s.size<=2000000)(lvl:Nat)(S:Zc):Sem UbY X9 lvl [iS s,iU b] S (.ow 1 (rS (Js s b)) true) S:=by
 refine ZA Zta trivial ?_
 simp only[Zgz,Zb,seval,Za,men]
 refine Z7 (α:=Unit) s.size (fun j _=>[(5,.hd (lvl,256) [] 0 (Zz s b j).1.length none (Zz s b j).1.length),(6,iI (Zz s b j).2),(7,iI j)]) (fun j _=>[(256,.ar 1 (rS (Zz s b j).1) true (Zz s b j).1.length 0)]) (fun _ _=>True) () (by simp only[Zb,seval,Za,men]) (by (simp only[Zb,seval,Za,men]) <;> rfl) trivial ?_
 intro j _ hj _
 have hle:=U0 (s:=s) (b:=b) (i:=j)
 have hln:=ZaL (s:=s) (b:=b) (i:=j)
 simp only[Zb,seval,Za,men]
 refine Zu (fun hlt=>?_) (fun hge=>?_)
 ·have hja:j<s.size:=by omega
  have hjl:j<(bl s).length:=by rw[Z3];exact hja
  have gb:s.data.toList[j]? = some (bl s)[j]:=Uaf hjl
  have gb2:(bl s)[j]? = some (bl s)[j]:=Uaf hjl
  simp only[gb,Int.toNat_natCast,Zb,seval,Za,men]
  refine Zu (fun he=>?_) (fun hne=>?_)
  ·have hsp:Zz s b (j+1)=((Zz s b j).1++[s.extract (Zz s b j).2 j],j+1):=by
    rw[Zz,if_pos (by rw[gb2,u8_inj.1 he])]
   have hmx:max (Zz s b j).1.length ((Zz s b j).1.length+1)=(Zz s b j).1.length+1:=by omega
   have e1:rS (Zz s b j).1++[[ts (s.extract (Zz s b j).2 j)]]=rS (Zz s b (j+1)).1:=by
    rw[hsp,ZaO]
    rfl
   have e2:(Zz s b (j+1)).1.length=(Zz s b j).1.length+1:=by rw[hsp];simp
   have e3:(Zz s b (j+1)).2=j+1:=by rw[hsp]
   simp only[hmx,e1,Uab,Int.toNat_natCast,Zb,seval,Za,men]
   exact⟨hle,by omega,by omega,by rw[Zl];omega,by rw[Zl];omega,ZC () hja (by rw[e2,e3];rfl) trivial⟩
  ·have hsp:Zz s b (j+1)=Zz s b j:=by
    rw[Zz,if_neg (by rw[gb2];intro q;exact hne (u8_inj.2 (UaM q)))]
   exact⟨by rw[Zl];omega,ZC () hja (by rw[hsp];rfl) trivial⟩
 ·have hj1:j=s.size:=by omega
  subst hj1
  have hmx:max (Zz s b s.size).1.length ((Zz s b s.size).1.length+1)=(Zz s b s.size).1.length+1:=by omega
  have e1:rS (Zz s b s.size).1++[[ts (s.extract (Zz s b s.size).2 s.size)]]=rS (Js s b):=by
   unfold Js
   rw[ZaO]
   rfl
  have e2:(Js s b).length=(Zz s b s.size).1.length+1:=by simp [Js]
  simp only[hmx,e1,e2,Uab,Int.toNat_natCast,Zb,seval,Za,men]
  exact⟨hle,by omega⟩
theorem occ1{l:List UInt8}{b:UInt8}{j:Nat}:Lib.occAt l [b] j=true↔l[j]? = some b:=by
 constructor
 ·intro h
  exact Zdu (k:=0) h rfl
 ·intro h
  unfold Lib.occAt
  rw[List.isPrefixOf_iff_prefix]
  have hl:=(Uac.1 h).1
  rw[Uaf hl] at h
  rw[Ua3 hl,UaM h]
  exact⟨_,rfl⟩
theorem Zuv{l:List UInt8}{b:UInt8}{j:Nat}(h:l[j]? ≠ some b):Lib.occAt l [b] j=false:=by
 cases e:Lib.occAt l [b] j
 ·rfl
 ·exact absurd (occ1.1 e) h
abbrev Vv(b:UInt8):ByteArray:=⟨#[b]⟩
theorem ZhO{s sep:ByteArray}{i:Nat}(h:Lib.index (bl s) (bl sep)=i):JW s sep=(s.extract 0 i,s.extract (i+sep.size) s.size):=by
 obtain⟨h1,h2,_⟩:=Lib.cutB_hit s sep i h
 exact Prod.ext h1 h2
theorem ZhP{s sep:ByteArray}(h:Lib.index (bl s) (bl sep) = -1):JW s sep=(s,⟨#[]⟩):=by
 obtain⟨h1,h2,_⟩:=Lib.cutB_miss s sep h
 exact Prod.ext h1 h2
theorem Zuw(s:ByteArray)(b:UInt8)(hs:s.size<=2000000)(lvl:Nat)(S:Zc):Sem UbY ZcA lvl [iS s,iU b] S (.tu [iS (JW s (Vv b)).1,iS (JW s (Vv b)).2]) S:=by
 refine ZA Ztb (by simp [low,men,Za]) ?_
 simp only[ZgA,Zb,seval,Za,men]
 refine Z7 (α:=Unit) s.size (fun j _=>[(6,iI j)]) (fun _ _=>[]) (fun j _=>Lib.NoOcc (bl s) [b] j) () (by simp only[Zb,seval,Za,men]) (by (simp only[Zb,seval,Za,men]) <;> rfl) (Lib.NoOcc.zero _ _) ?_
 intro j _ hj hA
 simp only[Zb,seval,Za,men]
 refine Zu (fun hlt=>?_) (fun hge=>?_)
 ·have hja:j<s.size:=by omega
  have hjl:j<(bl s).length:=by rw[Z3];exact hja
  have gb:s.data.toList[j]? = some (bl s)[j]:=Uaf hjl
  have gb2:(bl s)[j]? = some (bl s)[j]:=Uaf hjl
  simp only[gb,Int.toNat_natCast,Zb,seval,Za,men]
  refine Zu (fun he=>?_) (fun hne=>?_)
  ·have ho:Lib.occAt (bl s) [b] j=true:=occ1.2 (by rw[gb2,u8_inj.1 he])
   have hc:=ZhO (s:=s) (sep:=Vv b) (i:=j) (Lib.index_hit hA (by omega) ho)
   rw[show (Vv b).size=1 from rfl] at hc
   rw[hc]
   have e9:((j:Int)+1).toNat=j+1:=by omega
   simp only[e9,Int.toNat_natCast,Zb,seval,Za,men]
   repeat' first | omega | (rw[Zl];omega) | rfl | refine Uaa ?_ ?_
  ·exact⟨by rw[Zl];omega,ZC () hja rfl (hA.succ (Zuv (by rw[gb2];intro q;exact hne (u8_inj.2 (UaM q)))))⟩
 ·have hj1:j=s.size:=by omega
  subst hj1
  have hc:=ZhP (s:=s) (sep:=Vv b) (Lib.index_past (by show [b]≠[];simp) hA (by show (bl s).length<s.size+1;rw[Z3];omega))
  rw[hc]
def JA(sig:List TControl)(nm:ByteArray):Int:=YO (fun d:TControl=>decide (d.name=nm)) sig 0
theorem Zux(nm:ByteArray)(d:TControl)(lvl:Nat)(S:Zc):Sem UbY Zaz lvl [.ag ((Zp d).map .tr),.ta [ts nm]] S (iB (decide (d.name=nm))) S:=by
 refine ZA ZtI trivial ?_
 simp only[Zg8,Zp,Zb,seval,Za,men]
theorem Zuy(sig:List TControl)(nm:ByteArray)(hl:sig.length<=4294967296)(lvl:Nat)(S:Zc):Sem UbY ZcV lvl [.tr (.sl (sig.map Zp)),iS nm] S (iI (JA sig nm)) S:=by
 refine ZA Ztz trivial ?_
 simp only[ZgY,Uab,Zb,seval,Za,men]
 refine Zi (Zhe (P:=UbY) Zhl Zct (f:=fun d:TControl=>decide (d.name=nm)) (fe:=Zaz) (cs:=[[ts nm]]) sig (by omega) (fun d _ lvl S=>Zux nm d lvl S)) ?_
 simp only[Zb,seval,Za,men]
 try rfl
theorem Zuz{α:Type}{f:α->Bool}{j:Int}:YO f [] j = -1:=rfl
theorem ZuA(sig:List TControl)(nm:ByteArray)(hl:sig.length<=4294967296)(lvl:Nat)(S:Zc):Sem UbY ZcP lvl [.tr (.sl (sig.map Zp)),iS nm] S (iI (JA sig nm)) S:=by
 refine ZA Ztp trivial ?_
 simp only[ZgO,Uab,Zb,seval,Za,men]
 refine Z7 (α:=Unit) sig.length (fun j _=>[(5,iI j)]) (fun _ _=>[]) (fun j _=>JA sig nm=YO (fun d:TControl=>decide (d.name=nm)) (sig.drop j) j) () (by simp only[Zb,seval,Za,men]) (by (simp only[Zb,seval,Za,men]) <;> rfl) rfl ?_
 intro j _ hj hA
 simp only[Uab,Zb,seval,Za,men]
 refine Zu (fun hlt=>?_) (fun hge=>?_)
 ·have hja:j<sig.length:=by omega
  have ga:=Jn (c:=Zp) hja
  rw[ZaD hja,WT] at hA
  simp only[ga,Zp,Uab,Zb,seval,Za,men]
  refine Zu (fun he=>?_) (fun hne=>?_)
  ·rw[if_pos (by simp [he])] at hA
   rw[hA]
  ·rw[if_neg (by simp [hne])] at hA
   exact⟨by rw[Zl];omega,ZC () hja rfl hA⟩
 ·have hj1:j=sig.length:=by omega
  subst hj1
  rw[Ubr,Zuz] at hA
  rw[hA]
def YR(rd:ByteArray->Option Int)(ws:List ByteArray):Bool:=ws.all fun w=>(rd w).isSome
def JX(rd:ByteArray->Option Int)(ws:List ByteArray):List Int:=if YR rd ws=true then ws.map fun w=>(rd w).getD 0 else []
theorem ZhQ{rd:ByteArray->Option Int}{ws:List ByteArray}{j:Nat}(hj:j<ws.length)(h:(rd ws[j]).isSome=false):YR rd ws=false:=by
 cases e:YR rd ws
 ·rfl
 ·unfold YR at e
  rw[UaZ] at e
  have:=e _ (Ual hj)
  rw[h] at this
  cases this
theorem ZhR{rd:ByteArray->Option Int}{ws:List ByteArray}(h:∀ j (hj:j<ws.length),(rd ws[j]).isSome=true):YR rd ws=true:=by
 unfold YR
 rw[UaZ]
 intro w hw
 obtain⟨j,hj,rfl⟩:=UaR hw
 exact h j hj
def YZ(rd:ByteArray->Option Int)(ws:List ByteArray)(j:Nat):List Int:=(ws.take j).map fun w=>(rd w).getD 0
theorem ZaQ{rd:ByteArray->Option Int}{ws:List ByteArray}{j:Nat}(hj:j<=ws.length):(YZ rd ws j).length=j:=by
 unfold YZ;rw[Uab,Uak];omega
theorem ZhS{rd:ByteArray->Option Int}{ws:List ByteArray}{j:Nat}(hj:j<ws.length):YZ rd ws (j+1)=YZ rd ws j++[(rd ws[j]).getD 0]:=by
 unfold YZ;rw[Uah hj,Uaz];rfl
theorem Zdz{rd:ByteArray->Option Int}{ws:List ByteArray}:(JX rd ws).length<=ws.length:=by
 unfold JX;split <;> simp
theorem ZuB(ws:List ByteArray)(hs:∀ w∈ws,w.size<=4000000000)(hl:ws.length<=3000000)(lvl:Nat)(S:Zc):Sem UbY ZcG lvl [tS ws] S (.tu [.ow 1 (rI (JX Jp ws)) true,iB (YR Jp ws)]) S:=by
 refine ZA Ztj (by simp [low,men,Za]) ?_
 simp only[ZgI,Uab,Zb,seval,Za,men]
 refine Z7 (α:=Unit) ws.length (fun j _=>[(4,.hd (lvl,288) [] 0 j none j),(12,iI j)]) (fun j _=>[(288,.ar 1 (rI (YZ Jp ws j)) true j 0)]) (fun j _=>∀ i (hi:i<ws.length),i<j->(Jp ws[i]).isSome=true) () (by simp only[Zb,seval,Za,men]) (by (simp only[Zb,seval,Za,men]) <;> rfl) (fun i _ h=>absurd h (UaE i)) ?_
 intro j _ hj hA
 simp only[Uab,Zb,seval,Za,men]
 refine Zu (fun hlt=>?_) (fun hge=>?_)
 ·have hja:j<ws.length:=by omega
  have ga:=Jn (c:=fun n:ByteArray=>[ts n]) hja
  have hmx:max j (j+1)=j+1:=by omega
  have htl:=ZaQ (rd:=Jp) (ws:=ws) (j:=j) (by omega)
  have st:rI (YZ Jp ws j)++[[tv ((Jp ws[j]).getD 0)]]=rI (YZ Jp ws (j+1)):=by rw[ZhS hja,WU];rfl
  simp only[ga,Uab,Zb,seval,Za,men]
  refine Zi (Zdy ws[j] (hs _ (Ual hja))) ?_
  cases hb:(Jp ws[j]).isSome
  ·have hno:=ZhQ hja hb
   rw[JX,hno]
   simp only[Zb,seval,Za,men]
   try rfl
  ·simp only[htl,hmx,st,Uab,Zb,seval,Za,men]
   exact⟨by omega,by rw[Zl];omega,ZC () hja rfl fun i hi hij=>by
    by_cases e:i=j
    ·subst e;exact hb
    ·exact hA i hi (by omega)⟩
 ·have hj1:j=ws.length:=by omega
  subst hj1
  have hyes:YR Jp ws=true:=ZhR fun i hi=>hA i hi hi
  have ht:YZ Jp ws ws.length=JX Jp ws:=by unfold YZ JX;rw[if_pos hyes,UaC]
  have hln:(JX Jp ws).length=ws.length:=by rw[<-ht];exact ZaQ (Uag _)
  rw[ht,hyes]
  simp only[hln,Uab,Zb,seval,Za,men]
  try rfl
end Go.Fd
