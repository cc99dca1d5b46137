/-
  The annotated codes of the functions, printed by a program of mine (gen.py), and the check that they belong to the program.
-/
import Derived.Test.YtnioooiiegjabaaGreatDoorT04
import Derived.KernelRfl
import Derived.Shelf.Strings.SlTrimAscii
import Derived.Test.YtnioooiiegjabaaGreatDoorProg
set_option linter.all false
namespace Go.Fd
def c_spec_JoinOf : F2 :=
  { nt := 28, res := [.c 6 (some 5) [2, 2, 2, 2, 3], .t 7 [0]], body :=
   (.sq (rg [oo 4 (.bt (.t 1)),
 oo 5 (.bt (.t 2)),
 oo 6 (.al [.slice none 0 0, .slice none 0 0, .slice none 0 0, .slice none 0 0, .slice none 0 0] []),
 om 7 (.k (.bool false))])
 (.sq (.sq (rg [om 8 (.t 0),
 oo 9 (.ld (some 5) (.t 4)),
 oo 10 (.ca .pure false (.f fid_spec_l7Good) [.t 8, .t 9]),
 oo 11 (.nt (.t 10)),
 om 12 (.t 11),
 og 13 12 false (.mv (.t 0) none),
 og 14 12 false (.ld (some 5) (.t 5)),
 og 15 12 false (.ca .pure false (.f fid_spec_l7Good) [.t 13, .t 14]),
 og 16 12 false (.nt (.t 15)),
 oo 17 (.pk (.t 12) (.k (.bool true)) (.t 16)),
 om 18 (.t 17),
 og 19 18 false (.ld (some 5) (.t 4)),
 og 20 18 false (.ld (some 5) (.t 5)),
 og 21 18 false (.ca .pure false (.f fid_spec_l7Alike) [.t 19, .t 20]),
 og 22 18 false (.nt (.t 21)),
 oo 23 (.pk (.t 18) (.k (.bool true)) (.t 22))])
 (.cd (.t 23) (.sq (rg [oo 24 (.bd [.slice none 0 0, .slice none 0 0, .slice none 0 0, .slice none 0 0, .slice none 0 0] [] []),
 on1 (.st 5 (.t 6) (.t 24)),
 om 7 (.k (.bool false))])
 (.rt))
 (.sk)))
 (.sq (rg [oo 25 (.ld (some 5) (.t 4)),
 oo 26 (.ld (some 5) (.t 5)),
 oo 27 (.ca .pure true (.f fid_spec_l7Mixed) [.t 25, .t 26, .k (.bool false)]),
 on1 (.st 5 (.t 6) (.t 27)),
 om 7 (.k (.bool true))])
 (.rt)))) }
theorem k_spec_JoinOf : chkF Go.Proofs.Tryz.prog fid_spec_JoinOf c_spec_JoinOf = true := by kernel_rfl

def c_impl_JoinOf : F2 :=
  { nt := 39, res := [.c 6 (some 5) [2, 2, 2, 2, 3], .t 7 [0]], body :=
   (.sq (rg [oo 4 (.bt (.t 1)),
 oo 5 (.bt (.t 2)),
 oo 6 (.al [.slice none 0 0, .slice none 0 0, .slice none 0 0, .slice none 0 0, .slice none 0 0] []),
 om 7 (.k (.bool false))])
 (.sq (.sq (rg [om 11 (.t 0),
 oo 12 (.ld (some 5) (.t 4)),
 oo 13 (.ld (some 5) (.t 5)),
 oo 14 (.ca .pure false (.f fid_impl_sameSorts) [.t 11, .t 12, .t 13]),
 oo 15 (.nt (.t 14))])
 (.cd (.t 15) (.sq (rg [oo 16 (.bd [.slice none 0 0, .slice none 0 0, .slice none 0 0, .slice none 0 0, .slice none 0 0] [] [(4, 2)]),
 on1 (.st 5 (.t 6) (.t 16)),
 om 7 (.k (.bool false))])
 (.rt))
 (.sk)))
 (.sq (rg [oo 17 (.ld (some 5) (.t 4)),
 oo 18 (.ld (some 5) (.t 5)),
 oo 19 (.ca .pure true (.f fid_impl_combined) [.t 17, .t 18, .f fid_impl_either, .f fid_impl_JoinOf_1]),
 oo 8 (.al [.slice none 0 0, .slice none 0 0, .slice none 0 0, .slice none 0 0, .slice none 0 0] []),
 on1 (.st 5 (.t 8) (.t 19))])
 (.sq (.sq (rg [oo 20 (.fa 4 (.t 4)),
 oo 21 (.ld none (.t 20)),
 oo 22 (.ln (.t 21)),
 om 23 (i6 0)])
 (.bl 0 (.lp [5, 6, 8, 21, 22, 23] [192, 256, 512, 608, 609, 610, 611, 612, 1120] (.sq (rg [oo 24 (.bi .lss 0 (.t 23) (.t 22))])
 (.sq (.cd (.t 24) (.sk)
 (.ex 0))
 (.sq (.bl 1 (.sq (rg [oo 25 (.ia 2 (.t 21) (.t 23)),
 oo 26 (.ld (some 2) (.t 25)),
 oo 10 (.al [.int .i64 0, .int .i64 0] []),
 on1 (.st 2 (.t 10) (.t 26))])
 (.sq (rg [oo 27 (.fa 4 (.t 5)),
 oo 28 (.ld none (.t 27)),
 oo 29 (.ld (some 2) (.t 10)),
 oo 30 (.ca .pure false (.f fid_slices_Contains_2_int_2_int) [.t 28, .t 29])])
 (.cd (.t 30) (rg [oo 31 (.fa 4 (.t 8)),
 oo 32 (.ld none (.t 31)),
 oo 33 (.ld (some 2) (.t 10)),
 oo 34 (.bs 2 1 [.int .i64 0, .int .i64 0] [(0, .t 33)]),
 oo 35 (.ap 2 0 (.t 32) (.t 34)),
 oo 36 (.fa 4 (.t 8)),
 on1 (.st 1 (.t 36) (.t 35))])
 (.sk)))))
 (rg [oo 37 (.bi .add 0 (.t 23) (i6 1)),
 om 23 (.t 37)])))))))
 (.sq (rg [oo 38 (.ld (some 5) (.t 8)),
 on1 (.st 5 (.t 6) (.t 38)),
 om 7 (.k (.bool true))])
 (.rt)))))) }
theorem k_impl_JoinOf : chkF Go.Proofs.Tryz.prog fid_impl_JoinOf c_impl_JoinOf = true := by kernel_rfl

def c_spec_l7Good : F2 :=
  { nt := 101, res := [.t 4 [0]], body :=
   (.sq (rg [oo 3 (.bt (.t 1)),
 om 4 (.k (.bool false))])
 (.sq (.sq (rg [om 8 (.t 0),
 oo 9 (.ca .pure false (.f fid_spec_l2Sig) [.t 8]),
 oo 10 (.nt (.t 9)),
 om 11 (.t 10),
 og 12 11 false (.mv (.t 0) none),
 og 13 11 false (.fa 0 (.t 3)),
 og 14 11 false (.ld none (.t 13)),
 og 15 11 false (.ca .pure false (.f fid_spec_l7Controls) [.t 12, .t 14]),
 og 16 11 false (.nt (.t 15)),
 oo 17 (.pk (.t 11) (.k (.bool true)) (.t 16)),
 om 18 (.t 17),
 og 19 18 false (.mv (.t 0) none),
 og 20 18 false (.fa 1 (.t 3)),
 og 21 18 false (.ld none (.t 20)),
 og 22 18 false (.ca .pure false (.f fid_spec_l7Nest) [.t 19, .t 21]),
 og 23 18 false (.nt (.t 22)),
 oo 24 (.pk (.t 18) (.k (.bool true)) (.t 23)),
 om 25 (.t 24),
 og 26 25 false (.fa 3 (.t 3)),
 og 27 25 false (.ld none (.t 26)),
 og 28 25 false (.ln (.t 27)),
 og 29 25 false (.ca .pure false (.f fid_spec_l1In) [.t 28, i6 1, i6 4]),
 og 30 25 false (.nt (.t 29)),
 oo 31 (.pk (.t 25) (.k (.bool true)) (.t 30)),
 om 32 (.t 31),
 og 33 32 false (.mv (.t 0) none),
 og 34 32 false (.fa 2 (.t 3)),
 og 35 32 false (.ld none (.t 34)),
 og 36 32 false (.fa 3 (.t 3)),
 og 37 32 false (.ld none (.t 36)),
 og 38 32 false (.ln (.t 37)),
 og 39 32 false (.ca .pure false (.f fid_spec_l7Sorts) [.t 33, .t 35, .t 38]),
 og 40 32 false (.nt (.t 39)),
 oo 41 (.pk (.t 32) (.k (.bool true)) (.t 40))])
 (.cd (.t 41) (.sq (rg [om 4 (.k (.bool false))])
 (.rt))
 (.sk)))
 (.sq (.sq (rg [om 5 (i6 0)])
 (.bl 0 (.lp [3, 5] [] (.sq (.sq (rg [om 42 (.t 5),
 oo 43 (.fa 3 (.t 3)),
 oo 44 (.ld none (.t 43)),
 oo 45 (.ln (.t 44)),
 oo 46 (.bi .lss 0 (.t 42) (.t 45))])
 (.cd (.t 46) (.sk)
 (.ex 0)))
 (.sq (.bl 1 (.sq (rg [oo 49 (.fa 3 (.t 3)),
 oo 50 (.ld none (.t 49)),
 om 51 (.t 5),
 oo 52 (.ia 1 (.t 50) (.t 51)),
 oo 53 (.ld none (.t 52)),
 oo 54 (.ca .pure false (.f fid_spec_l1In) [.t 53, i6 0, i6 24]),
 oo 55 (.nt (.t 54))])
 (.cd (.t 55) (.sq (rg [om 4 (.k (.bool false))])
 (.rt))
 (.sk))))
 (rg [om 47 (.t 5),
 oo 48 (.bi .add 0 (.t 47) (i6 1)),
 om 5 (.t 48)]))))))
 (.sq (.sq (rg [om 6 (i6 0)])
 (.bl 2 (.lp [3, 6] [] (.sq (.sq (rg [om 56 (.t 6),
 oo 57 (.fa 4 (.t 3)),
 oo 58 (.ld none (.t 57)),
 oo 59 (.ln (.t 58)),
 oo 60 (.bi .lss 0 (.t 56) (.t 59))])
 (.cd (.t 60) (.sk)
 (.ex 2)))
 (.sq (.bl 3 (.sq (rg [oo 63 (.fa 4 (.t 3)),
 oo 64 (.ld none (.t 63)),
 om 65 (.t 6),
 oo 66 (.ia 2 (.t 64) (.t 65)),
 oo 67 (.ld (some 2) (.t 66)),
 oo 7 (.al [.int .i64 0, .int .i64 0] []),
 on1 (.st 2 (.t 7) (.t 67))])
 (.sq (.rg (some 0) [oo 68 (.ja 1 2 (.t 7) (i6 0)),
 oo 69 (.ld none (.t 68)),
 oo 70 (.bi .lss 0 (.t 69) (i6 0)),
 om 71 (.t 70),
 og 72 71 false (.ja 1 2 (.t 7) (i6 0)),
 og 73 71 false (.ld none (.t 72)),
 og 74 71 false (.ja 1 2 (.t 7) (i6 1)),
 og 75 71 false (.ld none (.t 74)),
 og 76 71 false (.bi .geq 0 (.t 73) (.t 75)),
 oo 77 (.pk (.t 71) (.k (.bool true)) (.t 76)),
 om 78 (.t 77),
 og 79 78 false (.ja 1 2 (.t 7) (i6 1)),
 og 80 78 false (.ld none (.t 79)),
 og 81 78 false (.fa 3 (.t 3)),
 og 82 78 false (.ld none (.t 81)),
 og 83 78 false (.ln (.t 82)),
 og 84 78 false (.bi .geq 0 (.t 80) (.t 83)),
 oo 85 (.pk (.t 78) (.k (.bool true)) (.t 84)),
 om 86 (.t 85),
 og 87 86 false (.mv (.t 6) none),
 og 88 86 false (.bi .gtr 0 (.t 87) (i6 0)),
 og 89 86 false (.mv (.t 88) none),
 og 90 89 true (.fa 4 (.t 3)),
 og 91 89 true (.ld none (.t 90)),
 og 92 89 true (.mv (.t 6) none),
 og 93 89 true (.bi .sub 0 (.t 92) (i6 1)),
 og 94 89 true (.ia 2 (.t 91) (.t 93)),
 og 95 89 true (.ld (some 2) (.t 94)),
 og 96 89 true (.ld (some 2) (.t 7)),
 og 97 89 true (.ca .pure false (.f fid_spec_l7Before) [.t 95, .t 96]),
 og 98 89 true (.nt (.t 97)),
 og 99 86 false (.pk (.t 89) (.t 98) (.k (.bool false))),
 oo 100 (.pk (.t 86) (.k (.bool true)) (.t 99))])
 (.cd (.t 100) (.sq (rg [om 4 (.k (.bool false))])
 (.rt))
 (.sk)))))
 (rg [om 61 (.t 6),
 oo 62 (.bi .add 0 (.t 61) (i6 1)),
 om 6 (.t 62)]))))))
 (.sq (rg [om 4 (.k (.bool true))])
 (.rt)))))) }
theorem k_spec_l7Good : chkF Go.Proofs.Tryz.prog fid_spec_l7Good c_spec_l7Good = true := by kernel_rfl

def c_impl_IsSorting : F2 :=
  { nt := 104, res := [.t 4 [0]], body :=
   (.sq (rg [oo 3 (.bt (.t 1)),
 om 4 (.k (.bool false))])
 (.sq (.sq (rg [om 7 (.t 0),
 oo 8 (.ca .pure false (.f fid_impl_IsSignature) [.t 7]),
 oo 9 (.nt (.t 8)),
 om 10 (.t 9),
 og 11 10 false (.fa 0 (.t 3)),
 og 12 10 false (.ld none (.t 11)),
 og 13 10 false (.mv (.t 0) none),
 og 14 10 false (.ln (.t 13)),
 og 15 10 false (.ca .pure false (.f fid_impl_isRising) [.t 12, .t 14]),
 og 16 10 false (.nt (.t 15)),
 oo 17 (.pk (.t 10) (.k (.bool true)) (.t 16)),
 om 18 (.t 17),
 og 19 18 false (.fa 1 (.t 3)),
 og 20 18 false (.ld none (.t 19)),
 og 21 18 false (.ln (.t 20)),
 og 22 18 false (.mv (.t 0) none),
 og 23 18 false (.ln (.t 22)),
 og 24 18 false (.bi .neq 0 (.t 21) (.t 23)),
 oo 25 (.pk (.t 18) (.k (.bool true)) (.t 24)),
 om 26 (.t 25),
 og 27 26 false (.fa 2 (.t 3)),
 og 28 26 false (.ld none (.t 27)),
 og 29 26 false (.ln (.t 28)),
 og 30 26 false (.mv (.t 0) none),
 og 31 26 false (.ln (.t 30)),
 og 32 26 false (.bi .neq 0 (.t 29) (.t 31)),
 oo 33 (.pk (.t 26) (.k (.bool true)) (.t 32))])
 (.cd (.t 33) (.sq (rg [om 4 (.k (.bool false))])
 (.rt))
 (.sk)))
 (.sq (.sq (rg [oo 34 (.fa 3 (.t 3)),
 oo 35 (.ld none (.t 34)),
 oo 36 (.ln (.t 35)),
 oo 37 (.ca .pure false (.f fid_impl_within) [.t 36, i6 1, i6 4]),
 oo 38 (.nt (.t 37)),
 om 39 (.t 38),
 og 40 39 false (.fa 3 (.t 3)),
 og 41 39 false (.ld none (.t 40)),
 og 42 39 false (.ca .pure false (.f fid_slices_ContainsFunc_int_int) [.t 41, .f fid_impl_IsSorting_1]),
 oo 43 (.pk (.t 39) (.k (.bool true)) (.t 42)),
 om 44 (.t 43),
 og 45 44 false (.fa 4 (.t 3)),
 og 46 44 false (.ld none (.t 45)),
 og 47 44 false (.fa 3 (.t 3)),
 og 48 44 false (.ld none (.t 47)),
 og 49 44 false (.ln (.t 48)),
 og 50 44 false (.ca .pure false (.f fid_impl_arePairs) [.t 46, .t 49]),
 og 51 44 false (.nt (.t 50)),
 oo 52 (.pk (.t 44) (.k (.bool true)) (.t 51))])
 (.cd (.t 52) (.sq (rg [om 4 (.k (.bool false))])
 (.rt))
 (.sk)))
 (.sq (.sq (rg [om 53 (.t 0),
 oo 54 (.ln (.t 53)),
 om 55 (i6 0)])
 (.bl 0 (.lp [0, 3, 53, 54, 55] [] (.sq (rg [oo 56 (.bi .lss 0 (.t 55) (.t 54))])
 (.sq (.cd (.t 56) (.sk)
 (.ex 0))
 (.sq (.bl 1 (.sq (rg [om 57 (.t 55),
 oo 58 (.ia 3 (.t 53) (.t 55)),
 oo 59 (.ld (some 3) (.t 58)),
 oo 6 (.al [.string ⟨#[]⟩, .int .i64 0, .int .i64 0] []),
 om 5 (.t 57),
 on1 (.st 3 (.t 6) (.t 59))])
 (.sq (.rg (some 0) [oo 60 (.fa 1 (.t 3)),
 oo 61 (.ld none (.t 60)),
 om 62 (.t 5),
 oo 63 (.ia 1 (.t 61) (.t 62)),
 oo 64 (.ld none (.t 63)),
 om 65 (.t 0),
 oo 66 (.ln (.t 65)),
 oo 67 (.ca .pure false (.f fid_impl_isRising) [.t 64, .t 66]),
 oo 68 (.nt (.t 67)),
 om 69 (.t 68),
 og 70 69 false (.fa 2 (.t 6)),
 og 71 69 false (.ld none (.t 70)),
 og 72 69 false (.bi .eql 0 (.t 71) (i6 2)),
 og 73 69 false (.mv (.t 72) none),
 og 74 73 true (.fa 1 (.t 3)),
 og 75 73 true (.ld none (.t 74)),
 og 76 73 true (.mv (.t 5) none),
 og 77 73 true (.ia 1 (.t 75) (.t 76)),
 og 78 73 true (.ld none (.t 77)),
 og 79 73 true (.ln (.t 78)),
 og 80 73 true (.bi .gtr 0 (.t 79) (i6 0)),
 og 81 69 false (.pk (.t 73) (.t 80) (.k (.bool false))),
 oo 82 (.pk (.t 69) (.k (.bool true)) (.t 81)),
 om 83 (.t 82),
 og 84 83 false (.fa 2 (.t 3)),
 og 85 83 false (.ld none (.t 84)),
 og 86 83 false (.mv (.t 5) none),
 og 87 83 false (.ia 1 (.t 85) (.t 86)),
 og 88 83 false (.ld none (.t 87)),
 og 89 83 false (.ln (.t 88)),
 og 90 83 false (.fa 1 (.t 6)),
 og 91 83 false (.ld none (.t 90)),
 og 92 83 false (.bi .neq 0 (.t 89) (.t 91)),
 oo 93 (.pk (.t 83) (.k (.bool true)) (.t 92)),
 om 94 (.t 93),
 og 95 94 false (.fa 2 (.t 3)),
 og 96 94 false (.ld none (.t 95)),
 og 97 94 false (.mv (.t 5) none),
 og 98 94 false (.ia 1 (.t 96) (.t 97)),
 og 99 94 false (.ld none (.t 98)),
 og 100 94 false (.mf fid_impl_IsSorting_2 [.t 3]),
 og 101 94 false (.ca .pure false (.f fid_slices_ContainsFunc_int_int) [.t 99, .t 100]),
 oo 102 (.pk (.t 94) (.k (.bool true)) (.t 101))])
 (.cd (.t 102) (.sq (rg [om 4 (.k (.bool false))])
 (.rt))
 (.sk)))))
 (rg [oo 103 (.bi .add 0 (.t 55) (i6 1)),
 om 55 (.t 103)])))))))
 (.sq (rg [om 4 (.k (.bool true))])
 (.rt)))))) }
theorem k_impl_IsSorting : chkF Go.Proofs.Tryz.prog fid_impl_IsSorting c_impl_IsSorting = true := by kernel_rfl

def c_spec_l7Alike : F2 :=
  { nt := 19, res := [.t 4 [0]], body :=
   (.sq (rg [oo 2 (.bt (.t 0)),
 oo 3 (.bt (.t 1)),
 om 4 (.k (.bool false))])
 (.sq (rg [oo 5 (.fa 3 (.t 2)),
 oo 6 (.ld none (.t 5)),
 oo 7 (.ln (.t 6)),
 oo 8 (.fa 3 (.t 3)),
 oo 9 (.ld none (.t 8)),
 oo 10 (.ln (.t 9)),
 oo 11 (.bi .eql 0 (.t 7) (.t 10)),
 om 12 (.t 11),
 og 13 12 true (.fa 2 (.t 2)),
 og 14 12 true (.ld none (.t 13)),
 og 15 12 true (.fa 2 (.t 3)),
 og 16 12 true (.ld none (.t 15)),
 og 17 12 true (.ca .pure false (.f fid_spec_l7SameTable) [.t 14, .t 16]),
 oo 18 (.pk (.t 12) (.t 17) (.k (.bool false))),
 om 4 (.t 18)])
 (.rt))) }
theorem k_spec_l7Alike : chkF Go.Proofs.Tryz.prog fid_spec_l7Alike c_spec_l7Alike = true := by kernel_rfl

def c_spec_l7Mixed : F2 :=
  { nt := 116, res := [.c 6 (some 5) [2, 2, 2, 2, 3]], body :=
   (.sq (rg [oo 3 (.bt (.t 0)),
 oo 4 (.bt (.t 1)),
 oo 6 (.al [.slice none 0 0, .slice none 0 0, .slice none 0 0, .slice none 0 0, .slice none 0 0] [])])
 (.sq (.rg (some 0) [oo 10 (.fa 0 (.t 3)),
 oo 11 (.ld none (.t 10)),
 oo 12 (.fa 0 (.t 4)),
 oo 13 (.ld none (.t 12)),
 oo 14 (.ca .pure false (.f fid_spec_l7Either) [.t 11, .t 13]),
 oo 15 (.bs 1 0 [] []),
 oo 16 (.fa 2 (.t 3)),
 oo 17 (.ld none (.t 16)),
 oo 18 (.ca .pure true (.f fid_spec_l7Table) [.t 17]),
 oo 19 (.bs 1 0 [] []),
 oo 20 (.fa 4 (.t 3)),
 oo 21 (.ld none (.t 20)),
 oo 22 (.fa 4 (.t 4)),
 oo 23 (.ld none (.t 22)),
 om 24 (.t 2),
 oo 25 (.nt (.t 24)),
 oo 26 (.ca .pure true (.f fid_spec_l7Pairs) [.t 21, .t 23, .t 25]),
 oo 27 (.bd [.slice none 0 0, .slice none 0 0, .slice none 0 0, .slice none 0 0, .slice none 0 0] [(0, 1, .t 14), (1, 1, .t 15), (2, 1, .t 18), (3, 1, .t 19), (4, 1, .t 26)] []),
 oo 7 (.al [.slice none 0 0, .slice none 0 0, .slice none 0 0, .slice none 0 0, .slice none 0 0] []),
 on1 (.st 5 (.t 7) (.t 27))])
 (.sq (.sq (rg [om 28 (.t 2)])
 (.cd (.t 28) (rg [oo 29 (.fa 0 (.t 3)),
 oo 30 (.ld none (.t 29)),
 oo 31 (.fa 0 (.t 4)),
 oo 32 (.ld none (.t 31)),
 oo 33 (.ca .pure true (.f fid_spec_l7Both) [.t 30, .t 32]),
 oo 34 (.fa 0 (.t 7)),
 on1 (.st 1 (.t 34) (.t 33))])
 (.sk)))
 (.sq (.sq (rg [om 8 (i6 0)])
 (.bl 0 (.lp [2, 3, 4, 6, 7, 8] [192, 224, 480, 576, 608, 832, 1056, 1824, 2336, 3104, 3616] (.sq (.sq (rg [om 35 (.t 8),
 oo 36 (.fa 1 (.t 3)),
 oo 37 (.ld none (.t 36)),
 oo 38 (.ln (.t 37)),
 oo 39 (.bi .lss 0 (.t 35) (.t 38))])
 (.cd (.t 39) (.sk)
 (.ex 0)))
 (.sq (.bl 1 (.sq (rg [om 42 (.t 2)])
 (.cd (.t 42) (.rg (some 0) [oo 43 (.fa 1 (.t 7)),
 oo 44 (.ld none (.t 43)),
 oo 45 (.fa 1 (.t 3)),
 oo 46 (.ld none (.t 45)),
 om 47 (.t 8),
 oo 48 (.ia 1 (.t 46) (.t 47)),
 oo 49 (.ld none (.t 48)),
 oo 50 (.fa 1 (.t 4)),
 oo 51 (.ld none (.t 50)),
 om 52 (.t 8),
 oo 53 (.ia 1 (.t 51) (.t 52)),
 oo 54 (.ld none (.t 53)),
 oo 55 (.ca .pure true (.f fid_spec_l7Both) [.t 49, .t 54]),
 oo 56 (.bv 1 1 [.slice none 0 0] [(0, .t 55)]),
 oo 57 (.ap 1 2 (.t 44) (.t 56)),
 oo 58 (.fa 1 (.t 7)),
 on1 (.st 1 (.t 58) (.t 57))])
 (.rg (some 0) [oo 59 (.fa 1 (.t 7)),
 oo 60 (.ld none (.t 59)),
 oo 61 (.fa 1 (.t 3)),
 oo 62 (.ld none (.t 61)),
 om 63 (.t 8),
 oo 64 (.ia 1 (.t 62) (.t 63)),
 oo 65 (.ld none (.t 64)),
 oo 66 (.fa 1 (.t 4)),
 oo 67 (.ld none (.t 66)),
 om 68 (.t 8),
 oo 69 (.ia 1 (.t 67) (.t 68)),
 oo 70 (.ld none (.t 69)),
 oo 71 (.ca .pure false (.f fid_spec_l7Either) [.t 65, .t 70]),
 oo 72 (.bv 1 1 [.slice none 0 0] [(0, .t 71)]),
 oo 73 (.ap 1 2 (.t 60) (.t 72)),
 oo 74 (.fa 1 (.t 7)),
 on1 (.st 1 (.t 74) (.t 73))]))))
 (rg [om 40 (.t 8),
 oo 41 (.bi .add 0 (.t 40) (i6 1)),
 om 8 (.t 41)]))))))
 (.sq (.sq (rg [om 9 (i6 0)])
 (.bl 2 (.lp [2, 3, 4, 6, 7, 9] [192, 224, 480, 576, 608, 832, 1056, 1824, 2336, 3104, 3616] (.sq (.sq (rg [om 75 (.t 9),
 oo 76 (.fa 3 (.t 3)),
 oo 77 (.ld none (.t 76)),
 oo 78 (.ln (.t 77)),
 oo 79 (.bi .lss 0 (.t 75) (.t 78))])
 (.cd (.t 79) (.sk)
 (.ex 2)))
 (.sq (.bl 3 (.sq (rg [om 82 (.t 2)])
 (.cd (.t 82) (.rg (some 0) [oo 83 (.fa 3 (.t 7)),
 oo 84 (.ld none (.t 83)),
 oo 85 (.fa 3 (.t 3)),
 oo 86 (.ld none (.t 85)),
 om 87 (.t 9),
 oo 88 (.ia 1 (.t 86) (.t 87)),
 oo 89 (.ld none (.t 88)),
 oo 90 (.fa 3 (.t 4)),
 oo 91 (.ld none (.t 90)),
 om 92 (.t 9),
 oo 93 (.ia 1 (.t 91) (.t 92)),
 oo 94 (.ld none (.t 93)),
 oo 95 (.ca .pure false (.f fid_spec_l1Least) [.t 89, .t 94]),
 oo 96 (.bs 1 1 [.int .i64 0] [(0, .t 95)]),
 oo 97 (.ap 1 0 (.t 84) (.t 96)),
 oo 98 (.fa 3 (.t 7)),
 on1 (.st 1 (.t 98) (.t 97))])
 (.rg (some 0) [oo 99 (.fa 3 (.t 7)),
 oo 100 (.ld none (.t 99)),
 oo 101 (.fa 3 (.t 3)),
 oo 102 (.ld none (.t 101)),
 om 103 (.t 9),
 oo 104 (.ia 1 (.t 102) (.t 103)),
 oo 105 (.ld none (.t 104)),
 oo 106 (.fa 3 (.t 4)),
 oo 107 (.ld none (.t 106)),
 om 108 (.t 9),
 oo 109 (.ia 1 (.t 107) (.t 108)),
 oo 110 (.ld none (.t 109)),
 oo 111 (.ca .pure false (.f fid_spec_l1Most) [.t 105, .t 110]),
 oo 112 (.bs 1 1 [.int .i64 0] [(0, .t 111)]),
 oo 113 (.ap 1 0 (.t 100) (.t 112)),
 oo 114 (.fa 3 (.t 7)),
 on1 (.st 1 (.t 114) (.t 113))]))))
 (rg [om 80 (.t 9),
 oo 81 (.bi .add 0 (.t 80) (i6 1)),
 om 9 (.t 81)]))))))
 (.sq (rg [oo 115 (.ld (some 5) (.t 7)),
 on1 (.st 5 (.t 6) (.t 115))])
 (.rt))))))) }
theorem k_spec_l7Mixed : chkF Go.Proofs.Tryz.prog fid_spec_l7Mixed c_spec_l7Mixed = true := by kernel_rfl

def c_impl_sameSorts : F2 :=
  { nt := 31, res := [.t 6 [0]], body :=
   (.sq (rg [oo 4 (.bt (.t 1)),
 oo 5 (.bt (.t 2)),
 om 6 (.k (.bool false))])
 (.sq (rg [om 7 (.t 0),
 oo 8 (.ld (some 5) (.t 4)),
 oo 9 (.ca .pure false (.f fid_impl_IsSorting) [.t 7, .t 8]),
 om 10 (.t 9),
 og 11 10 true (.mv (.t 0) none),
 og 12 10 true (.ld (some 5) (.t 5)),
 og 13 10 true (.ca .pure false (.f fid_impl_IsSorting) [.t 11, .t 12]),
 oo 14 (.pk (.t 10) (.t 13) (.k (.bool false))),
 om 15 (.t 14),
 og 16 15 true (.fa 3 (.t 4)),
 og 17 15 true (.ld none (.t 16)),
 og 18 15 true (.ln (.t 17)),
 og 19 15 true (.fa 3 (.t 5)),
 og 20 15 true (.ld none (.t 19)),
 og 21 15 true (.ln (.t 20)),
 og 22 15 true (.bi .eql 0 (.t 18) (.t 21)),
 oo 23 (.pk (.t 15) (.t 22) (.k (.bool false))),
 om 24 (.t 23),
 og 25 24 true (.fa 2 (.t 4)),
 og 26 24 true (.ld none (.t 25)),
 og 27 24 true (.fa 2 (.t 5)),
 og 28 24 true (.ld none (.t 27)),
 og 29 24 true (.ca .pure false (.f fid_slices_EqualFunc_int_int_int_int) [.t 26, .t 28, .f fid_impl_sameSorts_1]),
 oo 30 (.pk (.t 24) (.t 29) (.k (.bool false))),
 om 6 (.t 30)])
 (.rt))) }
theorem k_impl_sameSorts : chkF Go.Proofs.Tryz.prog fid_impl_sameSorts c_impl_sameSorts = true := by kernel_rfl

def c_impl_combined : F2 :=
  { nt := 78, res := [.c 8 (some 5) [2, 2, 2, 2, 3]], body :=
   (.sq (rg [oo 4 (.bt (.t 0)),
 oo 5 (.bt (.t 1)),
 oo 8 (.al [.slice none 0 0, .slice none 0 0, .slice none 0 0, .slice none 0 0, .slice none 0 0] [])])
 (.sq (rg [om 13 (.t 2),
 oo 14 (.fa 0 (.t 4)),
 oo 15 (.ld none (.t 14)),
 oo 16 (.fa 0 (.t 5)),
 oo 17 (.ld none (.t 16)),
 oo 18 (.ca .pure true (.t 13) [.t 15, .t 17]),
 oo 19 (.bd [.slice none 0 0, .slice none 0 0, .slice none 0 0, .slice none 0 0, .slice none 0 0] [(0, 1, .t 18)] [(1, 1), (2, 1), (3, 1)]),
 oo 9 (.al [.slice none 0 0, .slice none 0 0, .slice none 0 0, .slice none 0 0, .slice none 0 0] []),
 on1 (.st 5 (.t 9) (.t 19))])
 (.sq (.sq (rg [oo 20 (.fa 1 (.t 4)),
 oo 21 (.ld none (.t 20)),
 oo 22 (.ln (.t 21)),
 om 23 (i6 0)])
 (.bl 0 (.lp [2, 3, 4, 5, 8, 9, 22, 23] [256, 288, 576, 608, 609, 610, 1312, 1664, 2368] (.sq (rg [oo 24 (.bi .lss 0 (.t 23) (.t 22))])
 (.sq (.cd (.t 24) (.sk)
 (.ex 0))
 (.sq (.bl 1 (.sq (rg [om 25 (.t 23),
 om 10 (.t 25)])
 (.sq (.rg (some 0) [oo 26 (.fa 1 (.t 9)),
 oo 27 (.ld none (.t 26)),
 om 28 (.t 2),
 oo 29 (.fa 1 (.t 4)),
 oo 30 (.ld none (.t 29)),
 om 31 (.t 10),
 oo 32 (.ia 1 (.t 30) (.t 31)),
 oo 33 (.ld none (.t 32)),
 oo 34 (.fa 1 (.t 5)),
 oo 35 (.ld none (.t 34)),
 om 36 (.t 10),
 oo 37 (.ia 1 (.t 35) (.t 36)),
 oo 38 (.ld none (.t 37)),
 oo 39 (.ca .pure true (.t 28) [.t 33, .t 38]),
 oo 40 (.bv 1 1 [.slice none 0 0] [(0, .t 39)]),
 oo 41 (.ap 1 2 (.t 27) (.t 40)),
 oo 42 (.fa 1 (.t 9)),
 on1 (.st 1 (.t 42) (.t 41))])
 (.rg (some 0) [oo 43 (.fa 2 (.t 9)),
 oo 44 (.ld none (.t 43)),
 oo 45 (.fa 2 (.t 4)),
 oo 46 (.ld none (.t 45)),
 om 47 (.t 10),
 oo 48 (.ia 1 (.t 46) (.t 47)),
 oo 49 (.ld none (.t 48)),
 oo 50 (.ca .pure true (.f fid_slices_Clone_int_int) [.t 49]),
 oo 51 (.bv 1 1 [.slice none 0 0] [(0, .t 50)]),
 oo 52 (.ap 1 2 (.t 44) (.t 51)),
 oo 53 (.fa 2 (.t 9)),
 on1 (.st 1 (.t 53) (.t 52))]))))
 (rg [oo 54 (.bi .add 0 (.t 23) (i6 1)),
 om 23 (.t 54)])))))))
 (.sq (.sq (rg [oo 55 (.fa 3 (.t 4)),
 oo 56 (.ld none (.t 55)),
 oo 57 (.ln (.t 56)),
 om 58 (i6 0)])
 (.bl 2 (.lp [3, 5, 8, 9, 56, 57, 58] [256, 288, 576, 608, 609, 610, 1312, 1664, 2368] (.sq (rg [oo 59 (.bi .lss 0 (.t 58) (.t 57))])
 (.sq (.cd (.t 59) (.sk)
 (.ex 2))
 (.sq (.bl 3 (.sq (rg [om 60 (.t 58),
 oo 61 (.ia 1 (.t 56) (.t 58)),
 oo 62 (.ld none (.t 61)),
 om 11 (.t 60),
 om 12 (.t 62)])
 (.rg (some 0) [oo 63 (.fa 3 (.t 9)),
 oo 64 (.ld none (.t 63)),
 om 65 (.t 3),
 om 66 (.t 12),
 oo 67 (.fa 3 (.t 5)),
 oo 68 (.ld none (.t 67)),
 om 69 (.t 11),
 oo 70 (.ia 1 (.t 68) (.t 69)),
 oo 71 (.ld none (.t 70)),
 oo 72 (.ca .pure false (.t 65) [.t 66, .t 71]),
 oo 73 (.bs 1 1 [.int .i64 0] [(0, .t 72)]),
 oo 74 (.ap 1 0 (.t 64) (.t 73)),
 oo 75 (.fa 3 (.t 9)),
 on1 (.st 1 (.t 75) (.t 74))])))
 (rg [oo 76 (.bi .add 0 (.t 58) (i6 1)),
 om 58 (.t 76)])))))))
 (.sq (rg [oo 77 (.ld (some 5) (.t 9)),
 on1 (.st 5 (.t 8) (.t 77))])
 (.rt)))))) }
theorem k_impl_combined : chkF Go.Proofs.Tryz.prog fid_impl_combined c_impl_combined = true := by kernel_rfl

def c_impl_either : F2 :=
  { nt := 14, res := [.t 4 [2]], body :=
   (.sq (rg [om 4 (.k (.slice none 0 0))])
 (.sq (rg [om 6 (.t 0),
 om 7 (.t 1),
 oo 8 (.bs 1 2 [.slice none 0 0] [(0, .t 6), (1, .t 7)]),
 oo 9 (.ca .pure true (.f fid_slices_Concat_int_int) [.t 8]),
 om 5 (.t 9)])
 (.sq (rg [om 10 (.t 5),
 oo 11 (.ca .any false (.f fid_slices_Sort_int_int) [.t 10])])
 (.sq (rg [om 12 (.t 5),
 oo 13 (.ca .any false (.f fid_slices_Compact_int_int) [.t 12]),
 om 4 (.t 13)])
 (.rt))))) }
theorem k_impl_either : chkF Go.Proofs.Tryz.prog fid_impl_either c_impl_either = true := by kernel_rfl

def c_impl_JoinOf_1 : F2 :=
  { nt := 8, res := [.t 4 [0]], body :=
   (.sq (rg [om 4 (i6 0)])
 (.sq (rg [om 5 (.t 0),
 om 6 (.t 1),
 oo 7 (.mm true (.t 5) (.t 6)),
 om 4 (.t 7)])
 (.rt))) }
theorem k_impl_JoinOf_1 : chkF Go.Proofs.Tryz.prog fid_impl_JoinOf_1 c_impl_JoinOf_1 = true := by kernel_rfl

def c_impl_comparePairs : F2 :=
  { nt := 8, res := [.t 4 [0]], body :=
   (.sq (rg [oo 2 (.bt (.t 0)),
 oo 3 (.bt (.t 1)),
 om 4 (i6 0)])
 (.sq (.rg (some 0) [oo 5 (.sa 2 (.t 2)),
 oo 6 (.sa 2 (.t 3)),
 oo 7 (.ca .pure false (.f fid_slices_Compare_int_int) [.t 5, .t 6]),
 om 4 (.t 7)])
 (.rt))) }
theorem k_impl_comparePairs : chkF Go.Proofs.Tryz.prog fid_impl_comparePairs c_impl_comparePairs = true := by kernel_rfl

def c_spec_l2Sig : F2 :=
  { nt := 55, res := [.t 2 [0]], body :=
   (.sq (rg [om 2 (.k (.bool false))])
 (.sq (.sq (rg [om 3 (i6 0)])
 (.bl 0 (.lp [0, 3] [] (.sq (.sq (rg [om 5 (.t 3),
 om 6 (.t 0),
 oo 7 (.ln (.t 6)),
 oo 8 (.bi .lss 0 (.t 5) (.t 7))])
 (.cd (.t 8) (.sk)
 (.ex 0)))
 (.sq (.bl 1 (.sq (.sq (rg [om 11 (.t 0),
 om 12 (.t 3),
 oo 13 (.ia 3 (.t 11) (.t 12)),
 oo 14 (.fa 0 (.t 13)),
 oo 15 (.ld none (.t 14)),
 oo 16 (.ca .pure false (.f fid_spec_l2Name) [.t 15]),
 oo 17 (.nt (.t 16)),
 om 18 (.t 17),
 og 19 18 false (.mv (.t 0) none),
 og 20 18 false (.mv (.t 3) none),
 og 21 18 false (.ia 3 (.t 19) (.t 20)),
 og 22 18 false (.fa 1 (.t 21)),
 og 23 18 false (.ld none (.t 22)),
 og 24 18 false (.ca .pure false (.f fid_spec_l1In) [.t 23, i6 0, i6 3]),
 og 25 18 false (.nt (.t 24)),
 oo 26 (.pk (.t 18) (.k (.bool true)) (.t 25)),
 om 27 (.t 26),
 og 28 27 false (.mv (.t 0) none),
 og 29 27 false (.mv (.t 3) none),
 og 30 27 false (.ia 3 (.t 28) (.t 29)),
 og 31 27 false (.fa 2 (.t 30)),
 og 32 27 false (.ld none (.t 31)),
 og 33 27 false (.ca .pure false (.f fid_spec_l1In) [.t 32, i6 0, i6 2]),
 og 34 27 false (.nt (.t 33)),
 oo 35 (.pk (.t 27) (.k (.bool true)) (.t 34))])
 (.cd (.t 35) (.sq (rg [om 2 (.k (.bool false))])
 (.rt))
 (.sk)))
 (.sq (rg [om 4 (i6 0)])
 (.bl 2 (.lp [0, 3, 4] [] (.sq (.sq (rg [om 36 (.t 4),
 om 37 (.t 3),
 oo 38 (.bi .lss 0 (.t 36) (.t 37))])
 (.cd (.t 38) (.sk)
 (.ex 2)))
 (.sq (.bl 3 (.sq (.rg (some 0) [om 41 (.t 0),
 om 42 (.t 4),
 oo 43 (.ia 3 (.t 41) (.t 42)),
 oo 44 (.fa 0 (.t 43)),
 oo 45 (.ld none (.t 44)),
 om 46 (.t 0),
 om 47 (.t 3),
 oo 48 (.ia 3 (.t 46) (.t 47)),
 oo 49 (.fa 0 (.t 48)),
 oo 50 (.ld none (.t 49)),
 oo 51 (.bi .eql 0 (.t 45) (.t 50))])
 (.cd (.t 51) (.sq (rg [om 2 (.k (.bool false))])
 (.rt))
 (.sk))))
 (rg [om 39 (.t 4),
 oo 40 (.bi .add 0 (.t 39) (i6 1)),
 om 4 (.t 40)]))))))))
 (rg [om 9 (.t 3),
 oo 10 (.bi .add 0 (.t 9) (i6 1)),
 om 3 (.t 10)]))))))
 (.sq (rg [om 52 (.t 0),
 oo 53 (.ln (.t 52)),
 oo 54 (.ca .pure false (.f fid_spec_l1In) [.t 53, i6 1, i6 6]),
 om 2 (.t 54)])
 (.rt)))) }
theorem k_spec_l2Sig : chkF Go.Proofs.Tryz.prog fid_spec_l2Sig c_spec_l2Sig = true := by kernel_rfl

def c_spec_l7Controls : F2 :=
  { nt := 10, res := [.t 4 [0]], body :=
   (.sq (rg [om 4 (.k (.bool false))])
 (.sq (rg [om 5 (.t 1),
 om 6 (.t 0),
 oo 7 (.ln (.t 6)),
 oo 8 (.bi .sub 0 (.t 7) (i6 1)),
 oo 9 (.ca .pure false (.f fid_spec_l1Rising) [.t 5, i6 0, .t 8]),
 om 4 (.t 9)])
 (.rt))) }
theorem k_spec_l7Controls : chkF Go.Proofs.Tryz.prog fid_spec_l7Controls c_spec_l7Controls = true := by kernel_rfl

def c_spec_l7Nest : F2 :=
  { nt := 40, res := [.t 4 [0]], body :=
   (.sq (rg [om 4 (.k (.bool false))])
 (.sq (.sq (rg [om 6 (.t 1),
 oo 7 (.ln (.t 6)),
 om 8 (.t 0),
 oo 9 (.ln (.t 8)),
 oo 10 (.bi .neq 0 (.t 7) (.t 9))])
 (.cd (.t 10) (.sq (rg [om 4 (.k (.bool false))])
 (.rt))
 (.sk)))
 (.sq (.sq (rg [om 5 (i6 0)])
 (.bl 0 (.lp [0, 1, 5] [] (.sq (.sq (rg [om 11 (.t 5),
 om 12 (.t 1),
 oo 13 (.ln (.t 12)),
 oo 14 (.bi .lss 0 (.t 11) (.t 13))])
 (.cd (.t 14) (.sk)
 (.ex 0)))
 (.sq (.bl 1 (.sq (rg [om 17 (.t 0),
 om 18 (.t 1),
 om 19 (.t 5),
 oo 20 (.ia 1 (.t 18) (.t 19)),
 oo 21 (.ld none (.t 20)),
 oo 22 (.ca .pure false (.f fid_spec_l7Controls) [.t 17, .t 21]),
 oo 23 (.nt (.t 22)),
 om 24 (.t 23),
 og 25 24 false (.mv (.t 0) none),
 og 26 24 false (.mv (.t 5) none),
 og 27 24 false (.ia 3 (.t 25) (.t 26)),
 og 28 24 false (.fa 2 (.t 27)),
 og 29 24 false (.ld none (.t 28)),
 og 30 24 false (.bi .eql 0 (.t 29) (i6 2)),
 og 31 24 false (.mv (.t 30) none),
 og 32 31 true (.mv (.t 1) none),
 og 33 31 true (.mv (.t 5) none),
 og 34 31 true (.ia 1 (.t 32) (.t 33)),
 og 35 31 true (.ld none (.t 34)),
 og 36 31 true (.ln (.t 35)),
 og 37 31 true (.bi .gtr 0 (.t 36) (i6 0)),
 og 38 24 false (.pk (.t 31) (.t 37) (.k (.bool false))),
 oo 39 (.pk (.t 24) (.k (.bool true)) (.t 38))])
 (.cd (.t 39) (.sq (rg [om 4 (.k (.bool false))])
 (.rt))
 (.sk))))
 (rg [om 15 (.t 5),
 oo 16 (.bi .add 0 (.t 15) (i6 1)),
 om 5 (.t 16)]))))))
 (.sq (rg [om 4 (.k (.bool true))])
 (.rt))))) }
theorem k_spec_l7Nest : chkF Go.Proofs.Tryz.prog fid_spec_l7Nest c_spec_l7Nest = true := by kernel_rfl

def c_spec_l1In : F2 :=
  { nt := 15, res := [.t 6 [0]], body :=
   (.sq (rg [om 6 (.k (.bool false))])
 (.sq (rg [om 7 (.t 0),
 om 8 (.t 1),
 oo 9 (.bi .geq 0 (.t 7) (.t 8)),
 om 10 (.t 9),
 og 11 10 true (.mv (.t 0) none),
 og 12 10 true (.mv (.t 2) none),
 og 13 10 true (.bi .leq 0 (.t 11) (.t 12)),
 oo 14 (.pk (.t 10) (.t 13) (.k (.bool false))),
 om 6 (.t 14)])
 (.rt))) }
theorem k_spec_l1In : chkF Go.Proofs.Tryz.prog fid_spec_l1In c_spec_l1In = true := by kernel_rfl

def c_spec_l7Sorts : F2 :=
  { nt := 51, res := [.t 6 [0]], body :=
   (.sq (rg [om 6 (.k (.bool false))])
 (.sq (.sq (rg [om 9 (.t 1),
 oo 10 (.ln (.t 9)),
 om 11 (.t 0),
 oo 12 (.ln (.t 11)),
 oo 13 (.bi .neq 0 (.t 10) (.t 12))])
 (.cd (.t 13) (.sq (rg [om 6 (.k (.bool false))])
 (.rt))
 (.sk)))
 (.sq (.sq (rg [om 7 (i6 0)])
 (.bl 0 (.lp [0, 1, 2, 7] [] (.sq (.sq (rg [om 14 (.t 7),
 om 15 (.t 1),
 oo 16 (.ln (.t 15)),
 oo 17 (.bi .lss 0 (.t 14) (.t 16))])
 (.cd (.t 17) (.sk)
 (.ex 0)))
 (.sq (.bl 1 (.sq (.sq (.rg (some 0) [om 20 (.t 1),
 om 21 (.t 7),
 oo 22 (.ia 1 (.t 20) (.t 21)),
 oo 23 (.ld none (.t 22)),
 oo 24 (.ln (.t 23)),
 om 25 (.t 0),
 om 26 (.t 7),
 oo 27 (.ia 3 (.t 25) (.t 26)),
 oo 28 (.fa 1 (.t 27)),
 oo 29 (.ld none (.t 28)),
 oo 30 (.bi .neq 0 (.t 24) (.t 29))])
 (.cd (.t 30) (.sq (rg [om 6 (.k (.bool false))])
 (.rt))
 (.sk)))
 (.sq (rg [om 8 (i6 0)])
 (.bl 2 (.lp [0, 1, 2, 7, 8] [] (.sq (.sq (rg [om 31 (.t 8),
 om 32 (.t 1),
 om 33 (.t 7),
 oo 34 (.ia 1 (.t 32) (.t 33)),
 oo 35 (.ld none (.t 34)),
 oo 36 (.ln (.t 35)),
 oo 37 (.bi .lss 0 (.t 31) (.t 36))])
 (.cd (.t 37) (.sk)
 (.ex 2)))
 (.sq (.bl 3 (.sq (rg [om 40 (.t 1),
 om 41 (.t 7),
 oo 42 (.ia 1 (.t 40) (.t 41)),
 oo 43 (.ld none (.t 42)),
 om 44 (.t 8),
 oo 45 (.ia 1 (.t 43) (.t 44)),
 oo 46 (.ld none (.t 45)),
 om 47 (.t 2),
 oo 48 (.bi .sub 0 (.t 47) (i6 1)),
 oo 49 (.ca .pure false (.f fid_spec_l1In) [.t 46, i6 0, .t 48]),
 oo 50 (.nt (.t 49))])
 (.cd (.t 50) (.sq (rg [om 6 (.k (.bool false))])
 (.rt))
 (.sk))))
 (rg [om 38 (.t 8),
 oo 39 (.bi .add 0 (.t 38) (i6 1)),
 om 8 (.t 39)]))))))))
 (rg [om 18 (.t 7),
 oo 19 (.bi .add 0 (.t 18) (i6 1)),
 om 7 (.t 19)]))))))
 (.sq (rg [om 6 (.k (.bool true))])
 (.rt))))) }
theorem k_spec_l7Sorts : chkF Go.Proofs.Tryz.prog fid_spec_l7Sorts c_spec_l7Sorts = true := by kernel_rfl

def c_spec_l7Before : F2 :=
  { nt := 24, res := [.t 4 [0]], body :=
   (.sq (rg [oo 2 (.bt (.t 0)),
 oo 3 (.bt (.t 1)),
 om 4 (.k (.bool false))])
 (.sq (rg [oo 5 (.ja 1 2 (.t 2) (i6 0)),
 oo 6 (.ld none (.t 5)),
 oo 7 (.ja 1 2 (.t 3) (i6 0)),
 oo 8 (.ld none (.t 7)),
 oo 9 (.bi .lss 0 (.t 6) (.t 8)),
 om 10 (.t 9),
 og 11 10 false (.ja 1 2 (.t 2) (i6 0)),
 og 12 10 false (.ld none (.t 11)),
 og 13 10 false (.ja 1 2 (.t 3) (i6 0)),
 og 14 10 false (.ld none (.t 13)),
 og 15 10 false (.bi .eql 0 (.t 12) (.t 14)),
 og 16 10 false (.mv (.t 15) none),
 og 17 16 true (.ja 1 2 (.t 2) (i6 1)),
 og 18 16 true (.ld none (.t 17)),
 og 19 16 true (.ja 1 2 (.t 3) (i6 1)),
 og 20 16 true (.ld none (.t 19)),
 og 21 16 true (.bi .lss 0 (.t 18) (.t 20)),
 og 22 10 false (.pk (.t 16) (.t 21) (.k (.bool false))),
 oo 23 (.pk (.t 10) (.k (.bool true)) (.t 22)),
 om 4 (.t 23)])
 (.rt))) }
theorem k_spec_l7Before : chkF Go.Proofs.Tryz.prog fid_spec_l7Before c_spec_l7Before = true := by kernel_rfl

def c_impl_IsSignature : F2 :=
  { nt := 40, res := [.t 2 [0]], body :=
   (.sq (rg [om 2 (.k (.bool false))])
 (.sq (.sq (rg [om 5 (.t 0),
 oo 6 (.ln (.t 5)),
 oo 7 (.ca .pure false (.f fid_impl_within) [.t 6, i6 1, i6 6]),
 oo 8 (.nt (.t 7))])
 (.cd (.t 8) (.sq (rg [om 2 (.k (.bool false))])
 (.rt))
 (.sk)))
 (.sq (.sq (rg [om 9 (.t 0),
 oo 10 (.ln (.t 9)),
 om 11 (i6 0)])
 (.bl 0 (.lp [0, 9, 10, 11] [] (.sq (rg [oo 12 (.bi .lss 0 (.t 11) (.t 10))])
 (.sq (.cd (.t 12) (.sk)
 (.ex 0))
 (.sq (.bl 1 (.sq (rg [om 13 (.t 11),
 oo 14 (.ia 3 (.t 9) (.t 11)),
 oo 15 (.ld (some 3) (.t 14)),
 oo 4 (.al [.string ⟨#[]⟩, .int .i64 0, .int .i64 0] []),
 om 3 (.t 13),
 on1 (.st 3 (.t 4) (.t 15))])
 (.sq (rg [oo 16 (.fa 0 (.t 4)),
 oo 17 (.ld none (.t 16)),
 oo 18 (.ca .pure false (.f fid_impl_isName) [.t 17]),
 oo 19 (.nt (.t 18)),
 om 20 (.t 19),
 og 21 20 false (.fa 1 (.t 4)),
 og 22 20 false (.ld none (.t 21)),
 og 23 20 false (.ca .pure false (.f fid_impl_within) [.t 22, i6 0, i6 3]),
 og 24 20 false (.nt (.t 23)),
 oo 25 (.pk (.t 20) (.k (.bool true)) (.t 24)),
 om 26 (.t 25),
 og 27 26 false (.fa 2 (.t 4)),
 og 28 26 false (.ld none (.t 27)),
 og 29 26 false (.ca .pure false (.f fid_impl_within) [.t 28, i6 0, i6 2]),
 og 30 26 false (.nt (.t 29)),
 oo 31 (.pk (.t 26) (.k (.bool true)) (.t 30)),
 om 32 (.t 31),
 og 33 32 false (.mv (.t 0) none),
 og 34 32 false (.mv (.t 3) none),
 og 35 32 false (.sx 3 (.t 33) none (some (.t 34)) none),
 og 36 32 false (.mf fid_impl_IsSignature_1 [.t 4]),
 og 37 32 false (.ca .pure false (.f fid_slices_ContainsFunc_impl_Control_impl_Control) [.t 35, .t 36]),
 oo 38 (.pk (.t 32) (.k (.bool true)) (.t 37))])
 (.cd (.t 38) (.sq (rg [om 2 (.k (.bool false))])
 (.rt))
 (.sk)))))
 (rg [oo 39 (.bi .add 0 (.t 11) (i6 1)),
 om 11 (.t 39)])))))))
 (.sq (rg [om 2 (.k (.bool true))])
 (.rt))))) }
theorem k_impl_IsSignature : chkF Go.Proofs.Tryz.prog fid_impl_IsSignature c_impl_IsSignature = true := by kernel_rfl

def c_impl_isRising : F2 :=
  { nt := 33, res := [.t 4 [0]], body :=
   (.sq (rg [om 4 (.k (.bool false))])
 (.sq (.sq (rg [om 7 (.t 0),
 oo 8 (.ln (.t 7)),
 om 9 (i6 0)])
 (.bl 0 (.lp [0, 1, 7, 8, 9] [] (.sq (rg [oo 10 (.bi .lss 0 (.t 9) (.t 8))])
 (.sq (.cd (.t 10) (.sk)
 (.ex 0))
 (.sq (.bl 1 (.sq (rg [om 11 (.t 9),
 oo 12 (.ia 1 (.t 7) (.t 9)),
 oo 13 (.ld none (.t 12)),
 om 5 (.t 11),
 om 6 (.t 13)])
 (.sq (rg [om 14 (.t 6),
 om 15 (.t 1),
 oo 16 (.bi .sub 0 (.t 15) (i6 1)),
 oo 17 (.ca .pure false (.f fid_impl_within) [.t 14, i6 0, .t 16]),
 oo 18 (.nt (.t 17)),
 om 19 (.t 18),
 og 20 19 false (.mv (.t 5) none),
 og 21 19 false (.bi .gtr 0 (.t 20) (i6 0)),
 og 22 19 false (.mv (.t 21) none),
 og 23 22 true (.mv (.t 6) none),
 og 24 22 true (.mv (.t 0) none),
 og 25 22 true (.mv (.t 5) none),
 og 26 22 true (.bi .sub 0 (.t 25) (i6 1)),
 og 27 22 true (.ia 1 (.t 24) (.t 26)),
 og 28 22 true (.ld none (.t 27)),
 og 29 22 true (.bi .leq 0 (.t 23) (.t 28)),
 og 30 19 false (.pk (.t 22) (.t 29) (.k (.bool false))),
 oo 31 (.pk (.t 19) (.k (.bool true)) (.t 30))])
 (.cd (.t 31) (.sq (rg [om 4 (.k (.bool false))])
 (.rt))
 (.sk)))))
 (rg [oo 32 (.bi .add 0 (.t 9) (i6 1)),
 om 9 (.t 32)])))))))
 (.sq (rg [om 4 (.k (.bool true))])
 (.rt)))) }
theorem k_impl_isRising : chkF Go.Proofs.Tryz.prog fid_impl_isRising c_impl_isRising = true := by kernel_rfl

def c_impl_within : F2 :=
  { nt := 15, res := [.t 6 [0]], body :=
   (.sq (rg [om 6 (.k (.bool false))])
 (.sq (rg [om 7 (.t 0),
 om 8 (.t 1),
 oo 9 (.bi .geq 0 (.t 7) (.t 8)),
 om 10 (.t 9),
 og 11 10 true (.mv (.t 0) none),
 og 12 10 true (.mv (.t 2) none),
 og 13 10 true (.bi .leq 0 (.t 11) (.t 12)),
 oo 14 (.pk (.t 10) (.t 13) (.k (.bool false))),
 om 6 (.t 14)])
 (.rt))) }
theorem k_impl_within : chkF Go.Proofs.Tryz.prog fid_impl_within c_impl_within = true := by kernel_rfl

def c_impl_IsSorting_1 : F2 :=
  { nt := 6, res := [.t 2 [0]], body :=
   (.sq (rg [om 2 (.k (.bool false))])
 (.sq (rg [om 3 (.t 0),
 oo 4 (.ca .pure false (.f fid_impl_within) [.t 3, i6 0, i6 24]),
 oo 5 (.nt (.t 4)),
 om 2 (.t 5)])
 (.rt))) }
theorem k_impl_IsSorting_1 : chkF Go.Proofs.Tryz.prog fid_impl_IsSorting_1 c_impl_IsSorting_1 = true := by kernel_rfl

def c_impl_arePairs : F2 :=
  { nt := 44, res := [.t 4 [0]], body :=
   (.sq (rg [om 4 (.k (.bool false))])
 (.sq (.sq (rg [om 7 (.t 0),
 oo 8 (.ln (.t 7)),
 om 9 (i6 0)])
 (.bl 0 (.lp [0, 1, 7, 8, 9] [] (.sq (rg [oo 10 (.bi .lss 0 (.t 9) (.t 8))])
 (.sq (.cd (.t 10) (.sk)
 (.ex 0))
 (.sq (.bl 1 (.sq (rg [om 11 (.t 9),
 oo 12 (.ia 2 (.t 7) (.t 9)),
 oo 13 (.ld (some 2) (.t 12)),
 oo 6 (.al [.int .i64 0, .int .i64 0] []),
 om 5 (.t 11),
 on1 (.st 2 (.t 6) (.t 13))])
 (.sq (.rg (some 0) [oo 14 (.ja 1 2 (.t 6) (i6 0)),
 oo 15 (.ld none (.t 14)),
 oo 16 (.ja 1 2 (.t 6) (i6 1)),
 oo 17 (.ld none (.t 16)),
 oo 18 (.bi .sub 1 (.t 17) (i6 1)),
 oo 19 (.ca .pure false (.f fid_impl_within) [.t 15, i6 0, .t 18]),
 oo 20 (.nt (.t 19)),
 om 21 (.t 20),
 og 22 21 false (.ja 1 2 (.t 6) (i6 1)),
 og 23 21 false (.ld none (.t 22)),
 og 24 21 false (.mv (.t 1) none),
 og 25 21 false (.bi .sub 0 (.t 24) (i6 1)),
 og 26 21 false (.ca .pure false (.f fid_impl_within) [.t 23, i6 0, .t 25]),
 og 27 21 false (.nt (.t 26)),
 oo 28 (.pk (.t 21) (.k (.bool true)) (.t 27)),
 om 29 (.t 28),
 og 30 29 false (.mv (.t 5) none),
 og 31 29 false (.bi .gtr 0 (.t 30) (i6 0)),
 og 32 29 false (.mv (.t 31) none),
 og 33 32 true (.mv (.t 0) none),
 og 34 32 true (.mv (.t 5) none),
 og 35 32 true (.bi .sub 0 (.t 34) (i6 1)),
 og 36 32 true (.ia 2 (.t 33) (.t 35)),
 og 37 32 true (.ld (some 2) (.t 36)),
 og 38 32 true (.ld (some 2) (.t 6)),
 og 39 32 true (.ca .pure false (.f fid_impl_comparePairs) [.t 37, .t 38]),
 og 40 32 true (.bi .geq 0 (.t 39) (i6 0)),
 og 41 29 false (.pk (.t 32) (.t 40) (.k (.bool false))),
 oo 42 (.pk (.t 29) (.k (.bool true)) (.t 41))])
 (.cd (.t 42) (.sq (rg [om 4 (.k (.bool false))])
 (.rt))
 (.sk)))))
 (rg [oo 43 (.bi .add 0 (.t 9) (i6 1)),
 om 9 (.t 43)])))))))
 (.sq (rg [om 4 (.k (.bool true))])
 (.rt)))) }
theorem k_impl_arePairs : chkF Go.Proofs.Tryz.prog fid_impl_arePairs c_impl_arePairs = true := by kernel_rfl

def c_impl_IsSorting_2 : F2 :=
  { nt := 11, res := [.t 3 [0]], body :=
   (.sq (rg [om 3 (.k (.bool false))])
 (.sq (rg [om 4 (.t 0),
 oo 5 (.fa 3 (.t 1)),
 oo 6 (.ld none (.t 5)),
 oo 7 (.ln (.t 6)),
 oo 8 (.bi .sub 0 (.t 7) (i6 1)),
 oo 9 (.ca .pure false (.f fid_impl_within) [.t 4, i6 0, .t 8]),
 oo 10 (.nt (.t 9)),
 om 3 (.t 10)])
 (.rt))) }
theorem k_impl_IsSorting_2 : chkF Go.Proofs.Tryz.prog fid_impl_IsSorting_2 c_impl_IsSorting_2 = true := by kernel_rfl

def c_spec_l7SameTable : F2 :=
  { nt := 27, res := [.t 4 [0]], body :=
   (.sq (rg [om 4 (.k (.bool false))])
 (.sq (.sq (rg [om 6 (.t 0),
 oo 7 (.ln (.t 6)),
 om 8 (.t 1),
 oo 9 (.ln (.t 8)),
 oo 10 (.bi .neq 0 (.t 7) (.t 9))])
 (.cd (.t 10) (.sq (rg [om 4 (.k (.bool false))])
 (.rt))
 (.sk)))
 (.sq (.sq (rg [om 5 (i6 0)])
 (.bl 0 (.lp [0, 1, 5] [] (.sq (.sq (rg [om 11 (.t 5),
 om 12 (.t 0),
 oo 13 (.ln (.t 12)),
 oo 14 (.bi .lss 0 (.t 11) (.t 13))])
 (.cd (.t 14) (.sk)
 (.ex 0)))
 (.sq (.bl 1 (.sq (.rg (some 0) [om 17 (.t 0),
 om 18 (.t 5),
 oo 19 (.ia 1 (.t 17) (.t 18)),
 oo 20 (.ld none (.t 19)),
 om 21 (.t 1),
 om 22 (.t 5),
 oo 23 (.ia 1 (.t 21) (.t 22)),
 oo 24 (.ld none (.t 23)),
 oo 25 (.ca .pure false (.f fid_spec_l1Same) [.t 20, .t 24]),
 oo 26 (.nt (.t 25))])
 (.cd (.t 26) (.sq (rg [om 4 (.k (.bool false))])
 (.rt))
 (.sk))))
 (rg [om 15 (.t 5),
 oo 16 (.bi .add 0 (.t 15) (i6 1)),
 om 5 (.t 16)]))))))
 (.sq (rg [om 4 (.k (.bool true))])
 (.rt))))) }
theorem k_spec_l7SameTable : chkF Go.Proofs.Tryz.prog fid_spec_l7SameTable c_spec_l7SameTable = true := by kernel_rfl

def c_spec_l7Either : F2 :=
  { nt := 22, res := [.t 4 [0]], body :=
   (.sq (rg [om 4 (.k (.slice none 0 0))])
 (.sq (rg [om 7 (.t 0),
 oo 8 (.ca .pure false (.f fid_spec_l1Own) [.t 7]),
 om 5 (.t 8)])
 (.sq (.sq (rg [om 6 (i6 0)])
 (.bl 0 (.lp [1, 5, 6] [] (.sq (.sq (rg [om 9 (.t 6),
 om 10 (.t 1),
 oo 11 (.ln (.t 10)),
 oo 12 (.bi .lss 0 (.t 9) (.t 11))])
 (.cd (.t 12) (.sk)
 (.ex 0)))
 (.sq (.bl 1 (rg [om 15 (.t 5),
 om 16 (.t 1),
 om 17 (.t 6),
 oo 18 (.ia 1 (.t 16) (.t 17)),
 oo 19 (.ld none (.t 18)),
 oo 20 (.ca .pure false (.f fid_spec_l1Put) [.t 15, .t 19]),
 om 5 (.t 20)]))
 (rg [om 13 (.t 6),
 oo 14 (.bi .add 0 (.t 13) (i6 1)),
 om 6 (.t 14)]))))))
 (.sq (rg [om 21 (.t 5),
 om 4 (.t 21)])
 (.rt))))) }
theorem k_spec_l7Either : chkF Go.Proofs.Tryz.prog fid_spec_l7Either c_spec_l7Either = true := by kernel_rfl

def c_spec_l7Table : F2 :=
  { nt := 21, res := [.t 2 [2]], body :=
   (.sq (rg [om 2 (.k (.slice none 0 0))])
 (.sq (rg [oo 5 (.bs 1 0 [] []),
 om 3 (.t 5)])
 (.sq (.sq (rg [om 4 (i6 0)])
 (.bl 0 (.lp [0, 3, 4] [160, 608] (.sq (.sq (rg [om 6 (.t 4),
 om 7 (.t 0),
 oo 8 (.ln (.t 7)),
 oo 9 (.bi .lss 0 (.t 6) (.t 8))])
 (.cd (.t 9) (.sk)
 (.ex 0)))
 (.sq (.bl 1 (rg [om 12 (.t 3),
 om 13 (.t 0),
 om 14 (.t 4),
 oo 15 (.ia 1 (.t 13) (.t 14)),
 oo 16 (.ld none (.t 15)),
 oo 17 (.ca .pure true (.f fid_spec_l1Own) [.t 16]),
 oo 18 (.bw 1 1 [.slice none 0 0] [(0, .t 17)]),
 oo 19 (.ap 1 2 (.t 12) (.t 18)),
 om 3 (.t 19)]))
 (rg [om 10 (.t 4),
 oo 11 (.bi .add 0 (.t 10) (i6 1)),
 om 4 (.t 11)]))))))
 (.sq (rg [om 20 (.t 3),
 om 2 (.t 20)])
 (.rt))))) }
theorem k_spec_l7Table : chkF Go.Proofs.Tryz.prog fid_spec_l7Table c_spec_l7Table = true := by kernel_rfl

def c_spec_l7Pairs : F2 :=
  { nt := 52, res := [.t 6 [3]], body :=
   (.sq (rg [om 6 (.k (.slice none 0 0))])
 (.sq (rg [oo 13 (.bs 2 0 [] []),
 om 7 (.t 13)])
 (.sq (.sq (rg [om 8 (i6 0)])
 (.bl 0 (.lp [0, 1, 2, 7, 8] [416, 1600] (.sq (.sq (rg [om 14 (.t 8),
 oo 15 (.bi .lss 0 (.t 14) (i6 4))])
 (.cd (.t 15) (.sk)
 (.ex 0)))
 (.sq (.bl 1 (.sq (rg [om 18 (.t 8),
 oo 19 (.bi .add 0 (.t 18) (i6 1)),
 om 9 (.t 19)])
 (.bl 2 (.lp [0, 1, 2, 7, 8, 9] [416, 1600] (.sq (.sq (rg [om 20 (.t 9),
 oo 21 (.bi .lss 0 (.t 20) (i6 4))])
 (.cd (.t 21) (.sk)
 (.ex 2)))
 (.sq (.bl 3 (.sq (rg [om 24 (.t 8),
 om 25 (.t 9),
 oo 26 (.bd [.int .i64 0, .int .i64 0] [(0, 1, .t 24), (1, 1, .t 25)] []),
 oo 10 (.al [.int .i64 0, .int .i64 0] []),
 on1 (.st 2 (.t 10) (.t 26))])
 (.sq (.rg (some 0) [om 27 (.t 0),
 oo 28 (.ld (some 2) (.t 10)),
 oo 29 (.ca .pure false (.f fid_spec_l7Pair) [.t 27, .t 28]),
 om 30 (.t 1),
 oo 31 (.ld (some 2) (.t 10)),
 oo 32 (.ca .pure false (.f fid_spec_l7Pair) [.t 30, .t 31]),
 om 11 (.t 29),
 om 12 (.t 32)])
 (.sq (rg [om 33 (.t 11),
 om 34 (.t 33),
 og 35 34 true (.mv (.t 12) none),
 oo 36 (.pk (.t 34) (.t 35) (.k (.bool false))),
 om 37 (.t 36),
 og 38 37 false (.mv (.t 2) none),
 og 39 37 false (.nt (.t 38)),
 og 40 37 false (.mv (.t 39) none),
 og 41 40 true (.mv (.t 11) none),
 og 42 40 true (.mv (.t 41) none),
 og 43 42 false (.mv (.t 12) none),
 og 44 40 true (.pk (.t 42) (.k (.bool true)) (.t 43)),
 og 45 37 false (.pk (.t 40) (.t 44) (.k (.bool false))),
 oo 46 (.pk (.t 37) (.k (.bool true)) (.t 45))])
 (.cd (.t 46) (rg [om 47 (.t 7),
 oo 48 (.ld (some 2) (.t 10)),
 oo 49 (.bs 2 1 [.int .i64 0, .int .i64 0] [(0, .t 48)]),
 oo 50 (.ap 2 0 (.t 47) (.t 49)),
 om 7 (.t 50)])
 (.sk))))))
 (rg [om 22 (.t 9),
 oo 23 (.bi .add 0 (.t 22) (i6 1)),
 om 9 (.t 23)])))))))
 (rg [om 16 (.t 8),
 oo 17 (.bi .add 0 (.t 16) (i6 1)),
 om 8 (.t 17)]))))))
 (.sq (rg [om 51 (.t 7),
 om 6 (.t 51)])
 (.rt))))) }
theorem k_spec_l7Pairs : chkF Go.Proofs.Tryz.prog fid_spec_l7Pairs c_spec_l7Pairs = true := by kernel_rfl

def c_spec_l1Most : F2 :=
  { nt := 10, res := [.t 4 [0]], body :=
   (.sq (rg [om 4 (i6 0)])
 (.sq (.sq (rg [om 5 (.t 0),
 om 6 (.t 1),
 oo 7 (.bi .gtr 0 (.t 5) (.t 6))])
 (.cd (.t 7) (.sq (rg [om 8 (.t 0),
 om 4 (.t 8)])
 (.rt))
 (.sk)))
 (.sq (rg [om 9 (.t 1),
 om 4 (.t 9)])
 (.rt)))) }
theorem k_spec_l1Most : chkF Go.Proofs.Tryz.prog fid_spec_l1Most c_spec_l1Most = true := by kernel_rfl

def c_impl_sameSorts_1 : F2 :=
  { nt := 8, res := [.t 4 [0]], body :=
   (.sq (rg [om 4 (.k (.bool false))])
 (.sq (rg [om 5 (.t 0),
 om 6 (.t 1),
 oo 7 (.ca .pure false (.f fid_slices_Equal_int_int) [.t 5, .t 6]),
 om 4 (.t 7)])
 (.rt))) }
theorem k_impl_sameSorts_1 : chkF Go.Proofs.Tryz.prog fid_impl_sameSorts_1 c_impl_sameSorts_1 = true := by kernel_rfl

def c_slices_Clone_int_int : F2 :=
  { nt := 8, res := [.t 2 [2]], body :=
   (.sq (rg [om 2 (.k (.slice none 0 0))])
 (.sq (.sq (rg [om 3 (.t 0),
 oo 4 (.nl false (.t 3))])
 (.cd (.t 4) (.sq (rg [om 2 (.k (.slice none 0 0))])
 (.rt))
 (.sk)))
 (.sq (rg [oo 5 (.bs 1 0 [] []),
 om 6 (.t 0),
 oo 7 (.ap 1 0 (.t 5) (.t 6)),
 om 2 (.t 7)])
 (.rt)))) }
theorem k_slices_Clone_int_int : chkF Go.Proofs.Tryz.prog fid_slices_Clone_int_int c_slices_Clone_int_int = true := by kernel_rfl

def c_slices_Concat_int_int : F2 :=
  { nt := 36, res := [.t 2 [2]], body :=
   (.sq (rg [om 2 (.k (.slice none 0 0))])
 (.sq (rg [om 3 (i6 0)])
 (.sq (.sq (rg [om 9 (.t 0),
 oo 10 (.ln (.t 9)),
 om 11 (i6 0)])
 (.bl 0 (.lp [0, 3, 9, 10, 11] [] (.sq (rg [oo 12 (.bi .lss 0 (.t 11) (.t 10))])
 (.sq (.cd (.t 12) (.sk)
 (.ex 0))
 (.sq (.bl 1 (.sq (rg [oo 13 (.ia 1 (.t 9) (.t 11)),
 oo 14 (.ld none (.t 13)),
 om 5 (.t 14)])
 (.sq (rg [om 15 (.t 3),
 om 16 (.t 5),
 oo 17 (.ln (.t 16)),
 oo 18 (.bi .add 0 (.t 15) (.t 17)),
 om 3 (.t 18)])
 (.sq (rg [om 19 (.t 3),
 oo 20 (.bi .lss 0 (.t 19) (i6 0))])
 (.cd (.t 20) (rg [oo 21 (.xx),
 on1 (.xx)])
 (.sk))))))
 (rg [oo 22 (.bi .add 0 (.t 11) (i6 1)),
 om 11 (.t 22)])))))))
 (.sq (rg [om 23 (.t 3),
 oo 24 (.ca .keep true (.f fid_slices_Grow_int_int) [.k (.slice none 0 0), .t 23]),
 om 6 (.t 24)])
 (.sq (.sq (rg [om 25 (.t 0),
 oo 26 (.ln (.t 25)),
 om 27 (i6 0)])
 (.bl 2 (.lp [6, 25, 26, 27] [768, 1056] (.sq (rg [oo 28 (.bi .lss 0 (.t 27) (.t 26))])
 (.sq (.cd (.t 28) (.sk)
 (.ex 2))
 (.sq (.bl 3 (.sq (rg [oo 29 (.ia 1 (.t 25) (.t 27)),
 oo 30 (.ld none (.t 29)),
 om 8 (.t 30)])
 (rg [om 31 (.t 6),
 om 32 (.t 8),
 oo 33 (.ap 1 0 (.t 31) (.t 32)),
 om 6 (.t 33)])))
 (rg [oo 34 (.bi .add 0 (.t 27) (i6 1)),
 om 27 (.t 34)])))))))
 (.sq (rg [om 35 (.t 6),
 om 2 (.t 35)])
 (.rt))))))) }
theorem k_slices_Concat_int_int : chkF Go.Proofs.Tryz.prog fid_slices_Concat_int_int c_slices_Concat_int_int = true := by kernel_rfl

def c_slices_Sort_int_int : F2 :=
  { nt := 11, res := [], body :=
   (.sq (rg [om 3 (.t 0),
 oo 4 (.ln (.t 3)),
 om 2 (.t 4)])
 (rg [om 5 (.t 0),
 om 6 (.t 2),
 om 7 (.t 2),
 oo 8 (.cv (.int .u64) (.t 7)),
 oo 9 (.ca .pure false (.f fid_math_bits_Len) [.t 8]),
 oo 10 (.ca .any false (.f fid_slices_pdqsortOrdered_int) [.t 5, i6 0, .t 6, .t 9])])) }
theorem k_slices_Sort_int_int : chkF Go.Proofs.Tryz.prog fid_slices_Sort_int_int c_slices_Sort_int_int = true := by kernel_rfl

def c_slices_Compact_int_int : F2 :=
  { nt := 61, res := [.t 2 [2]], body :=
   (.sq (rg [om 2 (.k (.slice none 0 0))])
 (.sq (.sq (rg [om 6 (.t 0),
 oo 7 (.ln (.t 6)),
 oo 8 (.bi .lss 0 (.t 7) (i6 2))])
 (.cd (.t 8) (.sq (rg [om 9 (.t 0),
 om 2 (.t 9)])
 (.rt))
 (.sk)))
 (.sq (.sq (rg [om 3 (i6 1)])
 (.bl 0 (.lp [0, 3] [] (.sq (.sq (rg [om 10 (.t 3),
 om 11 (.t 0),
 oo 12 (.ln (.t 11)),
 oo 13 (.bi .lss 0 (.t 10) (.t 12))])
 (.cd (.t 13) (.sk)
 (.ex 0)))
 (.sq (.bl 1 (.sq (.rg (some 0) [om 16 (.t 0),
 om 17 (.t 3),
 oo 18 (.ia 1 (.t 16) (.t 17)),
 oo 19 (.ld none (.t 18)),
 om 20 (.t 0),
 om 21 (.t 3),
 oo 22 (.bi .sub 0 (.t 21) (i6 1)),
 oo 23 (.ia 1 (.t 20) (.t 22)),
 oo 24 (.ld none (.t 23)),
 oo 25 (.bi .eql 0 (.t 19) (.t 24))])
 (.cd (.t 25) (.sq (rg [om 26 (.t 0),
 om 27 (.t 3),
 oo 28 (.sx 1 (.t 26) (some (.t 27)) none none),
 om 4 (.t 28)])
 (.sq (.sq (rg [om 5 (i6 1)])
 (.bl 2 (.lp [0, 3, 4, 5] [] (.sq (.sq (rg [om 29 (.t 5),
 om 30 (.t 4),
 oo 31 (.ln (.t 30)),
 oo 32 (.bi .lss 0 (.t 29) (.t 31))])
 (.cd (.t 32) (.sk)
 (.ex 2)))
 (.sq (.bl 3 (.sq (.rg (some 0) [om 35 (.t 4),
 om 36 (.t 5),
 oo 37 (.ia 1 (.t 35) (.t 36)),
 oo 38 (.ld none (.t 37)),
 om 39 (.t 4),
 om 40 (.t 5),
 oo 41 (.bi .sub 0 (.t 40) (i6 1)),
 oo 42 (.ia 1 (.t 39) (.t 41)),
 oo 43 (.ld none (.t 42)),
 oo 44 (.bi .neq 0 (.t 38) (.t 43))])
 (.cd (.t 44) (.sq (rg [om 45 (.t 0),
 om 46 (.t 3),
 om 47 (.t 4),
 om 48 (.t 5),
 oo 49 (.ia 1 (.t 47) (.t 48)),
 oo 50 (.ld none (.t 49)),
 oo 51 (.ia 1 (.t 45) (.t 46)),
 on1 (.st 1 (.t 51) (.t 50))])
 (rg [om 52 (.t 3),
 oo 53 (.bi .add 0 (.t 52) (i6 1)),
 om 3 (.t 53)]))
 (.sk))))
 (rg [om 33 (.t 5),
 oo 34 (.bi .add 0 (.t 33) (i6 1)),
 om 5 (.t 34)]))))))
 (.sq (rg [om 54 (.t 0),
 om 55 (.t 3),
 oo 56 (.sx 1 (.t 54) (some (.t 55)) none none),
 on1 (.cl 1 [.int .i64 0] (.t 56))])
 (.sq (rg [om 57 (.t 0),
 om 58 (.t 3),
 oo 59 (.sx 1 (.t 57) none (some (.t 58)) none),
 om 2 (.t 59)])
 (.rt)))))
 (.sk))))
 (rg [om 14 (.t 3),
 oo 15 (.bi .add 0 (.t 14) (i6 1)),
 om 3 (.t 15)]))))))
 (.sq (rg [om 60 (.t 0),
 om 2 (.t 60)])
 (.rt))))) }
theorem k_slices_Compact_int_int : chkF Go.Proofs.Tryz.prog fid_slices_Compact_int_int c_slices_Compact_int_int = true := by kernel_rfl

def c_math_bits_Len : F2 :=
  { nt := 8, res := [.t 2 [0]], body :=
   (.sq (rg [om 2 (i6 0)])
 (.sq (.cd (.k (.bool false)) (.sq (rg [om 3 (.t 0),
 oo 4 (.cv (.int .u32) (.t 3)),
 oo 5 (.ca .pure false (.f fid_math_bits_Len32) [.t 4]),
 om 2 (.t 5)])
 (.rt))
 (.sk))
 (.sq (rg [om 6 (.t 0),
 oo 7 (.ca .pure false (.f fid_math_bits_Len64) [.t 6]),
 om 2 (.t 7)])
 (.rt)))) }
theorem k_math_bits_Len : chkF Go.Proofs.Tryz.prog fid_math_bits_Len c_math_bits_Len = true := by kernel_rfl

def c_slices_Compare_int_int : F2 :=
  { nt := 36, res := [.t 4 [0]], body :=
   (.sq (rg [om 4 (i6 0)])
 (.sq (.sq (rg [om 9 (.t 0),
 oo 10 (.ln (.t 9)),
 om 11 (i6 0)])
 (.bl 0 (.lp [0, 1, 9, 10, 11] [] (.sq (rg [oo 12 (.bi .lss 0 (.t 11) (.t 10))])
 (.sq (.cd (.t 12) (.sk)
 (.ex 0))
 (.sq (.bl 1 (.sq (rg [om 13 (.t 11),
 oo 14 (.ia 1 (.t 9) (.t 11)),
 oo 15 (.ld none (.t 14)),
 om 5 (.t 13),
 om 6 (.t 15)])
 (.sq (.sq (rg [om 16 (.t 5),
 om 17 (.t 1),
 oo 18 (.ln (.t 17)),
 oo 19 (.bi .geq 0 (.t 16) (.t 18))])
 (.cd (.t 19) (.sq (rg [om 4 (i6 1)])
 (.rt))
 (.sk)))
 (.sq (rg [om 20 (.t 1),
 om 21 (.t 5),
 oo 22 (.ia 1 (.t 20) (.t 21)),
 oo 23 (.ld none (.t 22)),
 om 7 (.t 23)])
 (.sq (rg [om 24 (.t 6),
 om 25 (.t 7),
 oo 26 (.ca .pure false (.f fid_cmp_Compare_int) [.t 24, .t 25]),
 om 8 (.t 26)])
 (.sq (rg [om 27 (.t 8),
 oo 28 (.bi .neq 0 (.t 27) (i6 0))])
 (.cd (.t 28) (.sq (rg [om 29 (.t 8),
 om 4 (.t 29)])
 (.rt))
 (.sk))))))))
 (rg [oo 30 (.bi .add 0 (.t 11) (i6 1)),
 om 11 (.t 30)])))))))
 (.sq (.sq (rg [om 31 (.t 0),
 oo 32 (.ln (.t 31)),
 om 33 (.t 1),
 oo 34 (.ln (.t 33)),
 oo 35 (.bi .lss 0 (.t 32) (.t 34))])
 (.cd (.t 35) (.sq (rg [om 4 (i6 (-1))])
 (.rt))
 (.sk)))
 (.sq (rg [om 4 (i6 0)])
 (.rt))))) }
theorem k_slices_Compare_int_int : chkF Go.Proofs.Tryz.prog fid_slices_Compare_int_int c_slices_Compare_int_int = true := by kernel_rfl

def c_spec_l2Name : F2 :=
  { nt := 23, res := [.t 2 [0]], body :=
   (.sq (rg [om 2 (.k (.bool false))])
 (.sq (.sq (rg [om 3 (i6 0)])
 (.bl 0 (.lp [0, 3] [] (.sq (.sq (rg [om 4 (.t 3),
 om 5 (.t 0),
 oo 6 (.lg (.t 5)),
 oo 7 (.bi .lss 0 (.t 4) (.t 6))])
 (.cd (.t 7) (.sk)
 (.ex 0)))
 (.sq (.bl 1 (.sq (rg [om 10 (.t 0),
 om 11 (.t 3),
 oo 12 (.ix (.t 10) (.t 11)),
 oo 13 (.bi .lss 0 (.t 12) (.k (.int .u8 97))),
 om 14 (.t 13),
 og 15 14 false (.mv (.t 0) none),
 og 16 14 false (.mv (.t 3) none),
 og 17 14 false (.ix (.t 15) (.t 16)),
 og 18 14 false (.bi .gtr 0 (.t 17) (.k (.int .u8 122))),
 oo 19 (.pk (.t 14) (.k (.bool true)) (.t 18))])
 (.cd (.t 19) (.sq (rg [om 2 (.k (.bool false))])
 (.rt))
 (.sk))))
 (rg [om 8 (.t 3),
 oo 9 (.bi .add 0 (.t 8) (i6 1)),
 om 3 (.t 9)]))))))
 (.sq (rg [om 20 (.t 0),
 oo 21 (.lg (.t 20)),
 oo 22 (.ca .pure false (.f fid_spec_l1In) [.t 21, i6 1, i6 4]),
 om 2 (.t 22)])
 (.rt)))) }
theorem k_spec_l2Name : chkF Go.Proofs.Tryz.prog fid_spec_l2Name c_spec_l2Name = true := by kernel_rfl

def c_spec_l1Rising : F2 :=
  { nt := 38, res := [.t 6 [0]], body :=
   (.sq (rg [om 6 (.k (.bool false))])
 (.sq (.sq (rg [om 7 (i6 0)])
 (.bl 0 (.lp [0, 1, 2, 7] [] (.sq (.sq (rg [om 8 (.t 7),
 om 9 (.t 0),
 oo 10 (.ln (.t 9)),
 oo 11 (.bi .lss 0 (.t 8) (.t 10))])
 (.cd (.t 11) (.sk)
 (.ex 0)))
 (.sq (.bl 1 (.sq (.rg (some 0) [om 14 (.t 0),
 om 15 (.t 7),
 oo 16 (.ia 1 (.t 14) (.t 15)),
 oo 17 (.ld none (.t 16)),
 om 18 (.t 1),
 om 19 (.t 2),
 oo 20 (.ca .pure false (.f fid_spec_l1In) [.t 17, .t 18, .t 19]),
 oo 21 (.nt (.t 20)),
 om 22 (.t 21),
 og 23 22 false (.mv (.t 7) none),
 og 24 22 false (.bi .gtr 0 (.t 23) (i6 0)),
 og 25 22 false (.mv (.t 24) none),
 og 26 25 true (.mv (.t 0) none),
 og 27 25 true (.mv (.t 7) none),
 og 28 25 true (.bi .sub 0 (.t 27) (i6 1)),
 og 29 25 true (.ia 1 (.t 26) (.t 28)),
 og 30 25 true (.ld none (.t 29)),
 og 31 25 true (.mv (.t 0) none),
 og 32 25 true (.mv (.t 7) none),
 og 33 25 true (.ia 1 (.t 31) (.t 32)),
 og 34 25 true (.ld none (.t 33)),
 og 35 25 true (.bi .geq 0 (.t 30) (.t 34)),
 og 36 22 false (.pk (.t 25) (.t 35) (.k (.bool false))),
 oo 37 (.pk (.t 22) (.k (.bool true)) (.t 36))])
 (.cd (.t 37) (.sq (rg [om 6 (.k (.bool false))])
 (.rt))
 (.sk))))
 (rg [om 12 (.t 7),
 oo 13 (.bi .add 0 (.t 12) (i6 1)),
 om 7 (.t 13)]))))))
 (.sq (rg [om 6 (.k (.bool true))])
 (.rt)))) }
theorem k_spec_l1Rising : chkF Go.Proofs.Tryz.prog fid_spec_l1Rising c_spec_l1Rising = true := by kernel_rfl

def c_impl_isName : F2 :=
  { nt := 11, res := [.t 2 [0]], body :=
   (.sq (rg [om 2 (.k (.bool false))])
 (.sq (rg [om 3 (.t 0),
 oo 4 (.lg (.t 3)),
 oo 5 (.ca .pure false (.f fid_impl_within) [.t 4, i6 1, i6 4]),
 om 6 (.t 5),
 og 7 6 true (.mv (.t 0) none),
 og 8 6 true (.ca .pure false (.f fid_strings_Trim) [.t 7, .k (.string ⟨#[97, 98, 99, 100, 101, 102, 103, 104, 105, 106, 107, 108, 109, 110, 111, 112, 113, 114, 115, 116, 117, 118, 119, 120, 121, 122]⟩)]),
 og 9 6 true (.bi .eql 0 (.t 8) (.k (.string ⟨#[]⟩))),
 oo 10 (.pk (.t 6) (.t 9) (.k (.bool false))),
 om 2 (.t 10)])
 (.rt))) }
theorem k_impl_isName : chkF Go.Proofs.Tryz.prog fid_impl_isName c_impl_isName = true := by kernel_rfl

def c_impl_IsSignature_1 : F2 :=
  { nt := 9, res := [.t 3 [0]], body :=
   (.sq (rg [oo 2 (.bt (.t 0)),
 om 3 (.k (.bool false))])
 (.sq (rg [oo 4 (.fa 0 (.t 2)),
 oo 5 (.ld none (.t 4)),
 oo 6 (.fa 0 (.t 1)),
 oo 7 (.ld none (.t 6)),
 oo 8 (.bi .eql 0 (.t 5) (.t 7)),
 om 3 (.t 8)])
 (.rt))) }
theorem k_impl_IsSignature_1 : chkF Go.Proofs.Tryz.prog fid_impl_IsSignature_1 c_impl_IsSignature_1 = true := by kernel_rfl

def c_spec_l1Same : F2 :=
  { nt := 26, res := [.t 4 [0]], body :=
   (.sq (rg [om 4 (.k (.bool false))])
 (.sq (.sq (rg [om 6 (.t 0),
 oo 7 (.ln (.t 6)),
 om 8 (.t 1),
 oo 9 (.ln (.t 8)),
 oo 10 (.bi .neq 0 (.t 7) (.t 9))])
 (.cd (.t 10) (.sq (rg [om 4 (.k (.bool false))])
 (.rt))
 (.sk)))
 (.sq (.sq (rg [om 5 (i6 0)])
 (.bl 0 (.lp [0, 1, 5] [] (.sq (.sq (rg [om 11 (.t 5),
 om 12 (.t 0),
 oo 13 (.ln (.t 12)),
 oo 14 (.bi .lss 0 (.t 11) (.t 13))])
 (.cd (.t 14) (.sk)
 (.ex 0)))
 (.sq (.bl 1 (.sq (.rg (some 0) [om 17 (.t 0),
 om 18 (.t 5),
 oo 19 (.ia 1 (.t 17) (.t 18)),
 oo 20 (.ld none (.t 19)),
 om 21 (.t 1),
 om 22 (.t 5),
 oo 23 (.ia 1 (.t 21) (.t 22)),
 oo 24 (.ld none (.t 23)),
 oo 25 (.bi .neq 0 (.t 20) (.t 24))])
 (.cd (.t 25) (.sq (rg [om 4 (.k (.bool false))])
 (.rt))
 (.sk))))
 (rg [om 15 (.t 5),
 oo 16 (.bi .add 0 (.t 15) (i6 1)),
 om 5 (.t 16)]))))))
 (.sq (rg [om 4 (.k (.bool true))])
 (.rt))))) }
theorem k_spec_l1Same : chkF Go.Proofs.Tryz.prog fid_spec_l1Same c_spec_l1Same = true := by kernel_rfl

def c_spec_l1Own : F2 :=
  { nt := 6, res := [.t 2 [2]], body :=
   (.sq (rg [om 2 (.k (.slice none 0 0))])
 (.sq (rg [oo 3 (.bs 1 0 [] []),
 om 4 (.t 0),
 oo 5 (.ap 1 0 (.t 3) (.t 4)),
 om 2 (.t 5)])
 (.rt))) }
theorem k_spec_l1Own : chkF Go.Proofs.Tryz.prog fid_spec_l1Own c_spec_l1Own = true := by kernel_rfl

def c_spec_l1Put : F2 :=
  { nt := 45, res := [.t 4 [0]], body :=
   (.sq (rg [om 4 (.k (.slice none 0 0))])
 (.sq (rg [om 5 (i6 0)])
 (.sq (.bl 0 (.lp [0, 1, 5] [] (.sq (.sq (rg [om 6 (.t 5),
 om 7 (.t 0),
 oo 8 (.ln (.t 7)),
 oo 9 (.bi .lss 0 (.t 6) (.t 8)),
 om 10 (.t 9),
 og 11 10 true (.mv (.t 0) none),
 og 12 10 true (.mv (.t 5) none),
 og 13 10 true (.ia 1 (.t 11) (.t 12)),
 og 14 10 true (.ld none (.t 13)),
 og 15 10 true (.mv (.t 1) none),
 og 16 10 true (.bi .lss 0 (.t 14) (.t 15)),
 oo 17 (.pk (.t 10) (.t 16) (.k (.bool false)))])
 (.cd (.t 17) (.sk)
 (.ex 0)))
 (.bl 1 (rg [om 18 (.t 5),
 oo 19 (.bi .add 0 (.t 18) (i6 1)),
 om 5 (.t 19)])))))
 (.sq (.sq (rg [om 20 (.t 5),
 om 21 (.t 0),
 oo 22 (.ln (.t 21)),
 oo 23 (.bi .lss 0 (.t 20) (.t 22)),
 om 24 (.t 23),
 og 25 24 true (.mv (.t 0) none),
 og 26 24 true (.mv (.t 5) none),
 og 27 24 true (.ia 1 (.t 25) (.t 26)),
 og 28 24 true (.ld none (.t 27)),
 og 29 24 true (.mv (.t 1) none),
 og 30 24 true (.bi .eql 0 (.t 28) (.t 29)),
 oo 31 (.pk (.t 24) (.t 30) (.k (.bool false)))])
 (.cd (.t 31) (.sq (rg [om 32 (.t 0),
 om 4 (.t 32)])
 (.rt))
 (.sk)))
 (.sq (.rg (some 0) [oo 33 (.bs 1 0 [] []),
 om 34 (.t 0),
 om 35 (.t 5),
 oo 36 (.sx 1 (.t 34) none (some (.t 35)) none),
 oo 37 (.a0 1 (.t 33) (.t 36)),
 om 38 (.t 1),
 oo 39 (.bs 1 1 [.int .i64 0] [(0, .t 38)]),
 oo 40 (.a0 1 (.t 37) (.t 39)),
 om 41 (.t 0),
 om 42 (.t 5),
 oo 43 (.sy 1 (.t 41) (some (.t 42)) none none),
 oo 44 (.ap 1 0 (.t 40) (.t 43)),
 om 4 (.t 44)])
 (.rt)))))) }
theorem k_spec_l1Put : chkF Go.Proofs.Tryz.prog fid_spec_l1Put c_spec_l1Put = true := by kernel_rfl

def c_spec_l7Pair : F2 :=
  { nt := 18, res := [.t 4 [0]], body :=
   (.sq (rg [oo 3 (.bt (.t 1)),
 om 4 (.k (.bool false))])
 (.sq (.sq (rg [om 5 (i6 0)])
 (.bl 0 (.lp [0, 3, 5] [] (.sq (.sq (rg [om 6 (.t 5),
 om 7 (.t 0),
 oo 8 (.ln (.t 7)),
 oo 9 (.bi .lss 0 (.t 6) (.t 8))])
 (.cd (.t 9) (.sk)
 (.ex 0)))
 (.sq (.bl 1 (.sq (.rg (some 0) [om 12 (.t 0),
 om 13 (.t 5),
 oo 14 (.ia 2 (.t 12) (.t 13)),
 oo 15 (.ld (some 2) (.t 14)),
 oo 16 (.ld (some 2) (.t 3)),
 oo 17 (.qa false [0, 0] (.t 15) (.t 16))])
 (.cd (.t 17) (.sq (rg [om 4 (.k (.bool true))])
 (.rt))
 (.sk))))
 (rg [om 10 (.t 5),
 oo 11 (.bi .add 0 (.t 10) (i6 1)),
 om 5 (.t 11)]))))))
 (.sq (rg [om 4 (.k (.bool false))])
 (.rt)))) }
theorem k_spec_l7Pair : chkF Go.Proofs.Tryz.prog fid_spec_l7Pair c_spec_l7Pair = true := by kernel_rfl

def c_slices_Grow_int_int : F2 :=
  { nt := 27, res := [.t 4 [2]], body :=
   (.sq (rg [om 4 (.k (.slice none 0 0))])
 (.sq (.sq (rg [om 5 (.t 1),
 oo 6 (.bi .lss 0 (.t 5) (i6 0))])
 (.cd (.t 6) (rg [oo 7 (.xx),
 on1 (.xx)])
 (.sk)))
 (.sq (.sq (rg [om 8 (.t 1),
 om 9 (.t 0),
 oo 10 (.cp (.t 9)),
 om 11 (.t 0),
 oo 12 (.ln (.t 11)),
 oo 13 (.bi .sub 0 (.t 10) (.t 12)),
 oo 14 (.bi .sub 0 (.t 8) (.t 13)),
 om 1 (.t 14)])
 (.sq (rg [om 15 (.t 1),
 oo 16 (.bi .gtr 0 (.t 15) (i6 0))])
 (.cd (.t 16) (rg [om 17 (.t 0),
 om 18 (.t 0),
 oo 19 (.cp (.t 18)),
 oo 20 (.sh 1 (.t 17) (.t 19)),
 om 21 (.t 1),
 oo 22 (.az 1 [.int .i64 0] (.t 20) (.t 21)),
 om 23 (.t 0),
 oo 24 (.ln (.t 23)),
 oo 25 (.sh 1 (.t 22) (.t 24)),
 om 0 (.t 25)])
 (.sk))))
 (.sq (rg [om 26 (.t 0),
 om 4 (.t 26)])
 (.rt))))) }
theorem k_slices_Grow_int_int : chkF Go.Proofs.Tryz.prog fid_slices_Grow_int_int c_slices_Grow_int_int = true := by kernel_rfl

def c_slices_pdqsortOrdered_int : F2 :=
  { nt := 134, res := [], body :=
   (.sq (rg [om 8 (.k (.bool true))])
 (.sq (rg [om 9 (.k (.bool true))])
 (.bl 0 (.lp [0, 1, 2, 3, 8, 9] [] (.bl 1 (.sq (rg [om 19 (.t 2),
 om 20 (.t 1),
 oo 21 (.bi .sub 0 (.t 19) (.t 20)),
 om 10 (.t 21)])
 (.sq (.sq (rg [om 22 (.t 10),
 oo 23 (.bi .leq 0 (.t 22) (i6 12))])
 (.cd (.t 23) (.sq (rg [om 24 (.t 0),
 om 25 (.t 1),
 om 26 (.t 2),
 oo 27 (.ca .any false (.f fid_slices_insertionSortOrdered_int) [.t 24, .t 25, .t 26])])
 (.rt))
 (.sk)))
 (.sq (.sq (rg [om 28 (.t 3),
 oo 29 (.bi .eql 0 (.t 28) (i6 0))])
 (.cd (.t 29) (.sq (rg [om 30 (.t 0),
 om 31 (.t 1),
 om 32 (.t 2),
 oo 33 (.ca .pure false (.f fid_slices_heapSortOrdered_int) [.t 30, .t 31, .t 32])])
 (.rt))
 (.sk)))
 (.sq (.sq (rg [om 34 (.t 8),
 oo 35 (.nt (.t 34))])
 (.cd (.t 35) (.sq (rg [om 36 (.t 0),
 om 37 (.t 1),
 om 38 (.t 2),
 oo 39 (.ca .pure false (.f fid_slices_breakPatternsOrdered_int) [.t 36, .t 37, .t 38])])
 (rg [om 40 (.t 3),
 oo 41 (.bi .sub 0 (.t 40) (i6 1)),
 om 3 (.t 41)]))
 (.sk)))
 (.sq (rg [om 43 (.t 0),
 om 44 (.t 1),
 om 45 (.t 2),
 oo 46 (.ca .pure false (.f fid_slices_choosePivotOrdered_int) [.t 43, .t 44, .t 45]),
 om 42 (.t 46),
 oo 47 (.ex 0 (.t 42)),
 oo 48 (.ex 1 (.t 42)),
 om 11 (.t 47),
 om 12 (.t 48)])
 (.sq (.sq (rg [om 49 (.t 12),
 oo 50 (.bi .eql 0 (.t 49) (i6 2))])
 (.cd (.t 50) (.sq (rg [om 51 (.t 0),
 om 52 (.t 1),
 om 53 (.t 2),
 oo 54 (.ca .pure false (.f fid_slices_reverseRangeOrdered_int) [.t 51, .t 52, .t 53])])
 (.sq (rg [om 55 (.t 2),
 oo 56 (.bi .sub 0 (.t 55) (i6 1)),
 om 57 (.t 11),
 om 58 (.t 1),
 oo 59 (.bi .sub 0 (.t 57) (.t 58)),
 oo 60 (.bi .sub 0 (.t 56) (.t 59)),
 om 11 (.t 60)])
 (rg [om 12 (i6 1)])))
 (.sk)))
 (.sq (.sq (rg [om 61 (.t 8),
 om 62 (.t 61),
 og 63 62 true (.mv (.t 9) none),
 oo 64 (.pk (.t 62) (.t 63) (.k (.bool false))),
 om 65 (.t 64),
 og 66 65 true (.mv (.t 12) none),
 og 67 65 true (.bi .eql 0 (.t 66) (i6 1)),
 oo 68 (.pk (.t 65) (.t 67) (.k (.bool false)))])
 (.cd (.t 68) (.sq (rg [om 69 (.t 0),
 om 70 (.t 1),
 om 71 (.t 2),
 oo 72 (.ca .pure false (.f fid_slices_partialInsertionSortOrdered_int) [.t 69, .t 70, .t 71])])
 (.cd (.t 72) (.rt)
 (.sk)))
 (.sk)))
 (.sq (.sq (.rg (some 0) [om 73 (.t 1),
 oo 74 (.bi .gtr 0 (.t 73) (i6 0)),
 om 75 (.t 74),
 og 76 75 true (.mv (.t 0) none),
 og 77 75 true (.mv (.t 1) none),
 og 78 75 true (.bi .sub 0 (.t 77) (i6 1)),
 og 79 75 true (.ia 1 (.t 76) (.t 78)),
 og 80 75 true (.ld none (.t 79)),
 og 81 75 true (.mv (.t 0) none),
 og 82 75 true (.mv (.t 11) none),
 og 83 75 true (.ia 1 (.t 81) (.t 82)),
 og 84 75 true (.ld none (.t 83)),
 og 85 75 true (.ca .pure false (.f fid_cmp_Less_int) [.t 80, .t 84]),
 og 86 75 true (.nt (.t 85)),
 oo 87 (.pk (.t 75) (.t 86) (.k (.bool false)))])
 (.cd (.t 87) (.sq (rg [om 88 (.t 0),
 om 89 (.t 1),
 om 90 (.t 2),
 om 91 (.t 11),
 oo 92 (.ca .pure false (.f fid_slices_partitionEqualOrdered_int) [.t 88, .t 89, .t 90, .t 91]),
 om 13 (.t 92)])
 (.sq (rg [om 93 (.t 13),
 om 1 (.t 93)])
 (.ex 1)))
 (.sk)))
 (.sq (rg [om 95 (.t 0),
 om 96 (.t 1),
 om 97 (.t 2),
 om 98 (.t 11),
 oo 99 (.ca .pure false (.f fid_slices_partitionOrdered_int) [.t 95, .t 96, .t 97, .t 98]),
 om 94 (.t 99),
 oo 100 (.ex 0 (.t 94)),
 oo 101 (.ex 1 (.t 94)),
 om 14 (.t 100),
 om 15 (.t 101)])
 (.sq (rg [om 102 (.t 15),
 om 9 (.t 102)])
 (.sq (rg [om 103 (.t 14),
 om 104 (.t 1),
 oo 105 (.bi .sub 0 (.t 103) (.t 104)),
 om 106 (.t 2),
 om 107 (.t 14),
 oo 108 (.bi .sub 0 (.t 106) (.t 107)),
 om 16 (.t 105),
 om 17 (.t 108)])
 (.sq (rg [om 109 (.t 10),
 oo 110 (.bi .quo 0 (.t 109) (i6 8)),
 om 18 (.t 110)])
 (.sq (rg [om 111 (.t 16),
 om 112 (.t 17),
 oo 113 (.bi .lss 0 (.t 111) (.t 112))])
 (.cd (.t 113) (.sq (rg [om 114 (.t 16),
 om 115 (.t 18),
 oo 116 (.bi .geq 0 (.t 114) (.t 115)),
 om 8 (.t 116)])
 (.sq (rg [om 117 (.t 0),
 om 118 (.t 1),
 om 119 (.t 14),
 om 120 (.t 3),
 oo 121 (.ca .any false (.f fid_slices_pdqsortOrdered_int) [.t 117, .t 118, .t 119, .t 120])])
 (rg [om 122 (.t 14),
 oo 123 (.bi .add 0 (.t 122) (i6 1)),
 om 1 (.t 123)])))
 (.sq (rg [om 124 (.t 17),
 om 125 (.t 18),
 oo 126 (.bi .geq 0 (.t 124) (.t 125)),
 om 8 (.t 126)])
 (.sq (rg [om 127 (.t 0),
 om 128 (.t 14),
 oo 129 (.bi .add 0 (.t 128) (i6 1)),
 om 130 (.t 2),
 om 131 (.t 3),
 oo 132 (.ca .any false (.f fid_slices_pdqsortOrdered_int) [.t 127, .t 129, .t 130, .t 131])])
 (rg [om 133 (.t 14),
 om 2 (.t 133)])))))))))))))))))))))) }
theorem k_slices_pdqsortOrdered_int : chkF Go.Proofs.Tryz.prog fid_slices_pdqsortOrdered_int c_slices_pdqsortOrdered_int = true := by kernel_rfl

def c_math_bits_Len64 : F2 :=
  { nt := 25, res := [.t 2 [0]], body :=
   (.sq (rg [om 2 (i6 0)])
 (.sq (.sq (rg [om 3 (.t 0),
 oo 4 (.bi .geq 0 (.t 3) (.k (.int .u64 4294967296)))])
 (.cd (.t 4) (.sq (rg [om 5 (.t 0),
 oo 6 (.bi .shr 0 (.t 5) (.k (.int .u64 32))),
 om 0 (.t 6)])
 (rg [om 2 (i6 32)]))
 (.sk)))
 (.sq (.sq (rg [om 7 (.t 0),
 oo 8 (.bi .geq 0 (.t 7) (.k (.int .u64 65536)))])
 (.cd (.t 8) (.sq (rg [om 9 (.t 0),
 oo 10 (.bi .shr 0 (.t 9) (.k (.int .u64 16))),
 om 0 (.t 10)])
 (rg [om 11 (.t 2),
 oo 12 (.bi .add 0 (.t 11) (i6 16)),
 om 2 (.t 12)]))
 (.sk)))
 (.sq (.sq (rg [om 13 (.t 0),
 oo 14 (.bi .geq 0 (.t 13) (.k (.int .u64 256)))])
 (.cd (.t 14) (.sq (rg [om 15 (.t 0),
 oo 16 (.bi .shr 0 (.t 15) (.k (.int .u64 8))),
 om 0 (.t 16)])
 (rg [om 17 (.t 2),
 oo 18 (.bi .add 0 (.t 17) (i6 8)),
 om 2 (.t 18)]))
 (.sk)))
 (.sq (rg [om 19 (.t 2),
 om 20 (.t 0),
 oo 21 (.cv (.int .u8) (.t 20)),
 oo 22 (.ix (.k (.string ⟨#[0, 1, 2, 2, 3, 3, 3, 3, 4, 4, 4, 4, 4, 4, 4, 4, 5, 5, 5, 5, 5, 5, 5, 5, 5, 5, 5, 5, 5, 5, 5, 5, 6, 6, 6, 6, 6, 6, 6, 6, 6, 6, 6, 6, 6, 6, 6, 6, 6, 6, 6, 6, 6, 6, 6, 6, 6, 6, 6, 6, 6, 6, 6, 6, 7, 7, 7, 7, 7, 7, 7, 7, 7, 7, 7, 7, 7, 7, 7, 7, 7, 7, 7, 7, 7, 7, 7, 7, 7, 7, 7, 7, 7, 7, 7, 7, 7, 7, 7, 7, 7, 7, 7, 7, 7, 7, 7, 7, 7, 7, 7, 7, 7, 7, 7, 7, 7, 7, 7, 7, 7, 7, 7, 7, 7, 7, 7, 7, 8, 8, 8, 8, 8, 8, 8, 8, 8, 8, 8, 8, 8, 8, 8, 8, 8, 8, 8, 8, 8, 8, 8, 8, 8, 8, 8, 8, 8, 8, 8, 8, 8, 8, 8, 8, 8, 8, 8, 8, 8, 8, 8, 8, 8, 8, 8, 8, 8, 8, 8, 8, 8, 8, 8, 8, 8, 8, 8, 8, 8, 8, 8, 8, 8, 8, 8, 8, 8, 8, 8, 8, 8, 8, 8, 8, 8, 8, 8, 8, 8, 8, 8, 8, 8, 8, 8, 8, 8, 8, 8, 8, 8, 8, 8, 8, 8, 8, 8, 8, 8, 8, 8, 8, 8, 8, 8, 8, 8, 8, 8, 8, 8, 8, 8, 8, 8, 8, 8, 8, 8, 8, 8, 8, 8, 8, 8, 8]⟩)) (.t 21)),
 oo 23 (.cv (.int .i64) (.t 22)),
 oo 24 (.bi .add 0 (.t 19) (.t 23)),
 om 2 (.t 24)])
 (.rt)))))) }
theorem k_math_bits_Len64 : chkF Go.Proofs.Tryz.prog fid_math_bits_Len64 c_math_bits_Len64 = true := by kernel_rfl

def c_cmp_Compare_int : F2 :=
  { nt := 20, res := [.t 4 [0]], body :=
   (.sq (rg [om 4 (i6 0)])
 (.sq (rg [om 7 (.t 0),
 oo 8 (.ca .pure false (.f fid_cmp_isNaN_int) [.t 7]),
 om 5 (.t 8)])
 (.sq (rg [om 9 (.t 1),
 oo 10 (.ca .pure false (.f fid_cmp_isNaN_int) [.t 9]),
 om 6 (.t 10)])
 (.sq (.sq (rg [om 11 (.t 5)])
 (.cd (.t 11) (.sq (.sq (rg [om 12 (.t 6)])
 (.cd (.t 12) (.sq (rg [om 4 (i6 0)])
 (.rt))
 (.sk)))
 (.sq (rg [om 4 (i6 (-1))])
 (.rt)))
 (.sk)))
 (.sq (.sq (rg [om 13 (.t 6)])
 (.cd (.t 13) (.sq (rg [om 4 (i6 1)])
 (.rt))
 (.sk)))
 (.sq (.sq (rg [om 14 (.t 0),
 om 15 (.t 1),
 oo 16 (.bi .lss 0 (.t 14) (.t 15))])
 (.cd (.t 16) (.sq (rg [om 4 (i6 (-1))])
 (.rt))
 (.sk)))
 (.sq (.sq (rg [om 17 (.t 0),
 om 18 (.t 1),
 oo 19 (.bi .gtr 0 (.t 17) (.t 18))])
 (.cd (.t 19) (.sq (rg [om 4 (i6 1)])
 (.rt))
 (.sk)))
 (.sq (rg [om 4 (i6 0)])
 (.rt))))))))) }
theorem k_cmp_Compare_int : chkF Go.Proofs.Tryz.prog fid_cmp_Compare_int c_cmp_Compare_int = true := by kernel_rfl

def c_slices_insertionSortOrdered_int : F2 :=
  { nt := 49, res := [], body :=
   (.sq (rg [om 8 (.t 1),
 oo 9 (.bi .add 0 (.t 8) (i6 1)),
 om 6 (.t 9)])
 (.bl 0 (.lp [0, 1, 2, 6] [] (.sq (.sq (rg [om 10 (.t 6),
 om 11 (.t 2),
 oo 12 (.bi .lss 0 (.t 10) (.t 11))])
 (.cd (.t 12) (.sk)
 (.ex 0)))
 (.sq (.bl 1 (.sq (rg [om 15 (.t 6),
 om 7 (.t 15)])
 (.bl 2 (.lp [0, 1, 2, 6, 7] [] (.sq (.sq (.rg (some 0) [om 16 (.t 7),
 om 17 (.t 1),
 oo 18 (.bi .gtr 0 (.t 16) (.t 17)),
 om 19 (.t 18),
 og 20 19 true (.mv (.t 0) none),
 og 21 19 true (.mv (.t 7) none),
 og 22 19 true (.ia 1 (.t 20) (.t 21)),
 og 23 19 true (.ld none (.t 22)),
 og 24 19 true (.mv (.t 0) none),
 og 25 19 true (.mv (.t 7) none),
 og 26 19 true (.bi .sub 0 (.t 25) (i6 1)),
 og 27 19 true (.ia 1 (.t 24) (.t 26)),
 og 28 19 true (.ld none (.t 27)),
 og 29 19 true (.ca .pure false (.f fid_cmp_Less_int) [.t 23, .t 28]),
 oo 30 (.pk (.t 19) (.t 29) (.k (.bool false)))])
 (.cd (.t 30) (.sk)
 (.ex 2)))
 (.sq (.bl 3 (.rg (some 0) [om 33 (.t 0),
 om 34 (.t 7),
 om 35 (.t 0),
 om 36 (.t 7),
 oo 37 (.bi .sub 0 (.t 36) (i6 1)),
 om 38 (.t 0),
 om 39 (.t 7),
 oo 40 (.bi .sub 0 (.t 39) (i6 1)),
 oo 41 (.ia 1 (.t 38) (.t 40)),
 oo 42 (.ld none (.t 41)),
 om 43 (.t 0),
 om 44 (.t 7),
 oo 45 (.ia 1 (.t 43) (.t 44)),
 oo 46 (.ld none (.t 45)),
 oo 47 (.ia 1 (.t 33) (.t 34)),
 on1 (.s0 1 (.t 47) (.t 42)),
 oo 48 (.ia 1 (.t 35) (.t 37)),
 on1 (.st 1 (.t 48) (.t 46))]))
 (rg [om 31 (.t 7),
 oo 32 (.bi .sub 0 (.t 31) (i6 1)),
 om 7 (.t 32)])))))))
 (rg [om 13 (.t 6),
 oo 14 (.bi .add 0 (.t 13) (i6 1)),
 om 6 (.t 14)])))))) }
theorem k_slices_insertionSortOrdered_int : chkF Go.Proofs.Tryz.prog fid_slices_insertionSortOrdered_int c_slices_insertionSortOrdered_int = true := by kernel_rfl

def c_cmp_Less_int : F2 :=
  { nt := 17, res := [.t 4 [0]], body :=
   (.sq (rg [om 4 (.k (.bool false))])
 (.sq (rg [om 5 (.t 0),
 oo 6 (.ca .pure false (.f fid_cmp_isNaN_int) [.t 5]),
 om 7 (.t 6),
 og 8 7 true (.mv (.t 1) none),
 og 9 7 true (.ca .pure false (.f fid_cmp_isNaN_int) [.t 8]),
 og 10 7 true (.nt (.t 9)),
 oo 11 (.pk (.t 7) (.t 10) (.k (.bool false))),
 om 12 (.t 11),
 og 13 12 false (.mv (.t 0) none),
 og 14 12 false (.mv (.t 1) none),
 og 15 12 false (.bi .lss 0 (.t 13) (.t 14)),
 oo 16 (.pk (.t 12) (.k (.bool true)) (.t 15)),
 om 4 (.t 16)])
 (.rt))) }
theorem k_cmp_Less_int : chkF Go.Proofs.Tryz.prog fid_cmp_Less_int c_cmp_Less_int = true := by kernel_rfl

def c_cmp_isNaN_int : F2 :=
  { nt := 6, res := [.t 2 [0]], body :=
   (.sq (rg [om 2 (.k (.bool false))])
 (.sq (rg [om 3 (.t 0),
 om 4 (.t 0),
 oo 5 (.bi .neq 0 (.t 3) (.t 4)),
 om 2 (.t 5)])
 (.rt))) }
theorem k_cmp_isNaN_int : chkF Go.Proofs.Tryz.prog fid_cmp_isNaN_int c_cmp_isNaN_int = true := by kernel_rfl

end Go.Fd

/-
  ANNOTATED CODES OF GO'S GENERIC FUNCTIONS ON SLICES, AT ANY ELEMENT (printed by generic.py out of one instance each). Own work.
-/
namespace Go.Fd
def gIxF (k : Nat) (m : Option Nat) : F2 :=
  { nt := 19, res := [.t 4 [0]], body :=
   (.sq (.rg none [⟨some 4, none, .mv (.k (.int .i64 0)) none⟩])
   (.sq (.sq (.rg none [⟨some 6, none, .mv (.t 0) none⟩,
       ⟨some 7, none, .ln (.t 6)⟩,
       ⟨some 8, none, .mv (.k (.int .i64 0)) none⟩])
    (.bl 0 (.lp [0, 1, 7, 8] [] (.sq (.rg none [⟨some 9, none, .bi .lss 0 (.t 8) (.t 7)⟩])
      (.sq (.cd (.t 9) (.sk)
       (.ex 0))
      (.sq (.bl 1 (.sq (.rg none [⟨some 10, none, .mv (.t 8) none⟩,
           ⟨some 5, none, .mv (.t 10) none⟩])
        (.sq (.rg none [⟨some 11, none, .mv (.t 1) none⟩,
           ⟨some 12, none, .mv (.t 0) none⟩,
           ⟨some 13, none, .mv (.t 5) none⟩,
           ⟨some 14, none, .ia k (.t 12) (.t 13)⟩,
           ⟨some 15, none, .ld m (.t 14)⟩,
           ⟨some 16, none, .ca .pure false (.t 11) [.t 15]⟩])
        (.cd (.t 16) (.sq (.rg none [⟨some 17, none, .mv (.t 5) none⟩,
            ⟨some 4, none, .mv (.t 17) none⟩])
         (.rt))
        (.sk)))))
      (.rg none [⟨some 18, none, .bi .add 0 (.t 8) (.k (.int .i64 1))⟩,
        ⟨some 8, none, .mv (.t 18) none⟩])))))))
   (.sq (.rg none [⟨some 4, none, .mv (.k (.int .i64 (-1))) none⟩])
   (.rt)))) }
def gCoF (fi : FuncId) : F2 :=
  { nt := 9, res := [.t 4 [0]], body :=
   (.sq (.rg none [⟨some 4, none, .mv (.k (.bool false)) none⟩])
   (.sq (.rg none [⟨some 5, none, .mv (.t 0) none⟩,
      ⟨some 6, none, .mv (.t 1) none⟩,
      ⟨some 7, none, .ca .pure false (.f fi) [.t 5, .t 6]⟩,
      ⟨some 8, none, .bi .geq 0 (.t 7) (.k (.int .i64 0))⟩,
      ⟨some 4, none, .mv (.t 8) none⟩])
   (.rt))) }
def gEqF (k : Nat) (m : Option Nat) : F2 :=
  { nt := 32, res := [.t 6 [0]], body :=
   (.sq (.rg none [⟨some 6, none, .mv (.k (.bool false)) none⟩])
   (.sq (.sq (.rg none [⟨some 10, none, .mv (.t 0) none⟩,
       ⟨some 11, none, .ln (.t 10)⟩,
       ⟨some 12, none, .mv (.t 1) none⟩,
       ⟨some 13, none, .ln (.t 12)⟩,
       ⟨some 14, none, .bi .neq 0 (.t 11) (.t 13)⟩])
    (.cd (.t 14) (.sq (.rg none [⟨some 6, none, .mv (.k (.bool false)) none⟩])
     (.rt))
    (.sk)))
   (.sq (.sq (.rg none [⟨some 15, none, .mv (.t 0) none⟩,
       ⟨some 16, none, .ln (.t 15)⟩,
       ⟨some 17, none, .mv (.k (.int .i64 0)) none⟩])
    (.bl 0 (.lp [1, 2, 15, 16, 17] [] (.sq (.rg none [⟨some 18, none, .bi .lss 0 (.t 17) (.t 16)⟩])
      (.sq (.cd (.t 18) (.sk)
       (.ex 0))
      (.sq (.bl 1 (.sq (.rg none [⟨some 19, none, .mv (.t 17) none⟩,
           ⟨some 20, none, .ia k (.t 15) (.t 17)⟩,
           ⟨some 21, none, .ld m (.t 20)⟩,
           ⟨some 7, none, .mv (.t 19) none⟩,
           ⟨some 8, none, .mv (.t 21) none⟩])
        (.sq (.rg none [⟨some 22, none, .mv (.t 1) none⟩,
           ⟨some 23, none, .mv (.t 7) none⟩,
           ⟨some 24, none, .ia k (.t 22) (.t 23)⟩,
           ⟨some 25, none, .ld m (.t 24)⟩,
           ⟨some 9, none, .mv (.t 25) none⟩])
        (.sq (.rg none [⟨some 26, none, .mv (.t 2) none⟩,
           ⟨some 27, none, .mv (.t 8) none⟩,
           ⟨some 28, none, .mv (.t 9) none⟩,
           ⟨some 29, none, .ca .pure false (.t 26) [.t 27, .t 28]⟩,
           ⟨some 30, none, .nt (.t 29)⟩])
        (.cd (.t 30) (.sq (.rg none [⟨some 6, none, .mv (.k (.bool false)) none⟩])
         (.rt))
        (.sk))))))
      (.rg none [⟨some 31, none, .bi .add 0 (.t 17) (.k (.int .i64 1))⟩,
        ⟨some 17, none, .mv (.t 31) none⟩])))))))
   (.sq (.rg none [⟨some 6, none, .mv (.k (.bool true)) none⟩])
   (.rt))))) }
def gEq1  : F2 :=
  { nt := 26, res := [.t 4 [0]], body :=
   (.sq (.rg none [⟨some 4, none, .mv (.k (.bool false)) none⟩])
   (.sq (.sq (.rg none [⟨some 6, none, .mv (.t 0) none⟩,
       ⟨some 7, none, .ln (.t 6)⟩,
       ⟨some 8, none, .mv (.t 1) none⟩,
       ⟨some 9, none, .ln (.t 8)⟩,
       ⟨some 10, none, .bi .neq 0 (.t 7) (.t 9)⟩])
    (.cd (.t 10) (.sq (.rg none [⟨some 4, none, .mv (.k (.bool false)) none⟩])
     (.rt))
    (.sk)))
   (.sq (.sq (.rg none [⟨some 11, none, .mv (.t 0) none⟩,
       ⟨some 12, none, .ln (.t 11)⟩,
       ⟨some 13, none, .mv (.k (.int .i64 0)) none⟩])
    (.bl 0 (.lp [0, 1, 12, 13] [] (.sq (.rg none [⟨some 14, none, .bi .lss 0 (.t 13) (.t 12)⟩])
      (.sq (.cd (.t 14) (.sk)
       (.ex 0))
      (.sq (.bl 1 (.sq (.rg none [⟨some 15, none, .mv (.t 13) none⟩,
           ⟨some 5, none, .mv (.t 15) none⟩])
        (.sq (.rg (some 0) [⟨some 16, none, .mv (.t 0) none⟩,
           ⟨some 17, none, .mv (.t 5) none⟩,
           ⟨some 18, none, .ia 1 (.t 16) (.t 17)⟩,
           ⟨some 19, none, .ld none (.t 18)⟩,
           ⟨some 20, none, .mv (.t 1) none⟩,
           ⟨some 21, none, .mv (.t 5) none⟩,
           ⟨some 22, none, .ia 1 (.t 20) (.t 21)⟩,
           ⟨some 23, none, .ld none (.t 22)⟩,
           ⟨some 24, none, .bi .neq 0 (.t 19) (.t 23)⟩])
        (.cd (.t 24) (.sq (.rg none [⟨some 4, none, .mv (.k (.bool false)) none⟩])
         (.rt))
        (.sk)))))
      (.rg none [⟨some 25, none, .bi .add 0 (.t 13) (.k (.int .i64 1))⟩,
        ⟨some 13, none, .mv (.t 25) none⟩])))))))
   (.sq (.rg none [⟨some 4, none, .mv (.k (.bool true)) none⟩])
   (.rt))))) }
def gIxK (k : Nat) (ks : List Nat) : F2 :=
  { nt := 19, res := [.t 4 [0]], body :=
   (.sq (.rg none [⟨some 3, none, .bt (.t 1)⟩,
      ⟨some 4, none, .mv (.k (.int .i64 0)) none⟩])
   (.sq (.sq (.rg none [⟨some 6, none, .mv (.t 0) none⟩,
       ⟨some 7, none, .ln (.t 6)⟩,
       ⟨some 8, none, .mv (.k (.int .i64 0)) none⟩])
    (.bl 0 (.lp [0, 3, 7, 8] [] (.sq (.rg none [⟨some 9, none, .bi .lss 0 (.t 8) (.t 7)⟩])
      (.sq (.cd (.t 9) (.sk)
       (.ex 0))
      (.sq (.bl 1 (.sq (.rg none [⟨some 10, none, .mv (.t 8) none⟩,
           ⟨some 5, none, .mv (.t 10) none⟩])
        (.sq (.rg (some 0) [⟨some 11, none, .ld (some k) (.t 3)⟩,
           ⟨some 12, none, .mv (.t 0) none⟩,
           ⟨some 13, none, .mv (.t 5) none⟩,
           ⟨some 14, none, .ia k (.t 12) (.t 13)⟩,
           ⟨some 15, none, .ld (some k) (.t 14)⟩,
           ⟨some 16, none, .qa false ks (.t 11) (.t 15)⟩])
        (.cd (.t 16) (.sq (.rg none [⟨some 17, none, .mv (.t 5) none⟩,
            ⟨some 4, none, .mv (.t 17) none⟩])
         (.rt))
        (.sk)))))
      (.rg none [⟨some 18, none, .bi .add 0 (.t 8) (.k (.int .i64 1))⟩,
        ⟨some 8, none, .mv (.t 18) none⟩])))))))
   (.sq (.rg none [⟨some 4, none, .mv (.k (.int .i64 (-1))) none⟩])
   (.rt)))) }
def gCoK (k : Nat) (fi : FuncId) : F2 :=
  { nt := 9, res := [.t 4 [0]], body :=
   (.sq (.rg none [⟨some 3, none, .bt (.t 1)⟩,
      ⟨some 4, none, .mv (.k (.bool false)) none⟩])
   (.sq (.rg none [⟨some 5, none, .mv (.t 0) none⟩,
      ⟨some 6, none, .ld (some k) (.t 3)⟩,
      ⟨some 7, none, .ca .pure false (.f fi) [.t 5, .t 6]⟩,
      ⟨some 8, none, .bi .geq 0 (.t 7) (.k (.int .i64 0))⟩,
      ⟨some 4, none, .mv (.t 8) none⟩])
   (.rt))) }
end Go.Fd

/-
  GO'S GENERIC FUNCTIONS ON SLICES, AT ANY ELEMENT. Own work.
-/
namespace Go.Fd
set_option maxRecDepth 20000

section rules
variable {L : Sto} {F : List IV → Prop} {lvl : Nat}
theorem r_snta : ∀ {l : List (List Tr)} {F : List IV → Prop}, snaps L (l.map IV.ta) F = F (l.map IV.ta)
  | [], F => r_sn0
  | x :: r, F => by
    simp only [List.map_cons]
    rw [r_sn5, r_snta]
    rfl
theorem r_mensta {Pd : Oid → Prop} : ∀ {l : List (List Tr)}, mens Pd (l.map IV.ta) = True
  | [] => rfl
  | x :: r => by
    simp only [List.map_cons, mens, men, true_and]
    exact r_mensta
theorem r_okmsta {js : List Nat} {l : List (List Tr)} : okms lvl js (l.map IV.ta) = True := r_mensta
end rules

theorem r_allc {l : List Tr} : (l.map IV.tr).all isCell = true := by simp [isCell]
theorem totrs_tr : ∀ (l : List Tr), ∃ u, totrs (l.map .tr) = some (l, u)
  | [] => ⟨true, rfl⟩
  | x :: r => by
    obtain ⟨u, h⟩ := totrs_tr r
    cases x with
    | v y => exact ⟨true && u, by simp only [List.map_cons, totrs, totr, h]⟩
    | sl es => exact ⟨false && u, by simp only [List.map_cons, totrs, totr, h]⟩
noncomputable def trsU (l : List Tr) : Bool := Classical.choose (totrs_tr l)
/-- A struct of trees as an argument is boxed. -/
theorem r_totrs {l : List Tr} : totrs (l.map .tr) = some (l, trsU l) := Classical.choose_spec (totrs_tr l)
section
variable {P : Program} {α : Type}
theorem getA {α β : Type} {c : α → β} {l : List α} {j : Nat} (h : j < l.length) : (l.map c)[j]? = some (c l[j]) := by simp [h]
theorem cut_take0 {α : Type} {c : α → List Tr} {l : List α} {j : Nat} : cut (l.map c) 0 (j - 0) = (l.take j).map c := by
  simp only [cut, List.drop_zero, Nat.sub_zero, List.map_take]
theorem drop_cons {α : Type} {l : List α} {j : Nat} (h : j < l.length) : l.drop j = l[j] :: l.drop (j + 1) := List.drop_eq_getElem_cons h

/-- The first place that answers true, -1 for none. -/
def ixF (f : α → Bool) : List α → Int → Int
  | [], _ => -1
  | x :: r, j => if f x = true then j else ixF f r (j + 1)
theorem ixF_cons {f : α → Bool} {x : α} {r : List α} {j : Int} : ixF f (x :: r) j = if f x = true then j else ixF f r (j + 1) := rfl
theorem ixF_any {f : α → Bool} : ∀ {l : List α} {j : Int}, 0 ≤ j → (0 ≤ ixF f l j ↔ l.any f = true)
  | [], j, _ => by simp [ixF]
  | x :: r, j, h => by
    rw [ixF_cons, List.any_cons]
    cases hx : f x with
    | true => simp [h]
    | false =>
      simp only [Bool.false_eq_true, if_false, Bool.false_or]
      exact ixF_any (by omega)

theorem sem_ixF1 {fid : FuncId} (hc : chkF P fid (gIxF 1 none) = true) {t : α → Tr} {f : α → Bool} {fe : FuncId} {cs : List (List Tr)} (l : List α) (hl : l.length ≤ 9223372036854775807)
    (hf : ∀ x ∈ l, ∀ lvl S, Sem P fe lvl (.tr (t x) :: cs.map IV.ta) S (iB (f x)) S) (lvl : Nat) (S : Sto) : Sem P fid lvl [.tr (.sl (l.map fun x => [t x])), .fn fe (cs.map IV.ta)] S (iI (ixF f l 0)) S := by
  refine sem_of_chk hc trivial ?_
  simp only [gIxF, List.length_map, r_okmsta, EVA, ↓reduceIte, Nat.reduceEqDiff, Nat.reduceMul, reduceCtorEq, Nat.reduceAdd, Nat.reduceSub, Nat.reduceLeDiff, Nat.reduceLT, Int.reduceToNat, Int.reduceLE, Int.reduceLT, mens, men]
  refine wp_cnt (α := Unit) l.length (fun j _ => [(8, iI j)]) (fun _ _ => []) (fun j _ => ixF f (l.drop j) j = ixF f l 0) () (by simp only [r_okmsta, EVA, ↓reduceIte, Nat.reduceEqDiff, Nat.reduceMul, reduceCtorEq, Nat.reduceAdd, Nat.reduceSub, Nat.reduceLeDiff, Nat.reduceLT, Int.reduceToNat, Int.reduceLE, Int.reduceLT, mens, men]) (by (simp only [EVA, ↓reduceIte, Nat.reduceEqDiff, Nat.reduceMul, reduceCtorEq, Nat.reduceAdd, Nat.reduceSub, Nat.reduceLeDiff, Nat.reduceLT, Int.reduceToNat, Int.reduceLE, Int.reduceLT, mens, men]) <;> rfl) rfl ?_
  intro j _ hj hA
  simp only [List.length_map, r_okmsta, EVA, ↓reduceIte, Nat.reduceEqDiff, Nat.reduceMul, reduceCtorEq, Nat.reduceAdd, Nat.reduceSub, Nat.reduceLeDiff, Nat.reduceLT, Int.reduceToNat, Int.reduceLE, Int.reduceLT, mens, men]
  refine ite_of (fun hlt => ?_) (fun hge => ?_)
  · have hja : j < l.length := by omega
    have ga := getA (c := fun x => [t x]) hja
    rw [drop_cons hja, ixF_cons] at hA
    simp only [ga, r_okmsta, r_snta, r_mensta, EVA, ↓reduceIte, Nat.reduceEqDiff, Nat.reduceMul, reduceCtorEq, Nat.reduceAdd, Nat.reduceSub, Nat.reduceLeDiff, Nat.reduceLT, Int.reduceToNat, Int.reduceLE, Int.reduceLT, mens, men]
    refine kca_intro (hf _ (List.getElem_mem hja)) ?_
    simp only [r_mensta, r_okmsta, EVA, ↓reduceIte, Nat.reduceEqDiff, Nat.reduceMul, reduceCtorEq, Nat.reduceAdd, Nat.reduceSub, Nat.reduceLeDiff, Nat.reduceLT, Int.reduceToNat, Int.reduceLE, Int.reduceLT, mens, men]
    refine ite_of (fun h => ?_) (fun h => ?_)
    · rw [if_pos h] at hA
      rw [← hA]
    · rw [if_neg h] at hA
      exact ⟨by rw [fits_i64]; omega, cntJ_intro () hja rfl hA⟩
  · have : j = l.length := by omega
    subst this
    rw [List.drop_length] at hA
    rw [← hA]
    rfl
theorem sem_ixFk {k : Nat} {fid : FuncId} (hc : chkF P fid (gIxF k (some k)) = true) {c : α → List Tr} (hk : ∀ x, (c x).length = k) {f : α → Bool} {fe : FuncId} {cs : List (List Tr)} (l : List α) (hl : l.length ≤ 9223372036854775807)
    (hf : ∀ x ∈ l, ∀ lvl S, Sem P fe lvl (.ag ((c x).map .tr) :: cs.map IV.ta) S (iB (f x)) S) (lvl : Nat) (S : Sto) : Sem P fid lvl [.tr (.sl (l.map c)), .fn fe (cs.map IV.ta)] S (iI (ixF f l 0)) S := by
  refine sem_of_chk hc trivial ?_
  simp only [gIxF, List.length_map, r_okmsta, EVA, ↓reduceIte, Nat.reduceEqDiff, Nat.reduceMul, reduceCtorEq, Nat.reduceAdd, Nat.reduceSub, Nat.reduceLeDiff, Nat.reduceLT, Int.reduceToNat, Int.reduceLE, Int.reduceLT, mens, men]
  refine wp_cnt (α := Unit) l.length (fun j _ => [(8, iI j)]) (fun _ _ => []) (fun j _ => ixF f (l.drop j) j = ixF f l 0) () (by simp only [r_okmsta, EVA, ↓reduceIte, Nat.reduceEqDiff, Nat.reduceMul, reduceCtorEq, Nat.reduceAdd, Nat.reduceSub, Nat.reduceLeDiff, Nat.reduceLT, Int.reduceToNat, Int.reduceLE, Int.reduceLT, mens, men]) (by (simp only [EVA, ↓reduceIte, Nat.reduceEqDiff, Nat.reduceMul, reduceCtorEq, Nat.reduceAdd, Nat.reduceSub, Nat.reduceLeDiff, Nat.reduceLT, Int.reduceToNat, Int.reduceLE, Int.reduceLT, mens, men]) <;> rfl) rfl ?_
  intro j _ hj hA
  simp only [List.length_map, r_okmsta, EVA, ↓reduceIte, Nat.reduceEqDiff, Nat.reduceMul, reduceCtorEq, Nat.reduceAdd, Nat.reduceSub, Nat.reduceLeDiff, Nat.reduceLT, Int.reduceToNat, Int.reduceLE, Int.reduceLT, mens, men]
  refine ite_of (fun hlt => ?_) (fun hge => ?_)
  · have hja : j < l.length := by omega
    have ga := getA (c := c) hja
    have hkk := hk l[j]
    have htk : (c l[j]).take k = c l[j] := List.take_of_length_le (by omega)
    rw [drop_cons hja, ixF_cons] at hA
    simp only [ga, hkk, htk, r_okmsta, r_snta, r_snm, r_mensta, r_mensm, EVA, ↓reduceIte, Nat.reduceEqDiff, Nat.reduceMul, reduceCtorEq, Nat.reduceAdd, Nat.reduceSub, Nat.reduceLeDiff, Nat.reduceLT, Int.reduceToNat, Int.reduceLE, Int.reduceLT, mens, men]
    refine kca_intro (hf _ (List.getElem_mem hja)) ?_
    simp only [r_mensta, r_mensm, r_okmsta, EVA, ↓reduceIte, Nat.reduceEqDiff, Nat.reduceMul, reduceCtorEq, Nat.reduceAdd, Nat.reduceSub, Nat.reduceLeDiff, Nat.reduceLT, Int.reduceToNat, Int.reduceLE, Int.reduceLT, mens, men]
    refine ite_of (fun h => ?_) (fun h => ?_)
    · rw [if_pos h] at hA
      rw [← hA]
    · rw [if_neg h] at hA
      exact ⟨by rw [fits_i64]; omega, cntJ_intro () hja rfl hA⟩
  · have : j = l.length := by omega
    subst this
    rw [List.drop_length] at hA
    rw [← hA]
    rfl
theorem sem_coF {fid fi : FuncId} (hc : chkF P fid (gCoF fi) = true) {es : Row} {f : α → Bool} {fe : FuncId} {cs : List (List Tr)} {l : List α}
    (hi : ∀ lvl S, Sem P fi lvl [.tr (.sl es), .fn fe (cs.map IV.ta)] S (iI (ixF f l 0)) S) (lvl : Nat) (S : Sto) : Sem P fid lvl [.tr (.sl es), .fn fe (cs.map IV.ta)] S (iB (l.any f)) S := by
  refine sem_of_chk hc trivial ?_
  simp only [gCoF, r_snta, r_mensta, r_okmsta, EVA, ↓reduceIte, Nat.reduceEqDiff, Nat.reduceMul, reduceCtorEq, Nat.reduceAdd, Nat.reduceSub, Nat.reduceLeDiff, Nat.reduceLT, Int.reduceToNat, Int.reduceLE, Int.reduceLT, mens, men]
  refine kca_intro hi ?_
  simp only [r_snta, r_mensta, EVA, ↓reduceIte, Nat.reduceEqDiff, Nat.reduceMul, reduceCtorEq, Nat.reduceAdd, Nat.reduceSub, Nat.reduceLeDiff, Nat.reduceLT, Int.reduceToNat, Int.reduceLE, Int.reduceLT, mens, men]
  have := ixF_any (f := f) (l := l) (Int.le_refl 0)
  by_cases h : l.any f = true
  · simp [h, this.2 h]
  · simp [h, mt this.1 h]
theorem sem_coF1 {fid fi : FuncId} (hc : chkF P fid (gCoF fi) = true) (hi : chkF P fi (gIxF 1 none) = true) {t : α → Tr} {f : α → Bool} {fe : FuncId} {cs : List (List Tr)} (l : List α) (hl : l.length ≤ 9223372036854775807)
    (hf : ∀ x ∈ l, ∀ lvl S, Sem P fe lvl (.tr (t x) :: cs.map IV.ta) S (iB (f x)) S) (lvl : Nat) (S : Sto) : Sem P fid lvl [.tr (.sl (l.map fun x => [t x])), .fn fe (cs.map IV.ta)] S (iB (l.any f)) S :=
  sem_coF hc (sem_ixF1 hi l hl hf) lvl S
theorem sem_coFk {k : Nat} {fid fi : FuncId} (hc : chkF P fid (gCoF fi) = true) (hi : chkF P fi (gIxF k (some k)) = true) {c : α → List Tr} (hk : ∀ x, (c x).length = k) {f : α → Bool} {fe : FuncId} {cs : List (List Tr)} (l : List α) (hl : l.length ≤ 9223372036854775807)
    (hf : ∀ x ∈ l, ∀ lvl S, Sem P fe lvl (.ag ((c x).map .tr) :: cs.map IV.ta) S (iB (f x)) S) (lvl : Nat) (S : Sto) : Sem P fid lvl [.tr (.sl (l.map c)), .fn fe (cs.map IV.ta)] S (iB (l.any f)) S :=
  sem_coF hc (sem_ixFk hi hk l hl hf) lvl S

/-! ## equal slices -/
theorem sem_eqF1 {fid : FuncId} (hc : chkF P fid (gEqF 1 none) = true) [DecidableEq α] {t : α → Tr} {fe : FuncId} {cs : List (List Tr)} (a b : List α) (ha : a.length ≤ 9223372036854775807)
    (hf : ∀ x ∈ a, ∀ y ∈ b, ∀ lvl S, Sem P fe lvl (.tr (t x) :: .tr (t y) :: cs.map IV.ta) S (iB (decide (x = y))) S) (lvl : Nat) (S : Sto) : Sem P fid lvl [.tr (.sl (a.map fun x => [t x])), .tr (.sl (b.map fun x => [t x])), .fn fe (cs.map IV.ta)] S (iB (decide (a = b))) S := by
  refine sem_of_chk hc trivial ?_
  simp only [gEqF, List.length_map, r_okmsta, EVA, ↓reduceIte, Nat.reduceEqDiff, Nat.reduceMul, reduceCtorEq, Nat.reduceAdd, Nat.reduceSub, Nat.reduceLeDiff, Nat.reduceLT, Int.reduceToNat, Int.reduceLE, Int.reduceLT, mens, men]
  refine ite_of (fun h => ?_) (fun h => ?_)
  · have : ¬ a = b := fun e => h (by rw [e])
    simp [this]
  have hlen : a.length = b.length := by omega
  refine wp_cnt (α := Unit) a.length (fun j _ => [(17, iI j)]) (fun _ _ => []) (fun j _ => a.take j = b.take j) () (by simp only [r_okmsta, EVA, ↓reduceIte, Nat.reduceEqDiff, Nat.reduceMul, reduceCtorEq, Nat.reduceAdd, Nat.reduceSub, Nat.reduceLeDiff, Nat.reduceLT, Int.reduceToNat, Int.reduceLE, Int.reduceLT, mens, men]) (by (simp only [EVA, ↓reduceIte, Nat.reduceEqDiff, Nat.reduceMul, reduceCtorEq, Nat.reduceAdd, Nat.reduceSub, Nat.reduceLeDiff, Nat.reduceLT, Int.reduceToNat, Int.reduceLE, Int.reduceLT, mens, men]) <;> rfl) rfl ?_
  intro j _ hj hA
  simp only [List.length_map, r_okmsta, EVA, ↓reduceIte, Nat.reduceEqDiff, Nat.reduceMul, reduceCtorEq, Nat.reduceAdd, Nat.reduceSub, Nat.reduceLeDiff, Nat.reduceLT, Int.reduceToNat, Int.reduceLE, Int.reduceLT, mens, men]
  refine ite_of (fun hlt => ?_) (fun hge => ?_)
  · have hja : j < a.length := by omega
    have hjb : j < b.length := by omega
    have ga := getA (c := fun x => [t x]) hja
    have gb := getA (c := fun x => [t x]) hjb
    simp only [ga, gb, r_okmsta, r_snta, r_mensta, EVA, ↓reduceIte, Nat.reduceEqDiff, Nat.reduceMul, reduceCtorEq, Nat.reduceAdd, Nat.reduceSub, Nat.reduceLeDiff, Nat.reduceLT, Int.reduceToNat, Int.reduceLE, Int.reduceLT, mens, men]
    refine kca_intro (hf _ (List.getElem_mem hja) _ (List.getElem_mem hjb)) ?_
    simp only [r_mensta, r_okmsta, EVA, ↓reduceIte, Nat.reduceEqDiff, Nat.reduceMul, reduceCtorEq, Nat.reduceAdd, Nat.reduceSub, Nat.reduceLeDiff, Nat.reduceLT, Int.reduceToNat, Int.reduceLE, Int.reduceLT, mens, men]
    refine ite_of (fun hne => ?_) (fun he => ?_)
    · have : ¬ a = b := list_ne_at hja hjb (by simpa using hne)
      simp [this]
    · exact ⟨by rw [fits_i64]; omega, cntJ_intro () hja rfl (take_succ_eq hja hjb hA (by simpa using he))⟩
  · have : j = a.length := by omega
    subst this
    have : a = b := list_eq_all hlen hA
    simp [this]
/-- What the machine compares: numbers and strings. -/
structure Cmp (t : α → Tr) : Prop where
  neq : ∀ (x y : α) (F : IV → Prop), bi2 .neq 0 (.tr (t x)) (.tr (t y)) F = F (iB (!(@decide (x = y) (Classical.propDecidable _))))
  eql : ∀ (x y : α) (F : IV → Prop), bi2 .eql 0 (.tr (t x)) (.tr (t y)) F = F (iB (@decide (x = y) (Classical.propDecidable _)))
theorem cmpTI : Cmp tv := ⟨fun x y F => by rw [r_nei]; congr 2; by_cases h : x = y <;> simp [h], fun x y F => by rw [r_eqi]; congr 2; by_cases h : x = y <;> simp [h]⟩
theorem sem_eq1 {fid : FuncId} (hc : chkF P fid gEq1 = true) [DecidableEq α] {t : α → Tr} (hT : Cmp t) (a b : List α) (ha : a.length ≤ 9223372036854775807) (lvl : Nat) (S : Sto) : Sem P fid lvl [.tr (.sl (a.map fun x => [t x])), .tr (.sl (b.map fun x => [t x]))] S (iB (decide (a = b))) S := by
  refine sem_of_chk hc trivial ?_
  simp only [gEq1, List.length_map, EVA, ↓reduceIte, Nat.reduceEqDiff, Nat.reduceMul, reduceCtorEq, Nat.reduceAdd, Nat.reduceSub, Nat.reduceLeDiff, Nat.reduceLT, Int.reduceToNat, Int.reduceLE, Int.reduceLT, mens, men]
  refine ite_of (fun h => ?_) (fun h => ?_)
  · have : ¬ a = b := fun e => h (by rw [e])
    simp [this]
  have hlen : a.length = b.length := by omega
  refine wp_cnt (α := Unit) a.length (fun j _ => [(13, iI j)]) (fun _ _ => []) (fun j _ => a.take j = b.take j) () (by simp only [EVA, ↓reduceIte, Nat.reduceEqDiff, Nat.reduceMul, reduceCtorEq, Nat.reduceAdd, Nat.reduceSub, Nat.reduceLeDiff, Nat.reduceLT, Int.reduceToNat, Int.reduceLE, Int.reduceLT, mens, men]) (by (simp only [EVA, ↓reduceIte, Nat.reduceEqDiff, Nat.reduceMul, reduceCtorEq, Nat.reduceAdd, Nat.reduceSub, Nat.reduceLeDiff, Nat.reduceLT, Int.reduceToNat, Int.reduceLE, Int.reduceLT, mens, men]) <;> rfl) rfl ?_
  intro j _ hj hA
  simp only [List.length_map, EVA, ↓reduceIte, Nat.reduceEqDiff, Nat.reduceMul, reduceCtorEq, Nat.reduceAdd, Nat.reduceSub, Nat.reduceLeDiff, Nat.reduceLT, Int.reduceToNat, Int.reduceLE, Int.reduceLT, mens, men]
  refine ite_of (fun hlt => ?_) (fun hge => ?_)
  · have hja : j < a.length := by omega
    have hjb : j < b.length := by omega
    have ga := getA (c := fun x => [t x]) hja
    have gb := getA (c := fun x => [t x]) hjb
    have hq := hT.neq a[j] b[j]
    simp only [ga, gb, hq, EVA, ↓reduceIte, Nat.reduceEqDiff, Nat.reduceMul, reduceCtorEq, Nat.reduceAdd, Nat.reduceSub, Nat.reduceLeDiff, Nat.reduceLT, Int.reduceToNat, Int.reduceLE, Int.reduceLT, mens, men]
    refine ite_of (fun hne => ?_) (fun he => ?_)
    · have : ¬ a = b := list_ne_at hja hjb (by simpa using hne)
      simp [this]
    · exact ⟨by rw [fits_i64]; omega, cntJ_intro () hja rfl (take_succ_eq hja hjb hA (by simpa using he))⟩
  · have : j = a.length := by omega
    subst this
    have : a = b := list_eq_all hlen hA
    simp [this]

/-! ## the place of an element -/
theorem any_mem [DecidableEq α] {l : List α} {v : α} : l.any (fun x => decide (v = x)) = decide (v ∈ l) := by
  rw [Bool.eq_iff_iff]
  simp [List.any_eq_true]
/-- Structs that the machine compares. -/
structure CmpK (k : Nat) (ks : List Nat) (c : α → List Tr) : Prop where
  len : ∀ x, (c x).length = k
  eql : ∀ (x y : α) (F : IV → Prop), eq2 ks (.ag ((c x).map .tr)) (.ag ((c y).map .tr)) false F = F (iB (@decide (x = y) (Classical.propDecidable _)))
theorem sem_ixK {k : Nat} {ks : List Nat} {fid : FuncId} (hc : chkF P fid (gIxK k ks) = true) [DecidableEq α] {c : α → List Tr} (hT : CmpK k ks c) (l : List α) (v : α) (hl : l.length ≤ 9223372036854775807) (lvl : Nat) (S : Sto) : Sem P fid lvl [.tr (.sl (l.map c)), .ag ((c v).map .tr)] S (iI (ixF (fun x => decide (v = x)) l 0)) S := by
  refine sem_of_chk hc trivial ?_
  have hlv := hT.len v
  have hqv : (c v).take k = c v := List.take_of_length_le (by omega)
  simp only [gIxK, List.length_map, r_allc, r_totrs, EVA, ↓reduceIte, Nat.reduceEqDiff, Nat.reduceMul, reduceCtorEq, Nat.reduceAdd, Nat.reduceSub, Nat.reduceLeDiff, Nat.reduceLT, Int.reduceToNat, Int.reduceLE, Int.reduceLT, mens, men]
  refine wp_cnt (α := Unit) l.length (fun j _ => [(8, iI j)]) (fun _ _ => []) (fun j _ => ixF (fun x => decide (v = x)) (l.drop j) j = ixF (fun x => decide (v = x)) l 0) () (by simp only [EVA, ↓reduceIte, Nat.reduceEqDiff, Nat.reduceMul, reduceCtorEq, Nat.reduceAdd, Nat.reduceSub, Nat.reduceLeDiff, Nat.reduceLT, Int.reduceToNat, Int.reduceLE, Int.reduceLT, mens, men]) (by (simp only [EVA, ↓reduceIte, Nat.reduceEqDiff, Nat.reduceMul, reduceCtorEq, Nat.reduceAdd, Nat.reduceSub, Nat.reduceLeDiff, Nat.reduceLT, Int.reduceToNat, Int.reduceLE, Int.reduceLT, mens, men]) <;> rfl) rfl ?_
  intro j _ hj hA
  simp only [List.length_map, EVA, ↓reduceIte, Nat.reduceEqDiff, Nat.reduceMul, reduceCtorEq, Nat.reduceAdd, Nat.reduceSub, Nat.reduceLeDiff, Nat.reduceLT, Int.reduceToNat, Int.reduceLE, Int.reduceLT, mens, men]
  refine ite_of (fun hlt => ?_) (fun hge => ?_)
  · have hja : j < l.length := by omega
    have ga := getA (c := c) hja
    have hla := hT.len l[j]
    have hqa : (c l[j]).take k = c l[j] := List.take_of_length_le (by omega)
    have hq := hT.eql v l[j]
    rw [drop_cons hja, ixF_cons] at hA
    simp only [ga, hlv, hqv, hla, hqa, hq, EVA, ↓reduceIte, Nat.reduceEqDiff, Nat.reduceMul, reduceCtorEq, Nat.reduceAdd, Nat.reduceSub, Nat.reduceLeDiff, Nat.reduceLT, Int.reduceToNat, Int.reduceLE, Int.reduceLT, mens, men]
    refine ite_of (fun h => ?_) (fun h => ?_)
    · rw [if_pos (by simpa using h)] at hA
      rw [← hA]
    · rw [if_neg (by simpa using h)] at hA
      exact ⟨by rw [fits_i64]; omega, cntJ_intro () hja rfl hA⟩
  · have : j = l.length := by omega
    subst this
    rw [List.drop_length] at hA
    rw [← hA]
    rfl
theorem sem_coK {k : Nat} {ks : List Nat} {fid fi : FuncId} (hc : chkF P fid (gCoK k fi) = true) (hi : chkF P fi (gIxK k ks) = true) [DecidableEq α] {c : α → List Tr} (hT : CmpK k ks c) (l : List α) (v : α) (hl : l.length ≤ 9223372036854775807) (lvl : Nat) (S : Sto) : Sem P fid lvl [.tr (.sl (l.map c)), .ag ((c v).map .tr)] S (iB (decide (v ∈ l))) S := by
  refine sem_of_chk hc trivial ?_
  have hlv := hT.len v
  have hqv : (c v).take k = c v := List.take_of_length_le (by omega)
  simp only [gCoK, r_allc, r_totrs, hlv, hqv, r_snm, r_mensm, EVA, ↓reduceIte, Nat.reduceEqDiff, Nat.reduceMul, reduceCtorEq, Nat.reduceAdd, Nat.reduceSub, Nat.reduceLeDiff, Nat.reduceLT, Int.reduceToNat, Int.reduceLE, Int.reduceLT, mens, men]
  refine kca_intro (sem_ixK hi hT l v hl) ?_
  simp only [r_mensm, EVA, ↓reduceIte, Nat.reduceEqDiff, Nat.reduceMul, reduceCtorEq, Nat.reduceAdd, Nat.reduceSub, Nat.reduceLeDiff, Nat.reduceLT, Int.reduceToNat, Int.reduceLE, Int.reduceLT, mens, men]
  have := ixF_any (f := fun x => decide (v = x)) (l := l) (Int.le_refl 0)
  rw [any_mem] at this
  by_cases h : v ∈ l
  · simp [h, this.2 (by simpa using h)]
  · have h2 : ¬ 0 ≤ ixF (fun x => decide (v = x)) l 0 := fun hh => h (by simpa using this.1 hh)
    simp [h, h2]
end
end Go.Fd

/-
  WHAT HOLDS OF THE PROGRAM'S AND THE REFERENCE'S SMALL FUNCTIONS ON NUMBERS. Own work.
-/
namespace Go.Fd
set_option maxRecDepth 20000

/-- A statement as a bool. -/
noncomputable def dc (p : Prop) : Bool := @decide p (Classical.propDecidable p)
theorem dc_iff {p : Prop} : dc p = true ↔ p := by unfold dc; simp
theorem dc_true {p : Prop} (h : p) : dc p = true := dc_iff.2 h
theorem dc_false {p : Prop} (h : ¬ p) : dc p = false := by
  cases hh : dc p with
  | false => rfl
  | true => exact absurd (dc_iff.1 hh) h
theorem dc_not {p : Prop} : dc p = false ↔ ¬ p := ⟨fun h hp => (by rw [dc_true hp] at h; cases h), dc_false⟩
theorem dc_congr {p q : Prop} (h : p ↔ q) : dc p = dc q := by rw [propext h]
theorem dc_decide {p : Prop} [Decidable p] : dc p = decide p := by
  by_cases h : p
  · rw [dc_true h]; simp [h]
  · rw [dc_false h]; simp [h]

abbrev g0 (l : List Int) (i : Nat) : Int := l.getD i 0
abbrev A3 := Int × Int × Int
abbrev g3 (l : List A3) (i : Nat) : A3 := l.getD i (0, 0, 0)
theorem rI_get {l : List Int} {i : Nat} (h : i < l.length) : (rI l)[i]? = some [tv (g0 l i)] := by simp [h]
def inB (n a b : Int) : Bool := decide (a ≤ n) && decide (n ≤ b)
theorem inB_iff {n a b : Int} : inB n a b = true ↔ a ≤ n ∧ n ≤ b := by simp [inB]
theorem inB_not {n a b : Int} : inB n a b = false ↔ ¬ (a ≤ n ∧ n ≤ b) := by
  rw [← inB_iff]; cases inB n a b <;> simp

theorem sem_l1In (n a b : Int) (lvl : Nat) (S : Sto) : Sem Go.Proofs.Tryz.prog fid_spec_l1In lvl [iI n, iI a, iI b] S (iB (inB n a b)) S := by
  refine sem_of_chk k_spec_l1In trivial ?_
  simp only [c_spec_l1In, EVA, ↓reduceIte, Nat.reduceEqDiff, Nat.reduceMul, reduceCtorEq, Nat.reduceAdd, Nat.reduceSub, Nat.reduceLeDiff, Nat.reduceLT, Int.reduceToNat, Int.reduceLE, Int.reduceLT, mens, men]
  refine ite_of (fun h => ?_) (fun h => ?_) <;> simp [inB, h]
theorem sem_within (n a b : Int) (lvl : Nat) (S : Sto) : Sem Go.Proofs.Tryz.prog fid_impl_within lvl [iI n, iI a, iI b] S (iB (inB n a b)) S := by
  refine sem_of_chk k_impl_within trivial ?_
  simp only [c_impl_within, EVA, ↓reduceIte, Nat.reduceEqDiff, Nat.reduceMul, reduceCtorEq, Nat.reduceAdd, Nat.reduceSub, Nat.reduceLeDiff, Nat.reduceLT, Int.reduceToNat, Int.reduceLE, Int.reduceLT, mens, men]
  refine ite_of (fun h => ?_) (fun h => ?_) <;> simp [inB, h]

/-- Numbers that rise, within bounds. -/
def Ris (lo hi : Int) (l : List Int) : Prop := ∀ i, i < l.length → lo ≤ g0 l i ∧ g0 l i ≤ hi ∧ (0 < i → g0 l (i - 1) < g0 l i)
theorem sem_l1Rising (l : List Int) (lo hi : Int) (hl : l.length ≤ 9223372036854775807) (lvl : Nat) (S : Sto) : Sem Go.Proofs.Tryz.prog fid_spec_l1Rising lvl [tI l, iI lo, iI hi] S (iB (dc (Ris lo hi l))) S := by
  refine sem_of_chk k_spec_l1Rising trivial ?_
  simp only [c_spec_l1Rising, EVA, ↓reduceIte, Nat.reduceEqDiff, Nat.reduceMul, reduceCtorEq, Nat.reduceAdd, Nat.reduceSub, Nat.reduceLeDiff, Nat.reduceLT, Int.reduceToNat, Int.reduceLE, Int.reduceLT, mens, men]
  refine wp_count (α := Unit) l.length (fun j _ => ⟨lvl, [(0, tI l), (1, iI lo), (2, iI hi), (7, iI j)], [], S⟩) (fun j _ => ∀ i, i < j → lo ≤ g0 l i ∧ g0 l i ≤ hi ∧ (0 < i → g0 l (i - 1) < g0 l i)) () ⟨by simp only [EVA, ↓reduceIte, Nat.reduceEqDiff, Nat.reduceMul, reduceCtorEq, Nat.reduceAdd, Nat.reduceSub, Nat.reduceLeDiff, Nat.reduceLT, Int.reduceToNat, Int.reduceLE, Int.reduceLT, mens, men], by (simp only [EVA, ↓reduceIte, Nat.reduceEqDiff, Nat.reduceMul, reduceCtorEq, Nat.reduceAdd, Nat.reduceSub, Nat.reduceLeDiff, Nat.reduceLT, Int.reduceToNat, Int.reduceLE, Int.reduceLT, mens, men]) <;> rfl⟩ (fun i hi => by omega) ?_
  intro j _ hj hA
  simp only [List.length_map, EVA, ↓reduceIte, Nat.reduceEqDiff, Nat.reduceMul, reduceCtorEq, Nat.reduceAdd, Nat.reduceSub, Nat.reduceLeDiff, Nat.reduceLT, Int.reduceToNat, Int.reduceLE, Int.reduceLT, mens, men]
  refine ite_of (fun hlt => ?_) (fun hge => ?_)
  · have hja : j < l.length := by omega
    have ga := rI_get hja
    simp only [ga, EVA, ↓reduceIte, Nat.reduceEqDiff, Nat.reduceMul, reduceCtorEq, Nat.reduceAdd, Nat.reduceSub, Nat.reduceLeDiff, Nat.reduceLT, Int.reduceToNat, Int.reduceLE, Int.reduceLT, mens, men]
    refine kca_intro (sem_l1In (g0 l j) lo hi) ?_
    simp only [EVA, ↓reduceIte, Nat.reduceEqDiff, Nat.reduceMul, reduceCtorEq, Nat.reduceAdd, Nat.reduceSub, Nat.reduceLeDiff, Nat.reduceLT, Int.reduceToNat, Int.reduceLE, Int.reduceLT, mens, men]
    refine ite_of (fun hin => ?_) (fun hin => ?_)
    · have hin' := inB_iff.1 hin
      have hgo : (0 < j → g0 l (j - 1) < g0 l j) → ∀ i, i < j + 1 → lo ≤ g0 l i ∧ g0 l i ≤ hi ∧ (0 < i → g0 l (i - 1) < g0 l i) := fun hp i hi => by
        by_cases e : i = j
        · subst e; exact ⟨hin'.1, hin'.2, hp⟩
        · exact hA i (by omega)
      refine ite_of (fun hpos => ?_) (fun hpos => ?_)
      · have hp : ((j : Int) - 1).toNat = j - 1 := by omega
        have hp0 : (0 : Int) ≤ j - 1 := by omega
        have gb := rI_get (l := l) (i := j - 1) (by omega)
        simp only [hp, hp0, gb, ga, EVA, ↓reduceIte, Nat.reduceEqDiff, Nat.reduceMul, reduceCtorEq, Nat.reduceAdd, Nat.reduceSub, Nat.reduceLeDiff, Nat.reduceLT, Int.reduceToNat, Int.reduceLE, Int.reduceLT, mens, men]
        refine ⟨by rw [fits_i64]; omega, ite_of (fun hge => ?_) (fun hlt2 => ?_)⟩
        · have : ¬ Ris lo hi l := fun hr => by have := (hr j hja).2.2 (by omega); omega
          rw [dc_false this]
        · exact ⟨by rw [fits_i64]; omega, cntJ_intro () hja rfl (hgo fun _ => by omega)⟩
      · exact ⟨by rw [fits_i64]; omega, cntJ_intro () hja rfl (hgo fun h => by omega)⟩
    · have : ¬ Ris lo hi l := fun hr => hin (inB_iff.2 ⟨(hr j hja).1, (hr j hja).2.1⟩)
      rw [dc_false this]
  · have : j = l.length := by omega
    subst this
    rw [dc_true (p := Ris lo hi l) hA]

theorem sem_isRising (l : List Int) (below : Int) (hl : l.length ≤ 9223372036854775807) (hb : 0 ≤ below) (hb2 : below ≤ 9223372036854775807) (lvl : Nat) (S : Sto) : Sem Go.Proofs.Tryz.prog fid_impl_isRising lvl [tI l, iI below] S (iB (dc (Ris 0 (below - 1) l))) S := by
  refine sem_of_chk k_impl_isRising trivial ?_
  simp only [c_impl_isRising, List.length_map, EVA, ↓reduceIte, Nat.reduceEqDiff, Nat.reduceMul, reduceCtorEq, Nat.reduceAdd, Nat.reduceSub, Nat.reduceLeDiff, Nat.reduceLT, Int.reduceToNat, Int.reduceLE, Int.reduceLT, mens, men]
  refine wp_count (α := Unit) l.length (fun j _ => ⟨lvl, [(0, tI l), (1, iI below), (7, tI l), (8, iI l.length), (9, iI j)], [], S⟩) (fun j _ => ∀ i, i < j → 0 ≤ g0 l i ∧ g0 l i ≤ below - 1 ∧ (0 < i → g0 l (i - 1) < g0 l i)) () ⟨by simp only [EVA, ↓reduceIte, Nat.reduceEqDiff, Nat.reduceMul, reduceCtorEq, Nat.reduceAdd, Nat.reduceSub, Nat.reduceLeDiff, Nat.reduceLT, Int.reduceToNat, Int.reduceLE, Int.reduceLT, mens, men], by (simp only [EVA, ↓reduceIte, Nat.reduceEqDiff, Nat.reduceMul, reduceCtorEq, Nat.reduceAdd, Nat.reduceSub, Nat.reduceLeDiff, Nat.reduceLT, Int.reduceToNat, Int.reduceLE, Int.reduceLT, mens, men]) <;> rfl⟩ (fun i hi => by omega) ?_
  intro j _ hj hA
  simp only [List.length_map, EVA, ↓reduceIte, Nat.reduceEqDiff, Nat.reduceMul, reduceCtorEq, Nat.reduceAdd, Nat.reduceSub, Nat.reduceLeDiff, Nat.reduceLT, Int.reduceToNat, Int.reduceLE, Int.reduceLT, mens, men]
  refine ite_of (fun hlt => ?_) (fun hge => ?_)
  · have hja : j < l.length := by omega
    have ga := rI_get hja
    have hfb : fits .i64 (below - 1) := by rw [fits_i64]; omega
    simp only [ga, hfb, EVA, ↓reduceIte, Nat.reduceEqDiff, Nat.reduceMul, reduceCtorEq, Nat.reduceAdd, Nat.reduceSub, Nat.reduceLeDiff, Nat.reduceLT, Int.reduceToNat, Int.reduceLE, Int.reduceLT, mens, men]
    refine kca_intro (sem_within (g0 l j) 0 (below - 1)) ?_
    simp only [EVA, ↓reduceIte, Nat.reduceEqDiff, Nat.reduceMul, reduceCtorEq, Nat.reduceAdd, Nat.reduceSub, Nat.reduceLeDiff, Nat.reduceLT, Int.reduceToNat, Int.reduceLE, Int.reduceLT, mens, men]
    refine ite_of (fun hin => ?_) (fun hin => ?_)
    · have hin' := inB_iff.1 hin
      have hgo : (0 < j → g0 l (j - 1) < g0 l j) → ∀ i, i < j + 1 → 0 ≤ g0 l i ∧ g0 l i ≤ below - 1 ∧ (0 < i → g0 l (i - 1) < g0 l i) := fun hp i hi => by
        by_cases e : i = j
        · subst e; exact ⟨hin'.1, hin'.2, hp⟩
        · exact hA i (by omega)
      refine ite_of (fun hpos => ?_) (fun hpos => ?_)
      · have hp : ((j : Int) - 1).toNat = j - 1 := by omega
        have hp0 : (0 : Int) ≤ j - 1 := by omega
        have gb := rI_get (l := l) (i := j - 1) (by omega)
        simp only [hp, hp0, gb, ga, EVA, ↓reduceIte, Nat.reduceEqDiff, Nat.reduceMul, reduceCtorEq, Nat.reduceAdd, Nat.reduceSub, Nat.reduceLeDiff, Nat.reduceLT, Int.reduceToNat, Int.reduceLE, Int.reduceLT, mens, men]
        refine ⟨by rw [fits_i64]; omega, ite_of (fun hge => ?_) (fun hlt2 => ?_)⟩
        · have : ¬ Ris 0 (below - 1) l := fun hr => by have := (hr j hja).2.2 (by omega); omega
          rw [dc_false this]
        · exact ⟨by rw [fits_i64]; omega, cntJ_intro () hja rfl (hgo fun _ => by omega)⟩
      · exact ⟨by rw [fits_i64]; omega, cntJ_intro () hja rfl (hgo fun h => by omega)⟩
    · have : ¬ Ris 0 (below - 1) l := fun hr => hin (inB_iff.2 ⟨(hr j hja).1, (hr j hja).2.1⟩)
      rw [dc_false this]
  · have : j = l.length := by omega
    subst this
    rw [dc_true (p := Ris 0 (below - 1) l) hA]

/-- Lists of numbers, compared. -/
def cmpL : List Int → List Int → Int
  | [], [] => 0
  | [], _ :: _ => -1
  | _ :: _, [] => 1
  | x :: r, y :: s => if x < y then -1 else if y < x then 1 else cmpL r s
def cmpI (x y : Int) : Int := if x < y then -1 else if y < x then 1 else 0
theorem sem_isNaN (x : Int) (lvl : Nat) (S : Sto) : Sem Go.Proofs.Tryz.prog fid_cmp_isNaN_int lvl [iI x] S (iB false) S := by
  refine sem_of_chk k_cmp_isNaN_int trivial ?_
  simp only [c_cmp_isNaN_int, EVA, ↓reduceIte, Nat.reduceEqDiff, Nat.reduceMul, reduceCtorEq, Nat.reduceAdd, Nat.reduceSub, Nat.reduceLeDiff, Nat.reduceLT, Int.reduceToNat, Int.reduceLE, Int.reduceLT, mens, men]
theorem sem_cmp (x y : Int) (lvl : Nat) (S : Sto) : Sem Go.Proofs.Tryz.prog fid_cmp_Compare_int lvl [iI x, iI y] S (iI (cmpI x y)) S := by
  refine sem_of_chk k_cmp_Compare_int trivial ?_
  simp only [c_cmp_Compare_int, EVA, ↓reduceIte, Nat.reduceEqDiff, Nat.reduceMul, reduceCtorEq, Nat.reduceAdd, Nat.reduceSub, Nat.reduceLeDiff, Nat.reduceLT, Int.reduceToNat, Int.reduceLE, Int.reduceLT, mens, men]
  refine kca_intro (sem_isNaN x) ?_
  simp only [EVA, ↓reduceIte, Nat.reduceEqDiff, Nat.reduceMul, reduceCtorEq, Nat.reduceAdd, Nat.reduceSub, Nat.reduceLeDiff, Nat.reduceLT, Int.reduceToNat, Int.reduceLE, Int.reduceLT, mens, men]
  refine kca_intro (sem_isNaN y) ?_
  simp only [EVA, ↓reduceIte, Nat.reduceEqDiff, Nat.reduceMul, reduceCtorEq, Nat.reduceAdd, Nat.reduceSub, Nat.reduceLeDiff, Nat.reduceLT, Int.reduceToNat, Int.reduceLE, Int.reduceLT, mens, men]
  unfold cmpI
  refine ite_of (fun h => ?_) (fun h => ?_)
  · rw [if_pos h]
  · rw [if_neg h]
    refine ite_of (fun h2 => ?_) (fun h2 => ?_)
    · rw [if_pos h2]
    · rw [if_neg h2]
theorem sem_Compare (a b : List Int) (ha : a.length ≤ 9223372036854775807) (hb : b.length ≤ 9223372036854775807) (lvl : Nat) (S : Sto) : Sem Go.Proofs.Tryz.prog fid_slices_Compare_int_int lvl [tI a, tI b] S (iI (cmpL a b)) S := by
  refine sem_of_chk k_slices_Compare_int_int trivial ?_
  simp only [c_slices_Compare_int_int, List.length_map, EVA, ↓reduceIte, Nat.reduceEqDiff, Nat.reduceMul, reduceCtorEq, Nat.reduceAdd, Nat.reduceSub, Nat.reduceLeDiff, Nat.reduceLT, Int.reduceToNat, Int.reduceLE, Int.reduceLT, mens, men]
  refine wp_count (α := Unit) a.length (fun j _ => ⟨lvl, [(0, tI a), (1, tI b), (9, tI a), (10, iI a.length), (11, iI j)], [], S⟩) (fun j _ => j ≤ b.length ∧ cmpL (a.drop j) (b.drop j) = cmpL a b) () ⟨by simp only [EVA, ↓reduceIte, Nat.reduceEqDiff, Nat.reduceMul, reduceCtorEq, Nat.reduceAdd, Nat.reduceSub, Nat.reduceLeDiff, Nat.reduceLT, Int.reduceToNat, Int.reduceLE, Int.reduceLT, mens, men], by (simp only [EVA, ↓reduceIte, Nat.reduceEqDiff, Nat.reduceMul, reduceCtorEq, Nat.reduceAdd, Nat.reduceSub, Nat.reduceLeDiff, Nat.reduceLT, Int.reduceToNat, Int.reduceLE, Int.reduceLT, mens, men]) <;> rfl⟩ ⟨Nat.zero_le _, rfl⟩ ?_
  intro j _ hj ⟨hjb, hA⟩
  simp only [List.length_map, EVA, ↓reduceIte, Nat.reduceEqDiff, Nat.reduceMul, reduceCtorEq, Nat.reduceAdd, Nat.reduceSub, Nat.reduceLeDiff, Nat.reduceLT, Int.reduceToNat, Int.reduceLE, Int.reduceLT, mens, men]
  refine ite_of (fun hlt => ?_) (fun hge => ?_)
  · have hja : j < a.length := by omega
    have ga := rI_get hja
    have e1 : a.drop j = g0 a j :: a.drop (j + 1) := by rw [List.drop_eq_getElem_cons hja]; simp [hja]
    rw [e1] at hA
    simp only [ga, List.length_map, EVA, ↓reduceIte, Nat.reduceEqDiff, Nat.reduceMul, reduceCtorEq, Nat.reduceAdd, Nat.reduceSub, Nat.reduceLeDiff, Nat.reduceLT, Int.reduceToNat, Int.reduceLE, Int.reduceLT, mens, men]
    refine ite_of (fun hbe => ?_) (fun hbl => ?_)
    · have : b.drop j = [] := List.drop_eq_nil_of_le (by omega)
      rw [this] at hA
      simp only [cmpL] at hA
      rw [← hA]
    · have hjb2 : j < b.length := by omega
      have gb := rI_get hjb2
      have e2 : b.drop j = g0 b j :: b.drop (j + 1) := by rw [List.drop_eq_getElem_cons hjb2]; simp [hjb2]
      rw [e2] at hA
      simp only [cmpL] at hA
      simp only [gb, EVA, ↓reduceIte, Nat.reduceEqDiff, Nat.reduceMul, reduceCtorEq, Nat.reduceAdd, Nat.reduceSub, Nat.reduceLeDiff, Nat.reduceLT, Int.reduceToNat, Int.reduceLE, Int.reduceLT, mens, men]
      refine kca_intro (sem_cmp (g0 a j) (g0 b j)) ?_
      simp only [EVA, ↓reduceIte, Nat.reduceEqDiff, Nat.reduceMul, reduceCtorEq, Nat.reduceAdd, Nat.reduceSub, Nat.reduceLeDiff, Nat.reduceLT, Int.reduceToNat, Int.reduceLE, Int.reduceLT, mens, men]
      unfold cmpI
      by_cases h1 : g0 a j < g0 b j
      · rw [if_pos h1] at hA
        rw [if_pos h1, if_pos (by decide), ← hA]
      · rw [if_neg h1] at hA
        rw [if_neg h1]
        by_cases h2 : g0 b j < g0 a j
        · rw [if_pos h2] at hA
          rw [if_pos h2, if_pos (by decide), ← hA]
        · rw [if_neg h2] at hA
          rw [if_neg h2, if_neg (by decide)]
          exact ⟨by rw [fits_i64]; omega, cntJ_intro () hja rfl ⟨by omega, hA⟩⟩
  · have : j = a.length := by omega
    subst this
    rw [List.drop_length] at hA
    refine ite_of (fun h1 => ?_) (fun h1 => ?_)
    · have hb1 : a.length < b.length := by omega
      have e2 : b.drop a.length = g0 b a.length :: b.drop (a.length + 1) := by rw [List.drop_eq_getElem_cons hb1]; simp [hb1]
      rw [e2] at hA
      simp only [cmpL] at hA
      rw [← hA]
    · have : b.drop a.length = [] := List.drop_eq_nil_of_le (by omega)
      rw [this] at hA
      simp only [cmpL] at hA
      rw [← hA]

end Go.Fd

/-
  NUMBERS OF LIBRARY FUNCTIONS IN THIS PROGRAM, as the guide's shelf lays them (printed by lay.py out of the kit's own command).
-/
namespace Go.Proofs
open Go.Shelf
def Tryz.lays160_ren : Go.Shelf.Ren := ⟨fun | 160 => 131 | 232 => 152 | 231 => 151 | 227 => 153 | 234 => 155 | 233 => 154 | 236 => 157 | 235 => 156 | 228 => 165 | 271 => 168 | 151 => 167 | 197 => 166 | 120 => 176 | 152 => 175 | 260 => 174 | 137 => 181 | 119 => 182 | 224 => 183 | 225 => 184 | 217 => 187 | 266 => 188 | n => n, fun | 9 => 9 | 4 => 4 | 3 => 3 | 5 => 5 | 117 => 147 | 116 => 146 | 0 => 0 | 124 => 150 | 21 => 21 | 105 => 161 | 46 => 100 | 119 => 174 | 139 => 177 | 138 => 176 | n => n, fun | 3 => 2 | 4 => 3 | n => n⟩
theorem Tryz.lays160 : Go.Proofs.Lays.n160 Tryz.prog Tryz.lays160_ren := {
    mixed := by kernel_rfl,
    f119 := Tryz.func182.trans (congrArg some (by kernel_rfl)),
    f120 := Tryz.func176.trans (congrArg some (by kernel_rfl)),
    f137 := Tryz.func181.trans (congrArg some (by kernel_rfl)),
    f151 := Tryz.func167.trans (congrArg some (by kernel_rfl)),
    f152 := Tryz.func175.trans (congrArg some (by kernel_rfl)),
    f160 := Tryz.func131.trans (congrArg some (by kernel_rfl)),
    f197 := Tryz.func166.trans (congrArg some (by kernel_rfl)),
    f217 := Tryz.func187.trans (congrArg some (by kernel_rfl)),
    f224 := Tryz.func183.trans (congrArg some (by kernel_rfl)),
    f225 := Tryz.func184.trans (congrArg some (by kernel_rfl)),
    f227 := Tryz.func153.trans (congrArg some (by kernel_rfl)),
    f228 := Tryz.func165.trans (congrArg some (by kernel_rfl)),
    f231 := Tryz.func151.trans (congrArg some (by kernel_rfl)),
    f232 := Tryz.func152.trans (congrArg some (by kernel_rfl)),
    f233 := Tryz.func154.trans (congrArg some (by kernel_rfl)),
    f234 := Tryz.func155.trans (congrArg some (by kernel_rfl)),
    f235 := Tryz.func156.trans (congrArg some (by kernel_rfl)),
    f236 := Tryz.func157.trans (congrArg some (by kernel_rfl)),
    f260 := Tryz.func174.trans (congrArg some (by kernel_rfl)),
    f266 := Tryz.func188.trans (congrArg some (by kernel_rfl)),
    f271 := Tryz.func168.trans (congrArg some (by kernel_rfl)),
    t0 := Tryz.underlying0,
    a0 := Tryz.isAgg0,
    z0 := Tryz.sizeOf0,
    v0 := Tryz.zeroValue0,
    t3 := Tryz.underlying3,
    a3 := Tryz.isAgg3,
    z3 := Tryz.sizeOf3,
    v3 := Tryz.zeroValue3,
    t4 := Tryz.underlying4,
    a4 := Tryz.isAgg4,
    z4 := Tryz.sizeOf4,
    v4 := Tryz.zeroValue4,
    t5 := Tryz.underlying5,
    a5 := Tryz.isAgg5,
    z5 := Tryz.sizeOf5,
    v5 := Tryz.zeroValue5,
    t9 := Tryz.underlying9,
    a9 := Tryz.isAgg9,
    z9 := Tryz.sizeOf9,
    v9 := Tryz.zeroValue9,
    t21 := Tryz.underlying21,
    a21 := Tryz.isAgg21,
    z21 := Tryz.sizeOf21,
    v21 := Tryz.zeroValue21,
    t46 := Tryz.underlying100,
    a46 := Tryz.isAgg100,
    z46 := Tryz.sizeOf100,
    v46 := Tryz.zeroValue100,
    t105 := Tryz.underlying161,
    a105 := Tryz.isAgg161,
    z105 := Tryz.sizeOf161,
    v105 := Tryz.zeroValue161,
    t116 := Tryz.underlying146,
    a116 := Tryz.isAgg146,
    z116 := Tryz.sizeOf146,
    t117 := Tryz.underlying147,
    a117 := Tryz.isAgg147,
    z117 := Tryz.sizeOf147,
    v117 := Tryz.zeroValue147,
    t119 := Tryz.underlying174,
    a119 := Tryz.isAgg174,
    z119 := Tryz.sizeOf174,
    t124 := Tryz.underlying150,
    a124 := Tryz.isAgg150,
    z124 := Tryz.sizeOf150,
    v124 := Tryz.zeroValue150,
    t138 := Tryz.underlying176,
    a138 := Tryz.isAgg176,
    z138 := Tryz.sizeOf176,
    v138 := Tryz.zeroValue176,
    t139 := Tryz.underlying177,
    a139 := Tryz.isAgg177,
    z139 := Tryz.sizeOf177,
    v139 := Tryz.zeroValue177,
    g3 := by kernel_rfl,
    g4 := by kernel_rfl }
end Go.Proofs

/-
  NAMES AND SIGNATURES, BOTH SIDES. Own work.
-/
namespace Go.Fd
set_option maxRecDepth 20000

def callB (P : Program) (f : FuncId) : Bool := match P.funcs[f]? with | some fn => fn.body.isSome && !(fn.name == "runtime.NumGoroutine") | none => false

theorem callB_ok {P : Program} {f : FuncId} (h : callB P f = true) : Callable P f := by
  unfold callB at h
  split at h
  · rename_i fn hf
    simp only [Bool.and_eq_true, Bool.not_eq_true'] at h
    exact ⟨fn, hf, h.1, h.2⟩
  · cases h

abbrev AZ : ByteArray := ⟨#[97, 98, 99, 100, 101, 102, 103, 104, 105, 106, 107, 108, 109, 110, 111, 112, 113, 114, 115, 116, 117, 118, 119, 120, 121, 122]⟩

theorem sem_Trim (s : ByteArray) (hs : s.size ≤ 9223372036854775807) (lvl : Nat) (S : Sto) : Sem Go.Proofs.Tryz.prog fid_strings_Trim lvl [iS s, iS AZ] S (iS ⟨(Lib.trimS s.data.toList AZ.data.toList).toArray⟩) S :=
  sem_of_scal (xs := [.string s, .string AZ]) (callB_ok (by kernel_rfl)) rfl (fun w => Go.Proofs.Any.strings_Trim_laid Go.Proofs.Tryz.lays160 (by kernel_rfl) s AZ w hs (by decide) (Go.Proofs.ascii_of_all (by decide)))

/-- A name: one to four small letters. -/
def isNm (s : ByteArray) : Prop := (∀ b ∈ s.data.toList, 97 ≤ b.toNat ∧ b.toNat ≤ 122) ∧ 1 ≤ s.size ∧ s.size ≤ 4

theorem size_list (s : ByteArray) : s.size = s.data.toList.length := by rw [Array.length_toList]; rfl

theorem az_mem (b : UInt8) : b ∈ AZ.data.toList ↔ 97 ≤ b.toNat ∧ b.toNat ≤ 122 := by
  have : ∀ n : Fin 256, (UInt8.ofNat n.val) ∈ AZ.data.toList ↔ 97 ≤ n.val ∧ n.val ≤ 122 := by decide +kernel
  have h : UInt8.ofNat b.toNat ∈ AZ.data.toList ↔ 97 ≤ b.toNat ∧ b.toNat ≤ 122 := this ⟨b.toNat, b.toNat_lt⟩
  rw [show UInt8.ofNat b.toNat = b from UInt8.ofNat_toNat] at h
  exact h

theorem dw_nil {p : UInt8 → Bool} : ∀ {l : List UInt8}, l.dropWhile p = [] ↔ ∀ b ∈ l, p b = true
  | [] => by simp
  | x :: r => by
    simp only [List.dropWhile_cons, List.mem_cons, forall_eq_or_imp]
    cases h : p x with
    | true => simp [dw_nil (l := r)]
    | false => simp

theorem tw_mem {p : UInt8 → Bool} {b : UInt8} : ∀ {l : List UInt8}, b ∈ l.takeWhile p → p b = true
  | [], h => by simp at h
  | x :: r, h => by
    rw [List.takeWhile_cons] at h
    split at h
    · rename_i hx
      rcases List.mem_cons.1 h with rfl | h
      · exact hx
      · exact tw_mem h
    · cases h

theorem drop_nil {l cs : List UInt8} (h : ∀ b ∈ l, b ∈ cs) : l.dropWhile (cs.contains ·) = [] := by
  rw [dw_nil]
  intro b hb
  simpa using h b hb

theorem trimS_nil {l cs : List UInt8} : Lib.trimS l cs = [] ↔ ∀ b ∈ l, b ∈ cs := by
  unfold Lib.trimS Lib.trimLeftS Lib.trimRightS
  constructor
  · intro h b hb
    rw [dw_nil] at h
    have hrev : ∀ x ∈ (l.reverse.dropWhile (cs.contains ·)), x ∈ cs := fun x hx => by
      have := h x (by simpa using hx)
      simpa using this
    have hsplit : l.reverse = l.reverse.takeWhile (cs.contains ·) ++ l.reverse.dropWhile (cs.contains ·) := (List.takeWhile_append_dropWhile).symm
    have hb2 : b ∈ l.reverse := by simpa using hb
    rw [hsplit] at hb2
    rcases List.mem_append.1 hb2 with h1 | h1
    · have := tw_mem h1
      simpa using this
    · exact hrev b h1
  · intro h
    rw [drop_nil (l := l.reverse) (fun b hb => h b (by simpa using hb))]
    rfl

theorem sem_l2Name (s : ByteArray) (hs : s.size ≤ 9223372036854775807) (lvl : Nat) (S : Sto) : Sem Go.Proofs.Tryz.prog fid_spec_l2Name lvl [iS s] S (iB (dc (isNm s))) S := by
  refine sem_of_chk k_spec_l2Name trivial ?_
  simp only [c_spec_l2Name, EVA, ↓reduceIte, Nat.reduceEqDiff, Nat.reduceMul, reduceCtorEq, Nat.reduceAdd, Nat.reduceSub, Nat.reduceLeDiff, Nat.reduceLT, Int.reduceToNat, Int.reduceLE, Int.reduceLT, mens, men]
  refine wp_cnt (α := Unit) s.size (fun j _ => [(3, iI j)]) (fun _ _ => []) (fun j _ => ∀ b ∈ s.data.toList.take j, 97 ≤ b.toNat ∧ b.toNat ≤ 122) () (by simp only [EVA, ↓reduceIte, Nat.reduceEqDiff, Nat.reduceMul, reduceCtorEq, Nat.reduceAdd, Nat.reduceSub, Nat.reduceLeDiff, Nat.reduceLT, Int.reduceToNat, Int.reduceLE, Int.reduceLT, mens, men]) (by (simp only [EVA, ↓reduceIte, Nat.reduceEqDiff, Nat.reduceMul, reduceCtorEq, Nat.reduceAdd, Nat.reduceSub, Nat.reduceLeDiff, Nat.reduceLT, Int.reduceToNat, Int.reduceLE, Int.reduceLT, mens, men]) <;> rfl) (fun b hb => by simp at hb) ?_
  intro j _ hj hA
  simp only [EVA, ↓reduceIte, Nat.reduceEqDiff, Nat.reduceMul, reduceCtorEq, Nat.reduceAdd, Nat.reduceSub, Nat.reduceLeDiff, Nat.reduceLT, Int.reduceToNat, Int.reduceLE, Int.reduceLT, mens, men]
  refine ite_of (fun hlt => ?_) (fun hge => ?_)
  · have hja : j < s.data.toList.length := by rw [← size_list]; omega
    have ga : s.data.toList[j]? = some (s.data.toList[j]) := List.getElem?_eq_getElem hja
    have hno : ¬ (97 ≤ (s.data.toList[j]).toNat ∧ (s.data.toList[j]).toNat ≤ 122) → ¬ isNm s := fun h hn => h (hn.1 _ (List.getElem_mem hja))
    by_cases h1 : ((s.data.toList[j]).toNat : Int) < 97
    · simp only [ga, h1, EVA, ↓reduceIte, Nat.reduceEqDiff, Nat.reduceMul, reduceCtorEq, Nat.reduceAdd, Nat.reduceSub, Nat.reduceLeDiff, Nat.reduceLT, Int.reduceToNat, Int.reduceLE, Int.reduceLT, mens, men]
      rw [dc_false (hno (by omega))]
    by_cases h2 : (122 : Int) < (s.data.toList[j]).toNat
    · simp only [ga, h1, h2, EVA, ↓reduceIte, Nat.reduceEqDiff, Nat.reduceMul, reduceCtorEq, Nat.reduceAdd, Nat.reduceSub, Nat.reduceLeDiff, Nat.reduceLT, Int.reduceToNat, Int.reduceLE, Int.reduceLT, mens, men]
      rw [dc_false (hno (by omega))]
    · simp only [ga, h1, h2, EVA, ↓reduceIte, Nat.reduceEqDiff, Nat.reduceMul, reduceCtorEq, Nat.reduceAdd, Nat.reduceSub, Nat.reduceLeDiff, Nat.reduceLT, Int.reduceToNat, Int.reduceLE, Int.reduceLT, mens, men]
      refine ⟨by rw [fits_i64]; omega, cntJ_intro () (by omega) rfl ?_⟩
      intro b hb
      rw [List.take_succ_eq_append_getElem hja] at hb
      rcases List.mem_append.1 hb with h | h
      · exact hA b h
      · have : b = s.data.toList[j] := by simpa using h
        subst this
        omega
  · have : j = s.size := by omega
    subst this
    rw [size_list, List.take_length] at hA
    refine kca_intro (sem_l1In s.size 1 4) ?_
    simp only [EVA, ↓reduceIte, Nat.reduceEqDiff, Nat.reduceMul, reduceCtorEq, Nat.reduceAdd, Nat.reduceSub, Nat.reduceLeDiff, Nat.reduceLT, Int.reduceToNat, Int.reduceLE, Int.reduceLT, mens, men]
    rw [dc_congr (q := 1 ≤ s.size ∧ s.size ≤ 4) ⟨fun h => h.2, fun h => ⟨hA, h⟩⟩]
    by_cases h : 1 ≤ s.size ∧ s.size ≤ 4
    · rw [dc_true h, inB_iff.2 (by omega)]
    · rw [dc_false h, inB_not.2 (by omega)]

theorem sem_isName (s : ByteArray) (hs : s.size ≤ 9223372036854775807) (lvl : Nat) (S : Sto) : Sem Go.Proofs.Tryz.prog fid_impl_isName lvl [iS s] S (iB (dc (isNm s))) S := by
  refine sem_of_chk k_impl_isName trivial ?_
  simp only [c_impl_isName, EVA, ↓reduceIte, Nat.reduceEqDiff, Nat.reduceMul, reduceCtorEq, Nat.reduceAdd, Nat.reduceSub, Nat.reduceLeDiff, Nat.reduceLT, Int.reduceToNat, Int.reduceLE, Int.reduceLT, mens, men]
  refine kca_intro (sem_within s.size 1 4) ?_
  simp only [EVA, ↓reduceIte, Nat.reduceEqDiff, Nat.reduceMul, reduceCtorEq, Nat.reduceAdd, Nat.reduceSub, Nat.reduceLeDiff, Nat.reduceLT, Int.reduceToNat, Int.reduceLE, Int.reduceLT, mens, men]
  cases hin : inB (s.size : Int) 1 4 with
  | false =>
    have : ¬ isNm s := fun h => (inB_not.1 hin) (by have := h.2; omega)
    rw [dc_false this]
    simp only [EVA, ↓reduceIte, Nat.reduceEqDiff, Nat.reduceMul, reduceCtorEq, Nat.reduceAdd, Nat.reduceSub, Nat.reduceLeDiff, Nat.reduceLT, Int.reduceToNat, Int.reduceLE, Int.reduceLT, mens, men]
  | true =>
    have hin' := inB_iff.1 hin
    simp only [EVA, ↓reduceIte, Nat.reduceEqDiff, Nat.reduceMul, reduceCtorEq, Nat.reduceAdd, Nat.reduceSub, Nat.reduceLeDiff, Nat.reduceLT, Int.reduceToNat, Int.reduceLE, Int.reduceLT, mens, men]
    refine kca_intro (sem_Trim s hs) ?_
    simp only [EVA, ↓reduceIte, Nat.reduceEqDiff, Nat.reduceMul, reduceCtorEq, Nat.reduceAdd, Nat.reduceSub, Nat.reduceLeDiff, Nat.reduceLT, Int.reduceToNat, Int.reduceLE, Int.reduceLT, mens, men]
    by_cases h : isNm s
    · have : Lib.trimS s.data.toList AZ.data.toList = [] := trimS_nil.2 (fun b hb => (az_mem b).2 (h.1 b hb))
      rw [dc_true h, this]
      rfl
    · have : ¬ Lib.trimS s.data.toList AZ.data.toList = [] := fun e => h ⟨fun b hb => (az_mem b).1 (trimS_nil.1 e b hb), by omega, by omega⟩
      rw [dc_false h]
      have h2 : ¬ (⟨(Lib.trimS s.data.toList AZ.data.toList).toArray⟩ : ByteArray) = ⟨#[]⟩ := fun e => this (by
        have := congrArg (fun b : ByteArray => b.data.toList) e
        simpa using this)
      simp [h2]

/-- A signature: each control has a name, few ports and a kind; no two have one name. -/
def ctlOK (c : TControl) : Prop := isNm c.name ∧ (0 ≤ c.ports ∧ c.ports ≤ 3) ∧ 0 ≤ c.kind_ ∧ c.kind_ ≤ 2

def sigAt (sig : List TControl) (i : Nat) : Prop := ∀ h : i < sig.length, ctlOK sig[i] ∧ ∀ k (hk : k < i), (sig[k]'(by omega)).name ≠ sig[i].name

def sigOK (sig : List TControl) : Prop := (∀ i, sigAt sig i) ∧ 1 ≤ sig.length ∧ sig.length ≤ 6

theorem sem_IsSignature_1 (c d : TControl) (lvl : Nat) (S : Sto) : Sem Go.Proofs.Tryz.prog fid_impl_IsSignature_1 lvl [.ag ((cControl d).map .tr), .ta (cControl c)] S (iB (decide (d.name = c.name))) S := by
  refine sem_of_chk k_impl_IsSignature_1 trivial ?_
  simp only [c_impl_IsSignature_1, cControl, EVA, ↓reduceIte, Nat.reduceEqDiff, Nat.reduceMul, reduceCtorEq, Nat.reduceAdd, Nat.reduceSub, Nat.reduceLeDiff, Nat.reduceLT, Int.reduceToNat, Int.reduceLE, Int.reduceLT, mens, men]

theorem g_ixFControl : chkF Go.Proofs.Tryz.prog fid_slices_IndexFunc_impl_Control_impl_Control (gIxF 3 (some 3)) = true := by kernel_rfl

theorem g_coFControl : chkF Go.Proofs.Tryz.prog fid_slices_ContainsFunc_impl_Control_impl_Control (gCoF fid_slices_IndexFunc_impl_Control_impl_Control) = true := by kernel_rfl

theorem sem_l2Sig (sig : List TControl) (hl : sig.length ≤ 9223372036854775807) (hb : ∀ y ∈ sig, bdControl 9223372036854775807 y) (lvl : Nat) (S : Sto) : Sem Go.Proofs.Tryz.prog fid_spec_l2Sig lvl [.tr (.sl (sig.map cControl))] S (iB (dc (sigOK sig))) S := by
  refine sem_of_chk k_spec_l2Sig trivial ?_
  simp only [c_spec_l2Sig, List.length_map, EVA, ↓reduceIte, Nat.reduceEqDiff, Nat.reduceMul, reduceCtorEq, Nat.reduceAdd, Nat.reduceSub, Nat.reduceLeDiff, Nat.reduceLT, Int.reduceToNat, Int.reduceLE, Int.reduceLT, mens, men]
  refine wp_cnt (α := Unit) sig.length (fun j _ => [(3, iI j)]) (fun _ _ => []) (fun j _ => ∀ i, i < j → sigAt sig i) () (by simp only [EVA, ↓reduceIte, Nat.reduceEqDiff, Nat.reduceMul, reduceCtorEq, Nat.reduceAdd, Nat.reduceSub, Nat.reduceLeDiff, Nat.reduceLT, Int.reduceToNat, Int.reduceLE, Int.reduceLT, mens, men]) (by (simp only [EVA, ↓reduceIte, Nat.reduceEqDiff, Nat.reduceMul, reduceCtorEq, Nat.reduceAdd, Nat.reduceSub, Nat.reduceLeDiff, Nat.reduceLT, Int.reduceToNat, Int.reduceLE, Int.reduceLT, mens, men]) <;> rfl) (fun i hi => by omega) ?_
  intro j _ hj hA
  simp only [List.length_map, EVA, ↓reduceIte, Nat.reduceEqDiff, Nat.reduceMul, reduceCtorEq, Nat.reduceAdd, Nat.reduceSub, Nat.reduceLeDiff, Nat.reduceLT, Int.reduceToNat, Int.reduceLE, Int.reduceLT, mens, men]
  refine ite_of (fun hlt => ?_) (fun hge => ?_)
  · have hja : j < sig.length := by omega
    have ga := getA (c := cControl) hja
    have hbj : sig[j].name.size ≤ 9223372036854775807 := hb _ (List.getElem_mem hja)
    have hno : ¬ ctlOK sig[j] → ¬ sigOK sig := fun h hs => h (hs.1 j hja).1
    simp only [ga, cControl, EVA, ↓reduceIte, Nat.reduceEqDiff, Nat.reduceMul, reduceCtorEq, Nat.reduceAdd, Nat.reduceSub, Nat.reduceLeDiff, Nat.reduceLT, Int.reduceToNat, Int.reduceLE, Int.reduceLT, mens, men]
    refine kca_intro (sem_l2Name sig[j].name hbj) ?_
    simp only [ga, cControl, EVA, ↓reduceIte, Nat.reduceEqDiff, Nat.reduceMul, reduceCtorEq, Nat.reduceAdd, Nat.reduceSub, Nat.reduceLeDiff, Nat.reduceLT, Int.reduceToNat, Int.reduceLE, Int.reduceLT, mens, men]
    cases hn : dc (isNm sig[j].name) with
    | false =>
      simp only [EVA, ↓reduceIte, Nat.reduceEqDiff, Nat.reduceMul, reduceCtorEq, Nat.reduceAdd, Nat.reduceSub, Nat.reduceLeDiff, Nat.reduceLT, Int.reduceToNat, Int.reduceLE, Int.reduceLT, mens, men]
      rw [dc_false (hno fun h => dc_not.1 hn h.1)]
    | true =>
      have hn' := dc_iff.1 hn
      simp only [ga, cControl, EVA, ↓reduceIte, Nat.reduceEqDiff, Nat.reduceMul, reduceCtorEq, Nat.reduceAdd, Nat.reduceSub, Nat.reduceLeDiff, Nat.reduceLT, Int.reduceToNat, Int.reduceLE, Int.reduceLT, mens, men]
      refine kca_intro (sem_l1In sig[j].ports 0 3) ?_
      simp only [ga, cControl, EVA, ↓reduceIte, Nat.reduceEqDiff, Nat.reduceMul, reduceCtorEq, Nat.reduceAdd, Nat.reduceSub, Nat.reduceLeDiff, Nat.reduceLT, Int.reduceToNat, Int.reduceLE, Int.reduceLT, mens, men]
      cases hp : inB sig[j].ports 0 3 with
      | false =>
        simp only [EVA, ↓reduceIte, Nat.reduceEqDiff, Nat.reduceMul, reduceCtorEq, Nat.reduceAdd, Nat.reduceSub, Nat.reduceLeDiff, Nat.reduceLT, Int.reduceToNat, Int.reduceLE, Int.reduceLT, mens, men]
        rw [dc_false (hno fun h => inB_not.1 hp h.2.1)]
      | true =>
        have hp' := inB_iff.1 hp
        simp only [ga, cControl, EVA, ↓reduceIte, Nat.reduceEqDiff, Nat.reduceMul, reduceCtorEq, Nat.reduceAdd, Nat.reduceSub, Nat.reduceLeDiff, Nat.reduceLT, Int.reduceToNat, Int.reduceLE, Int.reduceLT, mens, men]
        refine kca_intro (sem_l1In sig[j].kind_ 0 2) ?_
        simp only [ga, cControl, EVA, ↓reduceIte, Nat.reduceEqDiff, Nat.reduceMul, reduceCtorEq, Nat.reduceAdd, Nat.reduceSub, Nat.reduceLeDiff, Nat.reduceLT, Int.reduceToNat, Int.reduceLE, Int.reduceLT, mens, men]
        cases hk : inB sig[j].kind_ 0 2 with
        | false =>
          simp only [EVA, ↓reduceIte, Nat.reduceEqDiff, Nat.reduceMul, reduceCtorEq, Nat.reduceAdd, Nat.reduceSub, Nat.reduceLeDiff, Nat.reduceLT, Int.reduceToNat, Int.reduceLE, Int.reduceLT, mens, men]
          rw [dc_false (hno fun h => inB_not.1 hk h.2.2)]
        | true =>
          have hk' := inB_iff.1 hk
          simp only [EVA, ↓reduceIte, Nat.reduceEqDiff, Nat.reduceMul, reduceCtorEq, Nat.reduceAdd, Nat.reduceSub, Nat.reduceLeDiff, Nat.reduceLT, Int.reduceToNat, Int.reduceLE, Int.reduceLT, mens, men]
          refine wp_cnt (α := Unit) j (fun k _ => [(4, iI k)]) (fun _ _ => []) (fun k _ => ∀ i (hi : i < k), k ≤ j → ∀ hi2 : i < sig.length, (sig[i]'hi2).name ≠ sig[j].name) () (by simp only [EVA, ↓reduceIte, Nat.reduceEqDiff, Nat.reduceMul, reduceCtorEq, Nat.reduceAdd, Nat.reduceSub, Nat.reduceLeDiff, Nat.reduceLT, Int.reduceToNat, Int.reduceLE, Int.reduceLT, mens, men]) (by (simp only [EVA, ↓reduceIte, Nat.reduceEqDiff, Nat.reduceMul, reduceCtorEq, Nat.reduceAdd, Nat.reduceSub, Nat.reduceLeDiff, Nat.reduceLT, Int.reduceToNat, Int.reduceLE, Int.reduceLT, mens, men]) <;> rfl) (fun i hi => by omega) ?_
          intro k _ hkj hB
          simp only [List.length_map, EVA, ↓reduceIte, Nat.reduceEqDiff, Nat.reduceMul, reduceCtorEq, Nat.reduceAdd, Nat.reduceSub, Nat.reduceLeDiff, Nat.reduceLT, Int.reduceToNat, Int.reduceLE, Int.reduceLT, mens, men]
          refine ite_of (fun hlt2 => ?_) (fun hge2 => ?_)
          · have hka : k < sig.length := by omega
            have gb := getA (c := cControl) hka
            simp only [ga, gb, cControl, EVA, ↓reduceIte, Nat.reduceEqDiff, Nat.reduceMul, reduceCtorEq, Nat.reduceAdd, Nat.reduceSub, Nat.reduceLeDiff, Nat.reduceLT, Int.reduceToNat, Int.reduceLE, Int.reduceLT, mens, men]
            refine ite_of (fun he => ?_) (fun hne => ?_)
            · rw [dc_false (fun hs : sigOK sig => (hs.1 j hja).2 k (by omega) he)]
            · refine ⟨by rw [fits_i64]; omega, cntJ_intro () (by omega) rfl (fun i hi _ hi2 => ?_)⟩
              by_cases e : i = k
              · subst e; exact hne
              · exact hB i (by omega) (by omega) hi2
          · have : k = j := by omega
            subst this
            refine ⟨by rw [fits_i64]; omega, cntJ_intro () hja rfl (fun i hi => ?_)⟩
            by_cases e : i = k
            · subst e
              exact fun h => ⟨⟨hn', hp', hk'⟩, fun q hq => hB q hq (Nat.le_refl _) (by omega)⟩
            · exact hA i (by omega)
  · have : j = sig.length := by omega
    subst this
    refine kca_intro (sem_l1In sig.length 1 6) ?_
    simp only [EVA, ↓reduceIte, Nat.reduceEqDiff, Nat.reduceMul, reduceCtorEq, Nat.reduceAdd, Nat.reduceSub, Nat.reduceLeDiff, Nat.reduceLT, Int.reduceToNat, Int.reduceLE, Int.reduceLT, mens, men]
    have hall : ∀ i, sigAt sig i := fun i h => hA i h h
    rw [dc_congr (q := 1 ≤ sig.length ∧ sig.length ≤ 6) ⟨fun h => h.2, fun h => ⟨hall, h⟩⟩]
    by_cases h : 1 ≤ sig.length ∧ sig.length ≤ 6
    · rw [dc_true h, inB_iff.2 (by omega)]
    · rw [dc_false h, inB_not.2 (by omega)]

theorem sem_impl_IsSignature (sig : List TControl) (hl : sig.length ≤ 9223372036854775807) (hb : ∀ y ∈ sig, bdControl 9223372036854775807 y) (lvl : Nat) (S : Sto) : Sem Go.Proofs.Tryz.prog fid_impl_IsSignature lvl [.tr (.sl (sig.map cControl))] S (iB (dc (sigOK sig))) S := by
  refine sem_of_chk k_impl_IsSignature trivial ?_
  simp only [c_impl_IsSignature, List.length_map, EVA, ↓reduceIte, Nat.reduceEqDiff, Nat.reduceMul, reduceCtorEq, Nat.reduceAdd, Nat.reduceSub, Nat.reduceLeDiff, Nat.reduceLT, Int.reduceToNat, Int.reduceLE, Int.reduceLT, mens, men]
  refine kca_intro (sem_within sig.length 1 6) ?_
  simp only [List.length_map, EVA, ↓reduceIte, Nat.reduceEqDiff, Nat.reduceMul, reduceCtorEq, Nat.reduceAdd, Nat.reduceSub, Nat.reduceLeDiff, Nat.reduceLT, Int.reduceToNat, Int.reduceLE, Int.reduceLT, mens, men]
  refine ite_of (fun h => ?_) (fun h => ?_)
  · rw [dc_false (fun hs : sigOK sig => (inB_not.1 h) (by have := hs.2; omega))]
  have hln := inB_iff.1 (by simpa using h)
  refine wp_cnt (α := Unit) sig.length (fun j _ => [(11, iI j)]) (fun _ _ => []) (fun j _ => ∀ i, i < j → sigAt sig i) () (by simp only [EVA, ↓reduceIte, Nat.reduceEqDiff, Nat.reduceMul, reduceCtorEq, Nat.reduceAdd, Nat.reduceSub, Nat.reduceLeDiff, Nat.reduceLT, Int.reduceToNat, Int.reduceLE, Int.reduceLT, mens, men]) (by (simp only [EVA, ↓reduceIte, Nat.reduceEqDiff, Nat.reduceMul, reduceCtorEq, Nat.reduceAdd, Nat.reduceSub, Nat.reduceLeDiff, Nat.reduceLT, Int.reduceToNat, Int.reduceLE, Int.reduceLT, mens, men]) <;> rfl) (fun i hi => by omega) ?_
  intro j _ hj hA
  simp only [List.length_map, EVA, ↓reduceIte, Nat.reduceEqDiff, Nat.reduceMul, reduceCtorEq, Nat.reduceAdd, Nat.reduceSub, Nat.reduceLeDiff, Nat.reduceLT, Int.reduceToNat, Int.reduceLE, Int.reduceLT, mens, men]
  refine ite_of (fun hlt => ?_) (fun hge => ?_)
  · have hja : j < sig.length := by omega
    have ga := getA (c := cControl) hja
    have hbj : sig[j].name.size ≤ 9223372036854775807 := hb _ (List.getElem_mem hja)
    have hno : ¬ ctlOK sig[j] → ¬ sigOK sig := fun h hs => h (hs.1 j hja).1
    simp only [ga, cControl, EVA, ↓reduceIte, Nat.reduceEqDiff, Nat.reduceMul, reduceCtorEq, Nat.reduceAdd, Nat.reduceSub, Nat.reduceLeDiff, Nat.reduceLT, Int.reduceToNat, Int.reduceLE, Int.reduceLT, mens, men]
    refine kca_intro (sem_isName sig[j].name hbj) ?_
    simp only [ga, cControl, EVA, ↓reduceIte, Nat.reduceEqDiff, Nat.reduceMul, reduceCtorEq, Nat.reduceAdd, Nat.reduceSub, Nat.reduceLeDiff, Nat.reduceLT, Int.reduceToNat, Int.reduceLE, Int.reduceLT, mens, men]
    cases hn : dc (isNm sig[j].name) with
    | false =>
      simp only [EVA, ↓reduceIte, Nat.reduceEqDiff, Nat.reduceMul, reduceCtorEq, Nat.reduceAdd, Nat.reduceSub, Nat.reduceLeDiff, Nat.reduceLT, Int.reduceToNat, Int.reduceLE, Int.reduceLT, mens, men]
      rw [dc_false (hno fun h => dc_not.1 hn h.1)]
    | true =>
      have hn' := dc_iff.1 hn
      simp only [ga, cControl, EVA, ↓reduceIte, Nat.reduceEqDiff, Nat.reduceMul, reduceCtorEq, Nat.reduceAdd, Nat.reduceSub, Nat.reduceLeDiff, Nat.reduceLT, Int.reduceToNat, Int.reduceLE, Int.reduceLT, mens, men]
      refine kca_intro (sem_within sig[j].ports 0 3) ?_
      simp only [ga, cControl, EVA, ↓reduceIte, Nat.reduceEqDiff, Nat.reduceMul, reduceCtorEq, Nat.reduceAdd, Nat.reduceSub, Nat.reduceLeDiff, Nat.reduceLT, Int.reduceToNat, Int.reduceLE, Int.reduceLT, mens, men]
      cases hp : inB sig[j].ports 0 3 with
      | false =>
        simp only [EVA, ↓reduceIte, Nat.reduceEqDiff, Nat.reduceMul, reduceCtorEq, Nat.reduceAdd, Nat.reduceSub, Nat.reduceLeDiff, Nat.reduceLT, Int.reduceToNat, Int.reduceLE, Int.reduceLT, mens, men]
        rw [dc_false (hno fun h => inB_not.1 hp h.2.1)]
      | true =>
        have hp' := inB_iff.1 hp
        simp only [ga, cControl, EVA, ↓reduceIte, Nat.reduceEqDiff, Nat.reduceMul, reduceCtorEq, Nat.reduceAdd, Nat.reduceSub, Nat.reduceLeDiff, Nat.reduceLT, Int.reduceToNat, Int.reduceLE, Int.reduceLT, mens, men]
        refine kca_intro (sem_within sig[j].kind_ 0 2) ?_
        simp only [ga, cControl, EVA, ↓reduceIte, Nat.reduceEqDiff, Nat.reduceMul, reduceCtorEq, Nat.reduceAdd, Nat.reduceSub, Nat.reduceLeDiff, Nat.reduceLT, Int.reduceToNat, Int.reduceLE, Int.reduceLT, mens, men]
        cases hk : inB sig[j].kind_ 0 2 with
        | false =>
          simp only [EVA, ↓reduceIte, Nat.reduceEqDiff, Nat.reduceMul, reduceCtorEq, Nat.reduceAdd, Nat.reduceSub, Nat.reduceLeDiff, Nat.reduceLT, Int.reduceToNat, Int.reduceLE, Int.reduceLT, mens, men]
          rw [dc_false (hno fun h => inB_not.1 hk h.2.2)]
        | true =>
          have hk' := inB_iff.1 hk
          have hjl : j ≤ sig.length := by omega
          simp only [List.length_map, hjl, EVA, ↓reduceIte, Nat.reduceEqDiff, Nat.reduceMul, reduceCtorEq, Nat.reduceAdd, Nat.reduceSub, Nat.reduceLeDiff, Nat.reduceLT, Int.reduceToNat, Int.reduceLE, Int.reduceLT, mens, men]
          have hc := sem_coFk (P := Go.Proofs.Tryz.prog) g_coFControl g_ixFControl cControl_len (f := fun d : TControl => decide (d.name = sig[j].name)) (fe := fid_impl_IsSignature_1) (cs := [cControl sig[j]]) (sig.take j) (by rw [List.length_take]; omega) (fun d _ lvl S => sem_IsSignature_1 sig[j] d lvl S)
          rw [← cut_take0] at hc
          refine ⟨fun h => h.elim, Nat.zero_le _, kca_intro hc ?_⟩
          simp only [EVA, ↓reduceIte, Nat.reduceEqDiff, Nat.reduceMul, reduceCtorEq, Nat.reduceAdd, Nat.reduceSub, Nat.reduceLeDiff, Nat.reduceLT, Int.reduceToNat, Int.reduceLE, Int.reduceLT, mens, men]
          cases ha : (sig.take j).any (fun d : TControl => decide (d.name = sig[j].name)) with
          | true =>
            simp only [EVA, ↓reduceIte, Nat.reduceEqDiff, Nat.reduceMul, reduceCtorEq, Nat.reduceAdd, Nat.reduceSub, Nat.reduceLeDiff, Nat.reduceLT, Int.reduceToNat, Int.reduceLE, Int.reduceLT, mens, men]
            obtain ⟨d, hd, he⟩ := List.any_eq_true.1 ha
            obtain ⟨q, hq, rfl⟩ := List.getElem_of_mem hd
            rw [List.length_take] at hq
            rw [dc_false (fun hs : sigOK sig => (hs.1 j hja).2 q (by omega) (by simpa using he))]
          | false =>
            simp only [EVA, ↓reduceIte, Nat.reduceEqDiff, Nat.reduceMul, reduceCtorEq, Nat.reduceAdd, Nat.reduceSub, Nat.reduceLeDiff, Nat.reduceLT, Int.reduceToNat, Int.reduceLE, Int.reduceLT, mens, men]
            refine ⟨by rw [fits_i64]; omega, cntJ_intro () hja rfl (fun i hi => ?_)⟩
            by_cases e : i = j
            · subst e
              refine fun h => ⟨⟨hn', hp', hk'⟩, fun q hq => ?_⟩
              have := (List.any_eq_false.1 ha) sig[q] (by
                rw [List.mem_take_iff_getElem]
                exact ⟨q, by omega, rfl⟩)
              simpa using this
            · exact hA i (by omega)
  · have : j = sig.length := by omega
    subst this
    have hall : ∀ i, sigAt sig i := fun i h => hA i h h
    rw [dc_true (p := sigOK sig) ⟨hall, by omega, by omega⟩]
theorem rI_app (a b : List Int) : rI (a ++ b) = rI a ++ rI b := List.map_append

theorem g_ixFI : chkF Go.Proofs.Tryz.prog fid_slices_IndexFunc_int_int (gIxF 1 none) = true := by kernel_rfl
theorem g_coFI : chkF Go.Proofs.Tryz.prog fid_slices_ContainsFunc_int_int (gCoF fid_slices_IndexFunc_int_int) = true := by kernel_rfl
end Go.Fd

/-
  WHAT A SIZE THAT IS LEFT SAYS OF BOUNDS (printed by lawgen.py). Own work.
-/
namespace Go.Fd
/-- A measure that only falls, and what it shows where something is left. -/
def Zm (s : Int → Int) (P : Prop) : Prop := ∀ l : Int, 0 ≤ l → l ≤ 1048576 → s l ≤ l ∧ (0 ≤ s l → P)
theorem Zm_id : Zm (fun l => l) True := fun _ _ _ => ⟨Int.le_refl _, fun _ => trivial⟩
theorem Zm_th {s g : Int → Int} {P Q : Prop} (hs : Zm s P) (hg : Zm g Q) : Zm (fun l => szTh (s l) g) (P ∧ Q) := fun l h0 h1 => by
  have a := hs l h0 h1
  by_cases h : s l < 0
  · simp only [szTh, if_pos h]
    exact ⟨by omega, fun h => by omega⟩
  · simp only [szTh, if_neg h]
    have b := hg (s l) (by omega) (by omega)
    exact ⟨by omega, fun h2 => ⟨a.2 (by omega), b.2 h2⟩⟩
theorem Zm_N (n : Nat) : Zm (fun l => szN n l) (n ≤ 4294967296) := fun l h0 h1 => by
  simp only [szN]
  split
  · exact ⟨by omega, fun h => by omega⟩
  · exact ⟨by omega, fun h => by omega⟩
theorem Zm_str (n : Nat) : Zm (fun l => l - n) (n ≤ 4294967296) := fun l h0 h1 => ⟨by simp only; omega, fun h => by simp only at h; omega⟩
theorem Zm_F {α : Type} {f : α → Int → Int} {P : α → Prop} (hf : ∀ x, Zm (f x) (P x)) : ∀ (a : List α), Zm (fun l => szF f a l) (∀ y ∈ a, P y)
  | [] => fun l _ _ => ⟨Int.le_refl l, fun _ y hy => by cases hy⟩
  | x :: r => fun l h0 h1 => by
    simp only [szF]
    have a := hf x l h0 h1
    split
    · exact ⟨by omega, fun h => by omega⟩
    · have b := Zm_F hf r (f x l) (by omega) (by omega)
      refine ⟨by simp only at b; omega, fun h y hy => ?_⟩
      cases hy with
      | head => exact a.2 (by omega)
      | tail _ hy => exact b.2 h y hy
theorem Zm_L {α : Type} {f : α → Int → Int} {P : α → Prop} (hf : ∀ x, Zm (f x) (P x)) (a : List α) : Zm (fun l => szL f a l) (a.length ≤ 4294967296 ∧ ∀ y ∈ a, P y) := fun l h0 h1 => by
  simp only [szL]
  split
  · exact ⟨by omega, fun h => by omega⟩
  · have b := Zm_F hf a (l - a.length) (by omega) (by omega)
    simp only at b
    exact ⟨by omega, fun h => ⟨by omega, b.2 h⟩⟩
theorem Zm_imp {s : Int → Int} {P Q : Prop} (h : Zm s P) (hq : P → Q) : Zm s Q := fun l h0 h1 => ⟨(h l h0 h1).1, fun h2 => hq ((h l h0 h1).2 h2)⟩
theorem zpSorting (x : TSorting) : Zm (fun l => szSorting x l) (bdSorting 4294967296 x) := by
  unfold szSorting
  exact Zm_imp (Zm_th (Zm_N _) (Zm_th (Zm_L (fun y => (Zm_N _)) _) (Zm_th (Zm_L (fun y => (Zm_N _)) _) (Zm_th (Zm_N _) (Zm_th (Zm_N _) Zm_id))))) (fun h => by unfold bdSorting; simp only [and_assoc, and_true, true_and, implies_true, forall_const] at h ⊢; try exact h)
theorem zpControl (x : TControl) : Zm (fun l => szControl x l) (bdControl 4294967296 x) := by
  unfold szControl
  exact Zm_imp (Zm_th (Zm_str _) Zm_id) (fun h => by unfold bdControl; simp only [and_assoc, and_true, true_and, implies_true, forall_const] at h ⊢; try exact h)
theorem mono_le {a : Nat} (h : a ≤ 4294967296) : a ≤ 9223372036854775807 := by omega
theorem monoSorting {x : TSorting} (h : bdSorting 4294967296 x) : bdSorting 9223372036854775807 x := by
  obtain ⟨b0, b1, b2, b3, b4, b5, b6⟩ := h
  exact ⟨(mono_le b0), (mono_le b1), (fun y0 hy0 => (mono_le (b2 y0 hy0))), (mono_le b3), (fun y0 hy0 => (mono_le (b4 y0 hy0))), (mono_le b5), (mono_le b6)⟩
theorem monoControl {x : TControl} (h : bdControl 4294967296 x) : bdControl 9223372036854775807 x := by
  exact (mono_le h)
end Go.Fd

/-
  SORTINGS, BOTH SIDES: VALID, FREE, FINER. Own work.
-/
namespace Go.Fd
set_option maxRecDepth 20000

theorem all_succ {P : Nat → Prop} {j : Nat} (h : ∀ k, k < j → P k) (hj : P j) : ∀ k, k < j + 1 → P k := fun k hk => by
  by_cases e : k = j
  · subst e; exact hj
  · exact h k (by omega)

abbrev A2 := Int × Int

abbrev eIS : List Int → List Tr := fun l => [Tr.sl (rI l)]

def nestAt (sig : List TControl) (nest : List (List Int)) (k : Nat) : Prop := ∀ (h : k < nest.length) (h2 : k < sig.length), Ris 0 ((sig.length : Int) - 1) nest[k] ∧ (sig[k].kind_ = 2 → nest[k] = [])

def sortsAt (sig : List TControl) (sorts : List (List Int)) (many : Nat) (k : Nat) : Prop := ∀ (h : k < sorts.length) (h2 : k < sig.length), (sorts[k].length : Int) = sig[k].ports ∧ ∀ n ∈ sorts[k], 0 ≤ n ∧ n ≤ (many : Int) - 1

def lt2 (a b : A2) : Prop := a.1 < b.1 ∨ a.1 = b.1 ∧ a.2 < b.2

def apartAt (l : List A2) (many : Nat) (i : Nat) : Prop := ∀ h : i < l.length, 0 ≤ l[i].1 ∧ l[i].1 < l[i].2 ∧ l[i].2 < (many : Int) ∧ (∀ h0 : 0 < i, lt2 (l[i - 1]'(by omega)) l[i])

structure sortOK (sig : List TControl) (s : TSorting) : Prop where
  sg : sigOK sig
  tops : Ris 0 ((sig.length : Int) - 1) s.tops
  nestL : s.nest.length = sig.length
  nest : ∀ k, nestAt sig s.nest k
  sortsL : s.sorts.length = sig.length
  sorts : ∀ k, sortsAt sig s.sorts s.most.length k
  many : 1 ≤ s.most.length ∧ s.most.length ≤ 4
  most : ∀ n ∈ s.most, 0 ≤ n ∧ n ≤ 24
  apart : ∀ i, apartAt s.apart s.most.length i

/-! ## numbers in order -/
theorem cut_all {es : Row} {n : Nat} (h : es.length = n) : cut es 0 n = es := by
  simp only [cut, List.drop_zero]
  exact List.take_of_length_le (by omega)

end Go.Fd

/-
  WHAT A VALID SORTING IS, BOTH SIDES. Own work.
-/
namespace Go.Fd
set_option maxRecDepth 20000

theorem sem_l7Controls (sig : List TControl) (l : List Int) (hn : sig.length ≤ 4294967296) (hl : l.length ≤ 9223372036854775807) (lvl : Nat) (S : Sto) : Sem Go.Proofs.Tryz.prog fid_spec_l7Controls lvl [.tr (.sl (sig.map cControl)), tI l] S (iB (dc (Ris 0 ((sig.length : Int) - 1) l))) S := by
  refine sem_of_chk k_spec_l7Controls trivial ?_
  simp only [c_spec_l7Controls, List.length_map, EVA, ↓reduceIte, Nat.reduceEqDiff, Nat.reduceMul, reduceCtorEq, Nat.reduceAdd, Nat.reduceSub, Nat.reduceLeDiff, Nat.reduceLT, Int.reduceToNat, Int.reduceLE, Int.reduceLT, mens, men]
  refine ⟨by rw [fits_i64]; omega, ?_⟩
  refine kca_intro (sem_l1Rising l 0 ((sig.length : Int) - 1) hl) ?_
  simp only [EVA, ↓reduceIte, Nat.reduceEqDiff, Nat.reduceMul, reduceCtorEq, Nat.reduceAdd, Nat.reduceSub, Nat.reduceLeDiff, Nat.reduceLT, Int.reduceToNat, Int.reduceLE, Int.reduceLT, mens, men]

def nestOK (sig : List TControl) (nest : List (List Int)) : Prop := nest.length = sig.length ∧ ∀ k, nestAt sig nest k

theorem sem_l7Nest (sig : List TControl) (nest : List (List Int)) (hn : sig.length ≤ 4294967296) (hl : nest.length ≤ 4294967296) (hb : ∀ y ∈ nest, y.length ≤ 4294967296) (lvl : Nat) (S : Sto) : Sem Go.Proofs.Tryz.prog fid_spec_l7Nest lvl [.tr (.sl (sig.map cControl)), .tr (.sl (nest.map eIS))] S (iB (dc (nestOK sig nest))) S := by
  refine sem_of_chk k_spec_l7Nest trivial ?_
  simp only [c_spec_l7Nest, List.length_map, EVA, ↓reduceIte, Nat.reduceEqDiff, Nat.reduceMul, reduceCtorEq, Nat.reduceAdd, Nat.reduceSub, Nat.reduceLeDiff, Nat.reduceLT, Int.reduceToNat, Int.reduceLE, Int.reduceLT, mens, men]
  refine ite_of (fun hne => ?_) (fun heq => ?_)
  · have : ¬ nestOK sig nest := fun h => by have := h.1; omega
    rw [dc_false this]
  have hE : nest.length = sig.length := by omega
  refine wp_cnt (α := Unit) nest.length (fun j _ => [(5, iI j)]) (fun j _ => []) (fun j _ => ∀ k, k < j → nestAt sig nest k) () (by simp only [EVA, ↓reduceIte, Nat.reduceEqDiff, Nat.reduceMul, reduceCtorEq, Nat.reduceAdd, Nat.reduceSub, Nat.reduceLeDiff, Nat.reduceLT, Int.reduceToNat, Int.reduceLE, Int.reduceLT, mens, men]) (by (simp only [EVA, ↓reduceIte, Nat.reduceEqDiff, Nat.reduceMul, reduceCtorEq, Nat.reduceAdd, Nat.reduceSub, Nat.reduceLeDiff, Nat.reduceLT, Int.reduceToNat, Int.reduceLE, Int.reduceLT, mens, men]) <;> rfl) (fun k hk => absurd hk (Nat.not_lt_zero k)) ?_
  intro j _ hj hA
  simp only [List.length_map, EVA, ↓reduceIte, Nat.reduceEqDiff, Nat.reduceMul, reduceCtorEq, Nat.reduceAdd, Nat.reduceSub, Nat.reduceLeDiff, Nat.reduceLT, Int.reduceToNat, Int.reduceLE, Int.reduceLT, mens, men]
  refine ite_of (fun hlt => ?_) (fun hge => ?_)
  · have hja : j < nest.length := by omega
    have hjs : j < sig.length := by omega
    have ga := getA (c := eIS) hja
    have gs := getA (c := cControl) hjs
    have hy : nest[j].length ≤ 4294967296 := hb _ (List.getElem_mem hja)
    simp only [ga, gs, List.length_map, cControl, EVA, ↓reduceIte, Nat.reduceEqDiff, Nat.reduceMul, reduceCtorEq, Nat.reduceAdd, Nat.reduceSub, Nat.reduceLeDiff, Nat.reduceLT, Int.reduceToNat, Int.reduceLE, Int.reduceLT, mens, men]
    refine kca_intro (sem_l7Controls sig nest[j] hn (by omega)) ?_
    cases hc : dc (Ris 0 ((sig.length : Int) - 1) nest[j])
    · simp only [EVA, ↓reduceIte, Nat.reduceEqDiff, Nat.reduceMul, reduceCtorEq, Nat.reduceAdd, Nat.reduceSub, Nat.reduceLeDiff, Nat.reduceLT, Int.reduceToNat, Int.reduceLE, Int.reduceLT, mens, men]
      have : ¬ nestOK sig nest := fun h => dc_not.1 hc (h.2 j hja hjs).1
      rw [dc_false this]
    have hR := dc_iff.1 hc
    by_cases hk : sig[j].kind_ = 2
    · simp only [ga, gs, List.length_map, cControl, hk, EVA, ↓reduceIte, Nat.reduceEqDiff, Nat.reduceMul, reduceCtorEq, Nat.reduceAdd, Nat.reduceSub, Nat.reduceLeDiff, Nat.reduceLT, Int.reduceToNat, Int.reduceLE, Int.reduceLT, mens, men]
      refine ite_of (fun hpos => ?_) (fun hz => ?_)
      · have : ¬ nestOK sig nest := fun h => by
          have := (h.2 j hja hjs).2 hk
          rw [this] at hpos
          simp at hpos
        rw [dc_false this]
      · have hz2 : nest[j] = [] := List.length_eq_zero_iff.1 (by omega)
        exact ⟨by rw [fits_i64]; omega, cntJ_intro () hja rfl (all_succ hA fun _ _ => ⟨hR, fun _ => hz2⟩)⟩
    · simp only [ga, gs, List.length_map, cControl, hk, EVA, ↓reduceIte, Nat.reduceEqDiff, Nat.reduceMul, reduceCtorEq, Nat.reduceAdd, Nat.reduceSub, Nat.reduceLeDiff, Nat.reduceLT, Int.reduceToNat, Int.reduceLE, Int.reduceLT, mens, men]
      exact ⟨by rw [fits_i64]; omega, cntJ_intro () hja rfl (all_succ hA fun _ _ => ⟨hR, fun h => absurd h hk⟩)⟩
  · have : j = nest.length := by omega
    subst this
    have : nestOK sig nest := ⟨hE, fun k h h2 => hA k h h h2⟩
    rw [dc_true this]

def sortsOK (sig : List TControl) (sorts : List (List Int)) (many : Nat) : Prop := sorts.length = sig.length ∧ ∀ k, sortsAt sig sorts many k

theorem sem_l7Sorts (sig : List TControl) (sorts : List (List Int)) (many : Nat) (hm : many ≤ 4294967296) (hn : sig.length ≤ 4294967296) (hl : sorts.length ≤ 4294967296) (hb : ∀ y ∈ sorts, y.length ≤ 4294967296) (lvl : Nat) (S : Sto) : Sem Go.Proofs.Tryz.prog fid_spec_l7Sorts lvl [.tr (.sl (sig.map cControl)), .tr (.sl (sorts.map eIS)), iI many] S (iB (dc (sortsOK sig sorts many))) S := by
  refine sem_of_chk k_spec_l7Sorts trivial ?_
  simp only [c_spec_l7Sorts, List.length_map, EVA, ↓reduceIte, Nat.reduceEqDiff, Nat.reduceMul, reduceCtorEq, Nat.reduceAdd, Nat.reduceSub, Nat.reduceLeDiff, Nat.reduceLT, Int.reduceToNat, Int.reduceLE, Int.reduceLT, mens, men]
  refine ite_of (fun hne => ?_) (fun heq => ?_)
  · have : ¬ sortsOK sig sorts many := fun h => by have := h.1; omega
    rw [dc_false this]
  have hE : sorts.length = sig.length := by omega
  refine wp_cnt (α := Unit) sorts.length (fun j _ => [(7, iI j)]) (fun j _ => []) (fun j _ => ∀ k, k < j → sortsAt sig sorts many k) () (by simp only [EVA, ↓reduceIte, Nat.reduceEqDiff, Nat.reduceMul, reduceCtorEq, Nat.reduceAdd, Nat.reduceSub, Nat.reduceLeDiff, Nat.reduceLT, Int.reduceToNat, Int.reduceLE, Int.reduceLT, mens, men]) (by (simp only [EVA, ↓reduceIte, Nat.reduceEqDiff, Nat.reduceMul, reduceCtorEq, Nat.reduceAdd, Nat.reduceSub, Nat.reduceLeDiff, Nat.reduceLT, Int.reduceToNat, Int.reduceLE, Int.reduceLT, mens, men]) <;> rfl) (fun k hk => absurd hk (Nat.not_lt_zero k)) ?_
  intro j _ hj hA
  simp only [List.length_map, EVA, ↓reduceIte, Nat.reduceEqDiff, Nat.reduceMul, reduceCtorEq, Nat.reduceAdd, Nat.reduceSub, Nat.reduceLeDiff, Nat.reduceLT, Int.reduceToNat, Int.reduceLE, Int.reduceLT, mens, men]
  refine ite_of (fun hlt => ?_) (fun hge => ?_)
  · have hja : j < sorts.length := by omega
    have hjs : j < sig.length := by omega
    have ga := getA (c := eIS) hja
    have gs := getA (c := cControl) hjs
    have hy : sorts[j].length ≤ 4294967296 := hb _ (List.getElem_mem hja)
    simp only [ga, gs, List.length_map, cControl, EVA, ↓reduceIte, Nat.reduceEqDiff, Nat.reduceMul, reduceCtorEq, Nat.reduceAdd, Nat.reduceSub, Nat.reduceLeDiff, Nat.reduceLT, Int.reduceToNat, Int.reduceLE, Int.reduceLT, mens, men]
    refine ite_of (fun hne => ?_) (fun heq => ?_)
    · have : ¬ sortsOK sig sorts many := fun h => hne (h.2 j hja hjs).1
      rw [dc_false this]
    have heq2 : (sorts[j].length : Int) = sig[j].ports := by omega
    refine wp_cnt (α := Unit) sorts[j].length (fun i _ => [(8, iI i)]) (fun i _ => []) (fun i _ => ∀ k, k < i → 0 ≤ g0 sorts[j] k ∧ g0 sorts[j] k ≤ (many : Int) - 1) () (by simp only [EVA, ↓reduceIte, Nat.reduceEqDiff, Nat.reduceMul, reduceCtorEq, Nat.reduceAdd, Nat.reduceSub, Nat.reduceLeDiff, Nat.reduceLT, Int.reduceToNat, Int.reduceLE, Int.reduceLT, mens, men]) (by (simp only [EVA, ↓reduceIte, Nat.reduceEqDiff, Nat.reduceMul, reduceCtorEq, Nat.reduceAdd, Nat.reduceSub, Nat.reduceLeDiff, Nat.reduceLT, Int.reduceToNat, Int.reduceLE, Int.reduceLT, mens, men]) <;> rfl) (fun k hk => absurd hk (Nat.not_lt_zero k)) ?_
    intro i _ hi hB
    simp only [ga, gs, List.length_map, cControl, EVA, ↓reduceIte, Nat.reduceEqDiff, Nat.reduceMul, reduceCtorEq, Nat.reduceAdd, Nat.reduceSub, Nat.reduceLeDiff, Nat.reduceLT, Int.reduceToNat, Int.reduceLE, Int.reduceLT, mens, men]
    refine ite_of (fun hlt2 => ?_) (fun hge2 => ?_)
    · have hia : i < sorts[j].length := by omega
      have gi := rI_get hia
      simp only [ga, gs, gi, List.length_map, EVA, ↓reduceIte, Nat.reduceEqDiff, Nat.reduceMul, reduceCtorEq, Nat.reduceAdd, Nat.reduceSub, Nat.reduceLeDiff, Nat.reduceLT, Int.reduceToNat, Int.reduceLE, Int.reduceLT, mens, men]
      refine ⟨by rw [fits_i64]; omega, ?_⟩
      refine kca_intro (sem_l1In (g0 sorts[j] i) 0 ((many : Int) - 1)) ?_
      cases hc : inB (g0 sorts[j] i) 0 ((many : Int) - 1)
      · simp only [EVA, ↓reduceIte, Nat.reduceEqDiff, Nat.reduceMul, reduceCtorEq, Nat.reduceAdd, Nat.reduceSub, Nat.reduceLeDiff, Nat.reduceLT, Int.reduceToNat, Int.reduceLE, Int.reduceLT, mens, men]
        have : ¬ sortsOK sig sorts many := fun h => inB_not.1 hc (by
          have := (h.2 j hja hjs).2 (g0 sorts[j] i) (by simp [hia])
          exact this)
        rw [dc_false this]
      · simp only [EVA, ↓reduceIte, Nat.reduceEqDiff, Nat.reduceMul, reduceCtorEq, Nat.reduceAdd, Nat.reduceSub, Nat.reduceLeDiff, Nat.reduceLT, Int.reduceToNat, Int.reduceLE, Int.reduceLT, mens, men]
        exact ⟨by rw [fits_i64]; omega, cntJ_intro () hia rfl (all_succ hB (inB_iff.1 hc))⟩
    · have : i = sorts[j].length := by omega
      subst this
      exact ⟨by rw [fits_i64]; omega, cntJ_intro () hja rfl (all_succ hA fun _ _ => ⟨heq2, fun n hn => by
        obtain ⟨k, hk, rfl⟩ := List.getElem_of_mem hn
        have := hB k hk
        simpa [hk] using this⟩)⟩
  · have : j = sorts.length := by omega
    subst this
    have : sortsOK sig sorts many := ⟨hE, fun k h h2 => hA k h h h2⟩
    rw [dc_true this]

theorem sem_l7Before (a b : A2) (lvl : Nat) (S : Sto) : Sem Go.Proofs.Tryz.prog fid_spec_l7Before lvl [.ag ((cA2 a).map .tr), .ag ((cA2 b).map .tr)] S (iB (dc (lt2 a b))) S := by
  refine sem_of_chk k_spec_l7Before trivial ?_
  simp only [c_spec_l7Before, cA2, EVA, ↓reduceIte, Nat.reduceEqDiff, Nat.reduceMul, reduceCtorEq, Nat.reduceAdd, Nat.reduceSub, Nat.reduceLeDiff, Nat.reduceLT, Int.reduceToNat, Int.reduceLE, Int.reduceLT, mens, men]
  by_cases h1 : a.1 < b.1
  · simp only [h1, EVA, ↓reduceIte, Nat.reduceEqDiff, Nat.reduceMul, reduceCtorEq, Nat.reduceAdd, Nat.reduceSub, Nat.reduceLeDiff, Nat.reduceLT, Int.reduceToNat, Int.reduceLE, Int.reduceLT, mens, men]
    have : lt2 a b := .inl h1
    rw [dc_true this]
  by_cases h2 : a.1 = b.1
  · have h3 : ¬ b.1 < b.1 := Int.lt_irrefl _
    simp only [h1, h2, h3, EVA, ↓reduceIte, Nat.reduceEqDiff, Nat.reduceMul, reduceCtorEq, Nat.reduceAdd, Nat.reduceSub, Nat.reduceLeDiff, Nat.reduceLT, Int.reduceToNat, Int.reduceLE, Int.reduceLT, mens, men]
    have : lt2 a b ↔ a.2 < b.2 := ⟨fun h => by rcases h with h | h <;> omega, fun h => .inr ⟨h2, h⟩⟩
    rw [dc_congr this, dc_decide]
  · simp only [h1, h2, EVA, ↓reduceIte, Nat.reduceEqDiff, Nat.reduceMul, reduceCtorEq, Nat.reduceAdd, Nat.reduceSub, Nat.reduceLeDiff, Nat.reduceLT, Int.reduceToNat, Int.reduceLE, Int.reduceLT, mens, men]
    have : ¬ lt2 a b := fun h => by rcases h with h | h <;> omega
    rw [dc_false this]

theorem sortOK_iff {sig : List TControl} {s : TSorting} : sortOK sig s ↔ sigOK sig ∧ Ris 0 ((sig.length : Int) - 1) s.tops ∧ nestOK sig s.nest ∧ sortsOK sig s.sorts s.most.length ∧ (1 ≤ s.most.length ∧ s.most.length ≤ 4) ∧ (∀ n ∈ s.most, 0 ≤ n ∧ n ≤ 24) ∧ ∀ i, apartAt s.apart s.most.length i :=
  ⟨fun h => ⟨h.sg, h.tops, ⟨h.nestL, h.nest⟩, ⟨h.sortsL, h.sorts⟩, h.many, h.most, h.apart⟩, fun ⟨a, b, c, d, e, f, g⟩ => ⟨a, b, c.1, c.2, d.1, d.2, e, f, g⟩⟩

theorem sem_l7Good (sig : List TControl) (s : TSorting) (hn : sig.length ≤ 4294967296) (hbs : ∀ y ∈ sig, bdControl 4294967296 y) (hb : bdSorting 4294967296 s) (lvl : Nat) (S : Sto) : Sem Go.Proofs.Tryz.prog fid_spec_l7Good lvl [.tr (.sl (sig.map cControl)), .ag ((cSorting s).map .tr)] S (iB (dc (sortOK sig s))) S := by
  obtain ⟨b1, b2, b3, b4, b5, b6, b7⟩ := hb
  refine sem_of_chk k_spec_l7Good trivial ?_
  simp only [c_spec_l7Good, List.length_map, cSorting, EVA, ↓reduceIte, Nat.reduceEqDiff, Nat.reduceMul, reduceCtorEq, Nat.reduceAdd, Nat.reduceSub, Nat.reduceLeDiff, Nat.reduceLT, Int.reduceToNat, Int.reduceLE, Int.reduceLT, mens, men]
  refine kca_intro (sem_l2Sig sig (by omega) (fun y hy => monoControl (hbs y hy))) ?_
  cases h1 : dc (sigOK sig)
  · simp only [EVA, ↓reduceIte, Nat.reduceEqDiff, Nat.reduceMul, reduceCtorEq, Nat.reduceAdd, Nat.reduceSub, Nat.reduceLeDiff, Nat.reduceLT, Int.reduceToNat, Int.reduceLE, Int.reduceLT, mens, men]
    rw [dc_false fun h => dc_not.1 h1 h.sg]
  simp only [List.length_map, cSorting, EVA, ↓reduceIte, Nat.reduceEqDiff, Nat.reduceMul, reduceCtorEq, Nat.reduceAdd, Nat.reduceSub, Nat.reduceLeDiff, Nat.reduceLT, Int.reduceToNat, Int.reduceLE, Int.reduceLT, mens, men]
  refine kca_intro (sem_l7Controls sig s.tops hn (by omega)) ?_
  cases h2 : dc (Ris 0 ((sig.length : Int) - 1) s.tops)
  · simp only [EVA, ↓reduceIte, Nat.reduceEqDiff, Nat.reduceMul, reduceCtorEq, Nat.reduceAdd, Nat.reduceSub, Nat.reduceLeDiff, Nat.reduceLT, Int.reduceToNat, Int.reduceLE, Int.reduceLT, mens, men]
    rw [dc_false fun h => dc_not.1 h2 h.tops]
  simp only [List.length_map, cSorting, EVA, ↓reduceIte, Nat.reduceEqDiff, Nat.reduceMul, reduceCtorEq, Nat.reduceAdd, Nat.reduceSub, Nat.reduceLeDiff, Nat.reduceLT, Int.reduceToNat, Int.reduceLE, Int.reduceLT, mens, men]
  refine kca_intro (sem_l7Nest sig s.nest hn b2 b3) ?_
  cases h3 : dc (nestOK sig s.nest)
  · simp only [EVA, ↓reduceIte, Nat.reduceEqDiff, Nat.reduceMul, reduceCtorEq, Nat.reduceAdd, Nat.reduceSub, Nat.reduceLeDiff, Nat.reduceLT, Int.reduceToNat, Int.reduceLE, Int.reduceLT, mens, men]
    rw [dc_false fun h => dc_not.1 h3 ⟨h.nestL, h.nest⟩]
  simp only [List.length_map, cSorting, EVA, ↓reduceIte, Nat.reduceEqDiff, Nat.reduceMul, reduceCtorEq, Nat.reduceAdd, Nat.reduceSub, Nat.reduceLeDiff, Nat.reduceLT, Int.reduceToNat, Int.reduceLE, Int.reduceLT, mens, men]
  refine kca_intro (sem_l1In s.most.length 1 4) ?_
  cases h4 : inB s.most.length 1 4
  · simp only [EVA, ↓reduceIte, Nat.reduceEqDiff, Nat.reduceMul, reduceCtorEq, Nat.reduceAdd, Nat.reduceSub, Nat.reduceLeDiff, Nat.reduceLT, Int.reduceToNat, Int.reduceLE, Int.reduceLT, mens, men]
    rw [dc_false fun h => inB_not.1 h4 (by have := h.many; omega)]
  simp only [List.length_map, cSorting, EVA, ↓reduceIte, Nat.reduceEqDiff, Nat.reduceMul, reduceCtorEq, Nat.reduceAdd, Nat.reduceSub, Nat.reduceLeDiff, Nat.reduceLT, Int.reduceToNat, Int.reduceLE, Int.reduceLT, mens, men]
  refine kca_intro (sem_l7Sorts sig s.sorts s.most.length b6 hn b4 b5) ?_
  cases h5 : dc (sortsOK sig s.sorts s.most.length)
  · simp only [EVA, ↓reduceIte, Nat.reduceEqDiff, Nat.reduceMul, reduceCtorEq, Nat.reduceAdd, Nat.reduceSub, Nat.reduceLeDiff, Nat.reduceLT, Int.reduceToNat, Int.reduceLE, Int.reduceLT, mens, men]
    rw [dc_false fun h => dc_not.1 h5 ⟨h.sortsL, h.sorts⟩]
  simp only [List.length_map, cSorting, EVA, ↓reduceIte, Nat.reduceEqDiff, Nat.reduceMul, reduceCtorEq, Nat.reduceAdd, Nat.reduceSub, Nat.reduceLeDiff, Nat.reduceLT, Int.reduceToNat, Int.reduceLE, Int.reduceLT, mens, men]
  refine wp_cnt (α := Unit) s.most.length (fun j _ => [(5, iI j)]) (fun j _ => []) (fun j _ => ∀ k, k < j → 0 ≤ g0 s.most k ∧ g0 s.most k ≤ 24) () (by simp only [EVA, ↓reduceIte, Nat.reduceEqDiff, Nat.reduceMul, reduceCtorEq, Nat.reduceAdd, Nat.reduceSub, Nat.reduceLeDiff, Nat.reduceLT, Int.reduceToNat, Int.reduceLE, Int.reduceLT, mens, men]) (by (simp only [EVA, ↓reduceIte, Nat.reduceEqDiff, Nat.reduceMul, reduceCtorEq, Nat.reduceAdd, Nat.reduceSub, Nat.reduceLeDiff, Nat.reduceLT, Int.reduceToNat, Int.reduceLE, Int.reduceLT, mens, men]) <;> rfl) (fun k hk => absurd hk (Nat.not_lt_zero k)) ?_
  intro j _ hj hA
  simp only [List.length_map, cSorting, EVA, ↓reduceIte, Nat.reduceEqDiff, Nat.reduceMul, reduceCtorEq, Nat.reduceAdd, Nat.reduceSub, Nat.reduceLeDiff, Nat.reduceLT, Int.reduceToNat, Int.reduceLE, Int.reduceLT, mens, men]
  refine ite_of (fun hlt => ?_) (fun hge => ?_)
  · have hja : j < s.most.length := by omega
    have ga := rI_get hja
    simp only [ga, List.length_map, cSorting, EVA, ↓reduceIte, Nat.reduceEqDiff, Nat.reduceMul, reduceCtorEq, Nat.reduceAdd, Nat.reduceSub, Nat.reduceLeDiff, Nat.reduceLT, Int.reduceToNat, Int.reduceLE, Int.reduceLT, mens, men]
    refine kca_intro (sem_l1In (g0 s.most j) 0 24) ?_
    cases hc : inB (g0 s.most j) 0 24
    · simp only [EVA, ↓reduceIte, Nat.reduceEqDiff, Nat.reduceMul, reduceCtorEq, Nat.reduceAdd, Nat.reduceSub, Nat.reduceLeDiff, Nat.reduceLT, Int.reduceToNat, Int.reduceLE, Int.reduceLT, mens, men]
      rw [dc_false fun h => inB_not.1 hc (h.most _ (by simp [hja]))]
    · simp only [EVA, ↓reduceIte, Nat.reduceEqDiff, Nat.reduceMul, reduceCtorEq, Nat.reduceAdd, Nat.reduceSub, Nat.reduceLeDiff, Nat.reduceLT, Int.reduceToNat, Int.reduceLE, Int.reduceLT, mens, men]
      exact ⟨by rw [fits_i64]; omega, cntJ_intro () hja rfl (all_succ hA (inB_iff.1 hc))⟩
  have hj0 : j = s.most.length := by omega
  subst hj0
  have hM : ∀ n ∈ s.most, 0 ≤ n ∧ n ≤ 24 := fun n hn => by
    obtain ⟨k, hk, rfl⟩ := List.getElem_of_mem hn
    have := hA k hk
    simpa [hk] using this
  refine wp_cnt (α := Unit) s.apart.length (fun j _ => [(6, iI j)]) (fun j _ => []) (fun j _ => ∀ k, k < j → apartAt s.apart s.most.length k) () (by simp only [EVA, ↓reduceIte, Nat.reduceEqDiff, Nat.reduceMul, reduceCtorEq, Nat.reduceAdd, Nat.reduceSub, Nat.reduceLeDiff, Nat.reduceLT, Int.reduceToNat, Int.reduceLE, Int.reduceLT, mens, men]) (by (simp only [EVA, ↓reduceIte, Nat.reduceEqDiff, Nat.reduceMul, reduceCtorEq, Nat.reduceAdd, Nat.reduceSub, Nat.reduceLeDiff, Nat.reduceLT, Int.reduceToNat, Int.reduceLE, Int.reduceLT, mens, men]) <;> rfl) (fun k hk => absurd hk (Nat.not_lt_zero k)) ?_
  intro j _ hj hB
  simp only [List.length_map, cSorting, EVA, ↓reduceIte, Nat.reduceEqDiff, Nat.reduceMul, reduceCtorEq, Nat.reduceAdd, Nat.reduceSub, Nat.reduceLeDiff, Nat.reduceLT, Int.reduceToNat, Int.reduceLE, Int.reduceLT, mens, men]
  refine ite_of (fun hlt => ?_) (fun hge => ?_)
  · have hja : j < s.apart.length := by omega
    have ga := getA (c := cA2) hja
    have hno : ¬ apartAt s.apart s.most.length j → dc (sortOK sig s) = false := fun h => dc_false fun g => h (g.apart j)
    simp only [ga, List.length_map, cSorting, cA2, EVA, ↓reduceIte, Nat.reduceEqDiff, Nat.reduceMul, reduceCtorEq, Nat.reduceAdd, Nat.reduceSub, Nat.reduceLeDiff, Nat.reduceLT, Int.reduceToNat, Int.reduceLE, Int.reduceLT, mens, men]
    by_cases q1 : s.apart[j].1 < 0
    · simp only [q1, EVA, ↓reduceIte, Nat.reduceEqDiff, Nat.reduceMul, reduceCtorEq, Nat.reduceAdd, Nat.reduceSub, Nat.reduceLeDiff, Nat.reduceLT, Int.reduceToNat, Int.reduceLE, Int.reduceLT, mens, men]
      rw [hno fun h => by have := (h hja).1; omega]
    by_cases q2 : s.apart[j].1 ≥ s.apart[j].2
    · simp only [q1, q2, EVA, ↓reduceIte, Nat.reduceEqDiff, Nat.reduceMul, reduceCtorEq, Nat.reduceAdd, Nat.reduceSub, Nat.reduceLeDiff, Nat.reduceLT, Int.reduceToNat, Int.reduceLE, Int.reduceLT, mens, men]
      rw [hno fun h => by have := (h hja).2.1; omega]
    by_cases q3 : s.apart[j].2 ≥ (s.most.length : Int)
    · simp only [q1, q2, q3, List.length_map, cSorting, EVA, ↓reduceIte, Nat.reduceEqDiff, Nat.reduceMul, reduceCtorEq, Nat.reduceAdd, Nat.reduceSub, Nat.reduceLeDiff, Nat.reduceLT, Int.reduceToNat, Int.reduceLE, Int.reduceLT, mens, men]
      rw [hno fun h => by have := (h hja).2.2.1; omega]
    by_cases q4 : 0 < j
    · have e1 : ((j : Int) - 1).toNat = j - 1 := by omega
      have e2 : (0 : Int) ≤ j - 1 := by omega
      have q5 : (0 : Int) < j := by omega
      have gb := getA (c := cA2) (l := s.apart) (j := j - 1) (by omega)
      simp only [q1, q2, q3, q5, e1, e2, ga, gb, List.length_map, cSorting, cA2, EVA, ↓reduceIte, Nat.reduceEqDiff, Nat.reduceMul, reduceCtorEq, Nat.reduceAdd, Nat.reduceSub, Nat.reduceLeDiff, Nat.reduceLT, Int.reduceToNat, Int.reduceLE, Int.reduceLT, mens, men]
      refine ⟨by rw [fits_i64]; omega, ?_⟩
      refine kca_intro (sem_l7Before (s.apart[j - 1]'(by omega)) s.apart[j]) ?_
      cases hc : dc (lt2 (s.apart[j - 1]'(by omega)) s.apart[j])
      · simp only [EVA, ↓reduceIte, Nat.reduceEqDiff, Nat.reduceMul, reduceCtorEq, Nat.reduceAdd, Nat.reduceSub, Nat.reduceLeDiff, Nat.reduceLT, Int.reduceToNat, Int.reduceLE, Int.reduceLT, mens, men]
        rw [hno fun h => dc_not.1 hc ((h hja).2.2.2 q4)]
      · simp only [EVA, ↓reduceIte, Nat.reduceEqDiff, Nat.reduceMul, reduceCtorEq, Nat.reduceAdd, Nat.reduceSub, Nat.reduceLeDiff, Nat.reduceLT, Int.reduceToNat, Int.reduceLE, Int.reduceLT, mens, men]
        exact ⟨by rw [fits_i64]; omega, cntJ_intro () hja rfl (all_succ hB fun _ => ⟨by omega, by omega, by omega, fun _ => dc_iff.1 hc⟩)⟩
    · have q5 : ¬ (0 : Int) < j := by omega
      simp only [q1, q2, q3, q5, ga, List.length_map, cSorting, cA2, EVA, ↓reduceIte, Nat.reduceEqDiff, Nat.reduceMul, reduceCtorEq, Nat.reduceAdd, Nat.reduceSub, Nat.reduceLeDiff, Nat.reduceLT, Int.reduceToNat, Int.reduceLE, Int.reduceLT, mens, men]
      exact ⟨by rw [fits_i64]; omega, cntJ_intro () hja rfl (all_succ hB fun _ => ⟨by omega, by omega, by omega, fun h => absurd h q4⟩)⟩
  · have hj1 : j = s.apart.length := by omega
    subst hj1
    rw [dc_true (sortOK_iff.2 ⟨dc_iff.1 h1, dc_iff.1 h2, dc_iff.1 h3, dc_iff.1 h5, by have := inB_iff.1 h4; omega, hM, fun i h => hB i h h⟩)]

end Go.Fd
