/-
  The annotated codes of the functions, printed by a program of mine (gen.py), and the check that they belong to the program.
-/
import Derived.Test.YteoogncgfnpoeaaDoorT03
import Derived.KernelRfl
import Derived.Shelf.Strings.SlTrimAscii
import Derived.Test.YteoogncgfnpoeaaDoorProg
namespace Go.Fd
def c_impl_IsSorting : F2 :=
  { nt := 104, res := [.t 4 [0]], body :=
   (.sq (.rg none [⟨some 3, none, .bt (.t 1)⟩,
      ⟨some 4, none, .mv (.k (.bool false)) none⟩])
   (.sq (.sq (.rg none [⟨some 7, none, .mv (.t 0) none⟩,
       ⟨some 8, none, .ca .pure false (.f fid_impl_IsSignature) [.t 7]⟩,
       ⟨some 9, none, .nt (.t 8)⟩,
       ⟨some 10, none, .mv (.t 9) none⟩,
       ⟨some 11, (some (10, false)), .fa 0 (.t 3)⟩,
       ⟨some 12, (some (10, false)), .ld none (.t 11)⟩,
       ⟨some 13, (some (10, false)), .mv (.t 0) none⟩,
       ⟨some 14, (some (10, false)), .ln (.t 13)⟩,
       ⟨some 15, (some (10, false)), .ca .pure false (.f fid_impl_isRising) [.t 12, .t 14]⟩,
       ⟨some 16, (some (10, false)), .nt (.t 15)⟩,
       ⟨some 17, none, .pk (.t 10) (.k (.bool true)) (.t 16)⟩,
       ⟨some 18, none, .mv (.t 17) none⟩,
       ⟨some 19, (some (18, false)), .fa 1 (.t 3)⟩,
       ⟨some 20, (some (18, false)), .ld none (.t 19)⟩,
       ⟨some 21, (some (18, false)), .ln (.t 20)⟩,
       ⟨some 22, (some (18, false)), .mv (.t 0) none⟩,
       ⟨some 23, (some (18, false)), .ln (.t 22)⟩,
       ⟨some 24, (some (18, false)), .bi .neq 0 (.t 21) (.t 23)⟩,
       ⟨some 25, none, .pk (.t 18) (.k (.bool true)) (.t 24)⟩,
       ⟨some 26, none, .mv (.t 25) none⟩,
       ⟨some 27, (some (26, false)), .fa 2 (.t 3)⟩,
       ⟨some 28, (some (26, false)), .ld none (.t 27)⟩,
       ⟨some 29, (some (26, false)), .ln (.t 28)⟩,
       ⟨some 30, (some (26, false)), .mv (.t 0) none⟩,
       ⟨some 31, (some (26, false)), .ln (.t 30)⟩,
       ⟨some 32, (some (26, false)), .bi .neq 0 (.t 29) (.t 31)⟩,
       ⟨some 33, none, .pk (.t 26) (.k (.bool true)) (.t 32)⟩])
    (.cd (.t 33) (.sq (.rg none [⟨some 4, none, .mv (.k (.bool false)) none⟩])
     (.rt))
    (.sk)))
   (.sq (.sq (.rg none [⟨some 34, none, .fa 3 (.t 3)⟩,
       ⟨some 35, none, .ld none (.t 34)⟩,
       ⟨some 36, none, .ln (.t 35)⟩,
       ⟨some 37, none, .ca .pure false (.f fid_impl_within) [.t 36, .k (.int .i64 1), .k (.int .i64 4)]⟩,
       ⟨some 38, none, .nt (.t 37)⟩,
       ⟨some 39, none, .mv (.t 38) none⟩,
       ⟨some 40, (some (39, false)), .fa 3 (.t 3)⟩,
       ⟨some 41, (some (39, false)), .ld none (.t 40)⟩,
       ⟨some 42, (some (39, false)), .ca .pure false (.f fid_slices_ContainsFunc_int_int) [.t 41, .f fid_impl_IsSorting_1]⟩,
       ⟨some 43, none, .pk (.t 39) (.k (.bool true)) (.t 42)⟩,
       ⟨some 44, none, .mv (.t 43) none⟩,
       ⟨some 45, (some (44, false)), .fa 4 (.t 3)⟩,
       ⟨some 46, (some (44, false)), .ld none (.t 45)⟩,
       ⟨some 47, (some (44, false)), .fa 3 (.t 3)⟩,
       ⟨some 48, (some (44, false)), .ld none (.t 47)⟩,
       ⟨some 49, (some (44, false)), .ln (.t 48)⟩,
       ⟨some 50, (some (44, false)), .ca .pure false (.f fid_impl_arePairs) [.t 46, .t 49]⟩,
       ⟨some 51, (some (44, false)), .nt (.t 50)⟩,
       ⟨some 52, none, .pk (.t 44) (.k (.bool true)) (.t 51)⟩])
    (.cd (.t 52) (.sq (.rg none [⟨some 4, none, .mv (.k (.bool false)) none⟩])
     (.rt))
    (.sk)))
   (.sq (.sq (.rg none [⟨some 53, none, .mv (.t 0) none⟩,
       ⟨some 54, none, .ln (.t 53)⟩,
       ⟨some 55, none, .mv (.k (.int .i64 0)) none⟩])
    (.bl 0 (.lp [0, 3, 53, 54, 55] [] (.sq (.rg none [⟨some 56, none, .bi .lss 0 (.t 55) (.t 54)⟩])
      (.sq (.cd (.t 56) (.sk)
       (.ex 0))
      (.sq (.bl 1 (.sq (.rg none [⟨some 57, none, .mv (.t 55) none⟩,
           ⟨some 58, none, .ia 3 (.t 53) (.t 55)⟩,
           ⟨some 59, none, .ld (some 3) (.t 58)⟩,
           ⟨some 6, none, .al [.string ⟨#[]⟩, .int .i64 0, .int .i64 0] []⟩,
           ⟨some 5, none, .mv (.t 57) none⟩,
           ⟨none, none, .st 3 (.t 6) (.t 59)⟩])
        (.sq (.rg (some 0) [⟨some 60, none, .fa 1 (.t 3)⟩,
           ⟨some 61, none, .ld none (.t 60)⟩,
           ⟨some 62, none, .mv (.t 5) none⟩,
           ⟨some 63, none, .ia 1 (.t 61) (.t 62)⟩,
           ⟨some 64, none, .ld none (.t 63)⟩,
           ⟨some 65, none, .mv (.t 0) none⟩,
           ⟨some 66, none, .ln (.t 65)⟩,
           ⟨some 67, none, .ca .pure false (.f fid_impl_isRising) [.t 64, .t 66]⟩,
           ⟨some 68, none, .nt (.t 67)⟩,
           ⟨some 69, none, .mv (.t 68) none⟩,
           ⟨some 70, (some (69, false)), .fa 2 (.t 6)⟩,
           ⟨some 71, (some (69, false)), .ld none (.t 70)⟩,
           ⟨some 72, (some (69, false)), .bi .eql 0 (.t 71) (.k (.int .i64 2))⟩,
           ⟨some 73, (some (69, false)), .mv (.t 72) none⟩,
           ⟨some 74, (some (73, true)), .fa 1 (.t 3)⟩,
           ⟨some 75, (some (73, true)), .ld none (.t 74)⟩,
           ⟨some 76, (some (73, true)), .mv (.t 5) none⟩,
           ⟨some 77, (some (73, true)), .ia 1 (.t 75) (.t 76)⟩,
           ⟨some 78, (some (73, true)), .ld none (.t 77)⟩,
           ⟨some 79, (some (73, true)), .ln (.t 78)⟩,
           ⟨some 80, (some (73, true)), .bi .gtr 0 (.t 79) (.k (.int .i64 0))⟩,
           ⟨some 81, (some (69, false)), .pk (.t 73) (.t 80) (.k (.bool false))⟩,
           ⟨some 82, none, .pk (.t 69) (.k (.bool true)) (.t 81)⟩,
           ⟨some 83, none, .mv (.t 82) none⟩,
           ⟨some 84, (some (83, false)), .fa 2 (.t 3)⟩,
           ⟨some 85, (some (83, false)), .ld none (.t 84)⟩,
           ⟨some 86, (some (83, false)), .mv (.t 5) none⟩,
           ⟨some 87, (some (83, false)), .ia 1 (.t 85) (.t 86)⟩,
           ⟨some 88, (some (83, false)), .ld none (.t 87)⟩,
           ⟨some 89, (some (83, false)), .ln (.t 88)⟩,
           ⟨some 90, (some (83, false)), .fa 1 (.t 6)⟩,
           ⟨some 91, (some (83, false)), .ld none (.t 90)⟩,
           ⟨some 92, (some (83, false)), .bi .neq 0 (.t 89) (.t 91)⟩,
           ⟨some 93, none, .pk (.t 83) (.k (.bool true)) (.t 92)⟩,
           ⟨some 94, none, .mv (.t 93) none⟩,
           ⟨some 95, (some (94, false)), .fa 2 (.t 3)⟩,
           ⟨some 96, (some (94, false)), .ld none (.t 95)⟩,
           ⟨some 97, (some (94, false)), .mv (.t 5) none⟩,
           ⟨some 98, (some (94, false)), .ia 1 (.t 96) (.t 97)⟩,
           ⟨some 99, (some (94, false)), .ld none (.t 98)⟩,
           ⟨some 100, (some (94, false)), .mf fid_impl_IsSorting_2 [.t 3]⟩,
           ⟨some 101, (some (94, false)), .ca .pure false (.f fid_slices_ContainsFunc_int_int) [.t 99, .t 100]⟩,
           ⟨some 102, none, .pk (.t 94) (.k (.bool true)) (.t 101)⟩])
        (.cd (.t 102) (.sq (.rg none [⟨some 4, none, .mv (.k (.bool false)) none⟩])
         (.rt))
        (.sk)))))
      (.rg none [⟨some 103, none, .bi .add 0 (.t 55) (.k (.int .i64 1))⟩,
        ⟨some 55, none, .mv (.t 103) none⟩])))))))
   (.sq (.rg none [⟨some 4, none, .mv (.k (.bool true)) none⟩])
   (.rt)))))) }
theorem k_impl_IsSorting : chkF Go.Proofs.Tryd.prog fid_impl_IsSorting c_impl_IsSorting = true := by kernel_rfl

def c_spec_IsFiner : F2 :=
  { nt := 21, res := [.t 6 [0], .t 7 [0]], body :=
   (.sq (.rg none [⟨some 4, none, .bt (.t 1)⟩,
      ⟨some 5, none, .bt (.t 2)⟩,
      ⟨some 6, none, .mv (.k (.bool false)) none⟩,
      ⟨some 7, none, .mv (.k (.bool false)) none⟩])
   (.sq (.sq (.rg none [⟨some 8, none, .mv (.t 0) none⟩,
       ⟨some 9, none, .ld (some 5) (.t 4)⟩,
       ⟨some 10, none, .ca .pure false (.f fid_spec_l7Good) [.t 8, .t 9]⟩,
       ⟨some 11, none, .nt (.t 10)⟩,
       ⟨some 12, none, .mv (.t 11) none⟩,
       ⟨some 13, (some (12, false)), .mv (.t 0) none⟩,
       ⟨some 14, (some (12, false)), .ld (some 5) (.t 5)⟩,
       ⟨some 15, (some (12, false)), .ca .pure false (.f fid_spec_l7Good) [.t 13, .t 14]⟩,
       ⟨some 16, (some (12, false)), .nt (.t 15)⟩,
       ⟨some 17, none, .pk (.t 12) (.k (.bool true)) (.t 16)⟩])
    (.cd (.t 17) (.sq (.rg none [⟨some 6, none, .mv (.k (.bool false)) none⟩,
        ⟨some 7, none, .mv (.k (.bool false)) none⟩])
     (.rt))
    (.sk)))
   (.sq (.rg none [⟨some 18, none, .ld (some 5) (.t 4)⟩,
      ⟨some 19, none, .ld (some 5) (.t 5)⟩,
      ⟨some 20, none, .ca .pure false (.f fid_spec_l7Finer) [.t 18, .t 19]⟩,
      ⟨some 6, none, .mv (.t 20) none⟩,
      ⟨some 7, none, .mv (.k (.bool true)) none⟩])
   (.rt)))) }
theorem k_spec_IsFiner : chkF Go.Proofs.Tryd.prog fid_spec_IsFiner c_spec_IsFiner = true := by kernel_rfl

def c_impl_IsFiner : F2 :=
  { nt := 27, res := [.t 6 [0], .t 7 [0]], body :=
   (.sq (.rg none [⟨some 4, none, .bt (.t 1)⟩,
      ⟨some 5, none, .bt (.t 2)⟩,
      ⟨some 6, none, .mv (.k (.bool false)) none⟩,
      ⟨some 7, none, .mv (.k (.bool false)) none⟩])
   (.sq (.sq (.rg none [⟨some 8, none, .mv (.t 0) none⟩,
       ⟨some 9, none, .ld (some 5) (.t 4)⟩,
       ⟨some 10, none, .ca .pure false (.f fid_impl_IsSorting) [.t 8, .t 9]⟩,
       ⟨some 11, none, .nt (.t 10)⟩,
       ⟨some 12, none, .mv (.t 11) none⟩,
       ⟨some 13, (some (12, false)), .mv (.t 0) none⟩,
       ⟨some 14, (some (12, false)), .ld (some 5) (.t 5)⟩,
       ⟨some 15, (some (12, false)), .ca .pure false (.f fid_impl_IsSorting) [.t 13, .t 14]⟩,
       ⟨some 16, (some (12, false)), .nt (.t 15)⟩,
       ⟨some 17, none, .pk (.t 12) (.k (.bool true)) (.t 16)⟩])
    (.cd (.t 17) (.sq (.rg none [⟨some 6, none, .mv (.k (.bool false)) none⟩,
        ⟨some 7, none, .mv (.k (.bool false)) none⟩])
     (.rt))
    (.sk)))
   (.sq (.rg none [⟨some 18, none, .mv (.t 0) none⟩,
      ⟨some 19, none, .ld (some 5) (.t 4)⟩,
      ⟨some 20, none, .ld (some 5) (.t 5)⟩,
      ⟨some 21, none, .ca .pure false (.f fid_impl_sameSorts) [.t 18, .t 19, .t 20]⟩,
      ⟨some 22, none, .mv (.t 21) none⟩,
      ⟨some 23, (some (22, true)), .ld (some 5) (.t 4)⟩,
      ⟨some 24, (some (22, true)), .ld (some 5) (.t 5)⟩,
      ⟨some 25, (some (22, true)), .ca .pure false (.f fid_impl_isFiner) [.t 23, .t 24]⟩,
      ⟨some 26, none, .pk (.t 22) (.t 25) (.k (.bool false))⟩,
      ⟨some 6, none, .mv (.t 26) none⟩,
      ⟨some 7, none, .mv (.k (.bool true)) none⟩])
   (.rt)))) }
theorem k_impl_IsFiner : chkF Go.Proofs.Tryd.prog fid_impl_IsFiner c_impl_IsFiner = true := by kernel_rfl

def c_spec_l2Sig : F2 :=
  { nt := 55, res := [.t 2 [0]], body :=
   (.sq (.rg none [⟨some 2, none, .mv (.k (.bool false)) none⟩])
   (.sq (.sq (.rg none [⟨some 3, none, .mv (.k (.int .i64 0)) none⟩])
    (.bl 0 (.lp [0, 3] [] (.sq (.sq (.rg none [⟨some 5, none, .mv (.t 3) none⟩,
          ⟨some 6, none, .mv (.t 0) none⟩,
          ⟨some 7, none, .ln (.t 6)⟩,
          ⟨some 8, none, .bi .lss 0 (.t 5) (.t 7)⟩])
       (.cd (.t 8) (.sk)
       (.ex 0)))
      (.sq (.bl 1 (.sq (.sq (.rg none [⟨some 11, none, .mv (.t 0) none⟩,
            ⟨some 12, none, .mv (.t 3) none⟩,
            ⟨some 13, none, .ia 3 (.t 11) (.t 12)⟩,
            ⟨some 14, none, .fa 0 (.t 13)⟩,
            ⟨some 15, none, .ld none (.t 14)⟩,
            ⟨some 16, none, .ca .pure false (.f fid_spec_l2Name) [.t 15]⟩,
            ⟨some 17, none, .nt (.t 16)⟩,
            ⟨some 18, none, .mv (.t 17) none⟩,
            ⟨some 19, (some (18, false)), .mv (.t 0) none⟩,
            ⟨some 20, (some (18, false)), .mv (.t 3) none⟩,
            ⟨some 21, (some (18, false)), .ia 3 (.t 19) (.t 20)⟩,
            ⟨some 22, (some (18, false)), .fa 1 (.t 21)⟩,
            ⟨some 23, (some (18, false)), .ld none (.t 22)⟩,
            ⟨some 24, (some (18, false)), .ca .pure false (.f fid_spec_l1In) [.t 23, .k (.int .i64 0), .k (.int .i64 3)]⟩,
            ⟨some 25, (some (18, false)), .nt (.t 24)⟩,
            ⟨some 26, none, .pk (.t 18) (.k (.bool true)) (.t 25)⟩,
            ⟨some 27, none, .mv (.t 26) none⟩,
            ⟨some 28, (some (27, false)), .mv (.t 0) none⟩,
            ⟨some 29, (some (27, false)), .mv (.t 3) none⟩,
            ⟨some 30, (some (27, false)), .ia 3 (.t 28) (.t 29)⟩,
            ⟨some 31, (some (27, false)), .fa 2 (.t 30)⟩,
            ⟨some 32, (some (27, false)), .ld none (.t 31)⟩,
            ⟨some 33, (some (27, false)), .ca .pure false (.f fid_spec_l1In) [.t 32, .k (.int .i64 0), .k (.int .i64 2)]⟩,
            ⟨some 34, (some (27, false)), .nt (.t 33)⟩,
            ⟨some 35, none, .pk (.t 27) (.k (.bool true)) (.t 34)⟩])
         (.cd (.t 35) (.sq (.rg none [⟨some 2, none, .mv (.k (.bool false)) none⟩])
          (.rt))
         (.sk)))
        (.sq (.rg none [⟨some 4, none, .mv (.k (.int .i64 0)) none⟩])
        (.bl 2 (.lp [0, 3, 4] [] (.sq (.sq (.rg none [⟨some 36, none, .mv (.t 4) none⟩,
              ⟨some 37, none, .mv (.t 3) none⟩,
              ⟨some 38, none, .bi .lss 0 (.t 36) (.t 37)⟩])
           (.cd (.t 38) (.sk)
           (.ex 2)))
          (.sq (.bl 3 (.sq (.rg (some 0) [⟨some 41, none, .mv (.t 0) none⟩,
               ⟨some 42, none, .mv (.t 4) none⟩,
               ⟨some 43, none, .ia 3 (.t 41) (.t 42)⟩,
               ⟨some 44, none, .fa 0 (.t 43)⟩,
               ⟨some 45, none, .ld none (.t 44)⟩,
               ⟨some 46, none, .mv (.t 0) none⟩,
               ⟨some 47, none, .mv (.t 3) none⟩,
               ⟨some 48, none, .ia 3 (.t 46) (.t 47)⟩,
               ⟨some 49, none, .fa 0 (.t 48)⟩,
               ⟨some 50, none, .ld none (.t 49)⟩,
               ⟨some 51, none, .bi .eql 0 (.t 45) (.t 50)⟩])
            (.cd (.t 51) (.sq (.rg none [⟨some 2, none, .mv (.k (.bool false)) none⟩])
             (.rt))
            (.sk))))
          (.rg none [⟨some 39, none, .mv (.t 4) none⟩,
            ⟨some 40, none, .bi .add 0 (.t 39) (.k (.int .i64 1))⟩,
            ⟨some 4, none, .mv (.t 40) none⟩]))))))))
      (.rg none [⟨some 9, none, .mv (.t 3) none⟩,
        ⟨some 10, none, .bi .add 0 (.t 9) (.k (.int .i64 1))⟩,
        ⟨some 3, none, .mv (.t 10) none⟩]))))))
   (.sq (.rg none [⟨some 52, none, .mv (.t 0) none⟩,
      ⟨some 53, none, .ln (.t 52)⟩,
      ⟨some 54, none, .ca .pure false (.f fid_spec_l1In) [.t 53, .k (.int .i64 1), .k (.int .i64 6)]⟩,
      ⟨some 2, none, .mv (.t 54) none⟩])
   (.rt)))) }
theorem k_spec_l2Sig : chkF Go.Proofs.Tryd.prog fid_spec_l2Sig c_spec_l2Sig = true := by kernel_rfl

def c_impl_IsSignature : F2 :=
  { nt := 40, res := [.t 2 [0]], body :=
   (.sq (.rg none [⟨some 2, none, .mv (.k (.bool false)) none⟩])
   (.sq (.sq (.rg none [⟨some 5, none, .mv (.t 0) none⟩,
       ⟨some 6, none, .ln (.t 5)⟩,
       ⟨some 7, none, .ca .pure false (.f fid_impl_within) [.t 6, .k (.int .i64 1), .k (.int .i64 6)]⟩,
       ⟨some 8, none, .nt (.t 7)⟩])
    (.cd (.t 8) (.sq (.rg none [⟨some 2, none, .mv (.k (.bool false)) none⟩])
     (.rt))
    (.sk)))
   (.sq (.sq (.rg none [⟨some 9, none, .mv (.t 0) none⟩,
       ⟨some 10, none, .ln (.t 9)⟩,
       ⟨some 11, none, .mv (.k (.int .i64 0)) none⟩])
    (.bl 0 (.lp [0, 9, 10, 11] [] (.sq (.rg none [⟨some 12, none, .bi .lss 0 (.t 11) (.t 10)⟩])
      (.sq (.cd (.t 12) (.sk)
       (.ex 0))
      (.sq (.bl 1 (.sq (.rg none [⟨some 13, none, .mv (.t 11) none⟩,
           ⟨some 14, none, .ia 3 (.t 9) (.t 11)⟩,
           ⟨some 15, none, .ld (some 3) (.t 14)⟩,
           ⟨some 4, none, .al [.string ⟨#[]⟩, .int .i64 0, .int .i64 0] []⟩,
           ⟨some 3, none, .mv (.t 13) none⟩,
           ⟨none, none, .st 3 (.t 4) (.t 15)⟩])
        (.sq (.rg none [⟨some 16, none, .fa 0 (.t 4)⟩,
           ⟨some 17, none, .ld none (.t 16)⟩,
           ⟨some 18, none, .ca .pure false (.f fid_impl_isName) [.t 17]⟩,
           ⟨some 19, none, .nt (.t 18)⟩,
           ⟨some 20, none, .mv (.t 19) none⟩,
           ⟨some 21, (some (20, false)), .fa 1 (.t 4)⟩,
           ⟨some 22, (some (20, false)), .ld none (.t 21)⟩,
           ⟨some 23, (some (20, false)), .ca .pure false (.f fid_impl_within) [.t 22, .k (.int .i64 0), .k (.int .i64 3)]⟩,
           ⟨some 24, (some (20, false)), .nt (.t 23)⟩,
           ⟨some 25, none, .pk (.t 20) (.k (.bool true)) (.t 24)⟩,
           ⟨some 26, none, .mv (.t 25) none⟩,
           ⟨some 27, (some (26, false)), .fa 2 (.t 4)⟩,
           ⟨some 28, (some (26, false)), .ld none (.t 27)⟩,
           ⟨some 29, (some (26, false)), .ca .pure false (.f fid_impl_within) [.t 28, .k (.int .i64 0), .k (.int .i64 2)]⟩,
           ⟨some 30, (some (26, false)), .nt (.t 29)⟩,
           ⟨some 31, none, .pk (.t 26) (.k (.bool true)) (.t 30)⟩,
           ⟨some 32, none, .mv (.t 31) none⟩,
           ⟨some 33, (some (32, false)), .mv (.t 0) none⟩,
           ⟨some 34, (some (32, false)), .mv (.t 3) none⟩,
           ⟨some 35, (some (32, false)), .sx 3 (.t 33) none (some (.t 34)) none⟩,
           ⟨some 36, (some (32, false)), .mf fid_impl_IsSignature_1 [.t 4]⟩,
           ⟨some 37, (some (32, false)), .ca .pure false (.f fid_slices_ContainsFunc_impl_Control_impl_Control) [.t 35, .t 36]⟩,
           ⟨some 38, none, .pk (.t 32) (.k (.bool true)) (.t 37)⟩])
        (.cd (.t 38) (.sq (.rg none [⟨some 2, none, .mv (.k (.bool false)) none⟩])
         (.rt))
        (.sk)))))
      (.rg none [⟨some 39, none, .bi .add 0 (.t 11) (.k (.int .i64 1))⟩,
        ⟨some 11, none, .mv (.t 39) none⟩])))))))
   (.sq (.rg none [⟨some 2, none, .mv (.k (.bool true)) none⟩])
   (.rt))))) }
theorem k_impl_IsSignature : chkF Go.Proofs.Tryd.prog fid_impl_IsSignature c_impl_IsSignature = true := by kernel_rfl

def c_spec_l7Good : F2 :=
  { nt := 101, res := [.t 4 [0]], body :=
   (.sq (.rg none [⟨some 3, none, .bt (.t 1)⟩,
      ⟨some 4, none, .mv (.k (.bool false)) none⟩])
   (.sq (.sq (.rg none [⟨some 8, none, .mv (.t 0) none⟩,
       ⟨some 9, none, .ca .pure false (.f fid_spec_l2Sig) [.t 8]⟩,
       ⟨some 10, none, .nt (.t 9)⟩,
       ⟨some 11, none, .mv (.t 10) none⟩,
       ⟨some 12, (some (11, false)), .mv (.t 0) none⟩,
       ⟨some 13, (some (11, false)), .fa 0 (.t 3)⟩,
       ⟨some 14, (some (11, false)), .ld none (.t 13)⟩,
       ⟨some 15, (some (11, false)), .ca .pure false (.f fid_spec_l7Controls) [.t 12, .t 14]⟩,
       ⟨some 16, (some (11, false)), .nt (.t 15)⟩,
       ⟨some 17, none, .pk (.t 11) (.k (.bool true)) (.t 16)⟩,
       ⟨some 18, none, .mv (.t 17) none⟩,
       ⟨some 19, (some (18, false)), .mv (.t 0) none⟩,
       ⟨some 20, (some (18, false)), .fa 1 (.t 3)⟩,
       ⟨some 21, (some (18, false)), .ld none (.t 20)⟩,
       ⟨some 22, (some (18, false)), .ca .pure false (.f fid_spec_l7Nest) [.t 19, .t 21]⟩,
       ⟨some 23, (some (18, false)), .nt (.t 22)⟩,
       ⟨some 24, none, .pk (.t 18) (.k (.bool true)) (.t 23)⟩,
       ⟨some 25, none, .mv (.t 24) none⟩,
       ⟨some 26, (some (25, false)), .fa 3 (.t 3)⟩,
       ⟨some 27, (some (25, false)), .ld none (.t 26)⟩,
       ⟨some 28, (some (25, false)), .ln (.t 27)⟩,
       ⟨some 29, (some (25, false)), .ca .pure false (.f fid_spec_l1In) [.t 28, .k (.int .i64 1), .k (.int .i64 4)]⟩,
       ⟨some 30, (some (25, false)), .nt (.t 29)⟩,
       ⟨some 31, none, .pk (.t 25) (.k (.bool true)) (.t 30)⟩,
       ⟨some 32, none, .mv (.t 31) none⟩,
       ⟨some 33, (some (32, false)), .mv (.t 0) none⟩,
       ⟨some 34, (some (32, false)), .fa 2 (.t 3)⟩,
       ⟨some 35, (some (32, false)), .ld none (.t 34)⟩,
       ⟨some 36, (some (32, false)), .fa 3 (.t 3)⟩,
       ⟨some 37, (some (32, false)), .ld none (.t 36)⟩,
       ⟨some 38, (some (32, false)), .ln (.t 37)⟩,
       ⟨some 39, (some (32, false)), .ca .pure false (.f fid_spec_l7Sorts) [.t 33, .t 35, .t 38]⟩,
       ⟨some 40, (some (32, false)), .nt (.t 39)⟩,
       ⟨some 41, none, .pk (.t 32) (.k (.bool true)) (.t 40)⟩])
    (.cd (.t 41) (.sq (.rg none [⟨some 4, none, .mv (.k (.bool false)) none⟩])
     (.rt))
    (.sk)))
   (.sq (.sq (.rg none [⟨some 5, none, .mv (.k (.int .i64 0)) none⟩])
    (.bl 0 (.lp [3, 5] [] (.sq (.sq (.rg none [⟨some 42, none, .mv (.t 5) none⟩,
          ⟨some 43, none, .fa 3 (.t 3)⟩,
          ⟨some 44, none, .ld none (.t 43)⟩,
          ⟨some 45, none, .ln (.t 44)⟩,
          ⟨some 46, none, .bi .lss 0 (.t 42) (.t 45)⟩])
       (.cd (.t 46) (.sk)
       (.ex 0)))
      (.sq (.bl 1 (.sq (.rg none [⟨some 49, none, .fa 3 (.t 3)⟩,
           ⟨some 50, none, .ld none (.t 49)⟩,
           ⟨some 51, none, .mv (.t 5) none⟩,
           ⟨some 52, none, .ia 1 (.t 50) (.t 51)⟩,
           ⟨some 53, none, .ld none (.t 52)⟩,
           ⟨some 54, none, .ca .pure false (.f fid_spec_l1In) [.t 53, .k (.int .i64 0), .k (.int .i64 24)]⟩,
           ⟨some 55, none, .nt (.t 54)⟩])
        (.cd (.t 55) (.sq (.rg none [⟨some 4, none, .mv (.k (.bool false)) none⟩])
         (.rt))
        (.sk))))
      (.rg none [⟨some 47, none, .mv (.t 5) none⟩,
        ⟨some 48, none, .bi .add 0 (.t 47) (.k (.int .i64 1))⟩,
        ⟨some 5, none, .mv (.t 48) none⟩]))))))
   (.sq (.sq (.rg none [⟨some 6, none, .mv (.k (.int .i64 0)) none⟩])
    (.bl 2 (.lp [3, 6] [] (.sq (.sq (.rg none [⟨some 56, none, .mv (.t 6) none⟩,
          ⟨some 57, none, .fa 4 (.t 3)⟩,
          ⟨some 58, none, .ld none (.t 57)⟩,
          ⟨some 59, none, .ln (.t 58)⟩,
          ⟨some 60, none, .bi .lss 0 (.t 56) (.t 59)⟩])
       (.cd (.t 60) (.sk)
       (.ex 2)))
      (.sq (.bl 3 (.sq (.rg none [⟨some 63, none, .fa 4 (.t 3)⟩,
           ⟨some 64, none, .ld none (.t 63)⟩,
           ⟨some 65, none, .mv (.t 6) none⟩,
           ⟨some 66, none, .ia 2 (.t 64) (.t 65)⟩,
           ⟨some 67, none, .ld (some 2) (.t 66)⟩,
           ⟨some 7, none, .al [.int .i64 0, .int .i64 0] []⟩,
           ⟨none, none, .st 2 (.t 7) (.t 67)⟩])
        (.sq (.rg (some 0) [⟨some 68, none, .ja 1 2 (.t 7) (.k (.int .i64 0))⟩,
           ⟨some 69, none, .ld none (.t 68)⟩,
           ⟨some 70, none, .bi .lss 0 (.t 69) (.k (.int .i64 0))⟩,
           ⟨some 71, none, .mv (.t 70) none⟩,
           ⟨some 72, (some (71, false)), .ja 1 2 (.t 7) (.k (.int .i64 0))⟩,
           ⟨some 73, (some (71, false)), .ld none (.t 72)⟩,
           ⟨some 74, (some (71, false)), .ja 1 2 (.t 7) (.k (.int .i64 1))⟩,
           ⟨some 75, (some (71, false)), .ld none (.t 74)⟩,
           ⟨some 76, (some (71, false)), .bi .geq 0 (.t 73) (.t 75)⟩,
           ⟨some 77, none, .pk (.t 71) (.k (.bool true)) (.t 76)⟩,
           ⟨some 78, none, .mv (.t 77) none⟩,
           ⟨some 79, (some (78, false)), .ja 1 2 (.t 7) (.k (.int .i64 1))⟩,
           ⟨some 80, (some (78, false)), .ld none (.t 79)⟩,
           ⟨some 81, (some (78, false)), .fa 3 (.t 3)⟩,
           ⟨some 82, (some (78, false)), .ld none (.t 81)⟩,
           ⟨some 83, (some (78, false)), .ln (.t 82)⟩,
           ⟨some 84, (some (78, false)), .bi .geq 0 (.t 80) (.t 83)⟩,
           ⟨some 85, none, .pk (.t 78) (.k (.bool true)) (.t 84)⟩,
           ⟨some 86, none, .mv (.t 85) none⟩,
           ⟨some 87, (some (86, false)), .mv (.t 6) none⟩,
           ⟨some 88, (some (86, false)), .bi .gtr 0 (.t 87) (.k (.int .i64 0))⟩,
           ⟨some 89, (some (86, false)), .mv (.t 88) none⟩,
           ⟨some 90, (some (89, true)), .fa 4 (.t 3)⟩,
           ⟨some 91, (some (89, true)), .ld none (.t 90)⟩,
           ⟨some 92, (some (89, true)), .mv (.t 6) none⟩,
           ⟨some 93, (some (89, true)), .bi .sub 0 (.t 92) (.k (.int .i64 1))⟩,
           ⟨some 94, (some (89, true)), .ia 2 (.t 91) (.t 93)⟩,
           ⟨some 95, (some (89, true)), .ld (some 2) (.t 94)⟩,
           ⟨some 96, (some (89, true)), .ld (some 2) (.t 7)⟩,
           ⟨some 97, (some (89, true)), .ca .pure false (.f fid_spec_l7Before) [.t 95, .t 96]⟩,
           ⟨some 98, (some (89, true)), .nt (.t 97)⟩,
           ⟨some 99, (some (86, false)), .pk (.t 89) (.t 98) (.k (.bool false))⟩,
           ⟨some 100, none, .pk (.t 86) (.k (.bool true)) (.t 99)⟩])
        (.cd (.t 100) (.sq (.rg none [⟨some 4, none, .mv (.k (.bool false)) none⟩])
         (.rt))
        (.sk)))))
      (.rg none [⟨some 61, none, .mv (.t 6) none⟩,
        ⟨some 62, none, .bi .add 0 (.t 61) (.k (.int .i64 1))⟩,
        ⟨some 6, none, .mv (.t 62) none⟩]))))))
   (.sq (.rg none [⟨some 4, none, .mv (.k (.bool true)) none⟩])
   (.rt)))))) }
theorem k_spec_l7Good : chkF Go.Proofs.Tryd.prog fid_spec_l7Good c_spec_l7Good = true := by kernel_rfl

def c_impl_isRising : F2 :=
  { nt := 33, res := [.t 4 [0]], body :=
   (.sq (.rg none [⟨some 4, none, .mv (.k (.bool false)) none⟩])
   (.sq (.sq (.rg none [⟨some 7, none, .mv (.t 0) none⟩,
       ⟨some 8, none, .ln (.t 7)⟩,
       ⟨some 9, none, .mv (.k (.int .i64 0)) none⟩])
    (.bl 0 (.lp [0, 1, 7, 8, 9] [] (.sq (.rg none [⟨some 10, none, .bi .lss 0 (.t 9) (.t 8)⟩])
      (.sq (.cd (.t 10) (.sk)
       (.ex 0))
      (.sq (.bl 1 (.sq (.rg none [⟨some 11, none, .mv (.t 9) none⟩,
           ⟨some 12, none, .ia 1 (.t 7) (.t 9)⟩,
           ⟨some 13, none, .ld none (.t 12)⟩,
           ⟨some 5, none, .mv (.t 11) none⟩,
           ⟨some 6, none, .mv (.t 13) none⟩])
        (.sq (.rg none [⟨some 14, none, .mv (.t 6) none⟩,
           ⟨some 15, none, .mv (.t 1) none⟩,
           ⟨some 16, none, .bi .sub 0 (.t 15) (.k (.int .i64 1))⟩,
           ⟨some 17, none, .ca .pure false (.f fid_impl_within) [.t 14, .k (.int .i64 0), .t 16]⟩,
           ⟨some 18, none, .nt (.t 17)⟩,
           ⟨some 19, none, .mv (.t 18) none⟩,
           ⟨some 20, (some (19, false)), .mv (.t 5) none⟩,
           ⟨some 21, (some (19, false)), .bi .gtr 0 (.t 20) (.k (.int .i64 0))⟩,
           ⟨some 22, (some (19, false)), .mv (.t 21) none⟩,
           ⟨some 23, (some (22, true)), .mv (.t 6) none⟩,
           ⟨some 24, (some (22, true)), .mv (.t 0) none⟩,
           ⟨some 25, (some (22, true)), .mv (.t 5) none⟩,
           ⟨some 26, (some (22, true)), .bi .sub 0 (.t 25) (.k (.int .i64 1))⟩,
           ⟨some 27, (some (22, true)), .ia 1 (.t 24) (.t 26)⟩,
           ⟨some 28, (some (22, true)), .ld none (.t 27)⟩,
           ⟨some 29, (some (22, true)), .bi .leq 0 (.t 23) (.t 28)⟩,
           ⟨some 30, (some (19, false)), .pk (.t 22) (.t 29) (.k (.bool false))⟩,
           ⟨some 31, none, .pk (.t 19) (.k (.bool true)) (.t 30)⟩])
        (.cd (.t 31) (.sq (.rg none [⟨some 4, none, .mv (.k (.bool false)) none⟩])
         (.rt))
        (.sk)))))
      (.rg none [⟨some 32, none, .bi .add 0 (.t 9) (.k (.int .i64 1))⟩,
        ⟨some 9, none, .mv (.t 32) none⟩])))))))
   (.sq (.rg none [⟨some 4, none, .mv (.k (.bool true)) none⟩])
   (.rt)))) }
theorem k_impl_isRising : chkF Go.Proofs.Tryd.prog fid_impl_isRising c_impl_isRising = true := by kernel_rfl

def c_impl_within : F2 :=
  { nt := 15, res := [.t 6 [0]], body :=
   (.sq (.rg none [⟨some 6, none, .mv (.k (.bool false)) none⟩])
   (.sq (.rg none [⟨some 7, none, .mv (.t 0) none⟩,
      ⟨some 8, none, .mv (.t 1) none⟩,
      ⟨some 9, none, .bi .geq 0 (.t 7) (.t 8)⟩,
      ⟨some 10, none, .mv (.t 9) none⟩,
      ⟨some 11, (some (10, true)), .mv (.t 0) none⟩,
      ⟨some 12, (some (10, true)), .mv (.t 2) none⟩,
      ⟨some 13, (some (10, true)), .bi .leq 0 (.t 11) (.t 12)⟩,
      ⟨some 14, none, .pk (.t 10) (.t 13) (.k (.bool false))⟩,
      ⟨some 6, none, .mv (.t 14) none⟩])
   (.rt))) }
theorem k_impl_within : chkF Go.Proofs.Tryd.prog fid_impl_within c_impl_within = true := by kernel_rfl

def c_impl_IsSorting_1 : F2 :=
  { nt := 6, res := [.t 2 [0]], body :=
   (.sq (.rg none [⟨some 2, none, .mv (.k (.bool false)) none⟩])
   (.sq (.rg none [⟨some 3, none, .mv (.t 0) none⟩,
      ⟨some 4, none, .ca .pure false (.f fid_impl_within) [.t 3, .k (.int .i64 0), .k (.int .i64 24)]⟩,
      ⟨some 5, none, .nt (.t 4)⟩,
      ⟨some 2, none, .mv (.t 5) none⟩])
   (.rt))) }
theorem k_impl_IsSorting_1 : chkF Go.Proofs.Tryd.prog fid_impl_IsSorting_1 c_impl_IsSorting_1 = true := by kernel_rfl

def c_impl_arePairs : F2 :=
  { nt := 44, res := [.t 4 [0]], body :=
   (.sq (.rg none [⟨some 4, none, .mv (.k (.bool false)) none⟩])
   (.sq (.sq (.rg none [⟨some 7, none, .mv (.t 0) none⟩,
       ⟨some 8, none, .ln (.t 7)⟩,
       ⟨some 9, none, .mv (.k (.int .i64 0)) none⟩])
    (.bl 0 (.lp [0, 1, 7, 8, 9] [] (.sq (.rg none [⟨some 10, none, .bi .lss 0 (.t 9) (.t 8)⟩])
      (.sq (.cd (.t 10) (.sk)
       (.ex 0))
      (.sq (.bl 1 (.sq (.rg none [⟨some 11, none, .mv (.t 9) none⟩,
           ⟨some 12, none, .ia 2 (.t 7) (.t 9)⟩,
           ⟨some 13, none, .ld (some 2) (.t 12)⟩,
           ⟨some 6, none, .al [.int .i64 0, .int .i64 0] []⟩,
           ⟨some 5, none, .mv (.t 11) none⟩,
           ⟨none, none, .st 2 (.t 6) (.t 13)⟩])
        (.sq (.rg (some 0) [⟨some 14, none, .ja 1 2 (.t 6) (.k (.int .i64 0))⟩,
           ⟨some 15, none, .ld none (.t 14)⟩,
           ⟨some 16, none, .ja 1 2 (.t 6) (.k (.int .i64 1))⟩,
           ⟨some 17, none, .ld none (.t 16)⟩,
           ⟨some 18, none, .bi .sub 1 (.t 17) (.k (.int .i64 1))⟩,
           ⟨some 19, none, .ca .pure false (.f fid_impl_within) [.t 15, .k (.int .i64 0), .t 18]⟩,
           ⟨some 20, none, .nt (.t 19)⟩,
           ⟨some 21, none, .mv (.t 20) none⟩,
           ⟨some 22, (some (21, false)), .ja 1 2 (.t 6) (.k (.int .i64 1))⟩,
           ⟨some 23, (some (21, false)), .ld none (.t 22)⟩,
           ⟨some 24, (some (21, false)), .mv (.t 1) none⟩,
           ⟨some 25, (some (21, false)), .bi .sub 0 (.t 24) (.k (.int .i64 1))⟩,
           ⟨some 26, (some (21, false)), .ca .pure false (.f fid_impl_within) [.t 23, .k (.int .i64 0), .t 25]⟩,
           ⟨some 27, (some (21, false)), .nt (.t 26)⟩,
           ⟨some 28, none, .pk (.t 21) (.k (.bool true)) (.t 27)⟩,
           ⟨some 29, none, .mv (.t 28) none⟩,
           ⟨some 30, (some (29, false)), .mv (.t 5) none⟩,
           ⟨some 31, (some (29, false)), .bi .gtr 0 (.t 30) (.k (.int .i64 0))⟩,
           ⟨some 32, (some (29, false)), .mv (.t 31) none⟩,
           ⟨some 33, (some (32, true)), .mv (.t 0) none⟩,
           ⟨some 34, (some (32, true)), .mv (.t 5) none⟩,
           ⟨some 35, (some (32, true)), .bi .sub 0 (.t 34) (.k (.int .i64 1))⟩,
           ⟨some 36, (some (32, true)), .ia 2 (.t 33) (.t 35)⟩,
           ⟨some 37, (some (32, true)), .ld (some 2) (.t 36)⟩,
           ⟨some 38, (some (32, true)), .ld (some 2) (.t 6)⟩,
           ⟨some 39, (some (32, true)), .ca .pure false (.f fid_impl_comparePairs) [.t 37, .t 38]⟩,
           ⟨some 40, (some (32, true)), .bi .geq 0 (.t 39) (.k (.int .i64 0))⟩,
           ⟨some 41, (some (29, false)), .pk (.t 32) (.t 40) (.k (.bool false))⟩,
           ⟨some 42, none, .pk (.t 29) (.k (.bool true)) (.t 41)⟩])
        (.cd (.t 42) (.sq (.rg none [⟨some 4, none, .mv (.k (.bool false)) none⟩])
         (.rt))
        (.sk)))))
      (.rg none [⟨some 43, none, .bi .add 0 (.t 9) (.k (.int .i64 1))⟩,
        ⟨some 9, none, .mv (.t 43) none⟩])))))))
   (.sq (.rg none [⟨some 4, none, .mv (.k (.bool true)) none⟩])
   (.rt)))) }
theorem k_impl_arePairs : chkF Go.Proofs.Tryd.prog fid_impl_arePairs c_impl_arePairs = true := by kernel_rfl

def c_impl_IsSorting_2 : F2 :=
  { nt := 11, res := [.t 3 [0]], body :=
   (.sq (.rg none [⟨some 3, none, .mv (.k (.bool false)) none⟩])
   (.sq (.rg none [⟨some 4, none, .mv (.t 0) none⟩,
      ⟨some 5, none, .fa 3 (.t 1)⟩,
      ⟨some 6, none, .ld none (.t 5)⟩,
      ⟨some 7, none, .ln (.t 6)⟩,
      ⟨some 8, none, .bi .sub 0 (.t 7) (.k (.int .i64 1))⟩,
      ⟨some 9, none, .ca .pure false (.f fid_impl_within) [.t 4, .k (.int .i64 0), .t 8]⟩,
      ⟨some 10, none, .nt (.t 9)⟩,
      ⟨some 3, none, .mv (.t 10) none⟩])
   (.rt))) }
theorem k_impl_IsSorting_2 : chkF Go.Proofs.Tryd.prog fid_impl_IsSorting_2 c_impl_IsSorting_2 = true := by kernel_rfl

def c_spec_l7Finer : F2 :=
  { nt := 73, res := [.t 4 [0]], body :=
   (.sq (.rg none [⟨some 2, none, .bt (.t 0)⟩,
      ⟨some 3, none, .bt (.t 1)⟩,
      ⟨some 4, none, .mv (.k (.bool false)) none⟩])
   (.sq (.sq (.rg none [⟨some 8, none, .ld (some 5) (.t 2)⟩,
       ⟨some 9, none, .ld (some 5) (.t 3)⟩,
       ⟨some 10, none, .ca .pure false (.f fid_spec_l7Alike) [.t 8, .t 9]⟩,
       ⟨some 11, none, .nt (.t 10)⟩,
       ⟨some 12, none, .mv (.t 11) none⟩,
       ⟨some 13, (some (12, false)), .fa 0 (.t 2)⟩,
       ⟨some 14, (some (12, false)), .ld none (.t 13)⟩,
       ⟨some 15, (some (12, false)), .fa 0 (.t 3)⟩,
       ⟨some 16, (some (12, false)), .ld none (.t 15)⟩,
       ⟨some 17, (some (12, false)), .ca .pure false (.f fid_spec_l7Part) [.t 14, .t 16]⟩,
       ⟨some 18, (some (12, false)), .nt (.t 17)⟩,
       ⟨some 19, none, .pk (.t 12) (.k (.bool true)) (.t 18)⟩])
    (.cd (.t 19) (.sq (.rg none [⟨some 4, none, .mv (.k (.bool false)) none⟩])
     (.rt))
    (.sk)))
   (.sq (.sq (.rg none [⟨some 5, none, .mv (.k (.int .i64 0)) none⟩])
    (.bl 0 (.lp [2, 3, 5] [] (.sq (.sq (.rg none [⟨some 20, none, .mv (.t 5) none⟩,
          ⟨some 21, none, .fa 1 (.t 2)⟩,
          ⟨some 22, none, .ld none (.t 21)⟩,
          ⟨some 23, none, .ln (.t 22)⟩,
          ⟨some 24, none, .bi .lss 0 (.t 20) (.t 23)⟩])
       (.cd (.t 24) (.sk)
       (.ex 0)))
      (.sq (.bl 1 (.sq (.rg (some 0) [⟨some 27, none, .fa 1 (.t 2)⟩,
           ⟨some 28, none, .ld none (.t 27)⟩,
           ⟨some 29, none, .mv (.t 5) none⟩,
           ⟨some 30, none, .ia 1 (.t 28) (.t 29)⟩,
           ⟨some 31, none, .ld none (.t 30)⟩,
           ⟨some 32, none, .fa 1 (.t 3)⟩,
           ⟨some 33, none, .ld none (.t 32)⟩,
           ⟨some 34, none, .mv (.t 5) none⟩,
           ⟨some 35, none, .ia 1 (.t 33) (.t 34)⟩,
           ⟨some 36, none, .ld none (.t 35)⟩,
           ⟨some 37, none, .ca .pure false (.f fid_spec_l7Part) [.t 31, .t 36]⟩,
           ⟨some 38, none, .nt (.t 37)⟩])
        (.cd (.t 38) (.sq (.rg none [⟨some 4, none, .mv (.k (.bool false)) none⟩])
         (.rt))
        (.sk))))
      (.rg none [⟨some 25, none, .mv (.t 5) none⟩,
        ⟨some 26, none, .bi .add 0 (.t 25) (.k (.int .i64 1))⟩,
        ⟨some 5, none, .mv (.t 26) none⟩]))))))
   (.sq (.sq (.rg none [⟨some 6, none, .mv (.k (.int .i64 0)) none⟩])
    (.bl 2 (.lp [2, 3, 6] [] (.sq (.sq (.rg none [⟨some 39, none, .mv (.t 6) none⟩,
          ⟨some 40, none, .fa 3 (.t 2)⟩,
          ⟨some 41, none, .ld none (.t 40)⟩,
          ⟨some 42, none, .ln (.t 41)⟩,
          ⟨some 43, none, .bi .lss 0 (.t 39) (.t 42)⟩])
       (.cd (.t 43) (.sk)
       (.ex 2)))
      (.sq (.bl 3 (.sq (.rg (some 0) [⟨some 46, none, .fa 3 (.t 2)⟩,
           ⟨some 47, none, .ld none (.t 46)⟩,
           ⟨some 48, none, .mv (.t 6) none⟩,
           ⟨some 49, none, .ia 1 (.t 47) (.t 48)⟩,
           ⟨some 50, none, .ld none (.t 49)⟩,
           ⟨some 51, none, .fa 3 (.t 3)⟩,
           ⟨some 52, none, .ld none (.t 51)⟩,
           ⟨some 53, none, .mv (.t 6) none⟩,
           ⟨some 54, none, .ia 1 (.t 52) (.t 53)⟩,
           ⟨some 55, none, .ld none (.t 54)⟩,
           ⟨some 56, none, .bi .gtr 0 (.t 50) (.t 55)⟩])
        (.cd (.t 56) (.sq (.rg none [⟨some 4, none, .mv (.k (.bool false)) none⟩])
         (.rt))
        (.sk))))
      (.rg none [⟨some 44, none, .mv (.t 6) none⟩,
        ⟨some 45, none, .bi .add 0 (.t 44) (.k (.int .i64 1))⟩,
        ⟨some 6, none, .mv (.t 45) none⟩]))))))
   (.sq (.sq (.rg none [⟨some 7, none, .mv (.k (.int .i64 0)) none⟩])
    (.bl 4 (.lp [2, 3, 7] [] (.sq (.sq (.rg none [⟨some 57, none, .mv (.t 7) none⟩,
          ⟨some 58, none, .fa 4 (.t 3)⟩,
          ⟨some 59, none, .ld none (.t 58)⟩,
          ⟨some 60, none, .ln (.t 59)⟩,
          ⟨some 61, none, .bi .lss 0 (.t 57) (.t 60)⟩])
       (.cd (.t 61) (.sk)
       (.ex 4)))
      (.sq (.bl 5 (.sq (.rg (some 0) [⟨some 64, none, .fa 4 (.t 2)⟩,
           ⟨some 65, none, .ld none (.t 64)⟩,
           ⟨some 66, none, .fa 4 (.t 3)⟩,
           ⟨some 67, none, .ld none (.t 66)⟩,
           ⟨some 68, none, .mv (.t 7) none⟩,
           ⟨some 69, none, .ia 2 (.t 67) (.t 68)⟩,
           ⟨some 70, none, .ld (some 2) (.t 69)⟩,
           ⟨some 71, none, .ca .pure false (.f fid_spec_l7Pair) [.t 65, .t 70]⟩,
           ⟨some 72, none, .nt (.t 71)⟩])
        (.cd (.t 72) (.sq (.rg none [⟨some 4, none, .mv (.k (.bool false)) none⟩])
         (.rt))
        (.sk))))
      (.rg none [⟨some 62, none, .mv (.t 7) none⟩,
        ⟨some 63, none, .bi .add 0 (.t 62) (.k (.int .i64 1))⟩,
        ⟨some 7, none, .mv (.t 63) none⟩]))))))
   (.sq (.rg none [⟨some 4, none, .mv (.k (.bool true)) none⟩])
   (.rt))))))) }
theorem k_spec_l7Finer : chkF Go.Proofs.Tryd.prog fid_spec_l7Finer c_spec_l7Finer = true := by kernel_rfl

def c_impl_sameSorts : F2 :=
  { nt := 31, res := [.t 6 [0]], body :=
   (.sq (.rg none [⟨some 4, none, .bt (.t 1)⟩,
      ⟨some 5, none, .bt (.t 2)⟩,
      ⟨some 6, none, .mv (.k (.bool false)) none⟩])
   (.sq (.rg none [⟨some 7, none, .mv (.t 0) none⟩,
      ⟨some 8, none, .ld (some 5) (.t 4)⟩,
      ⟨some 9, none, .ca .pure false (.f fid_impl_IsSorting) [.t 7, .t 8]⟩,
      ⟨some 10, none, .mv (.t 9) none⟩,
      ⟨some 11, (some (10, true)), .mv (.t 0) none⟩,
      ⟨some 12, (some (10, true)), .ld (some 5) (.t 5)⟩,
      ⟨some 13, (some (10, true)), .ca .pure false (.f fid_impl_IsSorting) [.t 11, .t 12]⟩,
      ⟨some 14, none, .pk (.t 10) (.t 13) (.k (.bool false))⟩,
      ⟨some 15, none, .mv (.t 14) none⟩,
      ⟨some 16, (some (15, true)), .fa 3 (.t 4)⟩,
      ⟨some 17, (some (15, true)), .ld none (.t 16)⟩,
      ⟨some 18, (some (15, true)), .ln (.t 17)⟩,
      ⟨some 19, (some (15, true)), .fa 3 (.t 5)⟩,
      ⟨some 20, (some (15, true)), .ld none (.t 19)⟩,
      ⟨some 21, (some (15, true)), .ln (.t 20)⟩,
      ⟨some 22, (some (15, true)), .bi .eql 0 (.t 18) (.t 21)⟩,
      ⟨some 23, none, .pk (.t 15) (.t 22) (.k (.bool false))⟩,
      ⟨some 24, none, .mv (.t 23) none⟩,
      ⟨some 25, (some (24, true)), .fa 2 (.t 4)⟩,
      ⟨some 26, (some (24, true)), .ld none (.t 25)⟩,
      ⟨some 27, (some (24, true)), .fa 2 (.t 5)⟩,
      ⟨some 28, (some (24, true)), .ld none (.t 27)⟩,
      ⟨some 29, (some (24, true)), .ca .pure false (.f fid_slices_EqualFunc_int_int_int_int) [.t 26, .t 28, .f fid_impl_sameSorts_1]⟩,
      ⟨some 30, none, .pk (.t 24) (.t 29) (.k (.bool false))⟩,
      ⟨some 6, none, .mv (.t 30) none⟩])
   (.rt))) }
theorem k_impl_sameSorts : chkF Go.Proofs.Tryd.prog fid_impl_sameSorts c_impl_sameSorts = true := by kernel_rfl

def c_impl_isFiner : F2 :=
  { nt := 54, res := [.t 4 [0]], body :=
   (.sq (.rg none [⟨some 2, none, .bt (.t 0)⟩,
      ⟨some 3, none, .bt (.t 1)⟩,
      ⟨some 4, none, .mv (.k (.bool false)) none⟩])
   (.sq (.sq (.rg none [⟨some 9, none, .fa 1 (.t 2)⟩,
       ⟨some 10, none, .ld none (.t 9)⟩,
       ⟨some 11, none, .ln (.t 10)⟩,
       ⟨some 12, none, .mv (.k (.int .i64 0)) none⟩])
    (.bl 0 (.lp [2, 3, 10, 11, 12] [] (.sq (.rg none [⟨some 13, none, .bi .lss 0 (.t 12) (.t 11)⟩])
      (.sq (.cd (.t 13) (.sk)
       (.ex 0))
      (.sq (.bl 1 (.sq (.rg none [⟨some 14, none, .mv (.t 12) none⟩,
           ⟨some 15, none, .ia 1 (.t 10) (.t 12)⟩,
           ⟨some 16, none, .ld none (.t 15)⟩,
           ⟨some 5, none, .mv (.t 14) none⟩,
           ⟨some 6, none, .mv (.t 16) none⟩])
        (.sq (.rg none [⟨some 17, none, .mv (.t 6) none⟩,
           ⟨some 18, none, .fa 1 (.t 3)⟩,
           ⟨some 19, none, .ld none (.t 18)⟩,
           ⟨some 20, none, .mv (.t 5) none⟩,
           ⟨some 21, none, .ia 1 (.t 19) (.t 20)⟩,
           ⟨some 22, none, .ld none (.t 21)⟩,
           ⟨some 23, none, .ca .pure false (.f fid_impl_isPart) [.t 17, .t 22]⟩,
           ⟨some 24, none, .nt (.t 23)⟩])
        (.cd (.t 24) (.sq (.rg none [⟨some 4, none, .mv (.k (.bool false)) none⟩])
         (.rt))
        (.sk)))))
      (.rg none [⟨some 25, none, .bi .add 0 (.t 12) (.k (.int .i64 1))⟩,
        ⟨some 12, none, .mv (.t 25) none⟩])))))))
   (.sq (.sq (.rg none [⟨some 26, none, .fa 3 (.t 2)⟩,
       ⟨some 27, none, .ld none (.t 26)⟩,
       ⟨some 28, none, .ln (.t 27)⟩,
       ⟨some 29, none, .mv (.k (.int .i64 0)) none⟩])
    (.bl 2 (.lp [2, 3, 27, 28, 29] [] (.sq (.rg none [⟨some 30, none, .bi .lss 0 (.t 29) (.t 28)⟩])
      (.sq (.cd (.t 30) (.sk)
       (.ex 2))
      (.sq (.bl 3 (.sq (.rg none [⟨some 31, none, .mv (.t 29) none⟩,
           ⟨some 32, none, .ia 1 (.t 27) (.t 29)⟩,
           ⟨some 33, none, .ld none (.t 32)⟩,
           ⟨some 7, none, .mv (.t 31) none⟩,
           ⟨some 8, none, .mv (.t 33) none⟩])
        (.sq (.rg none [⟨some 34, none, .mv (.t 8) none⟩,
           ⟨some 35, none, .fa 3 (.t 3)⟩,
           ⟨some 36, none, .ld none (.t 35)⟩,
           ⟨some 37, none, .mv (.t 7) none⟩,
           ⟨some 38, none, .ia 1 (.t 36) (.t 37)⟩,
           ⟨some 39, none, .ld none (.t 38)⟩,
           ⟨some 40, none, .bi .gtr 0 (.t 34) (.t 39)⟩])
        (.cd (.t 40) (.sq (.rg none [⟨some 4, none, .mv (.k (.bool false)) none⟩])
         (.rt))
        (.sk)))))
      (.rg none [⟨some 41, none, .bi .add 0 (.t 29) (.k (.int .i64 1))⟩,
        ⟨some 29, none, .mv (.t 41) none⟩])))))))
   (.sq (.rg none [⟨some 42, none, .fa 0 (.t 2)⟩,
      ⟨some 43, none, .ld none (.t 42)⟩,
      ⟨some 44, none, .fa 0 (.t 3)⟩,
      ⟨some 45, none, .ld none (.t 44)⟩,
      ⟨some 46, none, .ca .pure false (.f fid_impl_isPart) [.t 43, .t 45]⟩,
      ⟨some 47, none, .mv (.t 46) none⟩,
      ⟨some 48, (some (47, true)), .fa 4 (.t 3)⟩,
      ⟨some 49, (some (47, true)), .ld none (.t 48)⟩,
      ⟨some 50, (some (47, true)), .mf fid_impl_isFiner_1 [.t 2]⟩,
      ⟨some 51, (some (47, true)), .ca .pure false (.f fid_slices_ContainsFunc_2_int_2_int) [.t 49, .t 50]⟩,
      ⟨some 52, (some (47, true)), .nt (.t 51)⟩,
      ⟨some 53, none, .pk (.t 47) (.t 52) (.k (.bool false))⟩,
      ⟨some 4, none, .mv (.t 53) none⟩])
   (.rt))))) }
theorem k_impl_isFiner : chkF Go.Proofs.Tryd.prog fid_impl_isFiner c_impl_isFiner = true := by kernel_rfl

def c_spec_l2Name : F2 :=
  { nt := 23, res := [.t 2 [0]], body :=
   (.sq (.rg none [⟨some 2, none, .mv (.k (.bool false)) none⟩])
   (.sq (.sq (.rg none [⟨some 3, none, .mv (.k (.int .i64 0)) none⟩])
    (.bl 0 (.lp [0, 3] [] (.sq (.sq (.rg none [⟨some 4, none, .mv (.t 3) none⟩,
          ⟨some 5, none, .mv (.t 0) none⟩,
          ⟨some 6, none, .lg (.t 5)⟩,
          ⟨some 7, none, .bi .lss 0 (.t 4) (.t 6)⟩])
       (.cd (.t 7) (.sk)
       (.ex 0)))
      (.sq (.bl 1 (.sq (.rg none [⟨some 10, none, .mv (.t 0) none⟩,
           ⟨some 11, none, .mv (.t 3) none⟩,
           ⟨some 12, none, .ix (.t 10) (.t 11)⟩,
           ⟨some 13, none, .bi .lss 0 (.t 12) (.k (.int .u8 97))⟩,
           ⟨some 14, none, .mv (.t 13) none⟩,
           ⟨some 15, (some (14, false)), .mv (.t 0) none⟩,
           ⟨some 16, (some (14, false)), .mv (.t 3) none⟩,
           ⟨some 17, (some (14, false)), .ix (.t 15) (.t 16)⟩,
           ⟨some 18, (some (14, false)), .bi .gtr 0 (.t 17) (.k (.int .u8 122))⟩,
           ⟨some 19, none, .pk (.t 14) (.k (.bool true)) (.t 18)⟩])
        (.cd (.t 19) (.sq (.rg none [⟨some 2, none, .mv (.k (.bool false)) none⟩])
         (.rt))
        (.sk))))
      (.rg none [⟨some 8, none, .mv (.t 3) none⟩,
        ⟨some 9, none, .bi .add 0 (.t 8) (.k (.int .i64 1))⟩,
        ⟨some 3, none, .mv (.t 9) none⟩]))))))
   (.sq (.rg none [⟨some 20, none, .mv (.t 0) none⟩,
      ⟨some 21, none, .lg (.t 20)⟩,
      ⟨some 22, none, .ca .pure false (.f fid_spec_l1In) [.t 21, .k (.int .i64 1), .k (.int .i64 4)]⟩,
      ⟨some 2, none, .mv (.t 22) none⟩])
   (.rt)))) }
theorem k_spec_l2Name : chkF Go.Proofs.Tryd.prog fid_spec_l2Name c_spec_l2Name = true := by kernel_rfl

def c_spec_l1In : F2 :=
  { nt := 15, res := [.t 6 [0]], body :=
   (.sq (.rg none [⟨some 6, none, .mv (.k (.bool false)) none⟩])
   (.sq (.rg none [⟨some 7, none, .mv (.t 0) none⟩,
      ⟨some 8, none, .mv (.t 1) none⟩,
      ⟨some 9, none, .bi .geq 0 (.t 7) (.t 8)⟩,
      ⟨some 10, none, .mv (.t 9) none⟩,
      ⟨some 11, (some (10, true)), .mv (.t 0) none⟩,
      ⟨some 12, (some (10, true)), .mv (.t 2) none⟩,
      ⟨some 13, (some (10, true)), .bi .leq 0 (.t 11) (.t 12)⟩,
      ⟨some 14, none, .pk (.t 10) (.t 13) (.k (.bool false))⟩,
      ⟨some 6, none, .mv (.t 14) none⟩])
   (.rt))) }
theorem k_spec_l1In : chkF Go.Proofs.Tryd.prog fid_spec_l1In c_spec_l1In = true := by kernel_rfl

def c_impl_isName : F2 :=
  { nt := 11, res := [.t 2 [0]], body :=
   (.sq (.rg none [⟨some 2, none, .mv (.k (.bool false)) none⟩])
   (.sq (.rg none [⟨some 3, none, .mv (.t 0) none⟩,
      ⟨some 4, none, .lg (.t 3)⟩,
      ⟨some 5, none, .ca .pure false (.f fid_impl_within) [.t 4, .k (.int .i64 1), .k (.int .i64 4)]⟩,
      ⟨some 6, none, .mv (.t 5) none⟩,
      ⟨some 7, (some (6, true)), .mv (.t 0) none⟩,
      ⟨some 8, (some (6, true)), .ca .pure false (.f fid_strings_Trim) [.t 7, .k (.string ⟨#[97, 98, 99, 100, 101, 102, 103, 104, 105, 106, 107, 108, 109, 110, 111, 112, 113, 114, 115, 116, 117, 118, 119, 120, 121, 122]⟩)]⟩,
      ⟨some 9, (some (6, true)), .bi .eql 0 (.t 8) (.k (.string ⟨#[]⟩))⟩,
      ⟨some 10, none, .pk (.t 6) (.t 9) (.k (.bool false))⟩,
      ⟨some 2, none, .mv (.t 10) none⟩])
   (.rt))) }
theorem k_impl_isName : chkF Go.Proofs.Tryd.prog fid_impl_isName c_impl_isName = true := by kernel_rfl

def c_impl_IsSignature_1 : F2 :=
  { nt := 9, res := [.t 3 [0]], body :=
   (.sq (.rg none [⟨some 2, none, .bt (.t 0)⟩,
      ⟨some 3, none, .mv (.k (.bool false)) none⟩])
   (.sq (.rg none [⟨some 4, none, .fa 0 (.t 2)⟩,
      ⟨some 5, none, .ld none (.t 4)⟩,
      ⟨some 6, none, .fa 0 (.t 1)⟩,
      ⟨some 7, none, .ld none (.t 6)⟩,
      ⟨some 8, none, .bi .eql 0 (.t 5) (.t 7)⟩,
      ⟨some 3, none, .mv (.t 8) none⟩])
   (.rt))) }
theorem k_impl_IsSignature_1 : chkF Go.Proofs.Tryd.prog fid_impl_IsSignature_1 c_impl_IsSignature_1 = true := by kernel_rfl

def c_spec_l7Controls : F2 :=
  { nt := 10, res := [.t 4 [0]], body :=
   (.sq (.rg none [⟨some 4, none, .mv (.k (.bool false)) none⟩])
   (.sq (.rg none [⟨some 5, none, .mv (.t 1) none⟩,
      ⟨some 6, none, .mv (.t 0) none⟩,
      ⟨some 7, none, .ln (.t 6)⟩,
      ⟨some 8, none, .bi .sub 0 (.t 7) (.k (.int .i64 1))⟩,
      ⟨some 9, none, .ca .pure false (.f fid_spec_l1Rising) [.t 5, .k (.int .i64 0), .t 8]⟩,
      ⟨some 4, none, .mv (.t 9) none⟩])
   (.rt))) }
theorem k_spec_l7Controls : chkF Go.Proofs.Tryd.prog fid_spec_l7Controls c_spec_l7Controls = true := by kernel_rfl

def c_spec_l7Nest : F2 :=
  { nt := 40, res := [.t 4 [0]], body :=
   (.sq (.rg none [⟨some 4, none, .mv (.k (.bool false)) none⟩])
   (.sq (.sq (.rg none [⟨some 6, none, .mv (.t 1) none⟩,
       ⟨some 7, none, .ln (.t 6)⟩,
       ⟨some 8, none, .mv (.t 0) none⟩,
       ⟨some 9, none, .ln (.t 8)⟩,
       ⟨some 10, none, .bi .neq 0 (.t 7) (.t 9)⟩])
    (.cd (.t 10) (.sq (.rg none [⟨some 4, none, .mv (.k (.bool false)) none⟩])
     (.rt))
    (.sk)))
   (.sq (.sq (.rg none [⟨some 5, none, .mv (.k (.int .i64 0)) none⟩])
    (.bl 0 (.lp [0, 1, 5] [] (.sq (.sq (.rg none [⟨some 11, none, .mv (.t 5) none⟩,
          ⟨some 12, none, .mv (.t 1) none⟩,
          ⟨some 13, none, .ln (.t 12)⟩,
          ⟨some 14, none, .bi .lss 0 (.t 11) (.t 13)⟩])
       (.cd (.t 14) (.sk)
       (.ex 0)))
      (.sq (.bl 1 (.sq (.rg none [⟨some 17, none, .mv (.t 0) none⟩,
           ⟨some 18, none, .mv (.t 1) none⟩,
           ⟨some 19, none, .mv (.t 5) none⟩,
           ⟨some 20, none, .ia 1 (.t 18) (.t 19)⟩,
           ⟨some 21, none, .ld none (.t 20)⟩,
           ⟨some 22, none, .ca .pure false (.f fid_spec_l7Controls) [.t 17, .t 21]⟩,
           ⟨some 23, none, .nt (.t 22)⟩,
           ⟨some 24, none, .mv (.t 23) none⟩,
           ⟨some 25, (some (24, false)), .mv (.t 0) none⟩,
           ⟨some 26, (some (24, false)), .mv (.t 5) none⟩,
           ⟨some 27, (some (24, false)), .ia 3 (.t 25) (.t 26)⟩,
           ⟨some 28, (some (24, false)), .fa 2 (.t 27)⟩,
           ⟨some 29, (some (24, false)), .ld none (.t 28)⟩,
           ⟨some 30, (some (24, false)), .bi .eql 0 (.t 29) (.k (.int .i64 2))⟩,
           ⟨some 31, (some (24, false)), .mv (.t 30) none⟩,
           ⟨some 32, (some (31, true)), .mv (.t 1) none⟩,
           ⟨some 33, (some (31, true)), .mv (.t 5) none⟩,
           ⟨some 34, (some (31, true)), .ia 1 (.t 32) (.t 33)⟩,
           ⟨some 35, (some (31, true)), .ld none (.t 34)⟩,
           ⟨some 36, (some (31, true)), .ln (.t 35)⟩,
           ⟨some 37, (some (31, true)), .bi .gtr 0 (.t 36) (.k (.int .i64 0))⟩,
           ⟨some 38, (some (24, false)), .pk (.t 31) (.t 37) (.k (.bool false))⟩,
           ⟨some 39, none, .pk (.t 24) (.k (.bool true)) (.t 38)⟩])
        (.cd (.t 39) (.sq (.rg none [⟨some 4, none, .mv (.k (.bool false)) none⟩])
         (.rt))
        (.sk))))
      (.rg none [⟨some 15, none, .mv (.t 5) none⟩,
        ⟨some 16, none, .bi .add 0 (.t 15) (.k (.int .i64 1))⟩,
        ⟨some 5, none, .mv (.t 16) none⟩]))))))
   (.sq (.rg none [⟨some 4, none, .mv (.k (.bool true)) none⟩])
   (.rt))))) }
theorem k_spec_l7Nest : chkF Go.Proofs.Tryd.prog fid_spec_l7Nest c_spec_l7Nest = true := by kernel_rfl

def c_spec_l7Sorts : F2 :=
  { nt := 51, res := [.t 6 [0]], body :=
   (.sq (.rg none [⟨some 6, none, .mv (.k (.bool false)) none⟩])
   (.sq (.sq (.rg none [⟨some 9, none, .mv (.t 1) none⟩,
       ⟨some 10, none, .ln (.t 9)⟩,
       ⟨some 11, none, .mv (.t 0) none⟩,
       ⟨some 12, none, .ln (.t 11)⟩,
       ⟨some 13, none, .bi .neq 0 (.t 10) (.t 12)⟩])
    (.cd (.t 13) (.sq (.rg none [⟨some 6, none, .mv (.k (.bool false)) none⟩])
     (.rt))
    (.sk)))
   (.sq (.sq (.rg none [⟨some 7, none, .mv (.k (.int .i64 0)) none⟩])
    (.bl 0 (.lp [0, 1, 2, 7] [] (.sq (.sq (.rg none [⟨some 14, none, .mv (.t 7) none⟩,
          ⟨some 15, none, .mv (.t 1) none⟩,
          ⟨some 16, none, .ln (.t 15)⟩,
          ⟨some 17, none, .bi .lss 0 (.t 14) (.t 16)⟩])
       (.cd (.t 17) (.sk)
       (.ex 0)))
      (.sq (.bl 1 (.sq (.sq (.rg (some 0) [⟨some 20, none, .mv (.t 1) none⟩,
            ⟨some 21, none, .mv (.t 7) none⟩,
            ⟨some 22, none, .ia 1 (.t 20) (.t 21)⟩,
            ⟨some 23, none, .ld none (.t 22)⟩,
            ⟨some 24, none, .ln (.t 23)⟩,
            ⟨some 25, none, .mv (.t 0) none⟩,
            ⟨some 26, none, .mv (.t 7) none⟩,
            ⟨some 27, none, .ia 3 (.t 25) (.t 26)⟩,
            ⟨some 28, none, .fa 1 (.t 27)⟩,
            ⟨some 29, none, .ld none (.t 28)⟩,
            ⟨some 30, none, .bi .neq 0 (.t 24) (.t 29)⟩])
         (.cd (.t 30) (.sq (.rg none [⟨some 6, none, .mv (.k (.bool false)) none⟩])
          (.rt))
         (.sk)))
        (.sq (.rg none [⟨some 8, none, .mv (.k (.int .i64 0)) none⟩])
        (.bl 2 (.lp [0, 1, 2, 7, 8] [] (.sq (.sq (.rg none [⟨some 31, none, .mv (.t 8) none⟩,
              ⟨some 32, none, .mv (.t 1) none⟩,
              ⟨some 33, none, .mv (.t 7) none⟩,
              ⟨some 34, none, .ia 1 (.t 32) (.t 33)⟩,
              ⟨some 35, none, .ld none (.t 34)⟩,
              ⟨some 36, none, .ln (.t 35)⟩,
              ⟨some 37, none, .bi .lss 0 (.t 31) (.t 36)⟩])
           (.cd (.t 37) (.sk)
           (.ex 2)))
          (.sq (.bl 3 (.sq (.rg none [⟨some 40, none, .mv (.t 1) none⟩,
               ⟨some 41, none, .mv (.t 7) none⟩,
               ⟨some 42, none, .ia 1 (.t 40) (.t 41)⟩,
               ⟨some 43, none, .ld none (.t 42)⟩,
               ⟨some 44, none, .mv (.t 8) none⟩,
               ⟨some 45, none, .ia 1 (.t 43) (.t 44)⟩,
               ⟨some 46, none, .ld none (.t 45)⟩,
               ⟨some 47, none, .mv (.t 2) none⟩,
               ⟨some 48, none, .bi .sub 0 (.t 47) (.k (.int .i64 1))⟩,
               ⟨some 49, none, .ca .pure false (.f fid_spec_l1In) [.t 46, .k (.int .i64 0), .t 48]⟩,
               ⟨some 50, none, .nt (.t 49)⟩])
            (.cd (.t 50) (.sq (.rg none [⟨some 6, none, .mv (.k (.bool false)) none⟩])
             (.rt))
            (.sk))))
          (.rg none [⟨some 38, none, .mv (.t 8) none⟩,
            ⟨some 39, none, .bi .add 0 (.t 38) (.k (.int .i64 1))⟩,
            ⟨some 8, none, .mv (.t 39) none⟩]))))))))
      (.rg none [⟨some 18, none, .mv (.t 7) none⟩,
        ⟨some 19, none, .bi .add 0 (.t 18) (.k (.int .i64 1))⟩,
        ⟨some 7, none, .mv (.t 19) none⟩]))))))
   (.sq (.rg none [⟨some 6, none, .mv (.k (.bool true)) none⟩])
   (.rt))))) }
theorem k_spec_l7Sorts : chkF Go.Proofs.Tryd.prog fid_spec_l7Sorts c_spec_l7Sorts = true := by kernel_rfl

def c_spec_l7Before : F2 :=
  { nt := 24, res := [.t 4 [0]], body :=
   (.sq (.rg none [⟨some 2, none, .bt (.t 0)⟩,
      ⟨some 3, none, .bt (.t 1)⟩,
      ⟨some 4, none, .mv (.k (.bool false)) none⟩])
   (.sq (.rg none [⟨some 5, none, .ja 1 2 (.t 2) (.k (.int .i64 0))⟩,
      ⟨some 6, none, .ld none (.t 5)⟩,
      ⟨some 7, none, .ja 1 2 (.t 3) (.k (.int .i64 0))⟩,
      ⟨some 8, none, .ld none (.t 7)⟩,
      ⟨some 9, none, .bi .lss 0 (.t 6) (.t 8)⟩,
      ⟨some 10, none, .mv (.t 9) none⟩,
      ⟨some 11, (some (10, false)), .ja 1 2 (.t 2) (.k (.int .i64 0))⟩,
      ⟨some 12, (some (10, false)), .ld none (.t 11)⟩,
      ⟨some 13, (some (10, false)), .ja 1 2 (.t 3) (.k (.int .i64 0))⟩,
      ⟨some 14, (some (10, false)), .ld none (.t 13)⟩,
      ⟨some 15, (some (10, false)), .bi .eql 0 (.t 12) (.t 14)⟩,
      ⟨some 16, (some (10, false)), .mv (.t 15) none⟩,
      ⟨some 17, (some (16, true)), .ja 1 2 (.t 2) (.k (.int .i64 1))⟩,
      ⟨some 18, (some (16, true)), .ld none (.t 17)⟩,
      ⟨some 19, (some (16, true)), .ja 1 2 (.t 3) (.k (.int .i64 1))⟩,
      ⟨some 20, (some (16, true)), .ld none (.t 19)⟩,
      ⟨some 21, (some (16, true)), .bi .lss 0 (.t 18) (.t 20)⟩,
      ⟨some 22, (some (10, false)), .pk (.t 16) (.t 21) (.k (.bool false))⟩,
      ⟨some 23, none, .pk (.t 10) (.k (.bool true)) (.t 22)⟩,
      ⟨some 4, none, .mv (.t 23) none⟩])
   (.rt))) }
theorem k_spec_l7Before : chkF Go.Proofs.Tryd.prog fid_spec_l7Before c_spec_l7Before = true := by kernel_rfl

def c_impl_comparePairs : F2 :=
  { nt := 8, res := [.t 4 [0]], body :=
   (.sq (.rg none [⟨some 2, none, .bt (.t 0)⟩,
      ⟨some 3, none, .bt (.t 1)⟩,
      ⟨some 4, none, .mv (.k (.int .i64 0)) none⟩])
   (.sq (.rg (some 0) [⟨some 5, none, .sa 2 (.t 2)⟩,
      ⟨some 6, none, .sa 2 (.t 3)⟩,
      ⟨some 7, none, .ca .pure false (.f fid_slices_Compare_int_int) [.t 5, .t 6]⟩,
      ⟨some 4, none, .mv (.t 7) none⟩])
   (.rt))) }
theorem k_impl_comparePairs : chkF Go.Proofs.Tryd.prog fid_impl_comparePairs c_impl_comparePairs = true := by kernel_rfl

def c_spec_l7Alike : F2 :=
  { nt := 19, res := [.t 4 [0]], body :=
   (.sq (.rg none [⟨some 2, none, .bt (.t 0)⟩,
      ⟨some 3, none, .bt (.t 1)⟩,
      ⟨some 4, none, .mv (.k (.bool false)) none⟩])
   (.sq (.rg none [⟨some 5, none, .fa 3 (.t 2)⟩,
      ⟨some 6, none, .ld none (.t 5)⟩,
      ⟨some 7, none, .ln (.t 6)⟩,
      ⟨some 8, none, .fa 3 (.t 3)⟩,
      ⟨some 9, none, .ld none (.t 8)⟩,
      ⟨some 10, none, .ln (.t 9)⟩,
      ⟨some 11, none, .bi .eql 0 (.t 7) (.t 10)⟩,
      ⟨some 12, none, .mv (.t 11) none⟩,
      ⟨some 13, (some (12, true)), .fa 2 (.t 2)⟩,
      ⟨some 14, (some (12, true)), .ld none (.t 13)⟩,
      ⟨some 15, (some (12, true)), .fa 2 (.t 3)⟩,
      ⟨some 16, (some (12, true)), .ld none (.t 15)⟩,
      ⟨some 17, (some (12, true)), .ca .pure false (.f fid_spec_l7SameTable) [.t 14, .t 16]⟩,
      ⟨some 18, none, .pk (.t 12) (.t 17) (.k (.bool false))⟩,
      ⟨some 4, none, .mv (.t 18) none⟩])
   (.rt))) }
theorem k_spec_l7Alike : chkF Go.Proofs.Tryd.prog fid_spec_l7Alike c_spec_l7Alike = true := by kernel_rfl

def c_spec_l7Part : F2 :=
  { nt := 19, res := [.t 4 [0]], body :=
   (.sq (.rg none [⟨some 4, none, .mv (.k (.bool false)) none⟩])
   (.sq (.sq (.rg none [⟨some 5, none, .mv (.k (.int .i64 0)) none⟩])
    (.bl 0 (.lp [0, 1, 5] [] (.sq (.sq (.rg none [⟨some 6, none, .mv (.t 5) none⟩,
          ⟨some 7, none, .mv (.t 0) none⟩,
          ⟨some 8, none, .ln (.t 7)⟩,
          ⟨some 9, none, .bi .lss 0 (.t 6) (.t 8)⟩])
       (.cd (.t 9) (.sk)
       (.ex 0)))
      (.sq (.bl 1 (.sq (.rg none [⟨some 12, none, .mv (.t 1) none⟩,
           ⟨some 13, none, .mv (.t 0) none⟩,
           ⟨some 14, none, .mv (.t 5) none⟩,
           ⟨some 15, none, .ia 1 (.t 13) (.t 14)⟩,
           ⟨some 16, none, .ld none (.t 15)⟩,
           ⟨some 17, none, .ca .pure false (.f fid_spec_l1Has) [.t 12, .t 16]⟩,
           ⟨some 18, none, .nt (.t 17)⟩])
        (.cd (.t 18) (.sq (.rg none [⟨some 4, none, .mv (.k (.bool false)) none⟩])
         (.rt))
        (.sk))))
      (.rg none [⟨some 10, none, .mv (.t 5) none⟩,
        ⟨some 11, none, .bi .add 0 (.t 10) (.k (.int .i64 1))⟩,
        ⟨some 5, none, .mv (.t 11) none⟩]))))))
   (.sq (.rg none [⟨some 4, none, .mv (.k (.bool true)) none⟩])
   (.rt)))) }
theorem k_spec_l7Part : chkF Go.Proofs.Tryd.prog fid_spec_l7Part c_spec_l7Part = true := by kernel_rfl

def c_spec_l7Pair : F2 :=
  { nt := 18, res := [.t 4 [0]], body :=
   (.sq (.rg none [⟨some 3, none, .bt (.t 1)⟩,
      ⟨some 4, none, .mv (.k (.bool false)) none⟩])
   (.sq (.sq (.rg none [⟨some 5, none, .mv (.k (.int .i64 0)) none⟩])
    (.bl 0 (.lp [0, 3, 5] [] (.sq (.sq (.rg none [⟨some 6, none, .mv (.t 5) none⟩,
          ⟨some 7, none, .mv (.t 0) none⟩,
          ⟨some 8, none, .ln (.t 7)⟩,
          ⟨some 9, none, .bi .lss 0 (.t 6) (.t 8)⟩])
       (.cd (.t 9) (.sk)
       (.ex 0)))
      (.sq (.bl 1 (.sq (.rg (some 0) [⟨some 12, none, .mv (.t 0) none⟩,
           ⟨some 13, none, .mv (.t 5) none⟩,
           ⟨some 14, none, .ia 2 (.t 12) (.t 13)⟩,
           ⟨some 15, none, .ld (some 2) (.t 14)⟩,
           ⟨some 16, none, .ld (some 2) (.t 3)⟩,
           ⟨some 17, none, .qa false [0, 0] (.t 15) (.t 16)⟩])
        (.cd (.t 17) (.sq (.rg none [⟨some 4, none, .mv (.k (.bool true)) none⟩])
         (.rt))
        (.sk))))
      (.rg none [⟨some 10, none, .mv (.t 5) none⟩,
        ⟨some 11, none, .bi .add 0 (.t 10) (.k (.int .i64 1))⟩,
        ⟨some 5, none, .mv (.t 11) none⟩]))))))
   (.sq (.rg none [⟨some 4, none, .mv (.k (.bool false)) none⟩])
   (.rt)))) }
theorem k_spec_l7Pair : chkF Go.Proofs.Tryd.prog fid_spec_l7Pair c_spec_l7Pair = true := by kernel_rfl

def c_impl_sameSorts_1 : F2 :=
  { nt := 8, res := [.t 4 [0]], body :=
   (.sq (.rg none [⟨some 4, none, .mv (.k (.bool false)) none⟩])
   (.sq (.rg none [⟨some 5, none, .mv (.t 0) none⟩,
      ⟨some 6, none, .mv (.t 1) none⟩,
      ⟨some 7, none, .ca .pure false (.f fid_slices_Equal_int_int) [.t 5, .t 6]⟩,
      ⟨some 4, none, .mv (.t 7) none⟩])
   (.rt))) }
theorem k_impl_sameSorts_1 : chkF Go.Proofs.Tryd.prog fid_impl_sameSorts_1 c_impl_sameSorts_1 = true := by kernel_rfl

def c_impl_isPart : F2 :=
  { nt := 9, res := [.t 4 [0]], body :=
   (.sq (.rg none [⟨some 3, none, .bt (.t 1)⟩,
      ⟨some 4, none, .mv (.k (.bool false)) none⟩])
   (.sq (.rg none [⟨some 5, none, .mv (.t 0) none⟩,
      ⟨some 6, none, .mf fid_impl_isPart_1 [.t 3]⟩,
      ⟨some 7, none, .ca .pure false (.f fid_slices_ContainsFunc_int_int) [.t 5, .t 6]⟩,
      ⟨some 8, none, .nt (.t 7)⟩,
      ⟨some 4, none, .mv (.t 8) none⟩])
   (.rt))) }
theorem k_impl_isPart : chkF Go.Proofs.Tryd.prog fid_impl_isPart c_impl_isPart = true := by kernel_rfl

def c_impl_isFiner_1 : F2 :=
  { nt := 9, res := [.t 3 [0]], body :=
   (.sq (.rg none [⟨some 2, none, .bt (.t 0)⟩,
      ⟨some 3, none, .mv (.k (.bool false)) none⟩])
   (.sq (.rg none [⟨some 4, none, .fa 4 (.t 1)⟩,
      ⟨some 5, none, .ld none (.t 4)⟩,
      ⟨some 6, none, .ld (some 2) (.t 2)⟩,
      ⟨some 7, none, .ca .pure false (.f fid_slices_Contains_2_int_2_int) [.t 5, .t 6]⟩,
      ⟨some 8, none, .nt (.t 7)⟩,
      ⟨some 3, none, .mv (.t 8) none⟩])
   (.rt))) }
theorem k_impl_isFiner_1 : chkF Go.Proofs.Tryd.prog fid_impl_isFiner_1 c_impl_isFiner_1 = true := by kernel_rfl

def c_spec_l1Rising : F2 :=
  { nt := 38, res := [.t 6 [0]], body :=
   (.sq (.rg none [⟨some 6, none, .mv (.k (.bool false)) none⟩])
   (.sq (.sq (.rg none [⟨some 7, none, .mv (.k (.int .i64 0)) none⟩])
    (.bl 0 (.lp [0, 1, 2, 7] [] (.sq (.sq (.rg none [⟨some 8, none, .mv (.t 7) none⟩,
          ⟨some 9, none, .mv (.t 0) none⟩,
          ⟨some 10, none, .ln (.t 9)⟩,
          ⟨some 11, none, .bi .lss 0 (.t 8) (.t 10)⟩])
       (.cd (.t 11) (.sk)
       (.ex 0)))
      (.sq (.bl 1 (.sq (.rg (some 0) [⟨some 14, none, .mv (.t 0) none⟩,
           ⟨some 15, none, .mv (.t 7) none⟩,
           ⟨some 16, none, .ia 1 (.t 14) (.t 15)⟩,
           ⟨some 17, none, .ld none (.t 16)⟩,
           ⟨some 18, none, .mv (.t 1) none⟩,
           ⟨some 19, none, .mv (.t 2) none⟩,
           ⟨some 20, none, .ca .pure false (.f fid_spec_l1In) [.t 17, .t 18, .t 19]⟩,
           ⟨some 21, none, .nt (.t 20)⟩,
           ⟨some 22, none, .mv (.t 21) none⟩,
           ⟨some 23, (some (22, false)), .mv (.t 7) none⟩,
           ⟨some 24, (some (22, false)), .bi .gtr 0 (.t 23) (.k (.int .i64 0))⟩,
           ⟨some 25, (some (22, false)), .mv (.t 24) none⟩,
           ⟨some 26, (some (25, true)), .mv (.t 0) none⟩,
           ⟨some 27, (some (25, true)), .mv (.t 7) none⟩,
           ⟨some 28, (some (25, true)), .bi .sub 0 (.t 27) (.k (.int .i64 1))⟩,
           ⟨some 29, (some (25, true)), .ia 1 (.t 26) (.t 28)⟩,
           ⟨some 30, (some (25, true)), .ld none (.t 29)⟩,
           ⟨some 31, (some (25, true)), .mv (.t 0) none⟩,
           ⟨some 32, (some (25, true)), .mv (.t 7) none⟩,
           ⟨some 33, (some (25, true)), .ia 1 (.t 31) (.t 32)⟩,
           ⟨some 34, (some (25, true)), .ld none (.t 33)⟩,
           ⟨some 35, (some (25, true)), .bi .geq 0 (.t 30) (.t 34)⟩,
           ⟨some 36, (some (22, false)), .pk (.t 25) (.t 35) (.k (.bool false))⟩,
           ⟨some 37, none, .pk (.t 22) (.k (.bool true)) (.t 36)⟩])
        (.cd (.t 37) (.sq (.rg none [⟨some 6, none, .mv (.k (.bool false)) none⟩])
         (.rt))
        (.sk))))
      (.rg none [⟨some 12, none, .mv (.t 7) none⟩,
        ⟨some 13, none, .bi .add 0 (.t 12) (.k (.int .i64 1))⟩,
        ⟨some 7, none, .mv (.t 13) none⟩]))))))
   (.sq (.rg none [⟨some 6, none, .mv (.k (.bool true)) none⟩])
   (.rt)))) }
theorem k_spec_l1Rising : chkF Go.Proofs.Tryd.prog fid_spec_l1Rising c_spec_l1Rising = true := by kernel_rfl

def c_slices_Compare_int_int : F2 :=
  { nt := 36, res := [.t 4 [0]], body :=
   (.sq (.rg none [⟨some 4, none, .mv (.k (.int .i64 0)) none⟩])
   (.sq (.sq (.rg none [⟨some 9, none, .mv (.t 0) none⟩,
       ⟨some 10, none, .ln (.t 9)⟩,
       ⟨some 11, none, .mv (.k (.int .i64 0)) none⟩])
    (.bl 0 (.lp [0, 1, 9, 10, 11] [] (.sq (.rg none [⟨some 12, none, .bi .lss 0 (.t 11) (.t 10)⟩])
      (.sq (.cd (.t 12) (.sk)
       (.ex 0))
      (.sq (.bl 1 (.sq (.rg none [⟨some 13, none, .mv (.t 11) none⟩,
           ⟨some 14, none, .ia 1 (.t 9) (.t 11)⟩,
           ⟨some 15, none, .ld none (.t 14)⟩,
           ⟨some 5, none, .mv (.t 13) none⟩,
           ⟨some 6, none, .mv (.t 15) none⟩])
        (.sq (.sq (.rg none [⟨some 16, none, .mv (.t 5) none⟩,
            ⟨some 17, none, .mv (.t 1) none⟩,
            ⟨some 18, none, .ln (.t 17)⟩,
            ⟨some 19, none, .bi .geq 0 (.t 16) (.t 18)⟩])
         (.cd (.t 19) (.sq (.rg none [⟨some 4, none, .mv (.k (.int .i64 1)) none⟩])
          (.rt))
         (.sk)))
        (.sq (.rg none [⟨some 20, none, .mv (.t 1) none⟩,
           ⟨some 21, none, .mv (.t 5) none⟩,
           ⟨some 22, none, .ia 1 (.t 20) (.t 21)⟩,
           ⟨some 23, none, .ld none (.t 22)⟩,
           ⟨some 7, none, .mv (.t 23) none⟩])
        (.sq (.rg none [⟨some 24, none, .mv (.t 6) none⟩,
           ⟨some 25, none, .mv (.t 7) none⟩,
           ⟨some 26, none, .ca .pure false (.f fid_cmp_Compare_int) [.t 24, .t 25]⟩,
           ⟨some 8, none, .mv (.t 26) none⟩])
        (.sq (.rg none [⟨some 27, none, .mv (.t 8) none⟩,
           ⟨some 28, none, .bi .neq 0 (.t 27) (.k (.int .i64 0))⟩])
        (.cd (.t 28) (.sq (.rg none [⟨some 29, none, .mv (.t 8) none⟩,
            ⟨some 4, none, .mv (.t 29) none⟩])
         (.rt))
        (.sk))))))))
      (.rg none [⟨some 30, none, .bi .add 0 (.t 11) (.k (.int .i64 1))⟩,
        ⟨some 11, none, .mv (.t 30) none⟩])))))))
   (.sq (.sq (.rg none [⟨some 31, none, .mv (.t 0) none⟩,
       ⟨some 32, none, .ln (.t 31)⟩,
       ⟨some 33, none, .mv (.t 1) none⟩,
       ⟨some 34, none, .ln (.t 33)⟩,
       ⟨some 35, none, .bi .lss 0 (.t 32) (.t 34)⟩])
    (.cd (.t 35) (.sq (.rg none [⟨some 4, none, .mv (.k (.int .i64 (-1))) none⟩])
     (.rt))
    (.sk)))
   (.sq (.rg none [⟨some 4, none, .mv (.k (.int .i64 0)) none⟩])
   (.rt))))) }
theorem k_slices_Compare_int_int : chkF Go.Proofs.Tryd.prog fid_slices_Compare_int_int c_slices_Compare_int_int = true := by kernel_rfl

def c_spec_l7SameTable : F2 :=
  { nt := 27, res := [.t 4 [0]], body :=
   (.sq (.rg none [⟨some 4, none, .mv (.k (.bool false)) none⟩])
   (.sq (.sq (.rg none [⟨some 6, none, .mv (.t 0) none⟩,
       ⟨some 7, none, .ln (.t 6)⟩,
       ⟨some 8, none, .mv (.t 1) none⟩,
       ⟨some 9, none, .ln (.t 8)⟩,
       ⟨some 10, none, .bi .neq 0 (.t 7) (.t 9)⟩])
    (.cd (.t 10) (.sq (.rg none [⟨some 4, none, .mv (.k (.bool false)) none⟩])
     (.rt))
    (.sk)))
   (.sq (.sq (.rg none [⟨some 5, none, .mv (.k (.int .i64 0)) none⟩])
    (.bl 0 (.lp [0, 1, 5] [] (.sq (.sq (.rg none [⟨some 11, none, .mv (.t 5) none⟩,
          ⟨some 12, none, .mv (.t 0) none⟩,
          ⟨some 13, none, .ln (.t 12)⟩,
          ⟨some 14, none, .bi .lss 0 (.t 11) (.t 13)⟩])
       (.cd (.t 14) (.sk)
       (.ex 0)))
      (.sq (.bl 1 (.sq (.rg (some 0) [⟨some 17, none, .mv (.t 0) none⟩,
           ⟨some 18, none, .mv (.t 5) none⟩,
           ⟨some 19, none, .ia 1 (.t 17) (.t 18)⟩,
           ⟨some 20, none, .ld none (.t 19)⟩,
           ⟨some 21, none, .mv (.t 1) none⟩,
           ⟨some 22, none, .mv (.t 5) none⟩,
           ⟨some 23, none, .ia 1 (.t 21) (.t 22)⟩,
           ⟨some 24, none, .ld none (.t 23)⟩,
           ⟨some 25, none, .ca .pure false (.f fid_spec_l1Same) [.t 20, .t 24]⟩,
           ⟨some 26, none, .nt (.t 25)⟩])
        (.cd (.t 26) (.sq (.rg none [⟨some 4, none, .mv (.k (.bool false)) none⟩])
         (.rt))
        (.sk))))
      (.rg none [⟨some 15, none, .mv (.t 5) none⟩,
        ⟨some 16, none, .bi .add 0 (.t 15) (.k (.int .i64 1))⟩,
        ⟨some 5, none, .mv (.t 16) none⟩]))))))
   (.sq (.rg none [⟨some 4, none, .mv (.k (.bool true)) none⟩])
   (.rt))))) }
theorem k_spec_l7SameTable : chkF Go.Proofs.Tryd.prog fid_spec_l7SameTable c_spec_l7SameTable = true := by kernel_rfl

def c_spec_l1Has : F2 :=
  { nt := 18, res := [.t 4 [0]], body :=
   (.sq (.rg none [⟨some 4, none, .mv (.k (.bool false)) none⟩])
   (.sq (.sq (.rg none [⟨some 5, none, .mv (.k (.int .i64 0)) none⟩])
    (.bl 0 (.lp [0, 1, 5] [] (.sq (.sq (.rg none [⟨some 6, none, .mv (.t 5) none⟩,
          ⟨some 7, none, .mv (.t 0) none⟩,
          ⟨some 8, none, .ln (.t 7)⟩,
          ⟨some 9, none, .bi .lss 0 (.t 6) (.t 8)⟩])
       (.cd (.t 9) (.sk)
       (.ex 0)))
      (.sq (.bl 1 (.sq (.rg none [⟨some 12, none, .mv (.t 0) none⟩,
           ⟨some 13, none, .mv (.t 5) none⟩,
           ⟨some 14, none, .ia 1 (.t 12) (.t 13)⟩,
           ⟨some 15, none, .ld none (.t 14)⟩,
           ⟨some 16, none, .mv (.t 1) none⟩,
           ⟨some 17, none, .bi .eql 0 (.t 15) (.t 16)⟩])
        (.cd (.t 17) (.sq (.rg none [⟨some 4, none, .mv (.k (.bool true)) none⟩])
         (.rt))
        (.sk))))
      (.rg none [⟨some 10, none, .mv (.t 5) none⟩,
        ⟨some 11, none, .bi .add 0 (.t 10) (.k (.int .i64 1))⟩,
        ⟨some 5, none, .mv (.t 11) none⟩]))))))
   (.sq (.rg none [⟨some 4, none, .mv (.k (.bool false)) none⟩])
   (.rt)))) }
theorem k_spec_l1Has : chkF Go.Proofs.Tryd.prog fid_spec_l1Has c_spec_l1Has = true := by kernel_rfl

def c_impl_isPart_1 : F2 :=
  { nt := 8, res := [.t 3 [0]], body :=
   (.sq (.rg none [⟨some 3, none, .mv (.k (.bool false)) none⟩])
   (.sq (.rg none [⟨some 4, none, .ld none (.t 1)⟩,
      ⟨some 5, none, .mv (.t 0) none⟩,
      ⟨some 6, none, .ca .pure false (.f fid_slices_Contains_int_int) [.t 4, .t 5]⟩,
      ⟨some 7, none, .nt (.t 6)⟩,
      ⟨some 3, none, .mv (.t 7) none⟩])
   (.rt))) }
theorem k_impl_isPart_1 : chkF Go.Proofs.Tryd.prog fid_impl_isPart_1 c_impl_isPart_1 = true := by kernel_rfl

def c_slices_Contains_int_int : F2 :=
  { nt := 9, res := [.t 4 [0]], body :=
   (.sq (.rg none [⟨some 4, none, .mv (.k (.bool false)) none⟩])
   (.sq (.rg none [⟨some 5, none, .mv (.t 0) none⟩,
      ⟨some 6, none, .mv (.t 1) none⟩,
      ⟨some 7, none, .ca .pure false (.f fid_slices_Index_int_int) [.t 5, .t 6]⟩,
      ⟨some 8, none, .bi .geq 0 (.t 7) (.k (.int .i64 0))⟩,
      ⟨some 4, none, .mv (.t 8) none⟩])
   (.rt))) }
theorem k_slices_Contains_int_int : chkF Go.Proofs.Tryd.prog fid_slices_Contains_int_int c_slices_Contains_int_int = true := by kernel_rfl

def c_cmp_Compare_int : F2 :=
  { nt := 20, res := [.t 4 [0]], body :=
   (.sq (.rg none [⟨some 4, none, .mv (.k (.int .i64 0)) none⟩])
   (.sq (.rg none [⟨some 7, none, .mv (.t 0) none⟩,
      ⟨some 8, none, .ca .pure false (.f fid_cmp_isNaN_int) [.t 7]⟩,
      ⟨some 5, none, .mv (.t 8) none⟩])
   (.sq (.rg none [⟨some 9, none, .mv (.t 1) none⟩,
      ⟨some 10, none, .ca .pure false (.f fid_cmp_isNaN_int) [.t 9]⟩,
      ⟨some 6, none, .mv (.t 10) none⟩])
   (.sq (.sq (.rg none [⟨some 11, none, .mv (.t 5) none⟩])
    (.cd (.t 11) (.sq (.sq (.rg none [⟨some 12, none, .mv (.t 6) none⟩])
      (.cd (.t 12) (.sq (.rg none [⟨some 4, none, .mv (.k (.int .i64 0)) none⟩])
       (.rt))
      (.sk)))
     (.sq (.rg none [⟨some 4, none, .mv (.k (.int .i64 (-1))) none⟩])
     (.rt)))
    (.sk)))
   (.sq (.sq (.rg none [⟨some 13, none, .mv (.t 6) none⟩])
    (.cd (.t 13) (.sq (.rg none [⟨some 4, none, .mv (.k (.int .i64 1)) none⟩])
     (.rt))
    (.sk)))
   (.sq (.sq (.rg none [⟨some 14, none, .mv (.t 0) none⟩,
       ⟨some 15, none, .mv (.t 1) none⟩,
       ⟨some 16, none, .bi .lss 0 (.t 14) (.t 15)⟩])
    (.cd (.t 16) (.sq (.rg none [⟨some 4, none, .mv (.k (.int .i64 (-1))) none⟩])
     (.rt))
    (.sk)))
   (.sq (.sq (.rg none [⟨some 17, none, .mv (.t 0) none⟩,
       ⟨some 18, none, .mv (.t 1) none⟩,
       ⟨some 19, none, .bi .gtr 0 (.t 17) (.t 18)⟩])
    (.cd (.t 19) (.sq (.rg none [⟨some 4, none, .mv (.k (.int .i64 1)) none⟩])
     (.rt))
    (.sk)))
   (.sq (.rg none [⟨some 4, none, .mv (.k (.int .i64 0)) none⟩])
   (.rt))))))))) }
theorem k_cmp_Compare_int : chkF Go.Proofs.Tryd.prog fid_cmp_Compare_int c_cmp_Compare_int = true := by kernel_rfl

def c_spec_l1Same : F2 :=
  { nt := 26, res := [.t 4 [0]], body :=
   (.sq (.rg none [⟨some 4, none, .mv (.k (.bool false)) none⟩])
   (.sq (.sq (.rg none [⟨some 6, none, .mv (.t 0) none⟩,
       ⟨some 7, none, .ln (.t 6)⟩,
       ⟨some 8, none, .mv (.t 1) none⟩,
       ⟨some 9, none, .ln (.t 8)⟩,
       ⟨some 10, none, .bi .neq 0 (.t 7) (.t 9)⟩])
    (.cd (.t 10) (.sq (.rg none [⟨some 4, none, .mv (.k (.bool false)) none⟩])
     (.rt))
    (.sk)))
   (.sq (.sq (.rg none [⟨some 5, none, .mv (.k (.int .i64 0)) none⟩])
    (.bl 0 (.lp [0, 1, 5] [] (.sq (.sq (.rg none [⟨some 11, none, .mv (.t 5) none⟩,
          ⟨some 12, none, .mv (.t 0) none⟩,
          ⟨some 13, none, .ln (.t 12)⟩,
          ⟨some 14, none, .bi .lss 0 (.t 11) (.t 13)⟩])
       (.cd (.t 14) (.sk)
       (.ex 0)))
      (.sq (.bl 1 (.sq (.rg (some 0) [⟨some 17, none, .mv (.t 0) none⟩,
           ⟨some 18, none, .mv (.t 5) none⟩,
           ⟨some 19, none, .ia 1 (.t 17) (.t 18)⟩,
           ⟨some 20, none, .ld none (.t 19)⟩,
           ⟨some 21, none, .mv (.t 1) none⟩,
           ⟨some 22, none, .mv (.t 5) none⟩,
           ⟨some 23, none, .ia 1 (.t 21) (.t 22)⟩,
           ⟨some 24, none, .ld none (.t 23)⟩,
           ⟨some 25, none, .bi .neq 0 (.t 20) (.t 24)⟩])
        (.cd (.t 25) (.sq (.rg none [⟨some 4, none, .mv (.k (.bool false)) none⟩])
         (.rt))
        (.sk))))
      (.rg none [⟨some 15, none, .mv (.t 5) none⟩,
        ⟨some 16, none, .bi .add 0 (.t 15) (.k (.int .i64 1))⟩,
        ⟨some 5, none, .mv (.t 16) none⟩]))))))
   (.sq (.rg none [⟨some 4, none, .mv (.k (.bool true)) none⟩])
   (.rt))))) }
theorem k_spec_l1Same : chkF Go.Proofs.Tryd.prog fid_spec_l1Same c_spec_l1Same = true := by kernel_rfl

def c_slices_Index_int_int : F2 :=
  { nt := 19, res := [.t 4 [0]], body :=
   (.sq (.rg none [⟨some 4, none, .mv (.k (.int .i64 0)) none⟩])
   (.sq (.sq (.rg none [⟨some 6, none, .mv (.t 0) none⟩,
       ⟨some 7, none, .ln (.t 6)⟩,
       ⟨some 8, none, .mv (.k (.int .i64 0)) none⟩])
    (.bl 0 (.lp [0, 1, 7, 8] [] (.sq (.rg none [⟨some 9, none, .bi .lss 0 (.t 8) (.t 7)⟩])
      (.sq (.cd (.t 9) (.sk)
       (.ex 0))
      (.sq (.bl 1 (.sq (.rg none [⟨some 10, none, .mv (.t 8) none⟩,
           ⟨some 5, none, .mv (.t 10) none⟩])
        (.sq (.rg none [⟨some 11, none, .mv (.t 1) none⟩,
           ⟨some 12, none, .mv (.t 0) none⟩,
           ⟨some 13, none, .mv (.t 5) none⟩,
           ⟨some 14, none, .ia 1 (.t 12) (.t 13)⟩,
           ⟨some 15, none, .ld none (.t 14)⟩,
           ⟨some 16, none, .bi .eql 0 (.t 11) (.t 15)⟩])
        (.cd (.t 16) (.sq (.rg none [⟨some 17, none, .mv (.t 5) none⟩,
            ⟨some 4, none, .mv (.t 17) none⟩])
         (.rt))
        (.sk)))))
      (.rg none [⟨some 18, none, .bi .add 0 (.t 8) (.k (.int .i64 1))⟩,
        ⟨some 8, none, .mv (.t 18) none⟩])))))))
   (.sq (.rg none [⟨some 4, none, .mv (.k (.int .i64 (-1))) none⟩])
   (.rt)))) }
theorem k_slices_Index_int_int : chkF Go.Proofs.Tryd.prog fid_slices_Index_int_int c_slices_Index_int_int = true := by kernel_rfl

def c_cmp_isNaN_int : F2 :=
  { nt := 6, res := [.t 2 [0]], body :=
   (.sq (.rg none [⟨some 2, none, .mv (.k (.bool false)) none⟩])
   (.sq (.rg none [⟨some 3, none, .mv (.t 0) none⟩,
      ⟨some 4, none, .mv (.t 0) none⟩,
      ⟨some 5, none, .bi .neq 0 (.t 3) (.t 4)⟩,
      ⟨some 2, none, .mv (.t 5) none⟩])
   (.rt))) }
theorem k_cmp_isNaN_int : chkF Go.Proofs.Tryd.prog fid_cmp_isNaN_int c_cmp_isNaN_int = true := by kernel_rfl

end Go.Fd

/-
  ANNOTATED CODES OF GO'S GENERIC FUNCTIONS ON SLICES, AT ANY ELEMENT (printed by generic.py out of one instance each). Own work.
-/
namespace Go.Fd
def gIxF (k : Nat) (m : Option Nat) : F2 :=
  { nt := 19, res := [.t 4 [0]], body :=
   (.sq (.rg none [⟨some 4, none, .mv (.k (.int .i64 0)) none⟩])
   (.sq (.sq (.rg none [⟨some 6, none, .mv (.t 0) none⟩,
       ⟨some 7, none, .ln (.t 6)⟩,
       ⟨some 8, none, .mv (.k (.int .i64 0)) none⟩])
    (.bl 0 (.lp [0, 1, 7, 8] [] (.sq (.rg none [⟨some 9, none, .bi .lss 0 (.t 8) (.t 7)⟩])
      (.sq (.cd (.t 9) (.sk)
       (.ex 0))
      (.sq (.bl 1 (.sq (.rg none [⟨some 10, none, .mv (.t 8) none⟩,
           ⟨some 5, none, .mv (.t 10) none⟩])
        (.sq (.rg none [⟨some 11, none, .mv (.t 1) none⟩,
           ⟨some 12, none, .mv (.t 0) none⟩,
           ⟨some 13, none, .mv (.t 5) none⟩,
           ⟨some 14, none, .ia k (.t 12) (.t 13)⟩,
           ⟨some 15, none, .ld m (.t 14)⟩,
           ⟨some 16, none, .ca .pure false (.t 11) [.t 15]⟩])
        (.cd (.t 16) (.sq (.rg none [⟨some 17, none, .mv (.t 5) none⟩,
            ⟨some 4, none, .mv (.t 17) none⟩])
         (.rt))
        (.sk)))))
      (.rg none [⟨some 18, none, .bi .add 0 (.t 8) (.k (.int .i64 1))⟩,
        ⟨some 8, none, .mv (.t 18) none⟩])))))))
   (.sq (.rg none [⟨some 4, none, .mv (.k (.int .i64 (-1))) none⟩])
   (.rt)))) }
def gCoF (fi : FuncId) : F2 :=
  { nt := 9, res := [.t 4 [0]], body :=
   (.sq (.rg none [⟨some 4, none, .mv (.k (.bool false)) none⟩])
   (.sq (.rg none [⟨some 5, none, .mv (.t 0) none⟩,
      ⟨some 6, none, .mv (.t 1) none⟩,
      ⟨some 7, none, .ca .pure false (.f fi) [.t 5, .t 6]⟩,
      ⟨some 8, none, .bi .geq 0 (.t 7) (.k (.int .i64 0))⟩,
      ⟨some 4, none, .mv (.t 8) none⟩])
   (.rt))) }
def gEqF (k : Nat) (m : Option Nat) : F2 :=
  { nt := 32, res := [.t 6 [0]], body :=
   (.sq (.rg none [⟨some 6, none, .mv (.k (.bool false)) none⟩])
   (.sq (.sq (.rg none [⟨some 10, none, .mv (.t 0) none⟩,
       ⟨some 11, none, .ln (.t 10)⟩,
       ⟨some 12, none, .mv (.t 1) none⟩,
       ⟨some 13, none, .ln (.t 12)⟩,
       ⟨some 14, none, .bi .neq 0 (.t 11) (.t 13)⟩])
    (.cd (.t 14) (.sq (.rg none [⟨some 6, none, .mv (.k (.bool false)) none⟩])
     (.rt))
    (.sk)))
   (.sq (.sq (.rg none [⟨some 15, none, .mv (.t 0) none⟩,
       ⟨some 16, none, .ln (.t 15)⟩,
       ⟨some 17, none, .mv (.k (.int .i64 0)) none⟩])
    (.bl 0 (.lp [1, 2, 15, 16, 17] [] (.sq (.rg none [⟨some 18, none, .bi .lss 0 (.t 17) (.t 16)⟩])
      (.sq (.cd (.t 18) (.sk)
       (.ex 0))
      (.sq (.bl 1 (.sq (.rg none [⟨some 19, none, .mv (.t 17) none⟩,
           ⟨some 20, none, .ia k (.t 15) (.t 17)⟩,
           ⟨some 21, none, .ld m (.t 20)⟩,
           ⟨some 7, none, .mv (.t 19) none⟩,
           ⟨some 8, none, .mv (.t 21) none⟩])
        (.sq (.rg none [⟨some 22, none, .mv (.t 1) none⟩,
           ⟨some 23, none, .mv (.t 7) none⟩,
           ⟨some 24, none, .ia k (.t 22) (.t 23)⟩,
           ⟨some 25, none, .ld m (.t 24)⟩,
           ⟨some 9, none, .mv (.t 25) none⟩])
        (.sq (.rg none [⟨some 26, none, .mv (.t 2) none⟩,
           ⟨some 27, none, .mv (.t 8) none⟩,
           ⟨some 28, none, .mv (.t 9) none⟩,
           ⟨some 29, none, .ca .pure false (.t 26) [.t 27, .t 28]⟩,
           ⟨some 30, none, .nt (.t 29)⟩])
        (.cd (.t 30) (.sq (.rg none [⟨some 6, none, .mv (.k (.bool false)) none⟩])
         (.rt))
        (.sk))))))
      (.rg none [⟨some 31, none, .bi .add 0 (.t 17) (.k (.int .i64 1))⟩,
        ⟨some 17, none, .mv (.t 31) none⟩])))))))
   (.sq (.rg none [⟨some 6, none, .mv (.k (.bool true)) none⟩])
   (.rt))))) }
def gEq1  : F2 :=
  { nt := 26, res := [.t 4 [0]], body :=
   (.sq (.rg none [⟨some 4, none, .mv (.k (.bool false)) none⟩])
   (.sq (.sq (.rg none [⟨some 6, none, .mv (.t 0) none⟩,
       ⟨some 7, none, .ln (.t 6)⟩,
       ⟨some 8, none, .mv (.t 1) none⟩,
       ⟨some 9, none, .ln (.t 8)⟩,
       ⟨some 10, none, .bi .neq 0 (.t 7) (.t 9)⟩])
    (.cd (.t 10) (.sq (.rg none [⟨some 4, none, .mv (.k (.bool false)) none⟩])
     (.rt))
    (.sk)))
   (.sq (.sq (.rg none [⟨some 11, none, .mv (.t 0) none⟩,
       ⟨some 12, none, .ln (.t 11)⟩,
       ⟨some 13, none, .mv (.k (.int .i64 0)) none⟩])
    (.bl 0 (.lp [0, 1, 12, 13] [] (.sq (.rg none [⟨some 14, none, .bi .lss 0 (.t 13) (.t 12)⟩])
      (.sq (.cd (.t 14) (.sk)
       (.ex 0))
      (.sq (.bl 1 (.sq (.rg none [⟨some 15, none, .mv (.t 13) none⟩,
           ⟨some 5, none, .mv (.t 15) none⟩])
        (.sq (.rg (some 0) [⟨some 16, none, .mv (.t 0) none⟩,
           ⟨some 17, none, .mv (.t 5) none⟩,
           ⟨some 18, none, .ia 1 (.t 16) (.t 17)⟩,
           ⟨some 19, none, .ld none (.t 18)⟩,
           ⟨some 20, none, .mv (.t 1) none⟩,
           ⟨some 21, none, .mv (.t 5) none⟩,
           ⟨some 22, none, .ia 1 (.t 20) (.t 21)⟩,
           ⟨some 23, none, .ld none (.t 22)⟩,
           ⟨some 24, none, .bi .neq 0 (.t 19) (.t 23)⟩])
        (.cd (.t 24) (.sq (.rg none [⟨some 4, none, .mv (.k (.bool false)) none⟩])
         (.rt))
        (.sk)))))
      (.rg none [⟨some 25, none, .bi .add 0 (.t 13) (.k (.int .i64 1))⟩,
        ⟨some 13, none, .mv (.t 25) none⟩])))))))
   (.sq (.rg none [⟨some 4, none, .mv (.k (.bool true)) none⟩])
   (.rt))))) }
def gIxK (k : Nat) (ks : List Nat) : F2 :=
  { nt := 19, res := [.t 4 [0]], body :=
   (.sq (.rg none [⟨some 3, none, .bt (.t 1)⟩,
      ⟨some 4, none, .mv (.k (.int .i64 0)) none⟩])
   (.sq (.sq (.rg none [⟨some 6, none, .mv (.t 0) none⟩,
       ⟨some 7, none, .ln (.t 6)⟩,
       ⟨some 8, none, .mv (.k (.int .i64 0)) none⟩])
    (.bl 0 (.lp [0, 3, 7, 8] [] (.sq (.rg none [⟨some 9, none, .bi .lss 0 (.t 8) (.t 7)⟩])
      (.sq (.cd (.t 9) (.sk)
       (.ex 0))
      (.sq (.bl 1 (.sq (.rg none [⟨some 10, none, .mv (.t 8) none⟩,
           ⟨some 5, none, .mv (.t 10) none⟩])
        (.sq (.rg (some 0) [⟨some 11, none, .ld (some k) (.t 3)⟩,
           ⟨some 12, none, .mv (.t 0) none⟩,
           ⟨some 13, none, .mv (.t 5) none⟩,
           ⟨some 14, none, .ia k (.t 12) (.t 13)⟩,
           ⟨some 15, none, .ld (some k) (.t 14)⟩,
           ⟨some 16, none, .qa false ks (.t 11) (.t 15)⟩])
        (.cd (.t 16) (.sq (.rg none [⟨some 17, none, .mv (.t 5) none⟩,
            ⟨some 4, none, .mv (.t 17) none⟩])
         (.rt))
        (.sk)))))
      (.rg none [⟨some 18, none, .bi .add 0 (.t 8) (.k (.int .i64 1))⟩,
        ⟨some 8, none, .mv (.t 18) none⟩])))))))
   (.sq (.rg none [⟨some 4, none, .mv (.k (.int .i64 (-1))) none⟩])
   (.rt)))) }
def gCoK (k : Nat) (fi : FuncId) : F2 :=
  { nt := 9, res := [.t 4 [0]], body :=
   (.sq (.rg none [⟨some 3, none, .bt (.t 1)⟩,
      ⟨some 4, none, .mv (.k (.bool false)) none⟩])
   (.sq (.rg none [⟨some 5, none, .mv (.t 0) none⟩,
      ⟨some 6, none, .ld (some k) (.t 3)⟩,
      ⟨some 7, none, .ca .pure false (.f fi) [.t 5, .t 6]⟩,
      ⟨some 8, none, .bi .geq 0 (.t 7) (.k (.int .i64 0))⟩,
      ⟨some 4, none, .mv (.t 8) none⟩])
   (.rt))) }
end Go.Fd

/-
  GO'S GENERIC FUNCTIONS ON SLICES, AT ANY ELEMENT. Own work.
-/
namespace Go.Fd
set_option maxRecDepth 20000

section rules
variable {L : Sto} {F : List IV → Prop} {lvl : Nat}
theorem r_snta : ∀ {l : List (List Tr)} {F : List IV → Prop}, snaps L (l.map IV.ta) F = F (l.map IV.ta)
  | [], F => r_sn0
  | x :: r, F => by
    simp only [List.map_cons]
    rw [r_sn5, r_snta]
    rfl
theorem r_mensta {Pd : Oid → Prop} : ∀ {l : List (List Tr)}, mens Pd (l.map IV.ta) = True
  | [] => rfl
  | x :: r => by
    simp only [List.map_cons, mens, men, true_and]
    exact r_mensta
theorem r_okmsta {js : List Nat} {l : List (List Tr)} : okms lvl js (l.map IV.ta) = True := r_mensta
end rules

theorem r_allc {l : List Tr} : (l.map IV.tr).all isCell = true := by simp [isCell]
theorem totrs_tr : ∀ (l : List Tr), ∃ u, totrs (l.map .tr) = some (l, u)
  | [] => ⟨true, rfl⟩
  | x :: r => by
    obtain ⟨u, h⟩ := totrs_tr r
    cases x with
    | v y => exact ⟨true && u, by simp only [List.map_cons, totrs, totr, h]⟩
    | sl es => exact ⟨false && u, by simp only [List.map_cons, totrs, totr, h]⟩
noncomputable def trsU (l : List Tr) : Bool := Classical.choose (totrs_tr l)
/-- A struct of trees as an argument is boxed. -/
theorem r_totrs {l : List Tr} : totrs (l.map .tr) = some (l, trsU l) := Classical.choose_spec (totrs_tr l)
section
variable {P : Program} {α : Type}
theorem getA {α β : Type} {c : α → β} {l : List α} {j : Nat} (h : j < l.length) : (l.map c)[j]? = some (c l[j]) := by simp [h]
theorem cut_take0 {α : Type} {c : α → List Tr} {l : List α} {j : Nat} : cut (l.map c) 0 (j - 0) = (l.take j).map c := by
  simp only [cut, List.drop_zero, Nat.sub_zero, List.map_take]
theorem drop_cons {α : Type} {l : List α} {j : Nat} (h : j < l.length) : l.drop j = l[j] :: l.drop (j + 1) := List.drop_eq_getElem_cons h

/-- The first place that answers true, -1 for none. -/
def ixF (f : α → Bool) : List α → Int → Int
  | [], _ => -1
  | x :: r, j => if f x = true then j else ixF f r (j + 1)
theorem ixF_cons {f : α → Bool} {x : α} {r : List α} {j : Int} : ixF f (x :: r) j = if f x = true then j else ixF f r (j + 1) := rfl
theorem ixF_any {f : α → Bool} : ∀ {l : List α} {j : Int}, 0 ≤ j → (0 ≤ ixF f l j ↔ l.any f = true)
  | [], j, _ => by simp [ixF]
  | x :: r, j, h => by
    rw [ixF_cons, List.any_cons]
    cases hx : f x with
    | true => simp [h]
    | false =>
      simp only [Bool.false_eq_true, if_false, Bool.false_or]
      exact ixF_any (by omega)

theorem sem_ixF1 {fid : FuncId} (hc : chkF P fid (gIxF 1 none) = true) {t : α → Tr} {f : α → Bool} {fe : FuncId} {cs : List (List Tr)} (l : List α) (hl : l.length ≤ 9223372036854775807)
    (hf : ∀ x ∈ l, ∀ lvl S, Sem P fe lvl (.tr (t x) :: cs.map IV.ta) S (iB (f x)) S) (lvl : Nat) (S : Sto) : Sem P fid lvl [.tr (.sl (l.map fun x => [t x])), .fn fe (cs.map IV.ta)] S (iI (ixF f l 0)) S := by
  refine sem_of_chk hc trivial ?_
  simp only [gIxF, List.length_map, r_cons, r_nil, r_kont, r_seq1, r_rg, r_sq, r_bl, r_wpF, r_op1, r_go1, r_mv, r_ln, r_ln1, ptd, lk, pt, xv, kv, kc, params, ↓reduceIte, Nat.reduceEqDiff, reduceCtorEq, List.length_cons, List.length_nil, Nat.reduceAdd, Nat.reduceLeDiff, Nat.reduceLT, true_and, Nat.zero_add, List.length_map]
  refine wp_cnt (α := Unit) l.length (fun j _ => [(8, iI j)]) (fun _ _ => []) (fun j _ => ixF f (l.drop j) j = ixF f l 0) () (by simp only [r_okmsta, r_clean, r_okm4, r_okm8, r_okE0, r_okE1, r_okL0, ↓reduceIte, Nat.reduceEqDiff, reduceCtorEq, memB, keepB, keepOB, Bool.false_eq_true, and_self]) (by (simp only [r_fgt, r_chg, r_pts0, r_pts1, r_ptOs0, pt, ↓reduceIte, Nat.reduceEqDiff, reduceCtorEq, Nat.reduceLT, memB, keepB, keepOB, Bool.false_eq_true, Int.cast_ofNat_Int]) <;> rfl) rfl ?_
  intro j _ hj hA
  simp only [r_cons, r_nil, r_kont, r_seq1, r_seq2, r_blk2, r_fn2, r_sk, r_rg, r_sq, r_bl, r_ex, r_rt, r_cd, r_cd2, r_op1, r_go1, r_mv, r_bi, r_lti, r_ixn, r_ia, r_ia1, r_fin, r_kfe1, r_kcx, r_exps0, r_exps1, r_kex, r_exp1, r_expv2, r_fgt, r_round2, r_chg, r_pts0, r_pts1, r_ptOs0, ptd, lk, pt, xv, kv, kc, ↓reduceIte, Nat.reduceEqDiff, reduceCtorEq, Nat.reduceLT, true_and, and_true, decide_eq_true_eq, memB, keepB, keepOB, Bool.false_eq_true, Int.toNat_natCast, Int.natCast_nonneg]
  refine ite_of (fun hlt => ?_) (fun hge => ?_)
  · have hja : j < l.length := by omega
    have ga := getA (c := fun x => [t x]) hja
    rw [drop_cons hja, ixF_cons] at hA
    simp only [ga, r_snta, r_mensta, r_cons, r_kont, r_op1, r_go1, r_op3, r_iae, r_ltr, r_ld, r_ld1, r_kcn, r_sn1, r_ca, r_ca1, ptd, lk, pt, xv, ↓reduceIte, Nat.reduceEqDiff, reduceCtorEq, List.length_cons, List.length_nil, Nat.reduceLT, true_and, List.map_cons, List.map_nil, List.cons_append, List.nil_append, List.getElem?_cons_zero, mens, men, Nat.zero_add, and_self]
    refine kca_intro (hf _ (List.getElem_mem hja)) ?_
    simp only [r_mensta, r_cons, r_nil, r_kont, r_seq1, r_seq3, r_blk1, r_blk3, r_fn2, r_sk, r_rg, r_sq, r_rt, r_cd, r_cd2, r_op1, r_go1, r_mv, r_bi, r_add0, r_fin, r_kfe1, r_kcx, r_exps0, r_exps1, r_kex, r_exp1, r_expv2, r_fgt, r_clean, r_okm4, r_okm8, r_okE0, r_okE1, r_okL0, r_round1, r_round3, r_lt1, ptd, keyOf, freshK, lk, pt, addO, xv, kv, kc, ↓reduceIte, Nat.reduceEqDiff, Nat.reduceMul, reduceCtorEq, List.length_nil, Nat.reduceLT, true_and, and_true, noSh, isSc, impv, memB, keepB, keepOB, or_true, Bool.false_eq_true, and_self]
    refine ite_of (fun h => ?_) (fun h => ?_)
    · rw [if_pos h] at hA
      rw [← hA]
    · rw [if_neg h] at hA
      exact ⟨by rw [fits_i64]; omega, cntJ_intro () hja rfl hA⟩
  · have : j = l.length := by omega
    subst this
    rw [List.drop_length] at hA
    rw [← hA]
    rfl
theorem sem_ixFk {k : Nat} {fid : FuncId} (hc : chkF P fid (gIxF k (some k)) = true) {c : α → List Tr} (hk : ∀ x, (c x).length = k) {f : α → Bool} {fe : FuncId} {cs : List (List Tr)} (l : List α) (hl : l.length ≤ 9223372036854775807)
    (hf : ∀ x ∈ l, ∀ lvl S, Sem P fe lvl (.ag ((c x).map .tr) :: cs.map IV.ta) S (iB (f x)) S) (lvl : Nat) (S : Sto) : Sem P fid lvl [.tr (.sl (l.map c)), .fn fe (cs.map IV.ta)] S (iI (ixF f l 0)) S := by
  refine sem_of_chk hc trivial ?_
  simp only [gIxF, List.length_map, r_cons, r_nil, r_kont, r_seq1, r_rg, r_sq, r_bl, r_wpF, r_op1, r_go1, r_mv, r_ln, r_ln1, ptd, lk, pt, xv, kv, kc, params, ↓reduceIte, Nat.reduceEqDiff, reduceCtorEq, List.length_cons, List.length_nil, Nat.reduceAdd, Nat.reduceLeDiff, Nat.reduceLT, true_and, Nat.zero_add, List.length_map]
  refine wp_cnt (α := Unit) l.length (fun j _ => [(8, iI j)]) (fun _ _ => []) (fun j _ => ixF f (l.drop j) j = ixF f l 0) () (by simp only [r_okmsta, r_clean, r_okm4, r_okm8, r_okE0, r_okE1, r_okL0, ↓reduceIte, Nat.reduceEqDiff, reduceCtorEq, memB, keepB, keepOB, Bool.false_eq_true, and_self]) (by (simp only [r_fgt, r_chg, r_pts0, r_pts1, r_ptOs0, pt, ↓reduceIte, Nat.reduceEqDiff, reduceCtorEq, Nat.reduceLT, memB, keepB, keepOB, Bool.false_eq_true, Int.cast_ofNat_Int]) <;> rfl) rfl ?_
  intro j _ hj hA
  simp only [r_cons, r_nil, r_kont, r_seq1, r_seq2, r_blk2, r_fn2, r_sk, r_rg, r_sq, r_bl, r_ex, r_rt, r_cd, r_cd2, r_op1, r_go1, r_mv, r_bi, r_lti, r_ixn, r_ia, r_ia1, r_fin, r_kfe1, r_kcx, r_exps0, r_exps1, r_kex, r_exp1, r_expv2, r_fgt, r_round2, r_chg, r_pts0, r_pts1, r_ptOs0, ptd, lk, pt, xv, kv, kc, ↓reduceIte, Nat.reduceEqDiff, reduceCtorEq, Nat.reduceLT, true_and, and_true, decide_eq_true_eq, memB, keepB, keepOB, Bool.false_eq_true, Int.toNat_natCast, Int.natCast_nonneg]
  refine ite_of (fun hlt => ?_) (fun hge => ?_)
  · have hja : j < l.length := by omega
    have ga := getA (c := c) hja
    have hkk := hk l[j]
    have htk : (c l[j]).take k = c l[j] := List.take_of_length_le (by omega)
    rw [drop_cons hja, ixF_cons] at hA
    simp only [ga, hkk, htk, r_snta, r_snm, r_mensta, r_mensm, r_cons, r_kont, r_op1, r_go1, r_op3, r_iae, r_ld, r_ld4, r_kcn, r_kagn, r_sn3, r_ca, r_ca1, r_snm, r_mensm, ptd, lk, pt, xv, ↓reduceIte, Nat.reduceEqDiff, reduceCtorEq, Nat.reduceLT, true_and, List.map_cons, List.map_nil, List.cons_append, List.nil_append, mens, men, Nat.le_refl, and_self]
    refine kca_intro (hf _ (List.getElem_mem hja)) ?_
    simp only [r_mensta, r_cons, r_nil, r_kont, r_seq1, r_seq3, r_blk1, r_blk3, r_fn2, r_sk, r_rg, r_sq, r_rt, r_cd, r_cd2, r_op1, r_go1, r_mv, r_bi, r_add0, r_fin, r_kfe1, r_kcx, r_exps0, r_exps1, r_kex, r_exp1, r_expv2, r_fgt, r_clean, r_okm4, r_okm8, r_okE0, r_okE1, r_okL0, r_round1, r_round3, r_lt1, ptd, keyOf, freshK, lk, pt, addO, xv, kv, kc, ↓reduceIte, Nat.reduceEqDiff, Nat.reduceMul, reduceCtorEq, List.length_nil, Nat.reduceLT, true_and, and_true, noSh, isSc, impv, memB, keepB, keepOB, or_true, Bool.false_eq_true, and_self]
    refine ite_of (fun h => ?_) (fun h => ?_)
    · rw [if_pos h] at hA
      rw [← hA]
    · rw [if_neg h] at hA
      exact ⟨by rw [fits_i64]; omega, cntJ_intro () hja rfl hA⟩
  · have : j = l.length := by omega
    subst this
    rw [List.drop_length] at hA
    rw [← hA]
    rfl
theorem sem_coF {fid fi : FuncId} (hc : chkF P fid (gCoF fi) = true) {es : Row} {f : α → Bool} {fe : FuncId} {cs : List (List Tr)} {l : List α}
    (hi : ∀ lvl S, Sem P fi lvl [.tr (.sl es), .fn fe (cs.map IV.ta)] S (iI (ixF f l 0)) S) (lvl : Nat) (S : Sto) : Sem P fid lvl [.tr (.sl es), .fn fe (cs.map IV.ta)] S (iB (l.any f)) S := by
  refine sem_of_chk hc trivial ?_
  simp only [gCoF, r_snta, r_mensta, r_cons, r_nil, r_kont, r_seq1, r_rg, r_sq, r_wpF, r_op1, r_mv, r_kcn, r_kfnn, r_sn0, r_sn1, r_sn4, r_ca, r_ca1, ptd, lk, pt, xv, kv, kc, params, ↓reduceIte, Nat.reduceEqDiff, reduceCtorEq, List.length_cons, List.length_nil, Nat.reduceAdd, Nat.reduceLeDiff, Nat.reduceLT, true_and, List.map_cons, List.map_nil, List.cons_append, List.nil_append, mens, men, Nat.zero_add, and_self]
  refine kca_intro hi ?_
  simp only [r_cons, r_nil, r_kont, r_seq1, r_fn2, r_rt, r_op1, r_go1, r_mv, r_bi, r_gei, r_fin, r_kfe1, r_kcx, r_exps0, r_exps1, r_kex, r_exp1, r_expv2, ptd, keyOf, freshK, lk, pt, addO, xv, kv, kc, ↓reduceIte, Nat.reduceEqDiff, Nat.reduceMul, reduceCtorEq, List.length_nil, Nat.reduceLT, true_and, and_true, noSh, isSc, impv, or_true]
  have := ixF_any (f := f) (l := l) (Int.le_refl 0)
  by_cases h : l.any f = true
  · simp [h, this.2 h]
  · simp [h, mt this.1 h]
theorem sem_coF1 {fid fi : FuncId} (hc : chkF P fid (gCoF fi) = true) (hi : chkF P fi (gIxF 1 none) = true) {t : α → Tr} {f : α → Bool} {fe : FuncId} {cs : List (List Tr)} (l : List α) (hl : l.length ≤ 9223372036854775807)
    (hf : ∀ x ∈ l, ∀ lvl S, Sem P fe lvl (.tr (t x) :: cs.map IV.ta) S (iB (f x)) S) (lvl : Nat) (S : Sto) : Sem P fid lvl [.tr (.sl (l.map fun x => [t x])), .fn fe (cs.map IV.ta)] S (iB (l.any f)) S :=
  sem_coF hc (sem_ixF1 hi l hl hf) lvl S
theorem sem_coFk {k : Nat} {fid fi : FuncId} (hc : chkF P fid (gCoF fi) = true) (hi : chkF P fi (gIxF k (some k)) = true) {c : α → List Tr} (hk : ∀ x, (c x).length = k) {f : α → Bool} {fe : FuncId} {cs : List (List Tr)} (l : List α) (hl : l.length ≤ 9223372036854775807)
    (hf : ∀ x ∈ l, ∀ lvl S, Sem P fe lvl (.ag ((c x).map .tr) :: cs.map IV.ta) S (iB (f x)) S) (lvl : Nat) (S : Sto) : Sem P fid lvl [.tr (.sl (l.map c)), .fn fe (cs.map IV.ta)] S (iB (l.any f)) S :=
  sem_coF hc (sem_ixFk hi hk l hl hf) lvl S

/-! ## equal slices -/
theorem sem_eqF1 {fid : FuncId} (hc : chkF P fid (gEqF 1 none) = true) [DecidableEq α] {t : α → Tr} {fe : FuncId} {cs : List (List Tr)} (a b : List α) (ha : a.length ≤ 9223372036854775807)
    (hf : ∀ x ∈ a, ∀ y ∈ b, ∀ lvl S, Sem P fe lvl (.tr (t x) :: .tr (t y) :: cs.map IV.ta) S (iB (decide (x = y))) S) (lvl : Nat) (S : Sto) : Sem P fid lvl [.tr (.sl (a.map fun x => [t x])), .tr (.sl (b.map fun x => [t x])), .fn fe (cs.map IV.ta)] S (iB (decide (a = b))) S := by
  refine sem_of_chk hc trivial ?_
  simp only [gEqF, List.length_map, r_cons, r_nil, r_kont, r_seq1, r_seq3, r_fn2, r_sk, r_rg, r_sq, r_bl, r_rt, r_cd, r_cd2, r_wpF, r_op1, r_go1, r_mv, r_bi, r_nei, r_ln, r_ln1, r_fin, r_kfe1, r_kcx, r_exps0, r_exps1, r_kex, r_exp1, r_expv2, ptd, lk, pt, xv, kv, kc, params, ↓reduceIte, Nat.reduceEqDiff, reduceCtorEq, List.length_cons, List.length_nil, Nat.reduceAdd, Nat.reduceLeDiff, Nat.reduceLT, true_and, and_true, decide_eq_true_eq, Nat.zero_add, ne_eq, List.length_map]
  refine ite_of (fun h => ?_) (fun h => ?_)
  · have : ¬ a = b := fun e => h (by rw [e])
    simp [this]
  have hlen : a.length = b.length := by omega
  refine wp_cnt (α := Unit) a.length (fun j _ => [(17, iI j)]) (fun _ _ => []) (fun j _ => a.take j = b.take j) () (by simp only [r_okmsta, r_clean, r_okm4, r_okm8, r_okE0, r_okE1, r_okL0, ↓reduceIte, Nat.reduceEqDiff, reduceCtorEq, memB, keepB, keepOB, Bool.false_eq_true, and_self]) (by (simp only [r_fgt, r_chg, r_pts0, r_pts1, r_ptOs0, pt, ↓reduceIte, Nat.reduceEqDiff, reduceCtorEq, Nat.reduceLT, memB, keepB, keepOB, Bool.false_eq_true, Int.cast_ofNat_Int]) <;> rfl) rfl ?_
  intro j _ hj hA
  simp only [r_cons, r_nil, r_kont, r_seq1, r_seq2, r_blk2, r_fn2, r_sk, r_rg, r_sq, r_bl, r_ex, r_rt, r_cd, r_cd2, r_op1, r_go1, r_mv, r_bi, r_lti, r_ixn, r_ia, r_ia1, r_fin, r_kfe1, r_kcx, r_exps0, r_exps1, r_kex, r_exp1, r_expv2, r_fgt, r_round2, r_chg, r_pts0, r_pts1, r_ptOs0, ptd, lk, pt, xv, kv, kc, ↓reduceIte, Nat.reduceEqDiff, reduceCtorEq, Nat.reduceLT, true_and, and_true, decide_eq_true_eq, memB, keepB, keepOB, Bool.false_eq_true, Int.toNat_natCast, Int.natCast_nonneg]
  refine ite_of (fun hlt => ?_) (fun hge => ?_)
  · have hja : j < a.length := by omega
    have hjb : j < b.length := by omega
    have ga := getA (c := fun x => [t x]) hja
    have gb := getA (c := fun x => [t x]) hjb
    simp only [ga, gb, r_snta, r_mensta, r_cons, r_nil, r_kont, r_seq1, r_rg, r_sq, r_op1, r_go1, r_mv, r_op3, r_ixn, r_ia, r_iae, r_ia1, r_ltr, r_ld, r_ld1, r_kcn, r_sn1, r_ca, r_ca1, ptd, lk, pt, xv, ↓reduceIte, Nat.reduceEqDiff, List.length_cons, List.length_nil, Nat.reduceLT, true_and, List.map_cons, List.map_nil, List.cons_append, List.nil_append, List.getElem?_cons_zero, mens, men, Int.toNat_natCast, Nat.zero_add, Int.natCast_nonneg, and_self]
    refine kca_intro (hf _ (List.getElem_mem hja) _ (List.getElem_mem hjb)) ?_
    simp only [r_mensta, r_cons, r_nil, r_kont, r_seq1, r_seq3, r_blk1, r_blk3, r_fn2, r_sk, r_rg, r_sq, r_rt, r_cd, r_cd2, r_op1, r_go1, r_mv, r_bi, r_add0, r_nt, r_nt1, r_fin, r_kfe1, r_kcx, r_exps0, r_exps1, r_kex, r_exp1, r_expv2, r_fgt, r_clean, r_okm4, r_okm8, r_okE0, r_okE1, r_okL0, r_round1, r_round3, r_lt1, ptd, keyOf, freshK, lk, pt, addO, xv, kv, kc, ↓reduceIte, Nat.reduceEqDiff, Nat.reduceMul, List.length_nil, Nat.reduceLT, true_and, and_true, noSh, isSc, impv, memB, keepB, keepOB, or_true, Bool.false_eq_true, Bool.not_eq_true', and_self]
    refine ite_of (fun hne => ?_) (fun he => ?_)
    · have : ¬ a = b := list_ne_at hja hjb (by simpa using hne)
      simp [this]
    · exact ⟨by rw [fits_i64]; omega, cntJ_intro () hja rfl (take_succ_eq hja hjb hA (by simpa using he))⟩
  · have : j = a.length := by omega
    subst this
    have : a = b := list_eq_all hlen hA
    simp [this]
/-- What the machine compares: numbers and strings. -/
structure Cmp (t : α → Tr) : Prop where
  neq : ∀ (x y : α) (F : IV → Prop), bi2 .neq 0 (.tr (t x)) (.tr (t y)) F = F (iB (!(@decide (x = y) (Classical.propDecidable _))))
  eql : ∀ (x y : α) (F : IV → Prop), bi2 .eql 0 (.tr (t x)) (.tr (t y)) F = F (iB (@decide (x = y) (Classical.propDecidable _)))
theorem cmpTI : Cmp tv := ⟨fun x y F => by rw [r_nei]; congr 2; by_cases h : x = y <;> simp [h], fun x y F => by rw [r_eqi]; congr 2; by_cases h : x = y <;> simp [h]⟩
theorem sem_eq1 {fid : FuncId} (hc : chkF P fid gEq1 = true) [DecidableEq α] {t : α → Tr} (hT : Cmp t) (a b : List α) (ha : a.length ≤ 9223372036854775807) (lvl : Nat) (S : Sto) : Sem P fid lvl [.tr (.sl (a.map fun x => [t x])), .tr (.sl (b.map fun x => [t x]))] S (iB (decide (a = b))) S := by
  refine sem_of_chk hc trivial ?_
  simp only [gEq1, List.length_map, r_cons, r_nil, r_kont, r_seq1, r_seq3, r_fn2, r_sk, r_rg, r_sq, r_bl, r_rt, r_cd, r_cd2, r_wpF, r_op1, r_go1, r_mv, r_bi, r_nei, r_ln, r_ln1, r_fin, r_kfe1, r_kcx, r_exps0, r_exps1, r_kex, r_exp1, r_expv2, ptd, lk, pt, xv, kv, kc, params, ↓reduceIte, Nat.reduceEqDiff, reduceCtorEq, List.length_cons, List.length_nil, Nat.reduceAdd, Nat.reduceLeDiff, Nat.reduceLT, true_and, and_true, decide_eq_true_eq, Nat.zero_add, ne_eq, List.length_map]
  refine ite_of (fun h => ?_) (fun h => ?_)
  · have : ¬ a = b := fun e => h (by rw [e])
    simp [this]
  have hlen : a.length = b.length := by omega
  refine wp_cnt (α := Unit) a.length (fun j _ => [(13, iI j)]) (fun _ _ => []) (fun j _ => a.take j = b.take j) () (by simp only [r_clean, r_okm4, r_okE0, r_okE1, r_okL0, ↓reduceIte, Nat.reduceEqDiff, reduceCtorEq, memB, keepB, keepOB, Bool.false_eq_true, and_self]) (by (simp only [r_fgt, r_chg, r_pts0, r_pts1, r_ptOs0, pt, ↓reduceIte, Nat.reduceEqDiff, reduceCtorEq, Nat.reduceLT, memB, keepB, keepOB, Bool.false_eq_true, Int.cast_ofNat_Int]) <;> rfl) rfl ?_
  intro j _ hj hA
  simp only [r_cons, r_nil, r_kont, r_seq1, r_seq2, r_blk2, r_fn2, r_sk, r_rg, r_sq, r_bl, r_ex, r_rt, r_cd, r_cd2, r_op1, r_go1, r_mv, r_bi, r_lti, r_ixn, r_ia, r_ia1, r_fin, r_kfe1, r_kcx, r_exps0, r_exps1, r_kex, r_exp1, r_expv2, r_fgt, r_round2, r_chg, r_pts0, r_pts1, r_ptOs0, ptd, lk, pt, xv, kv, kc, ↓reduceIte, Nat.reduceEqDiff, reduceCtorEq, Nat.reduceLT, true_and, and_true, decide_eq_true_eq, memB, keepB, keepOB, Bool.false_eq_true, Int.toNat_natCast, Int.natCast_nonneg]
  refine ite_of (fun hlt => ?_) (fun hge => ?_)
  · have hja : j < a.length := by omega
    have hjb : j < b.length := by omega
    have ga := getA (c := fun x => [t x]) hja
    have gb := getA (c := fun x => [t x]) hjb
    have hq := hT.neq a[j] b[j]
    simp only [ga, gb, hq, r_cons, r_nil, r_kont, r_seq1, r_seq3, r_blk1, r_blk3, r_fn2, r_sk, r_rg, r_sq, r_rt, r_cd, r_cd2, r_op1, r_go1, r_mv, r_bi, r_add0, r_op3, r_ixn, r_ia, r_iae, r_ia1, r_ltr, r_ld, r_ld1, r_fin, r_kfe1, r_kcx, r_exps0, r_exps1, r_kex, r_exp1, r_expv2, r_fgt, r_clean, r_okm4, r_okE0, r_okE1, r_okL0, r_round1, r_round3, r_lt1, ptd, lk, pt, xv, kv, kc, ↓reduceIte, Nat.reduceEqDiff, reduceCtorEq, List.length_cons, List.length_nil, Nat.reduceLT, true_and, and_true, List.getElem?_cons_zero, memB, keepB, keepOB, Bool.false_eq_true, Int.toNat_natCast, Nat.zero_add, Bool.not_eq_true', Int.natCast_nonneg, and_self]
    refine ite_of (fun hne => ?_) (fun he => ?_)
    · have : ¬ a = b := list_ne_at hja hjb (by simpa using hne)
      simp [this]
    · exact ⟨by rw [fits_i64]; omega, cntJ_intro () hja rfl (take_succ_eq hja hjb hA (by simpa using he))⟩
  · have : j = a.length := by omega
    subst this
    have : a = b := list_eq_all hlen hA
    simp [this]

/-! ## the place of an element -/
theorem any_mem [DecidableEq α] {l : List α} {v : α} : l.any (fun x => decide (v = x)) = decide (v ∈ l) := by
  rw [Bool.eq_iff_iff]
  simp [List.any_eq_true]
/-- Structs that the machine compares. -/
structure CmpK (k : Nat) (ks : List Nat) (c : α → List Tr) : Prop where
  len : ∀ x, (c x).length = k
  eql : ∀ (x y : α) (F : IV → Prop), eq2 ks (.ag ((c x).map .tr)) (.ag ((c y).map .tr)) false F = F (iB (@decide (x = y) (Classical.propDecidable _)))
theorem sem_ixK {k : Nat} {ks : List Nat} {fid : FuncId} (hc : chkF P fid (gIxK k ks) = true) [DecidableEq α] {c : α → List Tr} (hT : CmpK k ks c) (l : List α) (v : α) (hl : l.length ≤ 9223372036854775807) (lvl : Nat) (S : Sto) : Sem P fid lvl [.tr (.sl (l.map c)), .ag ((c v).map .tr)] S (iI (ixF (fun x => decide (v = x)) l 0)) S := by
  refine sem_of_chk hc trivial ?_
  have hlv := hT.len v
  have hqv : (c v).take k = c v := List.take_of_length_le (by omega)
  simp only [gIxK, List.length_map, r_allc, r_totrs, r_cons, r_nil, r_kont, r_seq1, r_rg, r_sq, r_bl, r_wpF, r_op1, r_go1, r_mv, r_bt, r_bt1, r_ln, r_ln1, ptd, lk, pt, xv, kv, kc, params, ↓reduceIte, Nat.reduceEqDiff, reduceCtorEq, List.length_cons, List.length_nil, Nat.reduceAdd, Nat.reduceLeDiff, Nat.reduceLT, true_and, cellsOf, tocs, Nat.zero_add, List.length_map]
  refine wp_cnt (α := Unit) l.length (fun j _ => [(8, iI j)]) (fun _ _ => []) (fun j _ => ixF (fun x => decide (v = x)) (l.drop j) j = ixF (fun x => decide (v = x)) l 0) () (by simp only [r_clean, r_okm4, r_okm11, r_okE0, r_okE1, r_okL0, ↓reduceIte, Nat.reduceEqDiff, reduceCtorEq, memB, keepB, keepOB, Bool.false_eq_true, and_self]) (by (simp only [r_fgt, r_chg, r_pts0, r_pts1, r_ptOs0, pt, ↓reduceIte, Nat.reduceEqDiff, reduceCtorEq, Nat.reduceLT, memB, keepB, keepOB, Bool.false_eq_true, Int.cast_ofNat_Int]) <;> rfl) rfl ?_
  intro j _ hj hA
  simp only [r_cons, r_nil, r_kont, r_seq1, r_seq2, r_blk2, r_fn2, r_sk, r_rg, r_sq, r_bl, r_ex, r_rt, r_cd, r_cd2, r_op1, r_go1, r_mv, r_bi, r_lti, r_ixn, r_ia, r_ia1, r_ld, r_ld4, r_fin, r_kfe1, r_kcx, r_exps0, r_exps1, r_kex, r_exp1, r_expv2, r_fgt, r_round2, r_chg, r_pts0, r_pts1, r_ptOs0, ptd, lk, pt, xv, kv, kc, ↓reduceIte, Nat.reduceEqDiff, reduceCtorEq, Nat.reduceLT, true_and, and_true, decide_eq_true_eq, memB, keepB, keepOB, Bool.false_eq_true, Int.toNat_natCast, Int.natCast_nonneg]
  refine ite_of (fun hlt => ?_) (fun hge => ?_)
  · have hja : j < l.length := by omega
    have ga := getA (c := c) hja
    have hla := hT.len l[j]
    have hqa : (c l[j]).take k = c l[j] := List.take_of_length_le (by omega)
    have hq := hT.eql v l[j]
    rw [drop_cons hja, ixF_cons] at hA
    simp only [ga, hlv, hqv, hla, hqa, hq, r_cons, r_nil, r_kont, r_seq1, r_seq3, r_blk1, r_blk3, r_fn2, r_sk, r_rg, r_sq, r_rt, r_cd, r_cd2, r_op1, r_go1, r_mv, r_bi, r_add0, r_qa, r_op3, r_iae, r_ld, r_ld4, r_fin, r_kfe1, r_kcx, r_exps0, r_exps1, r_kex, r_exp1, r_expv2, r_fgt, r_clean, r_okm4, r_okm11, r_okE0, r_okE1, r_okL0, r_round1, r_round3, r_lt1, ptd, lk, pt, xv, kv, kc, ↓reduceIte, Nat.reduceEqDiff, reduceCtorEq, Nat.reduceLT, true_and, and_true, decide_eq_true_eq, memB, keepB, keepOB, Bool.false_eq_true, Nat.le_refl, and_self]
    refine ite_of (fun h => ?_) (fun h => ?_)
    · rw [if_pos (by simpa using h)] at hA
      rw [← hA]
    · rw [if_neg (by simpa using h)] at hA
      exact ⟨by rw [fits_i64]; omega, cntJ_intro () hja rfl hA⟩
  · have : j = l.length := by omega
    subst this
    rw [List.drop_length] at hA
    rw [← hA]
    rfl
theorem sem_coK {k : Nat} {ks : List Nat} {fid fi : FuncId} (hc : chkF P fid (gCoK k fi) = true) (hi : chkF P fi (gIxK k ks) = true) [DecidableEq α] {c : α → List Tr} (hT : CmpK k ks c) (l : List α) (v : α) (hl : l.length ≤ 9223372036854775807) (lvl : Nat) (S : Sto) : Sem P fid lvl [.tr (.sl (l.map c)), .ag ((c v).map .tr)] S (iB (decide (v ∈ l))) S := by
  refine sem_of_chk hc trivial ?_
  have hlv := hT.len v
  have hqv : (c v).take k = c v := List.take_of_length_le (by omega)
  simp only [gCoK, r_allc, r_totrs, hlv, hqv, r_snm, r_mensm, r_cons, r_nil, r_kont, r_seq1, r_rg, r_sq, r_wpF, r_op1, r_go1, r_mv, r_bt, r_bt1, r_ld, r_ld4, r_kcn, r_kagn, r_sn0, r_sn1, r_sn3, r_ca, r_ca1, r_snm, r_mensm, ptd, lk, pt, xv, kv, kc, params, ↓reduceIte, Nat.reduceEqDiff, reduceCtorEq, List.length_cons, List.length_nil, Nat.reduceAdd, Nat.reduceLeDiff, Nat.reduceLT, true_and, List.map_cons, List.map_nil, List.cons_append, List.nil_append, mens, men, cellsOf, tocs, Nat.zero_add, Nat.le_refl, and_self]
  refine kca_intro (sem_ixK hi hT l v hl) ?_
  simp only [r_cons, r_nil, r_kont, r_seq1, r_fn2, r_rt, r_op1, r_go1, r_mv, r_bi, r_gei, r_fin, r_kfe1, r_kcx, r_exps0, r_exps1, r_kex, r_exp1, r_expv2, ptd, keyOf, freshK, lk, pt, addO, xv, kv, kc, ↓reduceIte, Nat.reduceEqDiff, Nat.reduceMul, reduceCtorEq, List.length_nil, Nat.reduceLT, true_and, and_true, noSh, isSc, impv, or_true]
  have := ixF_any (f := fun x => decide (v = x)) (l := l) (Int.le_refl 0)
  rw [any_mem] at this
  by_cases h : v ∈ l
  · simp [h, this.2 (by simpa using h)]
  · have h2 : ¬ 0 ≤ ixF (fun x => decide (v = x)) l 0 := fun hh => h (by simpa using this.1 hh)
    simp [h, h2]
end
end Go.Fd

/-
  WHAT HOLDS OF THE PROGRAM'S AND THE REFERENCE'S SMALL FUNCTIONS ON NUMBERS. Own work.
-/
namespace Go.Fd
set_option maxRecDepth 20000

/-- A statement as a bool. -/
noncomputable def dc (p : Prop) : Bool := @decide p (Classical.propDecidable p)
theorem dc_iff {p : Prop} : dc p = true ↔ p := by unfold dc; simp
theorem dc_true {p : Prop} (h : p) : dc p = true := dc_iff.2 h
theorem dc_false {p : Prop} (h : ¬ p) : dc p = false := by
  cases hh : dc p with
  | false => rfl
  | true => exact absurd (dc_iff.1 hh) h
theorem dc_not {p : Prop} : dc p = false ↔ ¬ p := ⟨fun h hp => (by rw [dc_true hp] at h; cases h), dc_false⟩
theorem dc_congr {p q : Prop} (h : p ↔ q) : dc p = dc q := by rw [propext h]
theorem dc_decide {p : Prop} [Decidable p] : dc p = decide p := by
  by_cases h : p
  · rw [dc_true h]; simp [h]
  · rw [dc_false h]; simp [h]

abbrev g0 (l : List Int) (i : Nat) : Int := l.getD i 0
abbrev A3 := Int × Int × Int
abbrev g3 (l : List A3) (i : Nat) : A3 := l.getD i (0, 0, 0)
theorem rI_get {l : List Int} {i : Nat} (h : i < l.length) : (rI l)[i]? = some [tv (g0 l i)] := by simp [h]
def inB (n a b : Int) : Bool := decide (a ≤ n) && decide (n ≤ b)
theorem inB_iff {n a b : Int} : inB n a b = true ↔ a ≤ n ∧ n ≤ b := by simp [inB]
theorem inB_not {n a b : Int} : inB n a b = false ↔ ¬ (a ≤ n ∧ n ≤ b) := by
  rw [← inB_iff]; cases inB n a b <;> simp

theorem sem_l1In (n a b : Int) (lvl : Nat) (S : Sto) : Sem Go.Proofs.Tryd.prog fid_spec_l1In lvl [iI n, iI a, iI b] S (iB (inB n a b)) S := by
  refine sem_of_chk k_spec_l1In trivial ?_
  simp only [c_spec_l1In, r_cons, r_nil, r_kont, r_seq1, r_fn2, r_rg, r_sq, r_rt, r_wpF, r_op1, r_op1g, r_gd, r_go1, r_mv, r_bi, r_lei, r_gei, r_pk, r_pkt, r_pkf, r_fin, r_kfe1, r_kcx, r_exps0, r_exps1, r_kex, r_exp1, r_expv2, ptd, lk, pt, xv, kv, kc, params, ↓reduceIte, Nat.reduceEqDiff, reduceCtorEq, List.length_cons, List.length_nil, Nat.reduceAdd, Nat.reduceLeDiff, Nat.reduceLT, true_and, and_true, decide_eq_true_eq, Bool.false_eq_true, Bool.not_true, Nat.zero_add]
  refine ite_of (fun h => ?_) (fun h => ?_) <;> simp [inB, h]
theorem sem_within (n a b : Int) (lvl : Nat) (S : Sto) : Sem Go.Proofs.Tryd.prog fid_impl_within lvl [iI n, iI a, iI b] S (iB (inB n a b)) S := by
  refine sem_of_chk k_impl_within trivial ?_
  simp only [c_impl_within, r_cons, r_nil, r_kont, r_seq1, r_fn2, r_rg, r_sq, r_rt, r_wpF, r_op1, r_op1g, r_gd, r_go1, r_mv, r_bi, r_lei, r_gei, r_pk, r_pkt, r_pkf, r_fin, r_kfe1, r_kcx, r_exps0, r_exps1, r_kex, r_exp1, r_expv2, ptd, lk, pt, xv, kv, kc, params, ↓reduceIte, Nat.reduceEqDiff, reduceCtorEq, List.length_cons, List.length_nil, Nat.reduceAdd, Nat.reduceLeDiff, Nat.reduceLT, true_and, and_true, decide_eq_true_eq, Bool.false_eq_true, Bool.not_true, Nat.zero_add]
  refine ite_of (fun h => ?_) (fun h => ?_) <;> simp [inB, h]

theorem sem_l1Has (l : List Int) (n : Int) (hl : l.length ≤ 9223372036854775807) (lvl : Nat) (S : Sto) : Sem Go.Proofs.Tryd.prog fid_spec_l1Has lvl [tI l, iI n] S (iB (decide (n ∈ l))) S := by
  refine sem_of_chk k_spec_l1Has trivial ?_
  simp only [c_spec_l1Has, r_cons, r_nil, r_kont, r_seq1, r_rg, r_sq, r_bl, r_wpF, r_op1, r_mv, ptd, pt, xv, kv, kc, params, ↓reduceIte, Nat.reduceEqDiff, reduceCtorEq, List.length_cons, List.length_nil, Nat.reduceAdd, Nat.reduceLeDiff, Nat.reduceLT, true_and, Nat.zero_add]
  refine wp_count (α := Unit) l.length (fun j _ => ⟨lvl, [(0, tI l), (1, iI n), (5, iI j)], [], S⟩) (fun j _ => n ∉ l.take j) () ⟨by simp only [r_clean, r_okm4, r_okE0, r_okE1, r_okL0, ↓reduceIte, Nat.reduceEqDiff, reduceCtorEq, memB, keepB, keepOB, Bool.false_eq_true, and_self], by (simp only [r_fgt, ↓reduceIte, Nat.reduceEqDiff, reduceCtorEq, memB, keepB, keepOB, Bool.false_eq_true, Int.cast_ofNat_Int]) <;> rfl⟩ (by simp) ?_
  intro j _ hj hA
  simp only [List.length_map, r_cons, r_nil, r_kont, r_seq1, r_seq2, r_blk2, r_fn2, r_sk, r_rg, r_sq, r_bl, r_ex, r_rt, r_cd, r_cd2, r_op1, r_go1, r_mv, r_bi, r_lti, r_ln, r_ln1, r_ixn, r_ia, r_ia1, r_fin, r_kfe1, r_kcx, r_exps0, r_exps1, r_kex, r_exp1, r_expv2, r_round2, r_lt1, ptd, lk, pt, xv, kv, kc, ↓reduceIte, Nat.reduceEqDiff, reduceCtorEq, Nat.reduceLT, true_and, and_true, decide_eq_true_eq, Int.toNat_natCast, Int.natCast_nonneg, List.length_map]
  refine ite_of (fun hlt => ?_) (fun hge => ?_)
  · have hja : j < l.length := by omega
    have ga := rI_get hja
    simp only [ga, r_cons, r_nil, r_kont, r_seq1, r_seq3, r_blk1, r_blk3, r_fn2, r_sk, r_rg, r_sq, r_rt, r_cd, r_cd2, r_op1, r_go1, r_mv, r_bi, r_add0, r_eqi, r_op3, r_iae, r_ltr, r_ld, r_ld1, r_fin, r_kfe1, r_kcx, r_exps0, r_exps1, r_kex, r_exp1, r_expv2, r_fgt, r_clean, r_okm4, r_okE0, r_okE1, r_okL0, r_round1, r_round3, r_lt1, ptd, lk, pt, xv, kv, kc, ↓reduceIte, Nat.reduceEqDiff, reduceCtorEq, List.length_cons, List.length_nil, Nat.reduceLT, true_and, and_true, decide_eq_true_eq, List.getElem?_cons_zero, memB, keepB, keepOB, Bool.false_eq_true, Nat.zero_add, and_self]
    have hg : g0 l j = l[j] := by simp [hja]
    refine ite_of (fun he => ?_) (fun hne => ?_)
    · have : n ∈ l := by rw [← he, hg]; exact List.getElem_mem hja
      simp [this]
    · refine ⟨by rw [fits_i64]; omega, cntJ_intro () hja rfl ?_⟩
      rw [List.take_succ_eq_append_getElem hja]
      simp only [List.mem_append, List.mem_singleton, not_or]
      exact ⟨hA, fun e => hne (by rw [hg, e])⟩
  · have : j = l.length := by omega
    subst this
    rw [List.take_length] at hA
    simp [hA]

/-- The first place of a number, -1 for none. -/
def idxI (l : List Int) (v : Int) : Int := if v ∈ l then (l.idxOf v : Int) else -1
theorem idxI_mem {l : List Int} {v : Int} : 0 ≤ idxI l v ↔ v ∈ l := by
  unfold idxI; split
  · rename_i h; simp [h]
  · rename_i h; simp [h]
theorem sem_Index (l : List Int) (n : Int) (hl : l.length ≤ 9223372036854775807) (lvl : Nat) (S : Sto) : Sem Go.Proofs.Tryd.prog fid_slices_Index_int_int lvl [tI l, iI n] S (iI (idxI l n)) S := by
  refine sem_of_chk k_slices_Index_int_int trivial ?_
  simp only [c_slices_Index_int_int, List.length_map, r_cons, r_nil, r_kont, r_seq1, r_rg, r_sq, r_bl, r_wpF, r_op1, r_go1, r_mv, r_ln, r_ln1, ptd, lk, pt, xv, kv, kc, params, ↓reduceIte, Nat.reduceEqDiff, reduceCtorEq, List.length_cons, List.length_nil, Nat.reduceAdd, Nat.reduceLeDiff, Nat.reduceLT, true_and, Nat.zero_add, List.length_map]
  refine wp_count (α := Unit) l.length (fun j _ => ⟨lvl, [(0, tI l), (1, iI n), (7, iI l.length), (8, iI j)], [], S⟩) (fun j _ => n ∉ l.take j) () ⟨by simp only [r_clean, r_okm4, r_okE0, r_okE1, r_okL0, ↓reduceIte, Nat.reduceEqDiff, reduceCtorEq, memB, keepB, keepOB, Bool.false_eq_true, and_self], by (simp only [r_fgt, ↓reduceIte, Nat.reduceEqDiff, reduceCtorEq, memB, keepB, keepOB, Bool.false_eq_true, Int.cast_ofNat_Int]) <;> rfl⟩ (by simp) ?_
  intro j _ hj hA
  simp only [r_cons, r_nil, r_kont, r_seq1, r_seq2, r_blk2, r_fn2, r_sk, r_rg, r_sq, r_bl, r_ex, r_rt, r_cd, r_cd2, r_op1, r_go1, r_mv, r_bi, r_lti, r_ixn, r_ia, r_ia1, r_fin, r_kfe1, r_kcx, r_exps0, r_exps1, r_kex, r_exp1, r_expv2, r_round2, ptd, lk, pt, xv, kv, kc, ↓reduceIte, Nat.reduceEqDiff, reduceCtorEq, Nat.reduceLT, true_and, and_true, decide_eq_true_eq, Int.toNat_natCast, Int.natCast_nonneg]
  refine ite_of (fun hlt => ?_) (fun hge => ?_)
  · have hja : j < l.length := by omega
    have ga := rI_get hja
    simp only [ga, r_cons, r_nil, r_kont, r_seq1, r_seq3, r_blk1, r_blk3, r_fn2, r_sk, r_rg, r_sq, r_rt, r_cd, r_cd2, r_op1, r_go1, r_mv, r_bi, r_add0, r_eqi, r_op3, r_iae, r_ltr, r_ld, r_ld1, r_fin, r_kfe1, r_kcx, r_exps0, r_exps1, r_kex, r_exp1, r_expv2, r_fgt, r_clean, r_okm4, r_okE0, r_okE1, r_okL0, r_round1, r_round3, r_lt1, ptd, lk, pt, xv, kv, kc, ↓reduceIte, Nat.reduceEqDiff, reduceCtorEq, List.length_cons, List.length_nil, Nat.reduceLT, true_and, and_true, decide_eq_true_eq, List.getElem?_cons_zero, memB, keepB, keepOB, Bool.false_eq_true, Nat.zero_add, and_self]
    have hg : g0 l j = l[j] := by simp [hja]
    refine ite_of (fun he => ?_) (fun hne => ?_)
    · have hm : n ∈ l := by rw [he, hg]; exact List.getElem_mem hja
      unfold idxI
      rw [if_pos hm]
      have : l.idxOf n = j := by
        have h1 : l.take j ++ l.drop j = l := List.take_append_drop j l
        rw [← h1, List.idxOf_append, if_neg hA, List.drop_eq_getElem_cons hja, List.idxOf_cons]
        rw [he, hg]
        simp
        omega
      rw [this]
    · refine ⟨by rw [fits_i64]; omega, cntJ_intro () hja rfl ?_⟩
      rw [List.take_succ_eq_append_getElem hja]
      simp only [List.mem_append, List.mem_singleton, not_or]
      exact ⟨hA, fun e => hne (by rw [hg, e])⟩
  · have : j = l.length := by omega
    subst this
    rw [List.take_length] at hA
    simp [idxI, hA]
theorem sem_Contains (l : List Int) (n : Int) (hl : l.length ≤ 9223372036854775807) (lvl : Nat) (S : Sto) : Sem Go.Proofs.Tryd.prog fid_slices_Contains_int_int lvl [tI l, iI n] S (iB (decide (n ∈ l))) S := by
  refine sem_of_chk k_slices_Contains_int_int trivial ?_
  simp only [c_slices_Contains_int_int, r_cons, r_nil, r_kont, r_seq1, r_rg, r_sq, r_wpF, r_op1, r_mv, r_kcn, r_sn0, r_sn1, r_ca, r_ca1, ptd, lk, pt, xv, kv, kc, params, ↓reduceIte, Nat.reduceEqDiff, reduceCtorEq, List.length_cons, List.length_nil, Nat.reduceAdd, Nat.reduceLeDiff, Nat.reduceLT, true_and, List.map_cons, List.map_nil, List.cons_append, List.nil_append, mens, men, Nat.zero_add, and_self]
  refine kca_intro (sem_Index l n hl) ?_
  simp only [idxI_mem, r_cons, r_nil, r_kont, r_seq1, r_fn2, r_rt, r_op1, r_go1, r_mv, r_bi, r_gei, r_fin, r_kfe1, r_kcx, r_exps0, r_exps1, r_kex, r_exp1, r_expv2, ptd, keyOf, freshK, lk, pt, addO, xv, kv, kc, ↓reduceIte, Nat.reduceEqDiff, Nat.reduceMul, reduceCtorEq, List.length_nil, Nat.reduceLT, noSh, isSc, impv, or_true, and_self]

/-- Numbers that rise, within bounds. -/
def Ris (lo hi : Int) (l : List Int) : Prop := ∀ i, i < l.length → lo ≤ g0 l i ∧ g0 l i ≤ hi ∧ (0 < i → g0 l (i - 1) < g0 l i)
theorem sem_l1Rising (l : List Int) (lo hi : Int) (hl : l.length ≤ 9223372036854775807) (lvl : Nat) (S : Sto) : Sem Go.Proofs.Tryd.prog fid_spec_l1Rising lvl [tI l, iI lo, iI hi] S (iB (dc (Ris lo hi l))) S := by
  refine sem_of_chk k_spec_l1Rising trivial ?_
  simp only [c_spec_l1Rising, r_cons, r_nil, r_kont, r_seq1, r_rg, r_sq, r_bl, r_wpF, r_op1, r_mv, ptd, pt, xv, kv, kc, params, ↓reduceIte, Nat.reduceEqDiff, reduceCtorEq, List.length_cons, List.length_nil, Nat.reduceAdd, Nat.reduceLeDiff, Nat.reduceLT, true_and, Nat.zero_add]
  refine wp_count (α := Unit) l.length (fun j _ => ⟨lvl, [(0, tI l), (1, iI lo), (2, iI hi), (7, iI j)], [], S⟩) (fun j _ => ∀ i, i < j → lo ≤ g0 l i ∧ g0 l i ≤ hi ∧ (0 < i → g0 l (i - 1) < g0 l i)) () ⟨by simp only [r_clean, r_okm4, r_okE0, r_okE1, r_okL0, ↓reduceIte, Nat.reduceEqDiff, reduceCtorEq, memB, keepB, keepOB, Bool.false_eq_true, and_self], by (simp only [r_fgt, ↓reduceIte, Nat.reduceEqDiff, reduceCtorEq, memB, keepB, keepOB, Bool.false_eq_true, Int.cast_ofNat_Int]) <;> rfl⟩ (fun i hi => by omega) ?_
  intro j _ hj hA
  simp only [List.length_map, r_cons, r_nil, r_kont, r_seq1, r_seq2, r_blk2, r_fn2, r_sk, r_rg, r_sq, r_bl, r_ex, r_rt, r_cd, r_cd2, r_op1, r_go1, r_mv, r_bi, r_lti, r_ln, r_ln1, r_ixn, r_ia, r_ia1, r_fin, r_kfe1, r_kcx, r_exps0, r_exps1, r_kex, r_exp1, r_expv2, r_round2, r_lt1, ptd, lk, pt, xv, kv, kc, ↓reduceIte, Nat.reduceEqDiff, reduceCtorEq, Nat.reduceLT, true_and, and_true, decide_eq_true_eq, Int.toNat_natCast, Int.natCast_nonneg, List.length_map]
  refine ite_of (fun hlt => ?_) (fun hge => ?_)
  · have hja : j < l.length := by omega
    have ga := rI_get hja
    simp only [ga, r_cons, r_kont, r_op1, r_go1, r_mv, r_op3, r_iae, r_ltr, r_ld, r_ld1, r_kcn, r_sn0, r_sn1, r_ca, r_ca1, ptd, lk, pt, xv, ↓reduceIte, Nat.reduceEqDiff, reduceCtorEq, List.length_cons, List.length_nil, Nat.reduceLT, true_and, List.map_cons, List.map_nil, List.cons_append, List.nil_append, List.getElem?_cons_zero, mens, men, Nat.zero_add, and_self]
    refine kca_intro (sem_l1In (g0 l j) lo hi) ?_
    simp only [r_cons, r_nil, r_kont, r_seq1, r_seq3, r_blk1, r_blk3, r_fn2, r_sk, r_rg, r_sq, r_rt, r_cd, r_cd2, r_op1, r_op1g, r_gd, r_gdu, r_go1, r_mv, r_bi, r_add0, r_sub0, r_gti, r_nt, r_nt1, r_pk, r_pkt, r_pkf, r_ixn, r_ia, r_ia1, r_fin, r_kfe1, r_kcx, r_exps0, r_exps1, r_kex, r_exp1, r_expv2, r_fgt, r_clean, r_okm4, r_okE0, r_okE1, r_okL0, r_round1, r_round3, r_lt1, ptd, keyOf, freshK, lk, pt, addO, xv, kv, kc, ↓reduceIte, Nat.reduceEqDiff, Nat.reduceMul, reduceCtorEq, List.length_nil, Nat.reduceLT, true_and, and_true, decide_eq_true_eq, noSh, isSc, impv, memB, keepB, keepOB, or_true, Bool.false_eq_true, Bool.true_eq_false, Bool.not_true, Bool.not_false, Bool.not_eq_false', and_self]
    refine ite_of (fun hin => ?_) (fun hin => ?_)
    · have hin' := inB_iff.1 hin
      have hgo : (0 < j → g0 l (j - 1) < g0 l j) → ∀ i, i < j + 1 → lo ≤ g0 l i ∧ g0 l i ≤ hi ∧ (0 < i → g0 l (i - 1) < g0 l i) := fun hp i hi => by
        by_cases e : i = j
        · subst e; exact ⟨hin'.1, hin'.2, hp⟩
        · exact hA i (by omega)
      refine ite_of (fun hpos => ?_) (fun hpos => ?_)
      · have hp : ((j : Int) - 1).toNat = j - 1 := by omega
        have hp0 : (0 : Int) ≤ j - 1 := by omega
        have gb := rI_get (l := l) (i := j - 1) (by omega)
        simp only [hp, hp0, gb, ga, r_cons, r_nil, r_kont, r_seq1, r_seq3, r_blk1, r_blk3, r_fn2, r_sk, r_rg, r_sq, r_rt, r_cd, r_cd2, r_op1, r_op1g, r_gd, r_go1, r_mv, r_bi, r_add0, r_gei, r_pk, r_pkt, r_pkf, r_op3, r_ixn, r_ia, r_iae, r_ia1, r_ltr, r_ld, r_ld1, r_fin, r_kfe1, r_kcx, r_exps0, r_exps1, r_kex, r_exp1, r_expv2, r_fgt, r_clean, r_okm4, r_okE0, r_okE1, r_okL0, r_round1, r_round3, r_lt1, ptd, lk, pt, xv, kv, kc, ↓reduceIte, Nat.reduceEqDiff, reduceCtorEq, List.length_cons, List.length_nil, Nat.reduceLT, true_and, and_true, decide_eq_true_eq, List.getElem?_cons_zero, memB, keepB, keepOB, Bool.false_eq_true, Int.toNat_natCast, Nat.zero_add, Int.natCast_nonneg, and_self]
        refine ⟨by rw [fits_i64]; omega, ite_of (fun hge => ?_) (fun hlt2 => ?_)⟩
        · have : ¬ Ris lo hi l := fun hr => by have := (hr j hja).2.2 (by omega); omega
          rw [dc_false this]
        · exact ⟨by rw [fits_i64]; omega, cntJ_intro () hja rfl (hgo fun _ => by omega)⟩
      · exact ⟨by rw [fits_i64]; omega, cntJ_intro () hja rfl (hgo fun h => by omega)⟩
    · have : ¬ Ris lo hi l := fun hr => hin (inB_iff.2 ⟨(hr j hja).1, (hr j hja).2.1⟩)
      rw [dc_false this]
  · have : j = l.length := by omega
    subst this
    rw [dc_true (p := Ris lo hi l) hA]

theorem sem_isRising (l : List Int) (below : Int) (hl : l.length ≤ 9223372036854775807) (hb : 0 ≤ below) (hb2 : below ≤ 9223372036854775807) (lvl : Nat) (S : Sto) : Sem Go.Proofs.Tryd.prog fid_impl_isRising lvl [tI l, iI below] S (iB (dc (Ris 0 (below - 1) l))) S := by
  refine sem_of_chk k_impl_isRising trivial ?_
  simp only [c_impl_isRising, List.length_map, r_cons, r_nil, r_kont, r_seq1, r_rg, r_sq, r_bl, r_wpF, r_op1, r_go1, r_mv, r_ln, r_ln1, ptd, lk, pt, xv, kv, kc, params, ↓reduceIte, Nat.reduceEqDiff, reduceCtorEq, List.length_cons, List.length_nil, Nat.reduceAdd, Nat.reduceLeDiff, Nat.reduceLT, true_and, Nat.zero_add, List.length_map]
  refine wp_count (α := Unit) l.length (fun j _ => ⟨lvl, [(0, tI l), (1, iI below), (7, tI l), (8, iI l.length), (9, iI j)], [], S⟩) (fun j _ => ∀ i, i < j → 0 ≤ g0 l i ∧ g0 l i ≤ below - 1 ∧ (0 < i → g0 l (i - 1) < g0 l i)) () ⟨by simp only [r_clean, r_okm4, r_okE0, r_okE1, r_okL0, ↓reduceIte, Nat.reduceEqDiff, reduceCtorEq, memB, keepB, keepOB, Bool.false_eq_true, and_self], by (simp only [r_fgt, ↓reduceIte, Nat.reduceEqDiff, reduceCtorEq, memB, keepB, keepOB, Bool.false_eq_true, Int.cast_ofNat_Int]) <;> rfl⟩ (fun i hi => by omega) ?_
  intro j _ hj hA
  simp only [r_cons, r_nil, r_kont, r_seq1, r_seq2, r_blk2, r_fn2, r_sk, r_rg, r_sq, r_bl, r_ex, r_rt, r_cd, r_cd2, r_op1, r_go1, r_mv, r_bi, r_lti, r_ixn, r_ia, r_ia1, r_fin, r_kfe1, r_kcx, r_exps0, r_exps1, r_kex, r_exp1, r_expv2, r_round2, ptd, lk, pt, xv, kv, kc, ↓reduceIte, Nat.reduceEqDiff, reduceCtorEq, Nat.reduceLT, true_and, and_true, decide_eq_true_eq, Int.toNat_natCast, Int.natCast_nonneg]
  refine ite_of (fun hlt => ?_) (fun hge => ?_)
  · have hja : j < l.length := by omega
    have ga := rI_get hja
    have hfb : fits .i64 (below - 1) := by rw [fits_i64]; omega
    simp only [ga, hfb, r_cons, r_nil, r_kont, r_seq1, r_rg, r_sq, r_op1, r_go1, r_mv, r_bi, r_sub0, r_op3, r_iae, r_ltr, r_ld, r_ld1, r_kcn, r_sn0, r_sn1, r_ca, r_ca1, r_lt1, ptd, lk, pt, xv, kv, kc, ↓reduceIte, Nat.reduceEqDiff, reduceCtorEq, List.length_cons, List.length_nil, Nat.reduceLT, true_and, List.map_cons, List.map_nil, List.cons_append, List.nil_append, List.getElem?_cons_zero, mens, men, Nat.zero_add, and_self]
    refine kca_intro (sem_within (g0 l j) 0 (below - 1)) ?_
    simp only [r_cons, r_nil, r_kont, r_seq1, r_seq3, r_blk1, r_blk3, r_fn2, r_sk, r_rg, r_sq, r_rt, r_cd, r_cd2, r_op1, r_op1g, r_gd, r_gdu, r_go1, r_mv, r_bi, r_add0, r_sub0, r_gti, r_nt, r_nt1, r_pk, r_pkt, r_pkf, r_ixn, r_ia, r_ia1, r_fin, r_kfe1, r_kcx, r_exps0, r_exps1, r_kex, r_exp1, r_expv2, r_fgt, r_clean, r_okm4, r_okE0, r_okE1, r_okL0, r_round1, r_round3, r_lt1, ptd, keyOf, freshK, lk, pt, addO, xv, kv, kc, ↓reduceIte, Nat.reduceEqDiff, Nat.reduceMul, reduceCtorEq, List.length_nil, Nat.reduceLT, true_and, and_true, decide_eq_true_eq, noSh, isSc, impv, memB, keepB, keepOB, or_true, Bool.false_eq_true, Bool.true_eq_false, Bool.not_true, Bool.not_false, Bool.not_eq_false', and_self]
    refine ite_of (fun hin => ?_) (fun hin => ?_)
    · have hin' := inB_iff.1 hin
      have hgo : (0 < j → g0 l (j - 1) < g0 l j) → ∀ i, i < j + 1 → 0 ≤ g0 l i ∧ g0 l i ≤ below - 1 ∧ (0 < i → g0 l (i - 1) < g0 l i) := fun hp i hi => by
        by_cases e : i = j
        · subst e; exact ⟨hin'.1, hin'.2, hp⟩
        · exact hA i (by omega)
      refine ite_of (fun hpos => ?_) (fun hpos => ?_)
      · have hp : ((j : Int) - 1).toNat = j - 1 := by omega
        have hp0 : (0 : Int) ≤ j - 1 := by omega
        have gb := rI_get (l := l) (i := j - 1) (by omega)
        simp only [hp, hp0, gb, r_cons, r_nil, r_kont, r_seq1, r_seq3, r_blk1, r_blk3, r_fn2, r_sk, r_rg, r_sq, r_rt, r_cd, r_cd2, r_op1, r_op1g, r_gd, r_go1, r_mv, r_bi, r_add0, r_lei, r_pk, r_pkt, r_pkf, r_op3, r_iae, r_ltr, r_ld, r_ld1, r_fin, r_kfe1, r_kcx, r_exps0, r_exps1, r_kex, r_exp1, r_expv2, r_fgt, r_clean, r_okm4, r_okE0, r_okE1, r_okL0, r_round1, r_round3, r_lt1, ptd, lk, pt, xv, kv, kc, ↓reduceIte, Nat.reduceEqDiff, reduceCtorEq, List.length_cons, List.length_nil, Nat.reduceLT, true_and, and_true, decide_eq_true_eq, List.getElem?_cons_zero, memB, keepB, keepOB, Bool.false_eq_true, Nat.zero_add, and_self]
        refine ⟨by rw [fits_i64]; omega, ite_of (fun hge => ?_) (fun hlt2 => ?_)⟩
        · have : ¬ Ris 0 (below - 1) l := fun hr => by have := (hr j hja).2.2 (by omega); omega
          rw [dc_false this]
        · exact ⟨by rw [fits_i64]; omega, cntJ_intro () hja rfl (hgo fun _ => by omega)⟩
      · exact ⟨by rw [fits_i64]; omega, cntJ_intro () hja rfl (hgo fun h => by omega)⟩
    · have : ¬ Ris 0 (below - 1) l := fun hr => hin (inB_iff.2 ⟨(hr j hja).1, (hr j hja).2.1⟩)
      rw [dc_false this]
  · have : j = l.length := by omega
    subst this
    rw [dc_true (p := Ris 0 (below - 1) l) hA]

/-- Lists of numbers, compared. -/
def cmpL : List Int → List Int → Int
  | [], [] => 0
  | [], _ :: _ => -1
  | _ :: _, [] => 1
  | x :: r, y :: s => if x < y then -1 else if y < x then 1 else cmpL r s
def cmpI (x y : Int) : Int := if x < y then -1 else if y < x then 1 else 0
theorem sem_isNaN (x : Int) (lvl : Nat) (S : Sto) : Sem Go.Proofs.Tryd.prog fid_cmp_isNaN_int lvl [iI x] S (iB false) S := by
  refine sem_of_chk k_cmp_isNaN_int trivial ?_
  simp only [c_cmp_isNaN_int, r_cons, r_nil, r_kont, r_seq1, r_fn2, r_rg, r_sq, r_rt, r_wpF, r_op1, r_go1, r_mv, r_bi, r_nei, r_fin, r_kfe1, r_kcx, r_exps0, r_exps1, r_kex, r_exp1, r_expv2, ptd, lk, pt, xv, kv, kc, params, ↓reduceIte, Nat.reduceEqDiff, reduceCtorEq, List.length_cons, List.length_nil, Nat.reduceLeDiff, Nat.reduceLT, decide_false, Nat.zero_add, ne_eq, not_true_eq_false, and_self]
theorem sem_cmp (x y : Int) (lvl : Nat) (S : Sto) : Sem Go.Proofs.Tryd.prog fid_cmp_Compare_int lvl [iI x, iI y] S (iI (cmpI x y)) S := by
  refine sem_of_chk k_cmp_Compare_int trivial ?_
  simp only [c_cmp_Compare_int, r_cons, r_nil, r_kont, r_seq1, r_rg, r_sq, r_wpF, r_op1, r_mv, r_kcn, r_sn0, r_sn1, r_ca, r_ca1, ptd, lk, pt, xv, kv, kc, params, ↓reduceIte, Nat.reduceEqDiff, reduceCtorEq, List.length_cons, List.length_nil, Nat.reduceAdd, Nat.reduceLeDiff, Nat.reduceLT, true_and, List.map_cons, List.map_nil, List.cons_append, List.nil_append, mens, men, Nat.zero_add, and_self]
  refine kca_intro (sem_isNaN x) ?_
  simp only [r_cons, r_nil, r_kont, r_seq1, r_rg, r_sq, r_op1, r_mv, r_kcn, r_sn0, r_sn1, r_ca, r_ca1, ptd, keyOf, freshK, lk, pt, addO, xv, ↓reduceIte, Nat.reduceEqDiff, Nat.reduceMul, reduceCtorEq, List.length_nil, Nat.reduceLT, true_and, List.map_cons, List.map_nil, List.cons_append, List.nil_append, mens, men, noSh, isSc, impv, or_true, and_self]
  refine kca_intro (sem_isNaN y) ?_
  simp only [r_cons, r_nil, r_kont, r_seq1, r_seq3, r_fn2, r_sk, r_rg, r_sq, r_rt, r_cd, r_cd2, r_op1, r_go1, r_mv, r_bi, r_lti, r_gti, r_fin, r_kfe1, r_kcx, r_exps0, r_exps1, r_kex, r_exp1, r_expv2, r_lt1, ptd, keyOf, freshK, lk, pt, addO, xv, kv, kc, ↓reduceIte, Nat.reduceEqDiff, Nat.reduceMul, reduceCtorEq, List.length_nil, Nat.reduceLT, true_and, and_true, decide_eq_true_eq, noSh, isSc, impv, or_true, Bool.false_eq_true]
  unfold cmpI
  refine ite_of (fun h => ?_) (fun h => ?_)
  · rw [if_pos h]
  · rw [if_neg h]
    refine ite_of (fun h2 => ?_) (fun h2 => ?_)
    · rw [if_pos h2]
    · rw [if_neg h2]
theorem sem_Compare (a b : List Int) (ha : a.length ≤ 9223372036854775807) (hb : b.length ≤ 9223372036854775807) (lvl : Nat) (S : Sto) : Sem Go.Proofs.Tryd.prog fid_slices_Compare_int_int lvl [tI a, tI b] S (iI (cmpL a b)) S := by
  refine sem_of_chk k_slices_Compare_int_int trivial ?_
  simp only [c_slices_Compare_int_int, List.length_map, r_cons, r_nil, r_kont, r_seq1, r_rg, r_sq, r_bl, r_wpF, r_op1, r_go1, r_mv, r_ln, r_ln1, ptd, lk, pt, xv, kv, kc, params, ↓reduceIte, Nat.reduceEqDiff, reduceCtorEq, List.length_cons, List.length_nil, Nat.reduceAdd, Nat.reduceLeDiff, Nat.reduceLT, true_and, Nat.zero_add, List.length_map]
  refine wp_count (α := Unit) a.length (fun j _ => ⟨lvl, [(0, tI a), (1, tI b), (9, tI a), (10, iI a.length), (11, iI j)], [], S⟩) (fun j _ => j ≤ b.length ∧ cmpL (a.drop j) (b.drop j) = cmpL a b) () ⟨by simp only [r_clean, r_okm4, r_okE0, r_okE1, r_okL0, ↓reduceIte, Nat.reduceEqDiff, reduceCtorEq, memB, keepB, keepOB, Bool.false_eq_true, and_self], by (simp only [r_fgt, ↓reduceIte, Nat.reduceEqDiff, reduceCtorEq, memB, keepB, keepOB, Bool.false_eq_true, Int.cast_ofNat_Int]) <;> rfl⟩ ⟨Nat.zero_le _, rfl⟩ ?_
  intro j _ hj ⟨hjb, hA⟩
  simp only [List.length_map, r_cons, r_nil, r_kont, r_seq1, r_seq2, r_seq3, r_blk2, r_fn2, r_sk, r_rg, r_sq, r_bl, r_ex, r_rt, r_cd, r_cd2, r_op1, r_go1, r_mv, r_bi, r_lti, r_ln, r_ln1, r_ixn, r_ia, r_ia1, r_fin, r_kfe1, r_kcx, r_exps0, r_exps1, r_kex, r_exp1, r_expv2, r_round2, ptd, lk, pt, xv, kv, kc, ↓reduceIte, Nat.reduceEqDiff, reduceCtorEq, Nat.reduceLT, true_and, and_true, decide_eq_true_eq, Int.toNat_natCast, Int.natCast_nonneg, List.length_map]
  refine ite_of (fun hlt => ?_) (fun hge => ?_)
  · have hja : j < a.length := by omega
    have ga := rI_get hja
    have e1 : a.drop j = g0 a j :: a.drop (j + 1) := by rw [List.drop_eq_getElem_cons hja]; simp [hja]
    rw [e1] at hA
    simp only [ga, List.length_map, r_cons, r_nil, r_kont, r_seq1, r_seq3, r_blk3, r_fn2, r_sk, r_rg, r_sq, r_rt, r_cd, r_cd2, r_op1, r_go1, r_mv, r_bi, r_gei, r_ln, r_ln1, r_op3, r_ixn, r_ia, r_iae, r_ia1, r_ltr, r_ld, r_ld1, r_fin, r_kfe1, r_kcx, r_exps0, r_exps1, r_kex, r_exp1, r_expv2, r_round3, r_lt1, ptd, lk, pt, xv, kv, kc, ↓reduceIte, Nat.reduceEqDiff, reduceCtorEq, List.length_cons, List.length_nil, Nat.reduceLT, true_and, and_true, decide_eq_true_eq, List.getElem?_cons_zero, Int.toNat_natCast, Nat.zero_add, Int.natCast_nonneg, List.length_map]
    refine ite_of (fun hbe => ?_) (fun hbl => ?_)
    · have : b.drop j = [] := List.drop_eq_nil_of_le (by omega)
      rw [this] at hA
      simp only [cmpL] at hA
      rw [← hA]
    · have hjb2 : j < b.length := by omega
      have gb := rI_get hjb2
      have e2 : b.drop j = g0 b j :: b.drop (j + 1) := by rw [List.drop_eq_getElem_cons hjb2]; simp [hjb2]
      rw [e2] at hA
      simp only [cmpL] at hA
      simp only [gb, r_cons, r_nil, r_kont, r_seq1, r_rg, r_sq, r_op1, r_go1, r_mv, r_op3, r_iae, r_ltr, r_ld, r_ld1, r_kcn, r_sn0, r_sn1, r_ca, r_ca1, ptd, lk, pt, xv, ↓reduceIte, Nat.reduceEqDiff, reduceCtorEq, List.length_cons, List.length_nil, Nat.reduceLT, true_and, List.map_cons, List.map_nil, List.cons_append, List.nil_append, List.getElem?_cons_zero, mens, men, Nat.zero_add, and_self]
      refine kca_intro (sem_cmp (g0 a j) (g0 b j)) ?_
      simp only [r_cons, r_nil, r_kont, r_seq1, r_seq3, r_blk1, r_blk3, r_fn2, r_sk, r_rg, r_sq, r_rt, r_cd, r_cd2, r_op1, r_go1, r_mv, r_bi, r_add0, r_nei, r_fin, r_kfe1, r_kcx, r_exps0, r_exps1, r_kex, r_exp1, r_expv2, r_fgt, r_clean, r_okm4, r_okE0, r_okE1, r_okL0, r_round1, r_round3, r_lt1, ptd, keyOf, freshK, lk, pt, addO, xv, kv, kc, ↓reduceIte, Nat.reduceEqDiff, Nat.reduceMul, reduceCtorEq, List.length_nil, Nat.reduceLT, true_and, and_true, decide_eq_true_eq, noSh, isSc, impv, memB, keepB, keepOB, or_true, Bool.false_eq_true, ne_eq, and_self]
      unfold cmpI
      by_cases h1 : g0 a j < g0 b j
      · rw [if_pos h1] at hA
        rw [if_pos h1, if_pos (by decide), ← hA]
      · rw [if_neg h1] at hA
        rw [if_neg h1]
        by_cases h2 : g0 b j < g0 a j
        · rw [if_pos h2] at hA
          rw [if_pos h2, if_pos (by decide), ← hA]
        · rw [if_neg h2] at hA
          rw [if_neg h2, if_neg (by decide)]
          exact ⟨by rw [fits_i64]; omega, cntJ_intro () hja rfl ⟨by omega, hA⟩⟩
  · have : j = a.length := by omega
    subst this
    rw [List.drop_length] at hA
    refine ite_of (fun h1 => ?_) (fun h1 => ?_)
    · have hb1 : a.length < b.length := by omega
      have e2 : b.drop a.length = g0 b a.length :: b.drop (a.length + 1) := by rw [List.drop_eq_getElem_cons hb1]; simp [hb1]
      rw [e2] at hA
      simp only [cmpL] at hA
      rw [← hA]
    · have : b.drop a.length = [] := List.drop_eq_nil_of_le (by omega)
      rw [this] at hA
      simp only [cmpL] at hA
      rw [← hA]

end Go.Fd

/-
  NUMBERS OF LIBRARY FUNCTIONS IN THIS PROGRAM, as the guide's shelf lays them (printed by lay.py out of the kit's own command).
-/
namespace Go.Proofs
open Go.Shelf
def Tryd.lays160_ren : Go.Shelf.Ren := ⟨fun | 160 => 77 | 232 => 88 | 231 => 87 | 227 => 89 | 234 => 91 | 233 => 90 | 236 => 93 | 235 => 92 | 228 => 97 | 271 => 100 | 151 => 99 | 197 => 98 | 120 => 104 | 152 => 103 | 260 => 102 | 137 => 105 | 119 => 106 | 224 => 107 | 225 => 108 | 217 => 109 | 266 => 110 | n => n, fun | 9 => 9 | 4 => 4 | 3 => 3 | 5 => 5 | 117 => 96 | 116 => 95 | 0 => 0 | 124 => 99 | 21 => 21 | 105 => 102 | 46 => 107 | 119 => 106 | 139 => 110 | 138 => 109 | n => n, fun | 3 => 0 | 4 => 1 | n => n⟩
theorem Tryd.lays160 : Go.Proofs.Lays.n160 Tryd.prog Tryd.lays160_ren := {
    mixed := by kernel_rfl,
    f119 := Tryd.func106.trans (congrArg some (by kernel_rfl)),
    f120 := Tryd.func104.trans (congrArg some (by kernel_rfl)),
    f137 := Tryd.func105.trans (congrArg some (by kernel_rfl)),
    f151 := Tryd.func99.trans (congrArg some (by kernel_rfl)),
    f152 := Tryd.func103.trans (congrArg some (by kernel_rfl)),
    f160 := Tryd.func77.trans (congrArg some (by kernel_rfl)),
    f197 := Tryd.func98.trans (congrArg some (by kernel_rfl)),
    f217 := Tryd.func109.trans (congrArg some (by kernel_rfl)),
    f224 := Tryd.func107.trans (congrArg some (by kernel_rfl)),
    f225 := Tryd.func108.trans (congrArg some (by kernel_rfl)),
    f227 := Tryd.func89.trans (congrArg some (by kernel_rfl)),
    f228 := Tryd.func97.trans (congrArg some (by kernel_rfl)),
    f231 := Tryd.func87.trans (congrArg some (by kernel_rfl)),
    f232 := Tryd.func88.trans (congrArg some (by kernel_rfl)),
    f233 := Tryd.func90.trans (congrArg some (by kernel_rfl)),
    f234 := Tryd.func91.trans (congrArg some (by kernel_rfl)),
    f235 := Tryd.func92.trans (congrArg some (by kernel_rfl)),
    f236 := Tryd.func93.trans (congrArg some (by kernel_rfl)),
    f260 := Tryd.func102.trans (congrArg some (by kernel_rfl)),
    f266 := Tryd.func110.trans (congrArg some (by kernel_rfl)),
    f271 := Tryd.func100.trans (congrArg some (by kernel_rfl)),
    t0 := Tryd.underlying0,
    a0 := Tryd.isAgg0,
    z0 := Tryd.sizeOf0,
    v0 := Tryd.zeroValue0,
    t3 := Tryd.underlying3,
    a3 := Tryd.isAgg3,
    z3 := Tryd.sizeOf3,
    v3 := Tryd.zeroValue3,
    t4 := Tryd.underlying4,
    a4 := Tryd.isAgg4,
    z4 := Tryd.sizeOf4,
    v4 := Tryd.zeroValue4,
    t5 := Tryd.underlying5,
    a5 := Tryd.isAgg5,
    z5 := Tryd.sizeOf5,
    v5 := Tryd.zeroValue5,
    t9 := Tryd.underlying9,
    a9 := Tryd.isAgg9,
    z9 := Tryd.sizeOf9,
    v9 := Tryd.zeroValue9,
    t21 := Tryd.underlying21,
    a21 := Tryd.isAgg21,
    z21 := Tryd.sizeOf21,
    v21 := Tryd.zeroValue21,
    t46 := Tryd.underlying107,
    a46 := Tryd.isAgg107,
    z46 := Tryd.sizeOf107,
    v46 := Tryd.zeroValue107,
    t105 := Tryd.underlying102,
    a105 := Tryd.isAgg102,
    z105 := Tryd.sizeOf102,
    v105 := Tryd.zeroValue102,
    t116 := Tryd.underlying95,
    a116 := Tryd.isAgg95,
    z116 := Tryd.sizeOf95,
    t117 := Tryd.underlying96,
    a117 := Tryd.isAgg96,
    z117 := Tryd.sizeOf96,
    v117 := Tryd.zeroValue96,
    t119 := Tryd.underlying106,
    a119 := Tryd.isAgg106,
    z119 := Tryd.sizeOf106,
    t124 := Tryd.underlying99,
    a124 := Tryd.isAgg99,
    z124 := Tryd.sizeOf99,
    v124 := Tryd.zeroValue99,
    t138 := Tryd.underlying109,
    a138 := Tryd.isAgg109,
    z138 := Tryd.sizeOf109,
    v138 := Tryd.zeroValue109,
    t139 := Tryd.underlying110,
    a139 := Tryd.isAgg110,
    z139 := Tryd.sizeOf110,
    v139 := Tryd.zeroValue110,
    g3 := by kernel_rfl,
    g4 := by kernel_rfl }
end Go.Proofs

/-
  NAMES AND SIGNATURES, BOTH SIDES. Own work.
-/
namespace Go.Fd
set_option maxRecDepth 20000

def callB (P : Program) (f : FuncId) : Bool := match P.funcs[f]? with | some fn => fn.body.isSome && !(fn.name == "runtime.NumGoroutine") | none => false

theorem callB_ok {P : Program} {f : FuncId} (h : callB P f = true) : Callable P f := by
  unfold callB at h
  split at h
  · rename_i fn hf
    simp only [Bool.and_eq_true, Bool.not_eq_true'] at h
    exact ⟨fn, hf, h.1, h.2⟩
  · cases h

abbrev AZ : ByteArray := ⟨#[97, 98, 99, 100, 101, 102, 103, 104, 105, 106, 107, 108, 109, 110, 111, 112, 113, 114, 115, 116, 117, 118, 119, 120, 121, 122]⟩

theorem sem_Trim (s : ByteArray) (hs : s.size ≤ 9223372036854775807) (lvl : Nat) (S : Sto) : Sem Go.Proofs.Tryd.prog fid_strings_Trim lvl [iS s, iS AZ] S (iS ⟨(Lib.trimS s.data.toList AZ.data.toList).toArray⟩) S :=
  sem_of_scal (xs := [.string s, .string AZ]) (callB_ok (by kernel_rfl)) rfl (fun w => Go.Proofs.Any.strings_Trim_laid Go.Proofs.Tryd.lays160 (by kernel_rfl) s AZ w hs (by decide) (Go.Proofs.ascii_of_all (by decide)))

/-- A name: one to four small letters. -/
def isNm (s : ByteArray) : Prop := (∀ b ∈ s.data.toList, 97 ≤ b.toNat ∧ b.toNat ≤ 122) ∧ 1 ≤ s.size ∧ s.size ≤ 4

theorem size_list (s : ByteArray) : s.size = s.data.toList.length := by rw [Array.length_toList]; rfl

theorem az_mem (b : UInt8) : b ∈ AZ.data.toList ↔ 97 ≤ b.toNat ∧ b.toNat ≤ 122 := by
  have : ∀ n : Fin 256, (UInt8.ofNat n.val) ∈ AZ.data.toList ↔ 97 ≤ n.val ∧ n.val ≤ 122 := by decide +kernel
  have h : UInt8.ofNat b.toNat ∈ AZ.data.toList ↔ 97 ≤ b.toNat ∧ b.toNat ≤ 122 := this ⟨b.toNat, b.toNat_lt⟩
  rw [show UInt8.ofNat b.toNat = b from UInt8.ofNat_toNat] at h
  exact h

theorem dw_nil {p : UInt8 → Bool} : ∀ {l : List UInt8}, l.dropWhile p = [] ↔ ∀ b ∈ l, p b = true
  | [] => by simp
  | x :: r => by
    simp only [List.dropWhile_cons, List.mem_cons, forall_eq_or_imp]
    cases h : p x with
    | true => simp [dw_nil (l := r)]
    | false => simp

theorem tw_mem {p : UInt8 → Bool} {b : UInt8} : ∀ {l : List UInt8}, b ∈ l.takeWhile p → p b = true
  | [], h => by simp at h
  | x :: r, h => by
    rw [List.takeWhile_cons] at h
    split at h
    · rename_i hx
      rcases List.mem_cons.1 h with rfl | h
      · exact hx
      · exact tw_mem h
    · cases h

theorem drop_nil {l cs : List UInt8} (h : ∀ b ∈ l, b ∈ cs) : l.dropWhile (cs.contains ·) = [] := by
  rw [dw_nil]
  intro b hb
  simpa using h b hb

theorem trimS_nil {l cs : List UInt8} : Lib.trimS l cs = [] ↔ ∀ b ∈ l, b ∈ cs := by
  unfold Lib.trimS Lib.trimLeftS Lib.trimRightS
  constructor
  · intro h b hb
    rw [dw_nil] at h
    have hrev : ∀ x ∈ (l.reverse.dropWhile (cs.contains ·)), x ∈ cs := fun x hx => by
      have := h x (by simpa using hx)
      simpa using this
    have hsplit : l.reverse = l.reverse.takeWhile (cs.contains ·) ++ l.reverse.dropWhile (cs.contains ·) := (List.takeWhile_append_dropWhile).symm
    have hb2 : b ∈ l.reverse := by simpa using hb
    rw [hsplit] at hb2
    rcases List.mem_append.1 hb2 with h1 | h1
    · have := tw_mem h1
      simpa using this
    · exact hrev b h1
  · intro h
    rw [drop_nil (l := l.reverse) (fun b hb => h b (by simpa using hb))]
    rfl

theorem sem_l2Name (s : ByteArray) (hs : s.size ≤ 9223372036854775807) (lvl : Nat) (S : Sto) : Sem Go.Proofs.Tryd.prog fid_spec_l2Name lvl [iS s] S (iB (dc (isNm s))) S := by
  refine sem_of_chk k_spec_l2Name trivial ?_
  simp only [c_spec_l2Name, r_cons, r_nil, r_kont, r_seq1, r_rg, r_sq, r_bl, r_wpF, r_op1, r_mv, ptd, pt, xv, kv, kc, params, ↓reduceIte, Nat.reduceEqDiff, reduceCtorEq, List.length_cons, List.length_nil, Nat.reduceLeDiff, Nat.reduceLT, true_and, Nat.zero_add]
  refine wp_cnt (α := Unit) s.size (fun j _ => [(3, iI j)]) (fun _ _ => []) (fun j _ => ∀ b ∈ s.data.toList.take j, 97 ≤ b.toNat ∧ b.toNat ≤ 122) () (by simp only [r_clean, r_okm4, r_okE0, r_okE1, r_okL0, ↓reduceIte, Nat.reduceEqDiff, reduceCtorEq, memB, keepB, keepOB, Bool.false_eq_true, and_self]) (by (simp only [r_fgt, r_chg, r_pts0, r_pts1, r_ptOs0, pt, ↓reduceIte, Nat.reduceEqDiff, reduceCtorEq, Nat.reduceLT, memB, keepB, keepOB, Bool.false_eq_true, Int.cast_ofNat_Int]) <;> rfl) (fun b hb => by simp at hb) ?_
  intro j _ hj hA
  simp only [r_cons, r_nil, r_kont, r_seq1, r_seq2, r_blk2, r_sk, r_rg, r_sq, r_bl, r_ex, r_cd, r_cd2, r_op1, r_go1, r_mv, r_bi, r_lti, r_lg, r_lg1, r_ixn, r_ix, r_ix1, r_kcn, r_sn0, r_sn1, r_ca, r_ca1, r_fgt, r_round2, r_chg, r_pts0, r_pts1, r_ptOs0, ptd, lk, pt, xv, kv, kc, ↓reduceIte, Nat.reduceEqDiff, reduceCtorEq, Nat.reduceLT, true_and, decide_eq_true_eq, List.map_cons, List.map_nil, List.cons_append, List.nil_append, mens, men, memB, keepB, keepOB, Bool.false_eq_true, Int.toNat_natCast, Int.natCast_nonneg, and_self]
  refine ite_of (fun hlt => ?_) (fun hge => ?_)
  · have hja : j < s.data.toList.length := by rw [← size_list]; omega
    have ga : s.data.toList[j]? = some (s.data.toList[j]) := List.getElem?_eq_getElem hja
    have hno : ¬ (97 ≤ (s.data.toList[j]).toNat ∧ (s.data.toList[j]).toNat ≤ 122) → ¬ isNm s := fun h hn => h (hn.1 _ (List.getElem_mem hja))
    by_cases h1 : ((s.data.toList[j]).toNat : Int) < 97
    · simp only [ga, h1, r_cons, r_nil, r_kont, r_seq1, r_seq3, r_blk3, r_fn2, r_rg, r_sq, r_rt, r_cd, r_cd2, r_op1, r_op1g, r_gd, r_go1, r_mv, r_bi, r_lti, r_pk, r_pkt, r_op3, r_ixb, r_fin, r_kfe1, r_kcx, r_exps0, r_exps1, r_kex, r_exp1, r_expv2, r_round3, r_lt1, ptd, lk, pt, xv, kv, kc, ↓reduceIte, Nat.reduceEqDiff, reduceCtorEq, Nat.reduceLT, and_true, decide_true, Bool.true_eq_false, Bool.not_false]
      rw [dc_false (hno (by omega))]
    by_cases h2 : (122 : Int) < (s.data.toList[j]).toNat
    · simp only [ga, h1, h2, r_cons, r_nil, r_kont, r_seq1, r_seq3, r_blk3, r_fn2, r_rg, r_sq, r_rt, r_cd, r_cd2, r_op1, r_op1g, r_gd, r_go1, r_mv, r_bi, r_lti, r_gti, r_pk, r_pkf, r_op3, r_ixn, r_ixb, r_ix, r_ix1, r_fin, r_kfe1, r_kcx, r_exps0, r_exps1, r_kex, r_exp1, r_expv2, r_round3, r_lt1, ptd, lk, pt, xv, kv, kc, ↓reduceIte, Nat.reduceEqDiff, reduceCtorEq, Nat.reduceLT, true_and, and_true, decide_true, decide_false, Int.toNat_natCast, Int.natCast_nonneg]
      rw [dc_false (hno (by omega))]
    · simp only [ga, h1, h2, r_cons, r_nil, r_kont, r_seq1, r_blk1, r_sk, r_rg, r_cd, r_cd2, r_op1, r_op1g, r_gd, r_go1, r_mv, r_bi, r_add0, r_lti, r_gti, r_pk, r_pkf, r_op3, r_ixn, r_ixb, r_ix, r_ix1, r_fgt, r_clean, r_okm4, r_okE0, r_okE1, r_okL0, r_round1, r_lt1, ptd, lk, pt, xv, kv, kc, ↓reduceIte, Nat.reduceEqDiff, reduceCtorEq, Nat.reduceLT, true_and, decide_false, memB, keepB, keepOB, Bool.false_eq_true, Int.toNat_natCast, Int.natCast_nonneg, and_self]
      refine ⟨by rw [fits_i64]; omega, cntJ_intro () (by omega) rfl ?_⟩
      intro b hb
      rw [List.take_succ_eq_append_getElem hja] at hb
      rcases List.mem_append.1 hb with h | h
      · exact hA b h
      · have : b = s.data.toList[j] := by simpa using h
        subst this
        omega
  · have : j = s.size := by omega
    subst this
    rw [size_list, List.take_length] at hA
    refine kca_intro (sem_l1In s.size 1 4) ?_
    simp only [r_cons, r_nil, r_kont, r_seq1, r_fn2, r_rt, r_op1, r_mv, r_fin, r_kfe1, r_kcx, r_exps0, r_exps1, r_kex, r_exp1, r_expv2, r_lt1, ptd, keyOf, freshK, lk, pt, addO, xv, ↓reduceIte, Nat.reduceEqDiff, Nat.reduceMul, reduceCtorEq, List.length_nil, Nat.reduceLT, true_and, and_true, noSh, isSc, impv, or_true]
    rw [dc_congr (q := 1 ≤ s.size ∧ s.size ≤ 4) ⟨fun h => h.2, fun h => ⟨hA, h⟩⟩]
    by_cases h : 1 ≤ s.size ∧ s.size ≤ 4
    · rw [dc_true h, inB_iff.2 (by omega)]
    · rw [dc_false h, inB_not.2 (by omega)]

theorem sem_isName (s : ByteArray) (hs : s.size ≤ 9223372036854775807) (lvl : Nat) (S : Sto) : Sem Go.Proofs.Tryd.prog fid_impl_isName lvl [iS s] S (iB (dc (isNm s))) S := by
  refine sem_of_chk k_impl_isName trivial ?_
  simp only [c_impl_isName, r_cons, r_nil, r_kont, r_seq1, r_rg, r_sq, r_wpF, r_op1, r_go1, r_mv, r_lg, r_lg1, r_kcn, r_sn0, r_sn1, r_ca, r_ca1, ptd, lk, pt, xv, kv, kc, params, ↓reduceIte, Nat.reduceEqDiff, reduceCtorEq, List.length_cons, List.length_nil, Nat.reduceLeDiff, Nat.reduceLT, true_and, List.map_cons, List.map_nil, List.cons_append, List.nil_append, mens, men, Nat.zero_add, and_self]
  refine kca_intro (sem_within s.size 1 4) ?_
  simp only [r_cons, r_nil, r_kont, r_seq1, r_fn2, r_rt, r_op1, r_op1g, r_gd, r_go1, r_mv, r_pk, r_pkf, r_kcn, r_sn0, r_sn1, r_ca, r_ca1, r_fin, r_kfe1, r_kcx, r_exps0, r_exps1, r_kex, r_exp1, r_expv2, ptd, keyOf, freshK, lk, pt, addO, xv, kv, kc, ↓reduceIte, Nat.reduceEqDiff, Nat.reduceMul, reduceCtorEq, List.length_nil, Nat.reduceLT, true_and, and_true, List.map_cons, List.map_nil, List.cons_append, List.nil_append, mens, men, noSh, isSc, impv, or_true, Bool.false_eq_true, Bool.not_true, and_self]
  cases hin : inB (s.size : Int) 1 4 with
  | false =>
    have : ¬ isNm s := fun h => (inB_not.1 hin) (by have := h.2; omega)
    rw [dc_false this]
    simp only [↓reduceIte, Bool.false_eq_true]
  | true =>
    have hin' := inB_iff.1 hin
    simp only [↓reduceIte]
    refine kca_intro (sem_Trim s hs) ?_
    simp only [r_cons, r_nil, r_kont, r_seq1, r_fn2, r_rt, r_op1, r_op1g, r_gd, r_go1, r_mv, r_bi, r_eqs, r_pk, r_pkt, r_fin, r_kfe1, r_kcx, r_exps0, r_exps1, r_kex, r_exp1, r_expv2, ptd, keyOf, freshK, lk, pt, addO, xv, kv, kc, ↓reduceIte, Nat.reduceEqDiff, Nat.reduceMul, reduceCtorEq, List.length_nil, Nat.reduceLT, true_and, and_true, noSh, isSc, impv, or_true]
    by_cases h : isNm s
    · have : Lib.trimS s.data.toList AZ.data.toList = [] := trimS_nil.2 (fun b hb => (az_mem b).2 (h.1 b hb))
      rw [dc_true h, this]
      rfl
    · have : ¬ Lib.trimS s.data.toList AZ.data.toList = [] := fun e => h ⟨fun b hb => (az_mem b).1 (trimS_nil.1 e b hb), by omega, by omega⟩
      rw [dc_false h]
      have h2 : ¬ (⟨(Lib.trimS s.data.toList AZ.data.toList).toArray⟩ : ByteArray) = ⟨#[]⟩ := fun e => this (by
        have := congrArg (fun b : ByteArray => b.data.toList) e
        simpa using this)
      simp [h2]

/-- A signature: each control has a name, few ports and a kind; no two have one name. -/
def ctlOK (c : TControl) : Prop := isNm c.name ∧ (0 ≤ c.ports ∧ c.ports ≤ 3) ∧ 0 ≤ c.kind_ ∧ c.kind_ ≤ 2

def sigAt (sig : List TControl) (i : Nat) : Prop := ∀ h : i < sig.length, ctlOK sig[i] ∧ ∀ k (hk : k < i), (sig[k]'(by omega)).name ≠ sig[i].name

def sigOK (sig : List TControl) : Prop := (∀ i, sigAt sig i) ∧ 1 ≤ sig.length ∧ sig.length ≤ 6

theorem sem_IsSignature_1 (c d : TControl) (lvl : Nat) (S : Sto) : Sem Go.Proofs.Tryd.prog fid_impl_IsSignature_1 lvl [.ag ((cControl d).map .tr), .ta (cControl c)] S (iB (decide (d.name = c.name))) S := by
  refine sem_of_chk k_impl_IsSignature_1 trivial ?_
  simp only [c_impl_IsSignature_1, cControl, r_cons, r_nil, r_kont, r_seq1, r_fn2, r_rg, r_sq, r_rt, r_wpF, r_op1, r_go1, r_mv, r_bt, r_bt1, r_bi, r_eqs, r_op3, r_fa, r_fa1, r_ltr, r_ld, r_ld1, r_fin, r_kfe1, r_kcx, r_exps0, r_exps1, r_kex, r_exp1, r_expv2, ptd, lk, pt, xv, kv, kc, params, ↓reduceIte, Nat.reduceEqDiff, reduceCtorEq, List.length_cons, List.length_nil, Nat.reduceAdd, Nat.reduceLeDiff, Nat.reduceLT, List.map_cons, List.map_nil, List.getElem?_cons_zero, List.drop_zero, List.all_cons, List.all_nil, isCell, Bool.and_self, cellsOf, totr, totrs, tocs, Nat.zero_add, and_self]

theorem g_ixFControl : chkF Go.Proofs.Tryd.prog fid_slices_IndexFunc_impl_Control_impl_Control (gIxF 3 (some 3)) = true := by kernel_rfl

theorem g_coFControl : chkF Go.Proofs.Tryd.prog fid_slices_ContainsFunc_impl_Control_impl_Control (gCoF fid_slices_IndexFunc_impl_Control_impl_Control) = true := by kernel_rfl

theorem sem_l2Sig (sig : List TControl) (hl : sig.length ≤ 9223372036854775807) (hb : ∀ y ∈ sig, bdControl 9223372036854775807 y) (lvl : Nat) (S : Sto) : Sem Go.Proofs.Tryd.prog fid_spec_l2Sig lvl [.tr (.sl (sig.map cControl))] S (iB (dc (sigOK sig))) S := by
  refine sem_of_chk k_spec_l2Sig trivial ?_
  simp only [c_spec_l2Sig, r_cons, r_nil, r_kont, r_seq1, r_rg, r_sq, r_bl, r_wpF, r_op1, r_mv, ptd, pt, xv, kv, kc, params, ↓reduceIte, Nat.reduceEqDiff, reduceCtorEq, List.length_cons, List.length_nil, Nat.reduceLeDiff, Nat.reduceLT, true_and, Nat.zero_add]
  refine wp_cnt (α := Unit) sig.length (fun j _ => [(3, iI j)]) (fun _ _ => []) (fun j _ => ∀ i, i < j → sigAt sig i) () (by simp only [r_clean, r_okm4, r_okE0, r_okE1, r_okL0, ↓reduceIte, Nat.reduceEqDiff, reduceCtorEq, memB, keepB, keepOB, Bool.false_eq_true, and_self]) (by (simp only [r_fgt, r_chg, r_pts0, r_pts1, r_ptOs0, pt, ↓reduceIte, Nat.reduceEqDiff, reduceCtorEq, Nat.reduceLT, memB, keepB, keepOB, Bool.false_eq_true, Int.cast_ofNat_Int]) <;> rfl) (fun i hi => by omega) ?_
  intro j _ hj hA
  simp only [List.length_map, r_cons, r_nil, r_kont, r_seq1, r_seq2, r_blk2, r_sk, r_rg, r_sq, r_bl, r_ex, r_cd, r_cd2, r_op1, r_go1, r_mv, r_bi, r_lti, r_ln, r_ln1, r_ixn, r_ia, r_ia1, r_kcn, r_sn0, r_sn1, r_ca, r_ca1, r_fgt, r_round2, r_chg, r_pts0, r_pts1, r_ptOs0, ptd, lk, pt, xv, kv, kc, ↓reduceIte, Nat.reduceEqDiff, reduceCtorEq, Nat.reduceLT, true_and, decide_eq_true_eq, List.map_cons, List.map_nil, List.cons_append, List.nil_append, mens, men, memB, keepB, keepOB, Bool.false_eq_true, Int.toNat_natCast, Int.natCast_nonneg, List.length_map, and_self]
  refine ite_of (fun hlt => ?_) (fun hge => ?_)
  · have hja : j < sig.length := by omega
    have ga := getA (c := cControl) hja
    have hbj : sig[j].name.size ≤ 9223372036854775807 := hb _ (List.getElem_mem hja)
    have hno : ¬ ctlOK sig[j] → ¬ sigOK sig := fun h hs => h (hs.1 j hja).1
    simp only [ga, cControl, r_cons, r_kont, r_op1, r_go1, r_op3, r_fa, r_fa1, r_iae, r_ltr, r_ld, r_ld1, r_kcn, r_sn0, r_sn1, r_ca, r_ca1, ptd, lk, pt, xv, ↓reduceIte, Nat.reduceEqDiff, reduceCtorEq, List.length_cons, List.length_nil, Nat.reduceAdd, Nat.reduceLT, true_and, List.map_cons, List.map_nil, List.cons_append, List.nil_append, List.getElem?_cons_zero, List.drop_zero, mens, men, Nat.zero_add, and_self]
    refine kca_intro (sem_l2Name sig[j].name hbj) ?_
    simp only [ga, cControl, r_cons, r_nil, r_kont, r_seq1, r_seq3, r_blk3, r_fn2, r_rg, r_sq, r_rt, r_cd, r_cd2, r_op1, r_op1g, r_gd, r_go1, r_mv, r_nt, r_nt1, r_pk, r_pkt, r_op3, r_fa, r_fa1, r_ixn, r_ia, r_iae, r_ia1, r_ltr, r_ld, r_ld1, r_kcn, r_sn0, r_sn1, r_ca, r_ca1, r_fin, r_kfe1, r_kcx, r_exps0, r_exps1, r_kex, r_exp1, r_expv2, r_round3, r_lt1, ptd, keyOf, freshK, lk, pt, addO, xv, kv, kc, ↓reduceIte, Nat.reduceEqDiff, Nat.reduceMul, reduceCtorEq, List.length_cons, List.length_nil, Nat.reduceAdd, Nat.reduceLT, true_and, and_true, List.map_cons, List.map_nil, List.cons_append, List.nil_append, List.getElem?_cons_zero, List.drop_succ_cons, List.drop_zero, mens, men, noSh, isSc, impv, or_true, Bool.true_eq_false, Bool.not_false, Int.toNat_natCast, Nat.zero_add, Bool.not_eq_false', Int.natCast_nonneg, and_self]
    cases hn : dc (isNm sig[j].name) with
    | false =>
      simp only [↓reduceIte, Bool.false_eq_true]
      rw [dc_false (hno fun h => dc_not.1 hn h.1)]
    | true =>
      have hn' := dc_iff.1 hn
      simp only [↓reduceIte, Bool.not_true]
      refine kca_intro (sem_l1In sig[j].ports 0 3) ?_
      simp only [ga, cControl, r_cons, r_nil, r_kont, r_seq1, r_seq3, r_blk3, r_fn2, r_rg, r_sq, r_rt, r_cd, r_cd2, r_op1, r_op1g, r_gd, r_go1, r_mv, r_nt, r_nt1, r_pk, r_pkt, r_pkf, r_op3, r_fa, r_fa1, r_ixn, r_ia, r_iae, r_ia1, r_ltr, r_ld, r_ld1, r_kcn, r_sn0, r_sn1, r_ca, r_ca1, r_fin, r_kfe1, r_kcx, r_exps0, r_exps1, r_kex, r_exp1, r_expv2, r_round3, r_lt1, ptd, keyOf, freshK, lk, pt, addO, xv, kv, kc, ↓reduceIte, Nat.reduceEqDiff, Nat.reduceMul, reduceCtorEq, List.length_cons, List.length_nil, Nat.reduceAdd, Nat.reduceLT, true_and, and_true, List.map_cons, List.map_nil, List.cons_append, List.nil_append, List.getElem?_cons_zero, List.drop_succ_cons, List.drop_zero, mens, men, noSh, isSc, impv, or_true, Bool.true_eq_false, Bool.not_false, Int.toNat_natCast, Nat.zero_add, Bool.not_eq_false', Int.natCast_nonneg, and_self]
      cases hp : inB sig[j].ports 0 3 with
      | false =>
        simp only [↓reduceIte, Bool.false_eq_true]
        rw [dc_false (hno fun h => inB_not.1 hp h.2.1)]
      | true =>
        have hp' := inB_iff.1 hp
        simp only [↓reduceIte, Bool.not_true]
        refine kca_intro (sem_l1In sig[j].kind_ 0 2) ?_
        simp only [r_cons, r_nil, r_kont, r_seq1, r_seq3, r_blk3, r_fn2, r_sk, r_rg, r_sq, r_bl, r_rt, r_cd, r_cd2, r_op1, r_op1g, r_gd, r_go1, r_mv, r_nt, r_nt1, r_pk, r_pkf, r_fin, r_kfe1, r_kcx, r_exps0, r_exps1, r_kex, r_exp1, r_expv2, r_round3, r_lt1, ptd, keyOf, freshK, lk, pt, addO, xv, kv, kc, ↓reduceIte, Nat.reduceEqDiff, Nat.reduceMul, reduceCtorEq, List.length_nil, Nat.reduceLT, true_and, and_true, noSh, isSc, impv, or_true, Bool.not_eq_true']
        cases hk : inB sig[j].kind_ 0 2 with
        | false =>
          simp only [↓reduceIte]
          rw [dc_false (hno fun h => inB_not.1 hk h.2.2)]
        | true =>
          have hk' := inB_iff.1 hk
          simp only [↓reduceIte, Bool.true_eq_false, Bool.not_true]
          refine wp_cnt (α := Unit) j (fun k _ => [(4, iI k)]) (fun _ _ => []) (fun k _ => ∀ i (hi : i < k), k ≤ j → ∀ hi2 : i < sig.length, (sig[i]'hi2).name ≠ sig[j].name) () (by simp only [r_clean, r_okm4, r_okE0, r_okE1, r_okL0, ↓reduceIte, Nat.reduceEqDiff, reduceCtorEq, memB, keepB, keepOB, Bool.false_eq_true, and_self]) (by (simp only [r_fgt, r_chg, r_pts0, r_pts1, r_ptOs0, pt, ↓reduceIte, Nat.reduceEqDiff, reduceCtorEq, Nat.reduceLT, memB, keepB, keepOB, Bool.false_eq_true, Int.cast_ofNat_Int]) <;> rfl) (fun i hi => by omega) ?_
          intro k _ hkj hB
          simp only [r_cons, r_nil, r_kont, r_seq1, r_seq2, r_blk1, r_blk2, r_sk, r_rg, r_sq, r_bl, r_ex, r_cd, r_cd2, r_op1, r_go1, r_mv, r_bi, r_add0, r_lti, r_ixn, r_ia, r_ia1, r_fgt, r_clean, r_okm4, r_okE0, r_okE1, r_okL0, r_round1, r_round2, r_chg, r_pts0, r_pts1, r_ptOs0, ptd, lk, pt, xv, kv, kc, ↓reduceIte, Nat.reduceEqDiff, reduceCtorEq, Nat.reduceLT, true_and, decide_eq_true_eq, memB, keepB, keepOB, Bool.false_eq_true, Int.toNat_natCast, Int.natCast_nonneg, ne_eq, and_self]
          refine ite_of (fun hlt2 => ?_) (fun hge2 => ?_)
          · have hka : k < sig.length := by omega
            have gb := getA (c := cControl) hka
            simp only [ga, gb, cControl, r_cons, r_nil, r_kont, r_seq1, r_seq3, r_blk1, r_blk3, r_fn2, r_sk, r_rg, r_sq, r_rt, r_cd, r_cd2, r_op1, r_go1, r_mv, r_bi, r_add0, r_eqs, r_op3, r_fa, r_fa1, r_ixn, r_ia, r_iae, r_ia1, r_ltr, r_ld, r_ld1, r_fin, r_kfe1, r_kcx, r_exps0, r_exps1, r_kex, r_exp1, r_expv2, r_fgt, r_clean, r_okm4, r_okE0, r_okE1, r_okL0, r_round1, r_round3, r_lt1, ptd, lk, pt, xv, kv, kc, ↓reduceIte, Nat.reduceEqDiff, reduceCtorEq, List.length_cons, List.length_nil, Nat.reduceAdd, Nat.reduceLT, true_and, and_true, decide_eq_true_eq, List.getElem?_cons_zero, List.drop_zero, memB, keepB, keepOB, Bool.false_eq_true, Int.toNat_natCast, Nat.zero_add, Int.natCast_nonneg, and_self]
            refine ite_of (fun he => ?_) (fun hne => ?_)
            · rw [dc_false (fun hs : sigOK sig => (hs.1 j hja).2 k (by omega) he)]
            · refine ⟨by rw [fits_i64]; omega, cntJ_intro () (by omega) rfl (fun i hi _ hi2 => ?_)⟩
              by_cases e : i = k
              · subst e; exact hne
              · exact hB i (by omega) (by omega) hi2
          · have : k = j := by omega
            subst this
            refine ⟨by rw [fits_i64]; omega, cntJ_intro () hja rfl (fun i hi => ?_)⟩
            by_cases e : i = k
            · subst e
              exact fun h => ⟨⟨hn', hp', hk'⟩, fun q hq => hB q hq (Nat.le_refl _) (by omega)⟩
            · exact hA i (by omega)
  · have : j = sig.length := by omega
    subst this
    refine kca_intro (sem_l1In sig.length 1 6) ?_
    simp only [r_cons, r_nil, r_kont, r_seq1, r_fn2, r_rt, r_op1, r_mv, r_fin, r_kfe1, r_kcx, r_exps0, r_exps1, r_kex, r_exp1, r_expv2, r_lt1, ptd, keyOf, freshK, lk, pt, addO, xv, ↓reduceIte, Nat.reduceEqDiff, Nat.reduceMul, reduceCtorEq, List.length_nil, Nat.reduceLT, true_and, and_true, noSh, isSc, impv, or_true]
    have hall : ∀ i, sigAt sig i := fun i h => hA i h h
    rw [dc_congr (q := 1 ≤ sig.length ∧ sig.length ≤ 6) ⟨fun h => h.2, fun h => ⟨hall, h⟩⟩]
    by_cases h : 1 ≤ sig.length ∧ sig.length ≤ 6
    · rw [dc_true h, inB_iff.2 (by omega)]
    · rw [dc_false h, inB_not.2 (by omega)]

theorem sem_impl_IsSignature (sig : List TControl) (hl : sig.length ≤ 9223372036854775807) (hb : ∀ y ∈ sig, bdControl 9223372036854775807 y) (lvl : Nat) (S : Sto) : Sem Go.Proofs.Tryd.prog fid_impl_IsSignature lvl [.tr (.sl (sig.map cControl))] S (iB (dc (sigOK sig))) S := by
  refine sem_of_chk k_impl_IsSignature trivial ?_
  simp only [c_impl_IsSignature, List.length_map, r_cons, r_nil, r_kont, r_seq1, r_rg, r_sq, r_wpF, r_op1, r_go1, r_mv, r_ln, r_ln1, r_kcn, r_sn0, r_sn1, r_ca, r_ca1, ptd, lk, pt, xv, kv, kc, params, ↓reduceIte, Nat.reduceEqDiff, reduceCtorEq, List.length_cons, List.length_nil, Nat.reduceLeDiff, Nat.reduceLT, true_and, List.map_cons, List.map_nil, List.cons_append, List.nil_append, mens, men, Nat.zero_add, List.length_map, and_self]
  refine kca_intro (sem_within sig.length 1 6) ?_
  simp only [List.length_map, r_cons, r_nil, r_kont, r_seq1, r_seq3, r_fn2, r_sk, r_rg, r_sq, r_bl, r_rt, r_cd, r_cd2, r_op1, r_go1, r_mv, r_nt, r_nt1, r_ln, r_ln1, r_fin, r_kfe1, r_kcx, r_exps0, r_exps1, r_kex, r_exp1, r_expv2, ptd, keyOf, freshK, lk, pt, addO, xv, kv, kc, ↓reduceIte, Nat.reduceEqDiff, Nat.reduceMul, reduceCtorEq, List.length_nil, Nat.reduceLT, true_and, and_true, noSh, isSc, impv, or_true, Bool.not_eq_true', List.length_map]
  refine ite_of (fun h => ?_) (fun h => ?_)
  · rw [dc_false (fun hs : sigOK sig => (inB_not.1 h) (by have := hs.2; omega))]
  have hln := inB_iff.1 (by simpa using h)
  refine wp_cnt (α := Unit) sig.length (fun j _ => [(11, iI j)]) (fun _ _ => []) (fun j _ => ∀ i, i < j → sigAt sig i) () (by simp only [r_clean, r_okm4, r_okE0, r_okE1, r_okL0, ↓reduceIte, Nat.reduceEqDiff, reduceCtorEq, memB, keepB, keepOB, Bool.false_eq_true, and_self]) (by (simp only [r_fgt, r_chg, r_pts0, r_pts1, r_ptOs0, pt, ↓reduceIte, Nat.reduceEqDiff, reduceCtorEq, Nat.reduceLT, memB, keepB, keepOB, Bool.false_eq_true, Int.cast_ofNat_Int]) <;> rfl) (fun i hi => by omega) ?_
  intro j _ hj hA
  simp only [r_cons, r_nil, r_kont, r_seq1, r_seq2, r_blk2, r_fn2, r_sk, r_rg, r_sq, r_bl, r_ex, r_rt, r_cd, r_cd2, r_op1, r_go1, r_mv, r_bi, r_lti, r_ixn, r_ia, r_ia1, r_fin, r_kfe1, r_kcx, r_exps0, r_exps1, r_kex, r_exp1, r_expv2, r_fgt, r_round2, r_chg, r_pts0, r_pts1, r_ptOs0, ptd, lk, pt, xv, kv, kc, ↓reduceIte, Nat.reduceEqDiff, reduceCtorEq, Nat.reduceLT, true_and, and_true, decide_eq_true_eq, memB, keepB, keepOB, Bool.false_eq_true, Int.toNat_natCast, Int.natCast_nonneg]
  refine ite_of (fun hlt => ?_) (fun hge => ?_)
  · have hja : j < sig.length := by omega
    have ga := getA (c := cControl) hja
    have hbj : sig[j].name.size ≤ 9223372036854775807 := hb _ (List.getElem_mem hja)
    have hno : ¬ ctlOK sig[j] → ¬ sigOK sig := fun h hs => h (hs.1 j hja).1
    simp only [ga, cControl, r_cons, r_nil, r_kont, r_seq1, r_rg, r_sq, r_op1, r_go1, r_mv, r_al, r_op3, r_fa, r_fa2, r_iae, r_pack, r_setOb, r_lab, r_ld, r_ld2, r_ld4, r_kcn, r_sn0, r_sn1, r_ca, r_ca1, r_st, r_st1, r_stb, r_setAt0, r_setAt1, r_lows0, r_lows1, r_low1, r_lt1, zfill, zobs, ptd, keyOf, freshK, lk, pt, lkO, ptO, addO, xv, kc, ↓reduceIte, Nat.reduceEqDiff, Nat.reduceMul, reduceCtorEq, List.length_cons, List.length_nil, Nat.reduceAdd, Nat.reduceLT, true_and, List.map_cons, List.map_nil, List.cons_append, List.nil_append, List.getElem?_cons_zero, List.take_succ_cons, List.take_zero, mens, men, List.all_cons, List.all_nil, isCell, Bool.and_self, cellsOf, Nat.zero_add, Nat.add_zero, List.set_cons_zero, List.set_cons_succ, Nat.le_refl, and_self]
    refine kca_intro (sem_isName sig[j].name hbj) ?_
    simp only [r_cons, r_nil, r_kont, r_seq1, r_seq3, r_blk3, r_fn2, r_rg, r_sq, r_rt, r_cd, r_cd2, r_op1, r_op1g, r_gd, r_go1, r_mv, r_nt, r_nt1, r_pk, r_pkt, r_op3, r_fa, r_fa2, r_pack, r_lab, r_ld, r_ld2, r_kcn, r_sn0, r_sn1, r_ca, r_ca1, r_fin, r_kfe1, r_kcx, r_exps0, r_exps1, r_kex, r_exp1, r_expv2, r_round3, r_lt1, ptd, keyOf, freshK, lk, pt, lkO, addO, xv, kv, kc, ↓reduceIte, Nat.reduceEqDiff, Nat.reduceMul, reduceCtorEq, List.length_nil, Nat.reduceLT, true_and, and_true, List.map_cons, List.map_nil, List.cons_append, List.nil_append, List.getElem?_cons_zero, List.getElem?_cons_succ, mens, men, noSh, isSc, impv, or_true, Bool.true_eq_false, Bool.not_false, Nat.zero_add, Bool.not_eq_false', and_self]
    cases hn : dc (isNm sig[j].name) with
    | false =>
      simp only [↓reduceIte, Bool.false_eq_true]
      rw [dc_false (hno fun h => dc_not.1 hn h.1)]
    | true =>
      have hn' := dc_iff.1 hn
      simp only [↓reduceIte, Bool.not_true]
      refine kca_intro (sem_within sig[j].ports 0 3) ?_
      simp only [r_cons, r_nil, r_kont, r_seq1, r_seq3, r_blk3, r_fn2, r_rg, r_sq, r_rt, r_cd, r_cd2, r_op1, r_op1g, r_gd, r_go1, r_mv, r_nt, r_nt1, r_pk, r_pkt, r_pkf, r_op3, r_fa, r_fa2, r_pack, r_lab, r_ld, r_ld2, r_kcn, r_sn0, r_sn1, r_ca, r_ca1, r_fin, r_kfe1, r_kcx, r_exps0, r_exps1, r_kex, r_exp1, r_expv2, r_round3, r_lt1, ptd, keyOf, freshK, lk, pt, lkO, addO, xv, kv, kc, ↓reduceIte, Nat.reduceEqDiff, Nat.reduceMul, reduceCtorEq, List.length_nil, Nat.reduceLT, true_and, and_true, List.map_cons, List.map_nil, List.cons_append, List.nil_append, List.getElem?_cons_zero, List.getElem?_cons_succ, mens, men, noSh, isSc, impv, or_true, Bool.true_eq_false, Bool.not_false, Nat.zero_add, Bool.not_eq_false', and_self]
      cases hp : inB sig[j].ports 0 3 with
      | false =>
        simp only [↓reduceIte, Bool.false_eq_true]
        rw [dc_false (hno fun h => inB_not.1 hp h.2.1)]
      | true =>
        have hp' := inB_iff.1 hp
        simp only [↓reduceIte, Bool.not_true]
        refine kca_intro (sem_within sig[j].kind_ 0 2) ?_
        simp only [r_cons, r_nil, r_kont, r_seq1, r_seq3, r_blk3, r_fn2, r_rg, r_sq, r_rt, r_cd, r_cd2, r_op1, r_op1g, r_gd, r_go1, r_mv, r_nt, r_nt1, r_mf, r_mf1, r_pk, r_pkt, r_pkf, r_pack, r_bn0, r_bn1, r_sxt, r_sxt2, r_sxt3, r_sx, r_sx1, r_kcn, r_kfnn, r_sn0, r_sn1, r_sn4, r_ca, r_ca1, r_fin, r_kfe1, r_kcx, r_exps0, r_exps1, r_kex, r_exp1, r_expv2, r_round3, r_kabn, r_sn9, r_kta, r_snb, r_kct, r_ksnc, r_snc0, r_snc1, r_snct, r_lt1, ptd, keyOf, freshK, lk, pt, lkO, addO, xv, kv, kc, ↓reduceIte, Nat.reduceEqDiff, Nat.reduceMul, reduceCtorEq, List.length_nil, Nat.reduceLT, true_and, and_true, Option.map_some, Option.map_none, Option.isSome_none, List.map_cons, List.map_nil, List.cons_append, List.nil_append, List.drop_zero, mens, men, noSh, isSc, impv, or_true, Bool.false_eq_true, Bool.true_eq_false, Bool.not_false, Int.toNat_natCast, List.all_cons, List.all_nil, isCell, Bool.and_self, Bool.not_eq_false', Int.natCast_nonneg, List.length_map, and_false]
        cases hk : inB sig[j].kind_ 0 2 with
        | false =>
          simp only [↓reduceIte, Bool.false_eq_true]
          rw [dc_false (hno fun h => inB_not.1 hk h.2.2)]
        | true =>
          have hk' := inB_iff.1 hk
          have hjl : j ≤ sig.length := by omega
          simp only [hjl, ↓reduceIte, true_and, Bool.not_true]
          have hc := sem_coFk (P := Go.Proofs.Tryd.prog) g_coFControl g_ixFControl cControl_len (f := fun d : TControl => decide (d.name = sig[j].name)) (fe := fid_impl_IsSignature_1) (cs := [cControl sig[j]]) (sig.take j) (by rw [List.length_take]; omega) (fun d _ lvl S => sem_IsSignature_1 sig[j] d lvl S)
          rw [← cut_take0] at hc
          refine ⟨fun h => h.elim, Nat.zero_le _, kca_intro hc ?_⟩
          simp only [r_cons, r_nil, r_kont, r_seq1, r_seq3, r_blk1, r_blk3, r_fn2, r_sk, r_rg, r_sq, r_rt, r_cd, r_cd2, r_op1, r_go1, r_mv, r_bi, r_add0, r_pk, r_pkf, r_fin, r_kfe1, r_kcx, r_exps0, r_exps1, r_kex, r_exp1, r_expv2, r_fgt, r_clean, r_okm4, r_okE0, r_okE1, r_okL0, r_round1, r_round3, r_lt1, ptd, keyOf, freshK, lk, pt, addO, xv, kv, kc, ↓reduceIte, Nat.reduceEqDiff, Nat.reduceMul, reduceCtorEq, List.length_nil, Nat.reduceLT, true_and, and_true, noSh, isSc, impv, memB, keepB, keepOB, or_true, Bool.false_eq_true, and_self]
          cases ha : (sig.take j).any (fun d : TControl => decide (d.name = sig[j].name)) with
          | true =>
            simp only [↓reduceIte]
            obtain ⟨d, hd, he⟩ := List.any_eq_true.1 ha
            obtain ⟨q, hq, rfl⟩ := List.getElem_of_mem hd
            rw [List.length_take] at hq
            rw [dc_false (fun hs : sigOK sig => (hs.1 j hja).2 q (by omega) (by simpa using he))]
          | false =>
            simp only [↓reduceIte, Bool.false_eq_true]
            refine ⟨by rw [fits_i64]; omega, cntJ_intro () hja rfl (fun i hi => ?_)⟩
            by_cases e : i = j
            · subst e
              refine fun h => ⟨⟨hn', hp', hk'⟩, fun q hq => ?_⟩
              have := (List.any_eq_false.1 ha) sig[q] (by
                rw [List.mem_take_iff_getElem]
                exact ⟨q, by omega, rfl⟩)
              simpa using this
            · exact hA i (by omega)
  · have : j = sig.length := by omega
    subst this
    have hall : ∀ i, sigAt sig i := fun i h => hA i h h
    rw [dc_true (p := sigOK sig) ⟨hall, by omega, by omega⟩]
end Go.Fd

/-
  WHAT A SIZE THAT IS LEFT SAYS OF BOUNDS (printed by lawgen.py). Own work.
-/
namespace Go.Fd
/-- A measure that only falls, and what it shows where something is left. -/
def Zm (s : Int → Int) (P : Prop) : Prop := ∀ l : Int, 0 ≤ l → l ≤ 1048576 → s l ≤ l ∧ (0 ≤ s l → P)
theorem Zm_id : Zm (fun l => l) True := fun _ _ _ => ⟨Int.le_refl _, fun _ => trivial⟩
theorem Zm_th {s g : Int → Int} {P Q : Prop} (hs : Zm s P) (hg : Zm g Q) : Zm (fun l => szTh (s l) g) (P ∧ Q) := fun l h0 h1 => by
  have a := hs l h0 h1
  by_cases h : s l < 0
  · simp only [szTh, if_pos h]
    exact ⟨by omega, fun h => by omega⟩
  · simp only [szTh, if_neg h]
    have b := hg (s l) (by omega) (by omega)
    exact ⟨by omega, fun h2 => ⟨a.2 (by omega), b.2 h2⟩⟩
theorem Zm_N (n : Nat) : Zm (fun l => szN n l) (n ≤ 4294967296) := fun l h0 h1 => by
  simp only [szN]
  split
  · exact ⟨by omega, fun h => by omega⟩
  · exact ⟨by omega, fun h => by omega⟩
theorem Zm_str (n : Nat) : Zm (fun l => l - n) (n ≤ 4294967296) := fun l h0 h1 => ⟨by simp only; omega, fun h => by simp only at h; omega⟩
theorem Zm_F {α : Type} {f : α → Int → Int} {P : α → Prop} (hf : ∀ x, Zm (f x) (P x)) : ∀ (a : List α), Zm (fun l => szF f a l) (∀ y ∈ a, P y)
  | [] => fun l _ _ => ⟨Int.le_refl l, fun _ y hy => by cases hy⟩
  | x :: r => fun l h0 h1 => by
    simp only [szF]
    have a := hf x l h0 h1
    split
    · exact ⟨by omega, fun h => by omega⟩
    · have b := Zm_F hf r (f x l) (by omega) (by omega)
      refine ⟨by simp only at b; omega, fun h y hy => ?_⟩
      cases hy with
      | head => exact a.2 (by omega)
      | tail _ hy => exact b.2 h y hy
theorem Zm_L {α : Type} {f : α → Int → Int} {P : α → Prop} (hf : ∀ x, Zm (f x) (P x)) (a : List α) : Zm (fun l => szL f a l) (a.length ≤ 4294967296 ∧ ∀ y ∈ a, P y) := fun l h0 h1 => by
  simp only [szL]
  split
  · exact ⟨by omega, fun h => by omega⟩
  · have b := Zm_F hf a (l - a.length) (by omega) (by omega)
    simp only at b
    exact ⟨by omega, fun h => ⟨by omega, b.2 h⟩⟩
theorem Zm_imp {s : Int → Int} {P Q : Prop} (h : Zm s P) (hq : P → Q) : Zm s Q := fun l h0 h1 => ⟨(h l h0 h1).1, fun h2 => hq ((h l h0 h1).2 h2)⟩
theorem zpSorting (x : TSorting) : Zm (fun l => szSorting x l) (bdSorting 4294967296 x) := by
  unfold szSorting
  exact Zm_imp (Zm_th (Zm_N _) (Zm_th (Zm_L (fun y => (Zm_N _)) _) (Zm_th (Zm_L (fun y => (Zm_N _)) _) (Zm_th (Zm_N _) (Zm_th (Zm_N _) Zm_id))))) (fun h => by unfold bdSorting; simp only [and_assoc, and_true] at h ⊢; exact h)
theorem zpControl (x : TControl) : Zm (fun l => szControl x l) (bdControl 4294967296 x) := by
  unfold szControl
  exact Zm_imp (Zm_th (Zm_str _) Zm_id) (fun h => by unfold bdControl; simp only [and_true] at h ⊢; exact h)
theorem mono_le {a : Nat} (h : a ≤ 4294967296) : a ≤ 9223372036854775807 := by omega
theorem monoControl {x : TControl} (h : bdControl 4294967296 x) : bdControl 9223372036854775807 x := by
  exact (mono_le h)
end Go.Fd

/-
  SORTINGS, BOTH SIDES: VALID, FREE, FINER. Own work.
-/
namespace Go.Fd
set_option maxRecDepth 20000

theorem all_succ {P : Nat → Prop} {j : Nat} (h : ∀ k, k < j → P k) (hj : P j) : ∀ k, k < j + 1 → P k := fun k hk => by
  by_cases e : k = j
  · subst e; exact hj
  · exact h k (by omega)

abbrev A2 := Int × Int

abbrev eIS : List Int → List Tr := fun l => [Tr.sl (rI l)]

def nestAt (sig : List TControl) (nest : List (List Int)) (k : Nat) : Prop := ∀ (h : k < nest.length) (h2 : k < sig.length), Ris 0 ((sig.length : Int) - 1) nest[k] ∧ (sig[k].kind_ = 2 → nest[k] = [])

def sortsAt (sig : List TControl) (sorts : List (List Int)) (many : Nat) (k : Nat) : Prop := ∀ (h : k < sorts.length) (h2 : k < sig.length), (sorts[k].length : Int) = sig[k].ports ∧ ∀ n ∈ sorts[k], 0 ≤ n ∧ n ≤ (many : Int) - 1

def lt2 (a b : A2) : Prop := a.1 < b.1 ∨ a.1 = b.1 ∧ a.2 < b.2

def apartAt (l : List A2) (many : Nat) (i : Nat) : Prop := ∀ h : i < l.length, 0 ≤ l[i].1 ∧ l[i].1 < l[i].2 ∧ l[i].2 < (many : Int) ∧ (∀ h0 : 0 < i, lt2 (l[i - 1]'(by omega)) l[i])

structure sortOK (sig : List TControl) (s : TSorting) : Prop where
  sg : sigOK sig
  tops : Ris 0 ((sig.length : Int) - 1) s.tops
  nestL : s.nest.length = sig.length
  nest : ∀ k, nestAt sig s.nest k
  sortsL : s.sorts.length = sig.length
  sorts : ∀ k, sortsAt sig s.sorts s.most.length k
  many : 1 ≤ s.most.length ∧ s.most.length ≤ 4
  most : ∀ n ∈ s.most, 0 ≤ n ∧ n ≤ 24
  apart : ∀ i, apartAt s.apart s.most.length i

/-! ## numbers in order -/
/-! ## the free sorting -/
end Go.Fd
