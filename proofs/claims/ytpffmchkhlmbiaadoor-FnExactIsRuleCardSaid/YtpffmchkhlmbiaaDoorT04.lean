/-
  The annotated codes of the functions, printed by a program of mine (gen.py), and the check that they belong to the program.
-/
import Derived.Test.YtpffmchkhlmbiaaDoorT03
import Derived.KernelRfl
import Derived.Shelf.Strings.SlTrimAscii
import Derived.Test.YtpffmchkhlmbiaaDoorProg
namespace Go.Fd
def c_spec_IsRule : F2 :=
  { nt := 8, res := [.t 4 [0]], body :=
   (.sq (.rg none [⟨some 3, none, .bt (.t 1)⟩,
      ⟨some 4, none, .mv (.k (.bool false)) none⟩])
   (.sq (.rg none [⟨some 5, none, .mv (.t 0) none⟩,
      ⟨some 6, none, .ld (some 13) (.t 3)⟩,
      ⟨some 7, none, .ca .pure false (.f fid_spec_l9Good) [.t 5, .t 6]⟩,
      ⟨some 4, none, .mv (.t 7) none⟩])
   (.rt))) }
theorem k_spec_IsRule : chkF Go.Proofs.Tryd.prog fid_spec_IsRule c_spec_IsRule = true := by kernel_rfl

def c_impl_IsRule : F2 :=
  { nt := 59, res := [.t 4 [0]], body :=
   (.sq (.rg none [⟨some 3, none, .bt (.t 1)⟩,
      ⟨some 4, none, .mv (.k (.bool false)) none⟩])
   (.sq (.sq (.rg none [⟨some 5, none, .mv (.t 0) none⟩,
       ⟨some 6, none, .fa 0 (.t 3)⟩,
       ⟨some 7, none, .ld (some 6) (.t 6)⟩,
       ⟨some 8, none, .fa 6 (.t 3)⟩,
       ⟨some 9, none, .ld (some 6) (.t 8)⟩,
       ⟨some 10, none, .ca .pure false (.f fid_impl_areTwo) [.t 5, .t 7, .t 9]⟩,
       ⟨some 11, none, .nt (.t 10)⟩,
       ⟨some 12, none, .mv (.t 11) none⟩,
       ⟨some 13, (some (12, false)), .fa 0 (.t 3)⟩,
       ⟨some 14, (some (12, false)), .ld (some 6) (.t 13)⟩,
       ⟨some 15, (some (12, false)), .ca .pure false (.f fid_impl_isRedex) [.t 14]⟩,
       ⟨some 16, (some (12, false)), .nt (.t 15)⟩,
       ⟨some 17, none, .pk (.t 12) (.k (.bool true)) (.t 16)⟩,
       ⟨some 18, none, .mv (.t 17) none⟩,
       ⟨some 19, (some (18, false)), .fa 6 (.t 3)⟩,
       ⟨some 20, (some (18, false)), .fa 5 (.t 19)⟩,
       ⟨some 21, (some (18, false)), .ld none (.t 20)⟩,
       ⟨some 22, (some (18, false)), .ln (.t 21)⟩,
       ⟨some 23, (some (18, false)), .bi .gtr 0 (.t 22) (.k (.int .i64 0))⟩,
       ⟨some 24, none, .pk (.t 18) (.k (.bool true)) (.t 23)⟩,
       ⟨some 25, none, .mv (.t 24) none⟩,
       ⟨some 26, (some (25, false)), .fa 0 (.t 3)⟩,
       ⟨some 27, (some (25, false)), .fa 0 (.t 26)⟩,
       ⟨some 28, (some (25, false)), .ld none (.t 27)⟩,
       ⟨some 29, (some (25, false)), .fa 6 (.t 3)⟩,
       ⟨some 30, (some (25, false)), .fa 0 (.t 29)⟩,
       ⟨some 31, (some (25, false)), .ld none (.t 30)⟩,
       ⟨some 32, (some (25, false)), .bi .neq 0 (.t 28) (.t 31)⟩,
       ⟨some 33, none, .pk (.t 25) (.k (.bool true)) (.t 32)⟩,
       ⟨some 34, none, .mv (.t 33) none⟩,
       ⟨some 35, (some (34, false)), .fa 0 (.t 3)⟩,
       ⟨some 36, (some (34, false)), .fa 4 (.t 35)⟩,
       ⟨some 37, (some (34, false)), .ld none (.t 36)⟩,
       ⟨some 38, (some (34, false)), .fa 6 (.t 3)⟩,
       ⟨some 39, (some (34, false)), .fa 4 (.t 38)⟩,
       ⟨some 40, (some (34, false)), .ld none (.t 39)⟩,
       ⟨some 41, (some (34, false)), .ca .pure false (.f fid_slices_Equal_string_string) [.t 37, .t 40]⟩,
       ⟨some 42, (some (34, false)), .nt (.t 41)⟩,
       ⟨some 43, none, .pk (.t 34) (.k (.bool true)) (.t 42)⟩])
    (.cd (.t 43) (.sq (.rg none [⟨some 4, none, .mv (.k (.bool false)) none⟩])
     (.rt))
    (.sk)))
   (.sq (.rg none [⟨some 44, none, .fa 12 (.t 3)⟩,
      ⟨some 45, none, .ld none (.t 44)⟩,
      ⟨some 46, none, .ln (.t 45)⟩,
      ⟨some 47, none, .fa 6 (.t 3)⟩,
      ⟨some 48, none, .fa 2 (.t 47)⟩,
      ⟨some 49, none, .ld none (.t 48)⟩,
      ⟨some 50, none, .ln (.t 49)⟩,
      ⟨some 51, none, .bi .eql 0 (.t 46) (.t 50)⟩,
      ⟨some 52, none, .mv (.t 51) none⟩,
      ⟨some 53, (some (52, true)), .fa 12 (.t 3)⟩,
      ⟨some 54, (some (52, true)), .ld none (.t 53)⟩,
      ⟨some 55, (some (52, true)), .mf fid_impl_IsRule_1 [.t 3]⟩,
      ⟨some 56, (some (52, true)), .ca .pure false (.f fid_slices_ContainsFunc_int_int) [.t 54, .t 55]⟩,
      ⟨some 57, (some (52, true)), .nt (.t 56)⟩,
      ⟨some 58, none, .pk (.t 52) (.t 57) (.k (.bool false))⟩,
      ⟨some 4, none, .mv (.t 58) none⟩])
   (.rt)))) }
theorem k_impl_IsRule : chkF Go.Proofs.Tryd.prog fid_impl_IsRule c_impl_IsRule = true := by kernel_rfl

def c_spec_l2Good : F2 :=
  { nt := 98, res := [.t 4 [0]], body :=
   (.sq (.rg none [⟨some 3, none, .bt (.t 1)⟩,
      ⟨some 4, none, .mv (.k (.bool false)) none⟩])
   (.sq (.sq (.rg none [⟨some 8, none, .mv (.t 0) none⟩,
       ⟨some 9, none, .ca .pure false (.f fid_spec_l2Sig) [.t 8]⟩,
       ⟨some 10, none, .nt (.t 9)⟩,
       ⟨some 11, none, .mv (.t 10) none⟩,
       ⟨some 12, (some (11, false)), .fa 0 (.t 3)⟩,
       ⟨some 13, (some (11, false)), .ld none (.t 12)⟩,
       ⟨some 14, (some (11, false)), .ca .pure false (.f fid_spec_l1In) [.t 13, .k (.int .i64 0), .k (.int .i64 4)]⟩,
       ⟨some 15, (some (11, false)), .nt (.t 14)⟩,
       ⟨some 16, none, .pk (.t 11) (.k (.bool true)) (.t 15)⟩,
       ⟨some 17, none, .mv (.t 16) none⟩,
       ⟨some 18, (some (17, false)), .fa 1 (.t 3)⟩,
       ⟨some 19, (some (17, false)), .ld none (.t 18)⟩,
       ⟨some 20, (some (17, false)), .ln (.t 19)⟩,
       ⟨some 21, (some (17, false)), .bi .gtr 0 (.t 20) (.k (.int .i64 8))⟩,
       ⟨some 22, none, .pk (.t 17) (.k (.bool true)) (.t 21)⟩,
       ⟨some 23, none, .mv (.t 22) none⟩,
       ⟨some 24, (some (23, false)), .fa 2 (.t 3)⟩,
       ⟨some 25, (some (23, false)), .ld none (.t 24)⟩,
       ⟨some 26, (some (23, false)), .ln (.t 25)⟩,
       ⟨some 27, (some (23, false)), .bi .gtr 0 (.t 26) (.k (.int .i64 4))⟩,
       ⟨some 28, none, .pk (.t 23) (.k (.bool true)) (.t 27)⟩,
       ⟨some 29, none, .mv (.t 28) none⟩,
       ⟨some 30, (some (29, false)), .fa 3 (.t 3)⟩,
       ⟨some 31, (some (29, false)), .ld none (.t 30)⟩,
       ⟨some 32, (some (29, false)), .ca .pure false (.f fid_spec_l1In) [.t 31, .k (.int .i64 0), .k (.int .i64 8)]⟩,
       ⟨some 33, (some (29, false)), .nt (.t 32)⟩,
       ⟨some 34, none, .pk (.t 29) (.k (.bool true)) (.t 33)⟩])
    (.cd (.t 34) (.sq (.rg none [⟨some 4, none, .mv (.k (.bool false)) none⟩])
     (.rt))
    (.sk)))
   (.sq (.sq (.rg none [⟨some 35, none, .fa 4 (.t 3)⟩,
       ⟨some 36, none, .ld none (.t 35)⟩,
       ⟨some 37, none, .ca .pure false (.f fid_spec_l2Names) [.t 36]⟩,
       ⟨some 38, none, .nt (.t 37)⟩,
       ⟨some 39, none, .mv (.t 38) none⟩,
       ⟨some 40, (some (39, false)), .fa 5 (.t 3)⟩,
       ⟨some 41, (some (39, false)), .ld none (.t 40)⟩,
       ⟨some 42, (some (39, false)), .ln (.t 41)⟩,
       ⟨some 43, (some (39, false)), .bi .gtr 0 (.t 42) (.k (.int .i64 16))⟩,
       ⟨some 44, none, .pk (.t 39) (.k (.bool true)) (.t 43)⟩,
       ⟨some 45, none, .mv (.t 44) none⟩,
       ⟨some 46, (some (45, false)), .ld (some 6) (.t 3)⟩,
       ⟨some 47, (some (45, false)), .ca .pure false (.f fid_spec_l2Inner) [.t 46]⟩,
       ⟨some 48, (some (45, false)), .ca .pure false (.f fid_spec_l2Names) [.t 47]⟩,
       ⟨some 49, (some (45, false)), .nt (.t 48)⟩,
       ⟨some 50, none, .pk (.t 45) (.k (.bool true)) (.t 49)⟩])
    (.cd (.t 50) (.sq (.rg none [⟨some 4, none, .mv (.k (.bool false)) none⟩])
     (.rt))
    (.sk)))
   (.sq (.sq (.rg none [⟨some 5, none, .mv (.k (.int .i64 0)) none⟩])
    (.bl 0 (.lp [0, 3, 5] [] (.sq (.sq (.rg none [⟨some 51, none, .mv (.t 5) none⟩,
          ⟨some 52, none, .fa 1 (.t 3)⟩,
          ⟨some 53, none, .ld none (.t 52)⟩,
          ⟨some 54, none, .ln (.t 53)⟩,
          ⟨some 55, none, .bi .lss 0 (.t 51) (.t 54)⟩])
       (.cd (.t 55) (.sk)
       (.ex 0)))
      (.sq (.bl 1 (.sq (.rg none [⟨some 58, none, .mv (.t 0) none⟩,
           ⟨some 59, none, .ld (some 6) (.t 3)⟩,
           ⟨some 60, none, .mv (.t 5) none⟩,
           ⟨some 61, none, .ca .pure false (.f fid_spec_l2Node) [.t 58, .t 59, .t 60]⟩,
           ⟨some 62, none, .nt (.t 61)⟩])
        (.cd (.t 62) (.sq (.rg none [⟨some 4, none, .mv (.k (.bool false)) none⟩])
         (.rt))
        (.sk))))
      (.rg none [⟨some 56, none, .mv (.t 5) none⟩,
        ⟨some 57, none, .bi .add 0 (.t 56) (.k (.int .i64 1))⟩,
        ⟨some 5, none, .mv (.t 57) none⟩]))))))
   (.sq (.sq (.rg none [⟨some 6, none, .mv (.k (.int .i64 0)) none⟩])
    (.bl 2 (.lp [0, 3, 6] [] (.sq (.sq (.rg none [⟨some 63, none, .mv (.t 6) none⟩,
          ⟨some 64, none, .fa 2 (.t 3)⟩,
          ⟨some 65, none, .ld none (.t 64)⟩,
          ⟨some 66, none, .ln (.t 65)⟩,
          ⟨some 67, none, .bi .lss 0 (.t 63) (.t 66)⟩])
       (.cd (.t 67) (.sk)
       (.ex 2)))
      (.sq (.bl 3 (.sq (.rg (some 0) [⟨some 70, none, .mv (.t 0) none⟩,
           ⟨some 71, none, .ld (some 6) (.t 3)⟩,
           ⟨some 72, none, .fa 2 (.t 3)⟩,
           ⟨some 73, none, .ld none (.t 72)⟩,
           ⟨some 74, none, .mv (.t 6) none⟩,
           ⟨some 75, none, .ia 1 (.t 73) (.t 74)⟩,
           ⟨some 76, none, .ld none (.t 75)⟩,
           ⟨some 77, none, .fa 1 (.t 3)⟩,
           ⟨some 78, none, .ld none (.t 77)⟩,
           ⟨some 79, none, .ln (.t 78)⟩,
           ⟨some 80, none, .ca .pure false (.f fid_spec_l2Under) [.t 70, .t 71, .t 76, .t 79]⟩,
           ⟨some 81, none, .nt (.t 80)⟩])
        (.cd (.t 81) (.sq (.rg none [⟨some 4, none, .mv (.k (.bool false)) none⟩])
         (.rt))
        (.sk))))
      (.rg none [⟨some 68, none, .mv (.t 6) none⟩,
        ⟨some 69, none, .bi .add 0 (.t 68) (.k (.int .i64 1))⟩,
        ⟨some 6, none, .mv (.t 69) none⟩]))))))
   (.sq (.sq (.rg none [⟨some 7, none, .mv (.k (.int .i64 0)) none⟩])
    (.bl 4 (.lp [3, 7] [] (.sq (.sq (.rg none [⟨some 82, none, .mv (.t 7) none⟩,
          ⟨some 83, none, .fa 5 (.t 3)⟩,
          ⟨some 84, none, .ld none (.t 83)⟩,
          ⟨some 85, none, .ln (.t 84)⟩,
          ⟨some 86, none, .bi .lss 0 (.t 82) (.t 85)⟩])
       (.cd (.t 86) (.sk)
       (.ex 4)))
      (.sq (.bl 5 (.sq (.rg (some 0) [⟨some 89, none, .ld (some 6) (.t 3)⟩,
           ⟨some 90, none, .fa 5 (.t 3)⟩,
           ⟨some 91, none, .ld none (.t 90)⟩,
           ⟨some 92, none, .mv (.t 7) none⟩,
           ⟨some 93, none, .ia 2 (.t 91) (.t 92)⟩,
           ⟨some 94, none, .fa 1 (.t 93)⟩,
           ⟨some 95, none, .ld none (.t 94)⟩,
           ⟨some 96, none, .ca .pure false (.f fid_spec_l2Link) [.t 89, .t 95]⟩,
           ⟨some 97, none, .nt (.t 96)⟩])
        (.cd (.t 97) (.sq (.rg none [⟨some 4, none, .mv (.k (.bool false)) none⟩])
         (.rt))
        (.sk))))
      (.rg none [⟨some 87, none, .mv (.t 7) none⟩,
        ⟨some 88, none, .bi .add 0 (.t 87) (.k (.int .i64 1))⟩,
        ⟨some 7, none, .mv (.t 88) none⟩]))))))
   (.sq (.rg none [⟨some 4, none, .mv (.k (.bool true)) none⟩])
   (.rt)))))))) }
theorem k_spec_l2Good : chkF Go.Proofs.Tryd.prog fid_spec_l2Good c_spec_l2Good = true := by kernel_rfl

def c_spec_l8Solid : F2 :=
  { nt := 60, res := [.t 2 [0]], body :=
   (.sq (.rg none [⟨some 1, none, .bt (.t 0)⟩,
      ⟨some 2, none, .mv (.k (.bool false)) none⟩])
   (.sq (.sq (.rg none [⟨some 6, none, .fa 5 (.t 1)⟩,
       ⟨some 7, none, .ld none (.t 6)⟩,
       ⟨some 8, none, .ln (.t 7)⟩,
       ⟨some 9, none, .bi .gtr 0 (.t 8) (.k (.int .i64 0))⟩,
       ⟨some 10, none, .mv (.t 9) none⟩,
       ⟨some 11, (some (10, false)), .fa 0 (.t 1)⟩,
       ⟨some 12, (some (10, false)), .ld none (.t 11)⟩,
       ⟨some 13, (some (10, false)), .bi .eql 0 (.t 12) (.k (.int .i64 0))⟩,
       ⟨some 14, none, .pk (.t 10) (.k (.bool true)) (.t 13)⟩])
    (.cd (.t 14) (.sq (.rg none [⟨some 2, none, .mv (.k (.bool false)) none⟩])
     (.rt))
    (.sk)))
   (.sq (.sq (.rg none [⟨some 3, none, .mv (.k (.int .i64 0)) none⟩])
    (.bl 0 (.lp [1, 3] [] (.sq (.sq (.rg none [⟨some 15, none, .mv (.t 3) none⟩,
          ⟨some 16, none, .fa 0 (.t 1)⟩,
          ⟨some 17, none, .ld none (.t 16)⟩,
          ⟨some 18, none, .bi .lss 0 (.t 15) (.t 17)⟩])
       (.cd (.t 18) (.sk)
       (.ex 0)))
      (.sq (.bl 1 (.sq (.rg none [⟨some 21, none, .ld (some 6) (.t 1)⟩,
           ⟨some 22, none, .mv (.t 3) none⟩,
           ⟨some 23, none, .bi .sub 0 (.k (.int .i64 (-1))) (.t 22)⟩,
           ⟨some 24, none, .ca .pure false (.f fid_spec_l2Kids) [.t 21, .t 23]⟩,
           ⟨some 25, none, .ln (.t 24)⟩,
           ⟨some 26, none, .bi .eql 0 (.t 25) (.k (.int .i64 0))⟩,
           ⟨some 27, none, .mv (.t 26) none⟩,
           ⟨some 28, (some (27, false)), .ld (some 6) (.t 1)⟩,
           ⟨some 29, (some (27, false)), .mv (.t 3) none⟩,
           ⟨some 30, (some (27, false)), .bi .sub 0 (.k (.int .i64 (-1))) (.t 29)⟩,
           ⟨some 31, (some (27, false)), .ca .pure false (.f fid_spec_l2Holes) [.t 28, .t 30]⟩,
           ⟨some 32, (some (27, false)), .ln (.t 31)⟩,
           ⟨some 33, (some (27, false)), .bi .gtr 0 (.t 32) (.k (.int .i64 0))⟩,
           ⟨some 34, none, .pk (.t 27) (.k (.bool true)) (.t 33)⟩])
        (.cd (.t 34) (.sq (.rg none [⟨some 2, none, .mv (.k (.bool false)) none⟩])
         (.rt))
        (.sk))))
      (.rg none [⟨some 19, none, .mv (.t 3) none⟩,
        ⟨some 20, none, .bi .add 0 (.t 19) (.k (.int .i64 1))⟩,
        ⟨some 3, none, .mv (.t 20) none⟩]))))))
   (.sq (.sq (.rg none [⟨some 4, none, .mv (.k (.int .i64 0)) none⟩])
    (.bl 2 (.lp [1, 4] [] (.sq (.sq (.rg none [⟨some 35, none, .mv (.t 4) none⟩,
          ⟨some 36, none, .fa 1 (.t 1)⟩,
          ⟨some 37, none, .ld none (.t 36)⟩,
          ⟨some 38, none, .ln (.t 37)⟩,
          ⟨some 39, none, .bi .lss 0 (.t 35) (.t 38)⟩])
       (.cd (.t 39) (.sk)
       (.ex 2)))
      (.sq (.bl 3 (.sq (.rg none [⟨some 42, none, .ld (some 6) (.t 1)⟩,
           ⟨some 43, none, .mv (.t 4) none⟩,
           ⟨some 44, none, .ca .pure false (.f fid_spec_l2Holes) [.t 42, .t 43]⟩,
           ⟨some 45, none, .ln (.t 44)⟩,
           ⟨some 46, none, .bi .gtr 0 (.t 45) (.k (.int .i64 1))⟩])
        (.cd (.t 46) (.sq (.rg none [⟨some 2, none, .mv (.k (.bool false)) none⟩])
         (.rt))
        (.sk))))
      (.rg none [⟨some 40, none, .mv (.t 4) none⟩,
        ⟨some 41, none, .bi .add 0 (.t 40) (.k (.int .i64 1))⟩,
        ⟨some 4, none, .mv (.t 41) none⟩]))))))
   (.sq (.sq (.rg none [⟨some 5, none, .mv (.k (.int .i64 0)) none⟩])
    (.bl 4 (.lp [1, 5] [] (.sq (.sq (.rg none [⟨some 47, none, .mv (.t 5) none⟩,
          ⟨some 48, none, .fa 3 (.t 1)⟩,
          ⟨some 49, none, .ld none (.t 48)⟩,
          ⟨some 50, none, .fa 4 (.t 1)⟩,
          ⟨some 51, none, .ld none (.t 50)⟩,
          ⟨some 52, none, .ln (.t 51)⟩,
          ⟨some 53, none, .bi .add 0 (.t 49) (.t 52)⟩,
          ⟨some 54, none, .bi .lss 0 (.t 47) (.t 53)⟩])
       (.cd (.t 54) (.sk)
       (.ex 4)))
      (.sq (.bl 5 (.sq (.rg none [⟨some 57, none, .ld (some 6) (.t 1)⟩,
           ⟨some 58, none, .mv (.t 5) none⟩,
           ⟨some 59, none, .ca .pure false (.f fid_spec_l2Idle) [.t 57, .t 58]⟩])
        (.cd (.t 59) (.sq (.rg none [⟨some 2, none, .mv (.k (.bool false)) none⟩])
         (.rt))
        (.sk))))
      (.rg none [⟨some 55, none, .mv (.t 5) none⟩,
        ⟨some 56, none, .bi .add 0 (.t 55) (.k (.int .i64 1))⟩,
        ⟨some 5, none, .mv (.t 56) none⟩]))))))
   (.sq (.rg none [⟨some 2, none, .mv (.k (.bool true)) none⟩])
   (.rt))))))) }
theorem k_spec_l8Solid : chkF Go.Proofs.Tryd.prog fid_spec_l8Solid c_spec_l8Solid = true := by kernel_rfl

def c_impl_IsBigraph : F2 :=
  { nt := 101, res := [.t 4 [0]], body :=
   (.sq (.rg none [⟨some 2, none, .bt (.t 0)⟩,
      ⟨some 3, none, .bt (.t 1)⟩,
      ⟨some 4, none, .mv (.k (.bool false)) none⟩])
   (.sq (.sq (.rg none [⟨some 7, none, .ld none (.t 2)⟩,
       ⟨some 8, none, .ca .pure false (.f fid_impl_IsSignature) [.t 7]⟩,
       ⟨some 9, none, .nt (.t 8)⟩,
       ⟨some 10, none, .mv (.t 9) none⟩,
       ⟨some 11, (some (10, false)), .fa 0 (.t 3)⟩,
       ⟨some 12, (some (10, false)), .ld none (.t 11)⟩,
       ⟨some 13, (some (10, false)), .ca .pure false (.f fid_impl_within) [.t 12, .k (.int .i64 0), .k (.int .i64 4)]⟩,
       ⟨some 14, (some (10, false)), .nt (.t 13)⟩,
       ⟨some 15, none, .pk (.t 10) (.k (.bool true)) (.t 14)⟩,
       ⟨some 16, none, .mv (.t 15) none⟩,
       ⟨some 17, (some (16, false)), .fa 1 (.t 3)⟩,
       ⟨some 18, (some (16, false)), .ld none (.t 17)⟩,
       ⟨some 19, (some (16, false)), .ln (.t 18)⟩,
       ⟨some 20, (some (16, false)), .bi .gtr 0 (.t 19) (.k (.int .i64 8))⟩,
       ⟨some 21, none, .pk (.t 16) (.k (.bool true)) (.t 20)⟩,
       ⟨some 22, none, .mv (.t 21) none⟩,
       ⟨some 23, (some (22, false)), .fa 2 (.t 3)⟩,
       ⟨some 24, (some (22, false)), .ld none (.t 23)⟩,
       ⟨some 25, (some (22, false)), .ln (.t 24)⟩,
       ⟨some 26, (some (22, false)), .bi .gtr 0 (.t 25) (.k (.int .i64 4))⟩,
       ⟨some 27, none, .pk (.t 22) (.k (.bool true)) (.t 26)⟩,
       ⟨some 28, none, .mv (.t 27) none⟩,
       ⟨some 29, (some (28, false)), .fa 3 (.t 3)⟩,
       ⟨some 30, (some (28, false)), .ld none (.t 29)⟩,
       ⟨some 31, (some (28, false)), .ca .pure false (.f fid_impl_within) [.t 30, .k (.int .i64 0), .k (.int .i64 8)]⟩,
       ⟨some 32, (some (28, false)), .nt (.t 31)⟩,
       ⟨some 33, none, .pk (.t 28) (.k (.bool true)) (.t 32)⟩,
       ⟨some 34, none, .mv (.t 33) none⟩,
       ⟨some 35, (some (34, false)), .fa 4 (.t 3)⟩,
       ⟨some 36, (some (34, false)), .ld none (.t 35)⟩,
       ⟨some 37, (some (34, false)), .ca .pure false (.f fid_impl_areNames) [.t 36]⟩,
       ⟨some 38, (some (34, false)), .nt (.t 37)⟩,
       ⟨some 39, none, .pk (.t 34) (.k (.bool true)) (.t 38)⟩,
       ⟨some 40, none, .mv (.t 39) none⟩,
       ⟨some 41, (some (40, false)), .ld (some 6) (.t 3)⟩,
       ⟨some 42, (some (40, false)), .ca .pure false (.f fid_impl_Bigraph_innerNames) [.t 41]⟩,
       ⟨some 43, (some (40, false)), .ca .pure false (.f fid_impl_areNames) [.t 42]⟩,
       ⟨some 44, (some (40, false)), .nt (.t 43)⟩,
       ⟨some 45, none, .pk (.t 40) (.k (.bool true)) (.t 44)⟩])
    (.cd (.t 45) (.sq (.rg none [⟨some 4, none, .mv (.k (.bool false)) none⟩])
     (.rt))
    (.sk)))
   (.sq (.sq (.rg none [⟨some 46, none, .fa 1 (.t 3)⟩,
       ⟨some 47, none, .ld none (.t 46)⟩,
       ⟨some 48, none, .ln (.t 47)⟩,
       ⟨some 49, none, .mv (.k (.int .i64 0)) none⟩])
    (.bl 0 (.lp [2, 3, 47, 48, 49] [] (.sq (.rg none [⟨some 50, none, .bi .lss 0 (.t 49) (.t 48)⟩])
      (.sq (.cd (.t 50) (.sk)
       (.ex 0))
      (.sq (.bl 1 (.sq (.rg none [⟨some 51, none, .mv (.t 49) none⟩,
           ⟨some 52, none, .ia 3 (.t 47) (.t 49)⟩,
           ⟨some 53, none, .ld (some 3) (.t 52)⟩,
           ⟨some 6, none, .al [.int .i64 0, .int .i64 0, .slice none 0 0] []⟩,
           ⟨some 5, none, .mv (.t 51) none⟩,
           ⟨none, none, .st 3 (.t 6) (.t 53)⟩])
        (.sq (.rg (some 0) [⟨some 54, none, .fa 0 (.t 6)⟩,
           ⟨some 55, none, .ld none (.t 54)⟩,
           ⟨some 56, none, .ld none (.t 2)⟩,
           ⟨some 57, none, .ln (.t 56)⟩,
           ⟨some 58, none, .bi .sub 0 (.t 57) (.k (.int .i64 1))⟩,
           ⟨some 59, none, .ca .pure false (.f fid_impl_within) [.t 55, .k (.int .i64 0), .t 58]⟩,
           ⟨some 60, none, .nt (.t 59)⟩,
           ⟨some 61, none, .mv (.t 60) none⟩,
           ⟨some 62, (some (61, false)), .ld (some 6) (.t 3)⟩,
           ⟨some 63, (some (61, false)), .ld none (.t 2)⟩,
           ⟨some 64, (some (61, false)), .fa 1 (.t 6)⟩,
           ⟨some 65, (some (61, false)), .ld none (.t 64)⟩,
           ⟨some 66, (some (61, false)), .mv (.t 5) none⟩,
           ⟨some 67, (some (61, false)), .ca .pure false (.f fid_impl_Bigraph_isParent) [.t 62, .t 63, .t 65, .t 66]⟩,
           ⟨some 68, (some (61, false)), .nt (.t 67)⟩,
           ⟨some 69, none, .pk (.t 61) (.k (.bool true)) (.t 68)⟩,
           ⟨some 70, none, .mv (.t 69) none⟩,
           ⟨some 71, (some (70, false)), .fa 2 (.t 6)⟩,
           ⟨some 72, (some (70, false)), .ld none (.t 71)⟩,
           ⟨some 73, (some (70, false)), .ln (.t 72)⟩,
           ⟨some 74, (some (70, false)), .ld none (.t 2)⟩,
           ⟨some 75, (some (70, false)), .fa 0 (.t 6)⟩,
           ⟨some 76, (some (70, false)), .ld none (.t 75)⟩,
           ⟨some 77, (some (70, false)), .ia 3 (.t 74) (.t 76)⟩,
           ⟨some 78, (some (70, false)), .fa 1 (.t 77)⟩,
           ⟨some 79, (some (70, false)), .ld none (.t 78)⟩,
           ⟨some 80, (some (70, false)), .bi .neq 0 (.t 73) (.t 79)⟩,
           ⟨some 81, none, .pk (.t 70) (.k (.bool true)) (.t 80)⟩,
           ⟨some 82, none, .mv (.t 81) none⟩,
           ⟨some 83, (some (82, false)), .fa 2 (.t 6)⟩,
           ⟨some 84, (some (82, false)), .ld none (.t 83)⟩,
           ⟨some 85, (some (82, false)), .mf fid_impl_IsBigraph_1 [.t 3]⟩,
           ⟨some 86, (some (82, false)), .ca .pure false (.f fid_slices_ContainsFunc_int_int) [.t 84, .t 85]⟩,
           ⟨some 87, none, .pk (.t 82) (.k (.bool true)) (.t 86)⟩])
        (.cd (.t 87) (.sq (.rg none [⟨some 4, none, .mv (.k (.bool false)) none⟩])
         (.rt))
        (.sk)))))
      (.rg none [⟨some 88, none, .bi .add 0 (.t 49) (.k (.int .i64 1))⟩,
        ⟨some 49, none, .mv (.t 88) none⟩])))))))
   (.sq (.rg none [⟨some 89, none, .fa 2 (.t 3)⟩,
      ⟨some 90, none, .ld none (.t 89)⟩,
      ⟨some 91, none, .mf fid_impl_IsBigraph_2 [.t 3, .t 2]⟩,
      ⟨some 92, none, .ca .pure false (.f fid_slices_ContainsFunc_int_int) [.t 90, .t 91]⟩,
      ⟨some 93, none, .nt (.t 92)⟩,
      ⟨some 94, none, .mv (.t 93) none⟩,
      ⟨some 95, (some (94, true)), .fa 5 (.t 3)⟩,
      ⟨some 96, (some (94, true)), .ld none (.t 95)⟩,
      ⟨some 97, (some (94, true)), .mf fid_impl_IsBigraph_3 [.t 3]⟩,
      ⟨some 98, (some (94, true)), .ca .pure false (.f fid_slices_ContainsFunc_impl_Wire_impl_Wire) [.t 96, .t 97]⟩,
      ⟨some 99, (some (94, true)), .nt (.t 98)⟩,
      ⟨some 100, none, .pk (.t 94) (.t 99) (.k (.bool false))⟩,
      ⟨some 4, none, .mv (.t 100) none⟩])
   (.rt))))) }
theorem k_impl_IsBigraph : chkF Go.Proofs.Tryd.prog fid_impl_IsBigraph c_impl_IsBigraph = true := by kernel_rfl

def c_impl_isRedex : F2 :=
  { nt := 62, res := [.t 2 [0]], body :=
   (.sq (.rg none [⟨some 1, none, .bt (.t 0)⟩,
      ⟨some 2, none, .mv (.k (.bool false)) none⟩])
   (.sq (.sq (.rg none [⟨some 7, none, .fa 5 (.t 1)⟩,
       ⟨some 8, none, .ld none (.t 7)⟩,
       ⟨some 9, none, .ln (.t 8)⟩,
       ⟨some 10, none, .bi .gtr 0 (.t 9) (.k (.int .i64 0))⟩,
       ⟨some 11, none, .mv (.t 10) none⟩,
       ⟨some 12, (some (11, false)), .fa 0 (.t 1)⟩,
       ⟨some 13, (some (11, false)), .ld none (.t 12)⟩,
       ⟨some 14, (some (11, false)), .bi .eql 0 (.t 13) (.k (.int .i64 0))⟩,
       ⟨some 15, none, .pk (.t 11) (.k (.bool true)) (.t 14)⟩])
    (.cd (.t 15) (.sq (.rg none [⟨some 2, none, .mv (.k (.bool false)) none⟩])
     (.rt))
    (.sk)))
   (.sq (.sq (.rg none [⟨some 16, none, .fa 0 (.t 1)⟩,
       ⟨some 17, none, .ld none (.t 16)⟩,
       ⟨some 18, none, .ng (.t 17)⟩,
       ⟨some 3, none, .mv (.t 18) none⟩])
    (.bl 0 (.lp [1, 3] [] (.sq (.sq (.rg none [⟨some 19, none, .mv (.t 3) none⟩,
          ⟨some 20, none, .fa 1 (.t 1)⟩,
          ⟨some 21, none, .ld none (.t 20)⟩,
          ⟨some 22, none, .ln (.t 21)⟩,
          ⟨some 23, none, .bi .lss 0 (.t 19) (.t 22)⟩])
       (.cd (.t 23) (.sk)
       (.ex 0)))
      (.sq (.bl 1 (.sq (.rg none [⟨some 27, none, .ld (some 6) (.t 1)⟩,
           ⟨some 28, none, .mv (.t 3) none⟩,
           ⟨some 29, none, .ca .pure false (.f fid_impl_Bigraph_childrenOf) [.t 27, .t 28]⟩,
           ⟨some 26, none, .mv (.t 29) none⟩,
           ⟨some 30, none, .ex 0 (.t 26)⟩,
           ⟨some 31, none, .ex 1 (.t 26)⟩,
           ⟨some 4, none, .mv (.t 30) none⟩,
           ⟨some 5, none, .mv (.t 31) none⟩])
        (.sq (.rg none [⟨some 32, none, .mv (.t 3) none⟩,
           ⟨some 33, none, .bi .lss 0 (.t 32) (.k (.int .i64 0))⟩,
           ⟨some 34, none, .mv (.t 33) none⟩,
           ⟨some 35, (some (34, true)), .mv (.t 4) none⟩,
           ⟨some 36, (some (34, true)), .ln (.t 35)⟩,
           ⟨some 37, (some (34, true)), .bi .eql 0 (.t 36) (.k (.int .i64 0))⟩,
           ⟨some 38, (some (34, true)), .mv (.t 37) none⟩,
           ⟨some 39, (some (38, false)), .mv (.t 5) none⟩,
           ⟨some 40, (some (38, false)), .ln (.t 39)⟩,
           ⟨some 41, (some (38, false)), .bi .gtr 0 (.t 40) (.k (.int .i64 0))⟩,
           ⟨some 42, (some (34, true)), .pk (.t 38) (.k (.bool true)) (.t 41)⟩,
           ⟨some 43, none, .pk (.t 34) (.t 42) (.k (.bool false))⟩,
           ⟨some 44, none, .mv (.t 43) none⟩,
           ⟨some 45, (some (44, false)), .mv (.t 5) none⟩,
           ⟨some 46, (some (44, false)), .ln (.t 45)⟩,
           ⟨some 47, (some (44, false)), .bi .gtr 0 (.t 46) (.k (.int .i64 1))⟩,
           ⟨some 48, none, .pk (.t 44) (.k (.bool true)) (.t 47)⟩])
        (.cd (.t 48) (.sq (.rg none [⟨some 2, none, .mv (.k (.bool false)) none⟩])
         (.rt))
        (.sk)))))
      (.rg none [⟨some 24, none, .mv (.t 3) none⟩,
        ⟨some 25, none, .bi .add 0 (.t 24) (.k (.int .i64 1))⟩,
        ⟨some 3, none, .mv (.t 25) none⟩]))))))
   (.sq (.sq (.rg none [⟨some 49, none, .fa 3 (.t 1)⟩,
       ⟨some 50, none, .ld none (.t 49)⟩,
       ⟨some 51, none, .fa 4 (.t 1)⟩,
       ⟨some 52, none, .ld none (.t 51)⟩,
       ⟨some 53, none, .ln (.t 52)⟩,
       ⟨some 54, none, .bi .add 0 (.t 50) (.t 53)⟩,
       ⟨some 55, none, .mv (.k (.int .i64 0)) none⟩])
    (.bl 2 (.lp [1, 54, 55] [] (.sq (.rg none [⟨some 56, none, .bi .lss 0 (.t 55) (.t 54)⟩])
      (.sq (.cd (.t 56) (.sk)
       (.ex 2))
      (.sq (.bl 3 (.sq (.rg none [⟨some 57, none, .mv (.t 55) none⟩,
           ⟨some 6, none, .mv (.t 57) none⟩])
        (.sq (.rg none [⟨some 58, none, .ld (some 6) (.t 1)⟩,
           ⟨some 59, none, .mv (.t 6) none⟩,
           ⟨some 60, none, .ca .pure false (.f fid_impl_Bigraph_isIdle) [.t 58, .t 59]⟩])
        (.cd (.t 60) (.sq (.rg none [⟨some 2, none, .mv (.k (.bool false)) none⟩])
         (.rt))
        (.sk)))))
      (.rg none [⟨some 61, none, .bi .add 0 (.t 55) (.k (.int .i64 1))⟩,
        ⟨some 55, none, .mv (.t 61) none⟩])))))))
   (.sq (.rg none [⟨some 2, none, .mv (.k (.bool true)) none⟩])
   (.rt)))))) }
theorem k_impl_isRedex : chkF Go.Proofs.Tryd.prog fid_impl_isRedex c_impl_isRedex = true := by kernel_rfl

def c_spec_l9Good : F2 :=
  { nt := 44, res := [.t 4 [0]], body :=
   (.sq (.rg none [⟨some 3, none, .bt (.t 1)⟩,
      ⟨some 4, none, .mv (.k (.bool false)) none⟩])
   (.sq (.rg none [⟨some 5, none, .mv (.t 0) none⟩,
      ⟨some 6, none, .fa 0 (.t 3)⟩,
      ⟨some 7, none, .ld (some 6) (.t 6)⟩,
      ⟨some 8, none, .ca .pure false (.f fid_spec_l8Redex) [.t 5, .t 7]⟩,
      ⟨some 9, none, .mv (.t 8) none⟩,
      ⟨some 10, (some (9, true)), .mv (.t 0) none⟩,
      ⟨some 11, (some (9, true)), .fa 6 (.t 3)⟩,
      ⟨some 12, (some (9, true)), .ld (some 6) (.t 11)⟩,
      ⟨some 13, (some (9, true)), .ca .pure false (.f fid_spec_l2Good) [.t 10, .t 12]⟩,
      ⟨some 14, none, .pk (.t 9) (.t 13) (.k (.bool false))⟩,
      ⟨some 15, none, .mv (.t 14) none⟩,
      ⟨some 16, (some (15, true)), .fa 6 (.t 3)⟩,
      ⟨some 17, (some (15, true)), .fa 5 (.t 16)⟩,
      ⟨some 18, (some (15, true)), .ld none (.t 17)⟩,
      ⟨some 19, (some (15, true)), .ln (.t 18)⟩,
      ⟨some 20, (some (15, true)), .bi .eql 0 (.t 19) (.k (.int .i64 0))⟩,
      ⟨some 21, none, .pk (.t 15) (.t 20) (.k (.bool false))⟩,
      ⟨some 22, none, .mv (.t 21) none⟩,
      ⟨some 23, (some (22, true)), .fa 0 (.t 3)⟩,
      ⟨some 24, (some (22, true)), .fa 0 (.t 23)⟩,
      ⟨some 25, (some (22, true)), .ld none (.t 24)⟩,
      ⟨some 26, (some (22, true)), .fa 6 (.t 3)⟩,
      ⟨some 27, (some (22, true)), .fa 0 (.t 26)⟩,
      ⟨some 28, (some (22, true)), .ld none (.t 27)⟩,
      ⟨some 29, (some (22, true)), .bi .eql 0 (.t 25) (.t 28)⟩,
      ⟨some 30, none, .pk (.t 22) (.t 29) (.k (.bool false))⟩,
      ⟨some 31, none, .mv (.t 30) none⟩,
      ⟨some 32, (some (31, true)), .fa 0 (.t 3)⟩,
      ⟨some 33, (some (31, true)), .fa 4 (.t 32)⟩,
      ⟨some 34, (some (31, true)), .ld none (.t 33)⟩,
      ⟨some 35, (some (31, true)), .fa 6 (.t 3)⟩,
      ⟨some 36, (some (31, true)), .fa 4 (.t 35)⟩,
      ⟨some 37, (some (31, true)), .ld none (.t 36)⟩,
      ⟨some 38, (some (31, true)), .ca .pure false (.f fid_spec_l3SameNames) [.t 34, .t 37]⟩,
      ⟨some 39, none, .pk (.t 31) (.t 38) (.k (.bool false))⟩,
      ⟨some 40, none, .mv (.t 39) none⟩,
      ⟨some 41, (some (40, true)), .ld (some 13) (.t 3)⟩,
      ⟨some 42, (some (40, true)), .ca .pure false (.f fid_spec_l9Copies) [.t 41]⟩,
      ⟨some 43, none, .pk (.t 40) (.t 42) (.k (.bool false))⟩,
      ⟨some 4, none, .mv (.t 43) none⟩])
   (.rt))) }
theorem k_spec_l9Good : chkF Go.Proofs.Tryd.prog fid_spec_l9Good c_spec_l9Good = true := by kernel_rfl

def c_impl_areTwo : F2 :=
  { nt := 15, res := [.t 6 [0]], body :=
   (.sq (.rg none [⟨some 4, none, .bt (.t 1)⟩,
      ⟨some 5, none, .bt (.t 2)⟩,
      ⟨some 6, none, .mv (.k (.bool false)) none⟩])
   (.sq (.rg none [⟨some 7, none, .mv (.t 0) none⟩,
      ⟨some 8, none, .ld (some 6) (.t 4)⟩,
      ⟨some 9, none, .ca .pure false (.f fid_impl_IsBigraph) [.t 7, .t 8]⟩,
      ⟨some 10, none, .mv (.t 9) none⟩,
      ⟨some 11, (some (10, true)), .mv (.t 0) none⟩,
      ⟨some 12, (some (10, true)), .ld (some 6) (.t 5)⟩,
      ⟨some 13, (some (10, true)), .ca .pure false (.f fid_impl_IsBigraph) [.t 11, .t 12]⟩,
      ⟨some 14, none, .pk (.t 10) (.t 13) (.k (.bool false))⟩,
      ⟨some 6, none, .mv (.t 14) none⟩])
   (.rt))) }
theorem k_impl_areTwo : chkF Go.Proofs.Tryd.prog fid_impl_areTwo c_impl_areTwo = true := by kernel_rfl

def c_impl_IsRule_1 : F2 :=
  { nt := 12, res := [.t 3 [0]], body :=
   (.sq (.rg none [⟨some 3, none, .mv (.k (.bool false)) none⟩])
   (.sq (.rg none [⟨some 4, none, .mv (.t 0) none⟩,
      ⟨some 5, none, .fa 0 (.t 1)⟩,
      ⟨some 6, none, .fa 2 (.t 5)⟩,
      ⟨some 7, none, .ld none (.t 6)⟩,
      ⟨some 8, none, .ln (.t 7)⟩,
      ⟨some 9, none, .bi .sub 0 (.t 8) (.k (.int .i64 1))⟩,
      ⟨some 10, none, .ca .pure false (.f fid_impl_within) [.t 4, .k (.int .i64 0), .t 9]⟩,
      ⟨some 11, none, .nt (.t 10)⟩,
      ⟨some 3, none, .mv (.t 11) none⟩])
   (.rt))) }
theorem k_impl_IsRule_1 : chkF Go.Proofs.Tryd.prog fid_impl_IsRule_1 c_impl_IsRule_1 = true := by kernel_rfl

def c_impl_within : F2 :=
  { nt := 15, res := [.t 6 [0]], body :=
   (.sq (.rg none [⟨some 6, none, .mv (.k (.bool false)) none⟩])
   (.sq (.rg none [⟨some 7, none, .mv (.t 0) none⟩,
      ⟨some 8, none, .mv (.t 1) none⟩,
      ⟨some 9, none, .bi .geq 0 (.t 7) (.t 8)⟩,
      ⟨some 10, none, .mv (.t 9) none⟩,
      ⟨some 11, (some (10, true)), .mv (.t 0) none⟩,
      ⟨some 12, (some (10, true)), .mv (.t 2) none⟩,
      ⟨some 13, (some (10, true)), .bi .leq 0 (.t 11) (.t 12)⟩,
      ⟨some 14, none, .pk (.t 10) (.t 13) (.k (.bool false))⟩,
      ⟨some 6, none, .mv (.t 14) none⟩])
   (.rt))) }
theorem k_impl_within : chkF Go.Proofs.Tryd.prog fid_impl_within c_impl_within = true := by kernel_rfl

def c_spec_l2Sig : F2 :=
  { nt := 55, res := [.t 2 [0]], body :=
   (.sq (.rg none [⟨some 2, none, .mv (.k (.bool false)) none⟩])
   (.sq (.sq (.rg none [⟨some 3, none, .mv (.k (.int .i64 0)) none⟩])
    (.bl 0 (.lp [0, 3] [] (.sq (.sq (.rg none [⟨some 5, none, .mv (.t 3) none⟩,
          ⟨some 6, none, .mv (.t 0) none⟩,
          ⟨some 7, none, .ln (.t 6)⟩,
          ⟨some 8, none, .bi .lss 0 (.t 5) (.t 7)⟩])
       (.cd (.t 8) (.sk)
       (.ex 0)))
      (.sq (.bl 1 (.sq (.sq (.rg none [⟨some 11, none, .mv (.t 0) none⟩,
            ⟨some 12, none, .mv (.t 3) none⟩,
            ⟨some 13, none, .ia 3 (.t 11) (.t 12)⟩,
            ⟨some 14, none, .fa 0 (.t 13)⟩,
            ⟨some 15, none, .ld none (.t 14)⟩,
            ⟨some 16, none, .ca .pure false (.f fid_spec_l2Name) [.t 15]⟩,
            ⟨some 17, none, .nt (.t 16)⟩,
            ⟨some 18, none, .mv (.t 17) none⟩,
            ⟨some 19, (some (18, false)), .mv (.t 0) none⟩,
            ⟨some 20, (some (18, false)), .mv (.t 3) none⟩,
            ⟨some 21, (some (18, false)), .ia 3 (.t 19) (.t 20)⟩,
            ⟨some 22, (some (18, false)), .fa 1 (.t 21)⟩,
            ⟨some 23, (some (18, false)), .ld none (.t 22)⟩,
            ⟨some 24, (some (18, false)), .ca .pure false (.f fid_spec_l1In) [.t 23, .k (.int .i64 0), .k (.int .i64 3)]⟩,
            ⟨some 25, (some (18, false)), .nt (.t 24)⟩,
            ⟨some 26, none, .pk (.t 18) (.k (.bool true)) (.t 25)⟩,
            ⟨some 27, none, .mv (.t 26) none⟩,
            ⟨some 28, (some (27, false)), .mv (.t 0) none⟩,
            ⟨some 29, (some (27, false)), .mv (.t 3) none⟩,
            ⟨some 30, (some (27, false)), .ia 3 (.t 28) (.t 29)⟩,
            ⟨some 31, (some (27, false)), .fa 2 (.t 30)⟩,
            ⟨some 32, (some (27, false)), .ld none (.t 31)⟩,
            ⟨some 33, (some (27, false)), .ca .pure false (.f fid_spec_l1In) [.t 32, .k (.int .i64 0), .k (.int .i64 2)]⟩,
            ⟨some 34, (some (27, false)), .nt (.t 33)⟩,
            ⟨some 35, none, .pk (.t 27) (.k (.bool true)) (.t 34)⟩])
         (.cd (.t 35) (.sq (.rg none [⟨some 2, none, .mv (.k (.bool false)) none⟩])
          (.rt))
         (.sk)))
        (.sq (.rg none [⟨some 4, none, .mv (.k (.int .i64 0)) none⟩])
        (.bl 2 (.lp [0, 3, 4] [] (.sq (.sq (.rg none [⟨some 36, none, .mv (.t 4) none⟩,
              ⟨some 37, none, .mv (.t 3) none⟩,
              ⟨some 38, none, .bi .lss 0 (.t 36) (.t 37)⟩])
           (.cd (.t 38) (.sk)
           (.ex 2)))
          (.sq (.bl 3 (.sq (.rg (some 0) [⟨some 41, none, .mv (.t 0) none⟩,
               ⟨some 42, none, .mv (.t 4) none⟩,
               ⟨some 43, none, .ia 3 (.t 41) (.t 42)⟩,
               ⟨some 44, none, .fa 0 (.t 43)⟩,
               ⟨some 45, none, .ld none (.t 44)⟩,
               ⟨some 46, none, .mv (.t 0) none⟩,
               ⟨some 47, none, .mv (.t 3) none⟩,
               ⟨some 48, none, .ia 3 (.t 46) (.t 47)⟩,
               ⟨some 49, none, .fa 0 (.t 48)⟩,
               ⟨some 50, none, .ld none (.t 49)⟩,
               ⟨some 51, none, .bi .eql 0 (.t 45) (.t 50)⟩])
            (.cd (.t 51) (.sq (.rg none [⟨some 2, none, .mv (.k (.bool false)) none⟩])
             (.rt))
            (.sk))))
          (.rg none [⟨some 39, none, .mv (.t 4) none⟩,
            ⟨some 40, none, .bi .add 0 (.t 39) (.k (.int .i64 1))⟩,
            ⟨some 4, none, .mv (.t 40) none⟩]))))))))
      (.rg none [⟨some 9, none, .mv (.t 3) none⟩,
        ⟨some 10, none, .bi .add 0 (.t 9) (.k (.int .i64 1))⟩,
        ⟨some 3, none, .mv (.t 10) none⟩]))))))
   (.sq (.rg none [⟨some 52, none, .mv (.t 0) none⟩,
      ⟨some 53, none, .ln (.t 52)⟩,
      ⟨some 54, none, .ca .pure false (.f fid_spec_l1In) [.t 53, .k (.int .i64 1), .k (.int .i64 6)]⟩,
      ⟨some 2, none, .mv (.t 54) none⟩])
   (.rt)))) }
theorem k_spec_l2Sig : chkF Go.Proofs.Tryd.prog fid_spec_l2Sig c_spec_l2Sig = true := by kernel_rfl

def c_spec_l1In : F2 :=
  { nt := 15, res := [.t 6 [0]], body :=
   (.sq (.rg none [⟨some 6, none, .mv (.k (.bool false)) none⟩])
   (.sq (.rg none [⟨some 7, none, .mv (.t 0) none⟩,
      ⟨some 8, none, .mv (.t 1) none⟩,
      ⟨some 9, none, .bi .geq 0 (.t 7) (.t 8)⟩,
      ⟨some 10, none, .mv (.t 9) none⟩,
      ⟨some 11, (some (10, true)), .mv (.t 0) none⟩,
      ⟨some 12, (some (10, true)), .mv (.t 2) none⟩,
      ⟨some 13, (some (10, true)), .bi .leq 0 (.t 11) (.t 12)⟩,
      ⟨some 14, none, .pk (.t 10) (.t 13) (.k (.bool false))⟩,
      ⟨some 6, none, .mv (.t 14) none⟩])
   (.rt))) }
theorem k_spec_l1In : chkF Go.Proofs.Tryd.prog fid_spec_l1In c_spec_l1In = true := by kernel_rfl

def c_spec_l2Names : F2 :=
  { nt := 35, res := [.t 2 [0]], body :=
   (.sq (.rg none [⟨some 2, none, .mv (.k (.bool false)) none⟩])
   (.sq (.sq (.rg none [⟨some 3, none, .mv (.k (.int .i64 0)) none⟩])
    (.bl 0 (.lp [0, 3] [] (.sq (.sq (.rg none [⟨some 4, none, .mv (.t 3) none⟩,
          ⟨some 5, none, .mv (.t 0) none⟩,
          ⟨some 6, none, .ln (.t 5)⟩,
          ⟨some 7, none, .bi .lss 0 (.t 4) (.t 6)⟩])
       (.cd (.t 7) (.sk)
       (.ex 0)))
      (.sq (.bl 1 (.sq (.rg (some 0) [⟨some 10, none, .mv (.t 0) none⟩,
           ⟨some 11, none, .mv (.t 3) none⟩,
           ⟨some 12, none, .ia 1 (.t 10) (.t 11)⟩,
           ⟨some 13, none, .ld none (.t 12)⟩,
           ⟨some 14, none, .ca .pure false (.f fid_spec_l2Name) [.t 13]⟩,
           ⟨some 15, none, .nt (.t 14)⟩,
           ⟨some 16, none, .mv (.t 15) none⟩,
           ⟨some 17, (some (16, false)), .mv (.t 3) none⟩,
           ⟨some 18, (some (16, false)), .bi .gtr 0 (.t 17) (.k (.int .i64 0))⟩,
           ⟨some 19, (some (16, false)), .mv (.t 18) none⟩,
           ⟨some 20, (some (19, true)), .mv (.t 0) none⟩,
           ⟨some 21, (some (19, true)), .mv (.t 3) none⟩,
           ⟨some 22, (some (19, true)), .bi .sub 0 (.t 21) (.k (.int .i64 1))⟩,
           ⟨some 23, (some (19, true)), .ia 1 (.t 20) (.t 22)⟩,
           ⟨some 24, (some (19, true)), .ld none (.t 23)⟩,
           ⟨some 25, (some (19, true)), .mv (.t 0) none⟩,
           ⟨some 26, (some (19, true)), .mv (.t 3) none⟩,
           ⟨some 27, (some (19, true)), .ia 1 (.t 25) (.t 26)⟩,
           ⟨some 28, (some (19, true)), .ld none (.t 27)⟩,
           ⟨some 29, (some (19, true)), .bi .geq 0 (.t 24) (.t 28)⟩,
           ⟨some 30, (some (16, false)), .pk (.t 19) (.t 29) (.k (.bool false))⟩,
           ⟨some 31, none, .pk (.t 16) (.k (.bool true)) (.t 30)⟩])
        (.cd (.t 31) (.sq (.rg none [⟨some 2, none, .mv (.k (.bool false)) none⟩])
         (.rt))
        (.sk))))
      (.rg none [⟨some 8, none, .mv (.t 3) none⟩,
        ⟨some 9, none, .bi .add 0 (.t 8) (.k (.int .i64 1))⟩,
        ⟨some 3, none, .mv (.t 9) none⟩]))))))
   (.sq (.rg none [⟨some 32, none, .mv (.t 0) none⟩,
      ⟨some 33, none, .ln (.t 32)⟩,
      ⟨some 34, none, .bi .leq 0 (.t 33) (.k (.int .i64 16))⟩,
      ⟨some 2, none, .mv (.t 34) none⟩])
   (.rt)))) }
theorem k_spec_l2Names : chkF Go.Proofs.Tryd.prog fid_spec_l2Names c_spec_l2Names = true := by kernel_rfl

def c_spec_l2Inner : F2 :=
  { nt := 23, res := [.t 2 [2]], body :=
   (.sq (.rg none [⟨some 1, none, .bt (.t 0)⟩,
      ⟨some 2, none, .mv (.k (.slice none 0 0)) none⟩])
   (.sq (.rg none [⟨some 5, none, .bs 1 0 [] []⟩,
      ⟨some 3, none, .mv (.t 5) none⟩])
   (.sq (.sq (.rg none [⟨some 4, none, .mv (.k (.int .i64 0)) none⟩])
    (.bl 0 (.lp [1, 3, 4] [160, 672] (.sq (.sq (.rg none [⟨some 6, none, .mv (.t 4) none⟩,
          ⟨some 7, none, .fa 5 (.t 1)⟩,
          ⟨some 8, none, .ld none (.t 7)⟩,
          ⟨some 9, none, .ln (.t 8)⟩,
          ⟨some 10, none, .bi .lss 0 (.t 6) (.t 9)⟩])
       (.cd (.t 10) (.sk)
       (.ex 0)))
      (.sq (.bl 1 (.rg none [⟨some 13, none, .mv (.t 3) none⟩,
          ⟨some 14, none, .fa 5 (.t 1)⟩,
          ⟨some 15, none, .ld none (.t 14)⟩,
          ⟨some 16, none, .mv (.t 4) none⟩,
          ⟨some 17, none, .ia 2 (.t 15) (.t 16)⟩,
          ⟨some 18, none, .fa 0 (.t 17)⟩,
          ⟨some 19, none, .ld none (.t 18)⟩,
          ⟨some 20, none, .bs 1 1 [.string ⟨#[]⟩] [(0, .t 19)]⟩,
          ⟨some 21, none, .ap 1 0 (.t 13) (.t 20)⟩,
          ⟨some 3, none, .mv (.t 21) none⟩]))
      (.rg none [⟨some 11, none, .mv (.t 4) none⟩,
        ⟨some 12, none, .bi .add 0 (.t 11) (.k (.int .i64 1))⟩,
        ⟨some 4, none, .mv (.t 12) none⟩]))))))
   (.sq (.rg none [⟨some 22, none, .mv (.t 3) none⟩,
      ⟨some 2, none, .mv (.t 22) none⟩])
   (.rt))))) }
theorem k_spec_l2Inner : chkF Go.Proofs.Tryd.prog fid_spec_l2Inner c_spec_l2Inner = true := by kernel_rfl

def c_spec_l2Node : F2 :=
  { nt := 57, res := [.t 6 [0]], body :=
   (.sq (.rg none [⟨some 4, none, .bt (.t 1)⟩,
      ⟨some 6, none, .mv (.k (.bool false)) none⟩])
   (.sq (.rg none [⟨some 9, none, .fa 1 (.t 4)⟩,
      ⟨some 10, none, .ld none (.t 9)⟩,
      ⟨some 11, none, .mv (.t 2) none⟩,
      ⟨some 12, none, .ia 3 (.t 10) (.t 11)⟩,
      ⟨some 13, none, .ld (some 3) (.t 12)⟩,
      ⟨some 7, none, .al [.int .i64 0, .int .i64 0, .slice none 0 0] []⟩,
      ⟨none, none, .st 3 (.t 7) (.t 13)⟩])
   (.sq (.sq (.rg (some 0) [⟨some 14, none, .fa 0 (.t 7)⟩,
       ⟨some 15, none, .ld none (.t 14)⟩,
       ⟨some 16, none, .mv (.t 0) none⟩,
       ⟨some 17, none, .ln (.t 16)⟩,
       ⟨some 18, none, .bi .sub 0 (.t 17) (.k (.int .i64 1))⟩,
       ⟨some 19, none, .ca .pure false (.f fid_spec_l1In) [.t 15, .k (.int .i64 0), .t 18]⟩,
       ⟨some 20, none, .nt (.t 19)⟩,
       ⟨some 21, none, .mv (.t 20) none⟩,
       ⟨some 22, (some (21, false)), .mv (.t 0) none⟩,
       ⟨some 23, (some (21, false)), .ld (some 6) (.t 4)⟩,
       ⟨some 24, (some (21, false)), .fa 1 (.t 7)⟩,
       ⟨some 25, (some (21, false)), .ld none (.t 24)⟩,
       ⟨some 26, (some (21, false)), .mv (.t 2) none⟩,
       ⟨some 27, (some (21, false)), .ca .pure false (.f fid_spec_l2Under) [.t 22, .t 23, .t 25, .t 26]⟩,
       ⟨some 28, (some (21, false)), .nt (.t 27)⟩,
       ⟨some 29, none, .pk (.t 21) (.k (.bool true)) (.t 28)⟩,
       ⟨some 30, none, .mv (.t 29) none⟩,
       ⟨some 31, (some (30, false)), .fa 2 (.t 7)⟩,
       ⟨some 32, (some (30, false)), .ld none (.t 31)⟩,
       ⟨some 33, (some (30, false)), .ln (.t 32)⟩,
       ⟨some 34, (some (30, false)), .mv (.t 0) none⟩,
       ⟨some 35, (some (30, false)), .fa 0 (.t 7)⟩,
       ⟨some 36, (some (30, false)), .ld none (.t 35)⟩,
       ⟨some 37, (some (30, false)), .ia 3 (.t 34) (.t 36)⟩,
       ⟨some 38, (some (30, false)), .fa 1 (.t 37)⟩,
       ⟨some 39, (some (30, false)), .ld none (.t 38)⟩,
       ⟨some 40, (some (30, false)), .bi .neq 0 (.t 33) (.t 39)⟩,
       ⟨some 41, none, .pk (.t 30) (.k (.bool true)) (.t 40)⟩])
    (.cd (.t 41) (.sq (.rg none [⟨some 6, none, .mv (.k (.bool false)) none⟩])
     (.rt))
    (.sk)))
   (.sq (.sq (.rg none [⟨some 8, none, .mv (.k (.int .i64 0)) none⟩])
    (.bl 0 (.lp [4, 7, 8] [224] (.sq (.sq (.rg none [⟨some 42, none, .mv (.t 8) none⟩,
          ⟨some 43, none, .fa 2 (.t 7)⟩,
          ⟨some 44, none, .ld none (.t 43)⟩,
          ⟨some 45, none, .ln (.t 44)⟩,
          ⟨some 46, none, .bi .lss 0 (.t 42) (.t 45)⟩])
       (.cd (.t 46) (.sk)
       (.ex 0)))
      (.sq (.bl 1 (.sq (.rg (some 0) [⟨some 49, none, .ld (some 6) (.t 4)⟩,
           ⟨some 50, none, .fa 2 (.t 7)⟩,
           ⟨some 51, none, .ld none (.t 50)⟩,
           ⟨some 52, none, .mv (.t 8) none⟩,
           ⟨some 53, none, .ia 1 (.t 51) (.t 52)⟩,
           ⟨some 54, none, .ld none (.t 53)⟩,
           ⟨some 55, none, .ca .pure false (.f fid_spec_l2Link) [.t 49, .t 54]⟩,
           ⟨some 56, none, .nt (.t 55)⟩])
        (.cd (.t 56) (.sq (.rg none [⟨some 6, none, .mv (.k (.bool false)) none⟩])
         (.rt))
        (.sk))))
      (.rg none [⟨some 47, none, .mv (.t 8) none⟩,
        ⟨some 48, none, .bi .add 0 (.t 47) (.k (.int .i64 1))⟩,
        ⟨some 8, none, .mv (.t 48) none⟩]))))))
   (.sq (.rg none [⟨some 6, none, .mv (.k (.bool true)) none⟩])
   (.rt)))))) }
theorem k_spec_l2Node : chkF Go.Proofs.Tryd.prog fid_spec_l2Node c_spec_l2Node = true := by kernel_rfl

def c_spec_l2Under : F2 :=
  { nt := 33, res := [.t 8 [0]], body :=
   (.sq (.rg none [⟨some 5, none, .bt (.t 1)⟩,
      ⟨some 8, none, .mv (.k (.bool false)) none⟩])
   (.sq (.sq (.rg none [⟨some 9, none, .mv (.t 2) none⟩,
       ⟨some 10, none, .bi .lss 0 (.t 9) (.k (.int .i64 0))⟩])
    (.cd (.t 10) (.sq (.rg none [⟨some 11, none, .mv (.t 2) none⟩,
        ⟨some 12, none, .bi .sub 0 (.k (.int .i64 (-1))) (.t 11)⟩,
        ⟨some 13, none, .fa 0 (.t 5)⟩,
        ⟨some 14, none, .ld none (.t 13)⟩,
        ⟨some 15, none, .bi .sub 0 (.t 14) (.k (.int .i64 1))⟩,
        ⟨some 16, none, .ca .pure false (.f fid_spec_l1In) [.t 12, .k (.int .i64 0), .t 15]⟩,
        ⟨some 8, none, .mv (.t 16) none⟩])
     (.rt))
    (.sk)))
   (.sq (.rg none [⟨some 17, none, .mv (.t 2) none⟩,
      ⟨some 18, none, .mv (.t 3) none⟩,
      ⟨some 19, none, .bi .lss 0 (.t 17) (.t 18)⟩,
      ⟨some 20, none, .mv (.t 19) none⟩,
      ⟨some 21, (some (20, true)), .mv (.t 0) none⟩,
      ⟨some 22, (some (20, true)), .fa 1 (.t 5)⟩,
      ⟨some 23, (some (20, true)), .ld none (.t 22)⟩,
      ⟨some 24, (some (20, true)), .mv (.t 2) none⟩,
      ⟨some 25, (some (20, true)), .ia 3 (.t 23) (.t 24)⟩,
      ⟨some 26, (some (20, true)), .fa 0 (.t 25)⟩,
      ⟨some 27, (some (20, true)), .ld none (.t 26)⟩,
      ⟨some 28, (some (20, true)), .ia 3 (.t 21) (.t 27)⟩,
      ⟨some 29, (some (20, true)), .fa 2 (.t 28)⟩,
      ⟨some 30, (some (20, true)), .ld none (.t 29)⟩,
      ⟨some 31, (some (20, true)), .bi .neq 0 (.t 30) (.k (.int .i64 2))⟩,
      ⟨some 32, none, .pk (.t 20) (.t 31) (.k (.bool false))⟩,
      ⟨some 8, none, .mv (.t 32) none⟩])
   (.rt)))) }
theorem k_spec_l2Under : chkF Go.Proofs.Tryd.prog fid_spec_l2Under c_spec_l2Under = true := by kernel_rfl

def c_spec_l2Link : F2 :=
  { nt := 14, res := [.t 4 [0]], body :=
   (.sq (.rg none [⟨some 2, none, .bt (.t 0)⟩,
      ⟨some 4, none, .mv (.k (.bool false)) none⟩])
   (.sq (.rg none [⟨some 5, none, .mv (.t 1) none⟩,
      ⟨some 6, none, .fa 3 (.t 2)⟩,
      ⟨some 7, none, .ld none (.t 6)⟩,
      ⟨some 8, none, .fa 4 (.t 2)⟩,
      ⟨some 9, none, .ld none (.t 8)⟩,
      ⟨some 10, none, .ln (.t 9)⟩,
      ⟨some 11, none, .bi .add 0 (.t 7) (.t 10)⟩,
      ⟨some 12, none, .bi .sub 0 (.t 11) (.k (.int .i64 1))⟩,
      ⟨some 13, none, .ca .pure false (.f fid_spec_l1In) [.t 5, .k (.int .i64 0), .t 12]⟩,
      ⟨some 4, none, .mv (.t 13) none⟩])
   (.rt))) }
theorem k_spec_l2Link : chkF Go.Proofs.Tryd.prog fid_spec_l2Link c_spec_l2Link = true := by kernel_rfl

def c_spec_l2Kids : F2 :=
  { nt := 28, res := [.t 4 [2]], body :=
   (.sq (.rg none [⟨some 2, none, .bt (.t 0)⟩,
      ⟨some 4, none, .mv (.k (.slice none 0 0)) none⟩])
   (.sq (.rg none [⟨some 7, none, .bs 1 0 [] []⟩,
      ⟨some 5, none, .mv (.t 7) none⟩])
   (.sq (.sq (.rg none [⟨some 6, none, .mv (.k (.int .i64 0)) none⟩])
    (.bl 0 (.lp [1, 2, 5, 6] [224, 832] (.sq (.sq (.rg none [⟨some 8, none, .mv (.t 6) none⟩,
          ⟨some 9, none, .fa 1 (.t 2)⟩,
          ⟨some 10, none, .ld none (.t 9)⟩,
          ⟨some 11, none, .ln (.t 10)⟩,
          ⟨some 12, none, .bi .lss 0 (.t 8) (.t 11)⟩])
       (.cd (.t 12) (.sk)
       (.ex 0)))
      (.sq (.bl 1 (.sq (.rg none [⟨some 15, none, .fa 1 (.t 2)⟩,
           ⟨some 16, none, .ld none (.t 15)⟩,
           ⟨some 17, none, .mv (.t 6) none⟩,
           ⟨some 18, none, .ia 3 (.t 16) (.t 17)⟩,
           ⟨some 19, none, .fa 1 (.t 18)⟩,
           ⟨some 20, none, .ld none (.t 19)⟩,
           ⟨some 21, none, .mv (.t 1) none⟩,
           ⟨some 22, none, .bi .eql 0 (.t 20) (.t 21)⟩])
        (.cd (.t 22) (.rg none [⟨some 23, none, .mv (.t 5) none⟩,
           ⟨some 24, none, .mv (.t 6) none⟩,
           ⟨some 25, none, .bs 1 1 [.int .i64 0] [(0, .t 24)]⟩,
           ⟨some 26, none, .ap 1 0 (.t 23) (.t 25)⟩,
           ⟨some 5, none, .mv (.t 26) none⟩])
        (.sk))))
      (.rg none [⟨some 13, none, .mv (.t 6) none⟩,
        ⟨some 14, none, .bi .add 0 (.t 13) (.k (.int .i64 1))⟩,
        ⟨some 6, none, .mv (.t 14) none⟩]))))))
   (.sq (.rg none [⟨some 27, none, .mv (.t 5) none⟩,
      ⟨some 4, none, .mv (.t 27) none⟩])
   (.rt))))) }
theorem k_spec_l2Kids : chkF Go.Proofs.Tryd.prog fid_spec_l2Kids c_spec_l2Kids = true := by kernel_rfl

def c_spec_l2Holes : F2 :=
  { nt := 27, res := [.t 4 [2]], body :=
   (.sq (.rg none [⟨some 2, none, .bt (.t 0)⟩,
      ⟨some 4, none, .mv (.k (.slice none 0 0)) none⟩])
   (.sq (.rg none [⟨some 7, none, .bs 1 0 [] []⟩,
      ⟨some 5, none, .mv (.t 7) none⟩])
   (.sq (.sq (.rg none [⟨some 6, none, .mv (.k (.int .i64 0)) none⟩])
    (.bl 0 (.lp [1, 2, 5, 6] [224, 800] (.sq (.sq (.rg none [⟨some 8, none, .mv (.t 6) none⟩,
          ⟨some 9, none, .fa 2 (.t 2)⟩,
          ⟨some 10, none, .ld none (.t 9)⟩,
          ⟨some 11, none, .ln (.t 10)⟩,
          ⟨some 12, none, .bi .lss 0 (.t 8) (.t 11)⟩])
       (.cd (.t 12) (.sk)
       (.ex 0)))
      (.sq (.bl 1 (.sq (.rg none [⟨some 15, none, .fa 2 (.t 2)⟩,
           ⟨some 16, none, .ld none (.t 15)⟩,
           ⟨some 17, none, .mv (.t 6) none⟩,
           ⟨some 18, none, .ia 1 (.t 16) (.t 17)⟩,
           ⟨some 19, none, .ld none (.t 18)⟩,
           ⟨some 20, none, .mv (.t 1) none⟩,
           ⟨some 21, none, .bi .eql 0 (.t 19) (.t 20)⟩])
        (.cd (.t 21) (.rg none [⟨some 22, none, .mv (.t 5) none⟩,
           ⟨some 23, none, .mv (.t 6) none⟩,
           ⟨some 24, none, .bs 1 1 [.int .i64 0] [(0, .t 23)]⟩,
           ⟨some 25, none, .ap 1 0 (.t 22) (.t 24)⟩,
           ⟨some 5, none, .mv (.t 25) none⟩])
        (.sk))))
      (.rg none [⟨some 13, none, .mv (.t 6) none⟩,
        ⟨some 14, none, .bi .add 0 (.t 13) (.k (.int .i64 1))⟩,
        ⟨some 6, none, .mv (.t 14) none⟩]))))))
   (.sq (.rg none [⟨some 26, none, .mv (.t 5) none⟩,
      ⟨some 4, none, .mv (.t 26) none⟩])
   (.rt))))) }
theorem k_spec_l2Holes : chkF Go.Proofs.Tryd.prog fid_spec_l2Holes c_spec_l2Holes = true := by kernel_rfl

def c_spec_l2Idle : F2 :=
  { nt := 17, res := [.t 4 [0]], body :=
   (.sq (.rg none [⟨some 2, none, .bt (.t 0)⟩,
      ⟨some 4, none, .mv (.k (.bool false)) none⟩])
   (.sq (.rg none [⟨some 5, none, .ld (some 6) (.t 2)⟩,
      ⟨some 6, none, .mv (.t 1) none⟩,
      ⟨some 7, none, .ca .pure false (.f fid_spec_l2Ports) [.t 5, .t 6]⟩,
      ⟨some 8, none, .ln (.t 7)⟩,
      ⟨some 9, none, .bi .eql 0 (.t 8) (.k (.int .i64 0))⟩,
      ⟨some 10, none, .mv (.t 9) none⟩,
      ⟨some 11, (some (10, true)), .ld (some 6) (.t 2)⟩,
      ⟨some 12, (some (10, true)), .mv (.t 1) none⟩,
      ⟨some 13, (some (10, true)), .ca .pure false (.f fid_spec_l2Ends) [.t 11, .t 12]⟩,
      ⟨some 14, (some (10, true)), .ln (.t 13)⟩,
      ⟨some 15, (some (10, true)), .bi .eql 0 (.t 14) (.k (.int .i64 0))⟩,
      ⟨some 16, none, .pk (.t 10) (.t 15) (.k (.bool false))⟩,
      ⟨some 4, none, .mv (.t 16) none⟩])
   (.rt))) }
theorem k_spec_l2Idle : chkF Go.Proofs.Tryd.prog fid_spec_l2Idle c_spec_l2Idle = true := by kernel_rfl

def c_impl_IsSignature : F2 :=
  { nt := 40, res := [.t 2 [0]], body :=
   (.sq (.rg none [⟨some 2, none, .mv (.k (.bool false)) none⟩])
   (.sq (.sq (.rg none [⟨some 5, none, .mv (.t 0) none⟩,
       ⟨some 6, none, .ln (.t 5)⟩,
       ⟨some 7, none, .ca .pure false (.f fid_impl_within) [.t 6, .k (.int .i64 1), .k (.int .i64 6)]⟩,
       ⟨some 8, none, .nt (.t 7)⟩])
    (.cd (.t 8) (.sq (.rg none [⟨some 2, none, .mv (.k (.bool false)) none⟩])
     (.rt))
    (.sk)))
   (.sq (.sq (.rg none [⟨some 9, none, .mv (.t 0) none⟩,
       ⟨some 10, none, .ln (.t 9)⟩,
       ⟨some 11, none, .mv (.k (.int .i64 0)) none⟩])
    (.bl 0 (.lp [0, 9, 10, 11] [] (.sq (.rg none [⟨some 12, none, .bi .lss 0 (.t 11) (.t 10)⟩])
      (.sq (.cd (.t 12) (.sk)
       (.ex 0))
      (.sq (.bl 1 (.sq (.rg none [⟨some 13, none, .mv (.t 11) none⟩,
           ⟨some 14, none, .ia 3 (.t 9) (.t 11)⟩,
           ⟨some 15, none, .ld (some 3) (.t 14)⟩,
           ⟨some 4, none, .al [.string ⟨#[]⟩, .int .i64 0, .int .i64 0] []⟩,
           ⟨some 3, none, .mv (.t 13) none⟩,
           ⟨none, none, .st 3 (.t 4) (.t 15)⟩])
        (.sq (.rg none [⟨some 16, none, .fa 0 (.t 4)⟩,
           ⟨some 17, none, .ld none (.t 16)⟩,
           ⟨some 18, none, .ca .pure false (.f fid_impl_isName) [.t 17]⟩,
           ⟨some 19, none, .nt (.t 18)⟩,
           ⟨some 20, none, .mv (.t 19) none⟩,
           ⟨some 21, (some (20, false)), .fa 1 (.t 4)⟩,
           ⟨some 22, (some (20, false)), .ld none (.t 21)⟩,
           ⟨some 23, (some (20, false)), .ca .pure false (.f fid_impl_within) [.t 22, .k (.int .i64 0), .k (.int .i64 3)]⟩,
           ⟨some 24, (some (20, false)), .nt (.t 23)⟩,
           ⟨some 25, none, .pk (.t 20) (.k (.bool true)) (.t 24)⟩,
           ⟨some 26, none, .mv (.t 25) none⟩,
           ⟨some 27, (some (26, false)), .fa 2 (.t 4)⟩,
           ⟨some 28, (some (26, false)), .ld none (.t 27)⟩,
           ⟨some 29, (some (26, false)), .ca .pure false (.f fid_impl_within) [.t 28, .k (.int .i64 0), .k (.int .i64 2)]⟩,
           ⟨some 30, (some (26, false)), .nt (.t 29)⟩,
           ⟨some 31, none, .pk (.t 26) (.k (.bool true)) (.t 30)⟩,
           ⟨some 32, none, .mv (.t 31) none⟩,
           ⟨some 33, (some (32, false)), .mv (.t 0) none⟩,
           ⟨some 34, (some (32, false)), .mv (.t 3) none⟩,
           ⟨some 35, (some (32, false)), .sx 3 (.t 33) none (some (.t 34)) none⟩,
           ⟨some 36, (some (32, false)), .mf fid_impl_IsSignature_1 [.t 4]⟩,
           ⟨some 37, (some (32, false)), .ca .pure false (.f fid_slices_ContainsFunc_impl_Control_impl_Control) [.t 35, .t 36]⟩,
           ⟨some 38, none, .pk (.t 32) (.k (.bool true)) (.t 37)⟩])
        (.cd (.t 38) (.sq (.rg none [⟨some 2, none, .mv (.k (.bool false)) none⟩])
         (.rt))
        (.sk)))))
      (.rg none [⟨some 39, none, .bi .add 0 (.t 11) (.k (.int .i64 1))⟩,
        ⟨some 11, none, .mv (.t 39) none⟩])))))))
   (.sq (.rg none [⟨some 2, none, .mv (.k (.bool true)) none⟩])
   (.rt))))) }
theorem k_impl_IsSignature : chkF Go.Proofs.Tryd.prog fid_impl_IsSignature c_impl_IsSignature = true := by kernel_rfl

def c_impl_areNames : F2 :=
  { nt := 32, res := [.t 2 [0]], body :=
   (.sq (.rg none [⟨some 2, none, .mv (.k (.bool false)) none⟩])
   (.sq (.sq (.rg none [⟨some 5, none, .mv (.t 0) none⟩,
       ⟨some 6, none, .ln (.t 5)⟩,
       ⟨some 7, none, .mv (.k (.int .i64 0)) none⟩])
    (.bl 0 (.lp [0, 5, 6, 7] [] (.sq (.rg none [⟨some 8, none, .bi .lss 0 (.t 7) (.t 6)⟩])
      (.sq (.cd (.t 8) (.sk)
       (.ex 0))
      (.sq (.bl 1 (.sq (.rg none [⟨some 9, none, .mv (.t 7) none⟩,
           ⟨some 10, none, .ia 1 (.t 5) (.t 7)⟩,
           ⟨some 11, none, .ld none (.t 10)⟩,
           ⟨some 3, none, .mv (.t 9) none⟩,
           ⟨some 4, none, .mv (.t 11) none⟩])
        (.sq (.rg none [⟨some 12, none, .mv (.t 4) none⟩,
           ⟨some 13, none, .ca .pure false (.f fid_impl_isName) [.t 12]⟩,
           ⟨some 14, none, .nt (.t 13)⟩,
           ⟨some 15, none, .mv (.t 14) none⟩,
           ⟨some 16, (some (15, false)), .mv (.t 3) none⟩,
           ⟨some 17, (some (15, false)), .bi .gtr 0 (.t 16) (.k (.int .i64 0))⟩,
           ⟨some 18, (some (15, false)), .mv (.t 17) none⟩,
           ⟨some 19, (some (18, true)), .mv (.t 4) none⟩,
           ⟨some 20, (some (18, true)), .mv (.t 0) none⟩,
           ⟨some 21, (some (18, true)), .mv (.t 3) none⟩,
           ⟨some 22, (some (18, true)), .bi .sub 0 (.t 21) (.k (.int .i64 1))⟩,
           ⟨some 23, (some (18, true)), .ia 1 (.t 20) (.t 22)⟩,
           ⟨some 24, (some (18, true)), .ld none (.t 23)⟩,
           ⟨some 25, (some (18, true)), .bi .leq 0 (.t 19) (.t 24)⟩,
           ⟨some 26, (some (15, false)), .pk (.t 18) (.t 25) (.k (.bool false))⟩,
           ⟨some 27, none, .pk (.t 15) (.k (.bool true)) (.t 26)⟩])
        (.cd (.t 27) (.sq (.rg none [⟨some 2, none, .mv (.k (.bool false)) none⟩])
         (.rt))
        (.sk)))))
      (.rg none [⟨some 28, none, .bi .add 0 (.t 7) (.k (.int .i64 1))⟩,
        ⟨some 7, none, .mv (.t 28) none⟩])))))))
   (.sq (.rg none [⟨some 29, none, .mv (.t 0) none⟩,
      ⟨some 30, none, .ln (.t 29)⟩,
      ⟨some 31, none, .bi .leq 0 (.t 30) (.k (.int .i64 16))⟩,
      ⟨some 2, none, .mv (.t 31) none⟩])
   (.rt)))) }
theorem k_impl_areNames : chkF Go.Proofs.Tryd.prog fid_impl_areNames c_impl_areNames = true := by kernel_rfl

def c_impl_Bigraph_innerNames : F2 :=
  { nt := 21, res := [.t 2 [2]], body :=
   (.sq (.rg none [⟨some 1, none, .bt (.t 0)⟩,
      ⟨some 2, none, .mv (.k (.slice none 0 0)) none⟩])
   (.sq (.rg none [⟨some 6, none, .bs 1 0 [] []⟩,
      ⟨some 3, none, .mv (.t 6) none⟩])
   (.sq (.sq (.rg none [⟨some 7, none, .fa 5 (.t 1)⟩,
       ⟨some 8, none, .ld none (.t 7)⟩,
       ⟨some 9, none, .ln (.t 8)⟩,
       ⟨some 10, none, .mv (.k (.int .i64 0)) none⟩])
    (.bl 0 (.lp [3, 8, 9, 10] [192, 576] (.sq (.rg none [⟨some 11, none, .bi .lss 0 (.t 10) (.t 9)⟩])
      (.sq (.cd (.t 11) (.sk)
       (.ex 0))
      (.sq (.bl 1 (.sq (.rg none [⟨some 12, none, .ia 2 (.t 8) (.t 10)⟩,
           ⟨some 13, none, .ld (some 2) (.t 12)⟩,
           ⟨some 5, none, .al [.string ⟨#[]⟩, .int .i64 0] []⟩,
           ⟨none, none, .st 2 (.t 5) (.t 13)⟩])
        (.rg none [⟨some 14, none, .mv (.t 3) none⟩,
          ⟨some 15, none, .fa 0 (.t 5)⟩,
          ⟨some 16, none, .ld none (.t 15)⟩,
          ⟨some 17, none, .bs 1 1 [.string ⟨#[]⟩] [(0, .t 16)]⟩,
          ⟨some 18, none, .ap 1 0 (.t 14) (.t 17)⟩,
          ⟨some 3, none, .mv (.t 18) none⟩])))
      (.rg none [⟨some 19, none, .bi .add 0 (.t 10) (.k (.int .i64 1))⟩,
        ⟨some 10, none, .mv (.t 19) none⟩])))))))
   (.sq (.rg none [⟨some 20, none, .mv (.t 3) none⟩,
      ⟨some 2, none, .mv (.t 20) none⟩])
   (.rt))))) }
theorem k_impl_Bigraph_innerNames : chkF Go.Proofs.Tryd.prog fid_impl_Bigraph_innerNames c_impl_Bigraph_innerNames = true := by kernel_rfl

def c_impl_Bigraph_isParent : F2 :=
  { nt := 32, res := [.t 8 [0]], body :=
   (.sq (.rg none [⟨some 4, none, .bt (.t 0)⟩,
      ⟨some 8, none, .mv (.k (.bool false)) none⟩])
   (.sq (.sq (.rg none [⟨some 9, none, .mv (.t 2) none⟩,
       ⟨some 10, none, .bi .lss 0 (.t 9) (.k (.int .i64 0))⟩])
    (.cd (.t 10) (.sq (.rg none [⟨some 11, none, .mv (.t 2) none⟩,
        ⟨some 12, none, .fa 0 (.t 4)⟩,
        ⟨some 13, none, .ld none (.t 12)⟩,
        ⟨some 14, none, .ng (.t 13)⟩,
        ⟨some 15, none, .bi .geq 0 (.t 11) (.t 14)⟩,
        ⟨some 8, none, .mv (.t 15) none⟩])
     (.rt))
    (.sk)))
   (.sq (.rg none [⟨some 16, none, .mv (.t 2) none⟩,
      ⟨some 17, none, .mv (.t 3) none⟩,
      ⟨some 18, none, .bi .lss 0 (.t 16) (.t 17)⟩,
      ⟨some 19, none, .mv (.t 18) none⟩,
      ⟨some 20, (some (19, true)), .mv (.t 1) none⟩,
      ⟨some 21, (some (19, true)), .fa 1 (.t 4)⟩,
      ⟨some 22, (some (19, true)), .ld none (.t 21)⟩,
      ⟨some 23, (some (19, true)), .mv (.t 2) none⟩,
      ⟨some 24, (some (19, true)), .ia 3 (.t 22) (.t 23)⟩,
      ⟨some 25, (some (19, true)), .fa 0 (.t 24)⟩,
      ⟨some 26, (some (19, true)), .ld none (.t 25)⟩,
      ⟨some 27, (some (19, true)), .ia 3 (.t 20) (.t 26)⟩,
      ⟨some 28, (some (19, true)), .fa 2 (.t 27)⟩,
      ⟨some 29, (some (19, true)), .ld none (.t 28)⟩,
      ⟨some 30, (some (19, true)), .bi .neq 0 (.t 29) (.k (.int .i64 2))⟩,
      ⟨some 31, none, .pk (.t 19) (.t 30) (.k (.bool false))⟩,
      ⟨some 8, none, .mv (.t 31) none⟩])
   (.rt)))) }
theorem k_impl_Bigraph_isParent : chkF Go.Proofs.Tryd.prog fid_impl_Bigraph_isParent c_impl_Bigraph_isParent = true := by kernel_rfl

def c_impl_IsBigraph_1 : F2 :=
  { nt := 8, res := [.t 3 [0]], body :=
   (.sq (.rg none [⟨some 3, none, .mv (.k (.bool false)) none⟩])
   (.sq (.rg none [⟨some 4, none, .ld (some 6) (.t 1)⟩,
      ⟨some 5, none, .mv (.t 0) none⟩,
      ⟨some 6, none, .ca .pure false (.f fid_impl_Bigraph_isLink) [.t 4, .t 5]⟩,
      ⟨some 7, none, .nt (.t 6)⟩,
      ⟨some 3, none, .mv (.t 7) none⟩])
   (.rt))) }
theorem k_impl_IsBigraph_1 : chkF Go.Proofs.Tryd.prog fid_impl_IsBigraph_1 c_impl_IsBigraph_1 = true := by kernel_rfl

def c_impl_Bigraph_isLink : F2 :=
  { nt := 14, res := [.t 4 [0]], body :=
   (.sq (.rg none [⟨some 2, none, .bt (.t 0)⟩,
      ⟨some 4, none, .mv (.k (.bool false)) none⟩])
   (.sq (.rg none [⟨some 5, none, .mv (.t 1) none⟩,
      ⟨some 6, none, .fa 3 (.t 2)⟩,
      ⟨some 7, none, .ld none (.t 6)⟩,
      ⟨some 8, none, .fa 4 (.t 2)⟩,
      ⟨some 9, none, .ld none (.t 8)⟩,
      ⟨some 10, none, .ln (.t 9)⟩,
      ⟨some 11, none, .bi .add 0 (.t 7) (.t 10)⟩,
      ⟨some 12, none, .bi .sub 0 (.t 11) (.k (.int .i64 1))⟩,
      ⟨some 13, none, .ca .pure false (.f fid_impl_within) [.t 5, .k (.int .i64 0), .t 12]⟩,
      ⟨some 4, none, .mv (.t 13) none⟩])
   (.rt))) }
theorem k_impl_Bigraph_isLink : chkF Go.Proofs.Tryd.prog fid_impl_Bigraph_isLink c_impl_Bigraph_isLink = true := by kernel_rfl

def c_impl_IsBigraph_2 : F2 :=
  { nt := 13, res := [.t 4 [0]], body :=
   (.sq (.rg none [⟨some 4, none, .mv (.k (.bool false)) none⟩])
   (.sq (.rg none [⟨some 5, none, .ld (some 6) (.t 1)⟩,
      ⟨some 6, none, .ld none (.t 2)⟩,
      ⟨some 7, none, .mv (.t 0) none⟩,
      ⟨some 8, none, .fa 1 (.t 1)⟩,
      ⟨some 9, none, .ld none (.t 8)⟩,
      ⟨some 10, none, .ln (.t 9)⟩,
      ⟨some 11, none, .ca .pure false (.f fid_impl_Bigraph_isParent) [.t 5, .t 6, .t 7, .t 10]⟩,
      ⟨some 12, none, .nt (.t 11)⟩,
      ⟨some 4, none, .mv (.t 12) none⟩])
   (.rt))) }
theorem k_impl_IsBigraph_2 : chkF Go.Proofs.Tryd.prog fid_impl_IsBigraph_2 c_impl_IsBigraph_2 = true := by kernel_rfl

def c_impl_IsBigraph_3 : F2 :=
  { nt := 9, res := [.t 3 [0]], body :=
   (.sq (.rg none [⟨some 2, none, .bt (.t 0)⟩,
      ⟨some 3, none, .mv (.k (.bool false)) none⟩])
   (.sq (.rg none [⟨some 4, none, .ld (some 6) (.t 1)⟩,
      ⟨some 5, none, .fa 1 (.t 2)⟩,
      ⟨some 6, none, .ld none (.t 5)⟩,
      ⟨some 7, none, .ca .pure false (.f fid_impl_Bigraph_isLink) [.t 4, .t 6]⟩,
      ⟨some 8, none, .nt (.t 7)⟩,
      ⟨some 3, none, .mv (.t 8) none⟩])
   (.rt))) }
theorem k_impl_IsBigraph_3 : chkF Go.Proofs.Tryd.prog fid_impl_IsBigraph_3 c_impl_IsBigraph_3 = true := by kernel_rfl

def c_impl_Bigraph_childrenOf : F2 :=
  { nt := 49, res := [.t 4 [2], .t 5 [2]], body :=
   (.sq (.rg none [⟨some 2, none, .bt (.t 0)⟩,
      ⟨some 4, none, .mv (.k (.slice none 0 0)) none⟩,
      ⟨some 5, none, .mv (.k (.slice none 0 0)) none⟩])
   (.sq (.rg none [⟨some 12, none, .bs 1 0 [] []⟩,
      ⟨some 13, none, .bs 1 0 [] []⟩,
      ⟨some 6, none, .mv (.t 12) none⟩,
      ⟨some 7, none, .mv (.t 13) none⟩])
   (.sq (.sq (.rg none [⟨some 14, none, .fa 1 (.t 2)⟩,
       ⟨some 15, none, .ld none (.t 14)⟩,
       ⟨some 16, none, .ln (.t 15)⟩,
       ⟨some 17, none, .mv (.k (.int .i64 0)) none⟩])
    (.bl 0 (.lp [1, 2, 6, 7, 15, 16, 17] [384, 416, 928, 1440] (.sq (.rg none [⟨some 18, none, .bi .lss 0 (.t 17) (.t 16)⟩])
      (.sq (.cd (.t 18) (.sk)
       (.ex 0))
      (.sq (.bl 1 (.sq (.rg none [⟨some 19, none, .mv (.t 17) none⟩,
           ⟨some 20, none, .ia 3 (.t 15) (.t 17)⟩,
           ⟨some 21, none, .ld (some 3) (.t 20)⟩,
           ⟨some 9, none, .al [.int .i64 0, .int .i64 0, .slice none 0 0] []⟩,
           ⟨some 8, none, .mv (.t 19) none⟩,
           ⟨none, none, .st 3 (.t 9) (.t 21)⟩])
        (.sq (.rg none [⟨some 22, none, .fa 1 (.t 9)⟩,
           ⟨some 23, none, .ld none (.t 22)⟩,
           ⟨some 24, none, .mv (.t 1) none⟩,
           ⟨some 25, none, .bi .eql 0 (.t 23) (.t 24)⟩])
        (.cd (.t 25) (.rg none [⟨some 26, none, .mv (.t 6) none⟩,
           ⟨some 27, none, .mv (.t 8) none⟩,
           ⟨some 28, none, .bs 1 1 [.int .i64 0] [(0, .t 27)]⟩,
           ⟨some 29, none, .ap 1 0 (.t 26) (.t 28)⟩,
           ⟨some 6, none, .mv (.t 29) none⟩])
        (.sk)))))
      (.rg none [⟨some 30, none, .bi .add 0 (.t 17) (.k (.int .i64 1))⟩,
        ⟨some 17, none, .mv (.t 30) none⟩])))))))
   (.sq (.sq (.rg none [⟨some 31, none, .fa 2 (.t 2)⟩,
       ⟨some 32, none, .ld none (.t 31)⟩,
       ⟨some 33, none, .ln (.t 32)⟩,
       ⟨some 34, none, .mv (.k (.int .i64 0)) none⟩])
    (.bl 2 (.lp [1, 6, 7, 32, 33, 34] [384, 416, 928, 1440] (.sq (.rg none [⟨some 35, none, .bi .lss 0 (.t 34) (.t 33)⟩])
      (.sq (.cd (.t 35) (.sk)
       (.ex 2))
      (.sq (.bl 3 (.sq (.rg none [⟨some 36, none, .mv (.t 34) none⟩,
           ⟨some 37, none, .ia 1 (.t 32) (.t 34)⟩,
           ⟨some 38, none, .ld none (.t 37)⟩,
           ⟨some 10, none, .mv (.t 36) none⟩,
           ⟨some 11, none, .mv (.t 38) none⟩])
        (.sq (.rg none [⟨some 39, none, .mv (.t 11) none⟩,
           ⟨some 40, none, .mv (.t 1) none⟩,
           ⟨some 41, none, .bi .eql 0 (.t 39) (.t 40)⟩])
        (.cd (.t 41) (.rg none [⟨some 42, none, .mv (.t 7) none⟩,
           ⟨some 43, none, .mv (.t 10) none⟩,
           ⟨some 44, none, .bs 1 1 [.int .i64 0] [(0, .t 43)]⟩,
           ⟨some 45, none, .ap 1 0 (.t 42) (.t 44)⟩,
           ⟨some 7, none, .mv (.t 45) none⟩])
        (.sk)))))
      (.rg none [⟨some 46, none, .bi .add 0 (.t 34) (.k (.int .i64 1))⟩,
        ⟨some 34, none, .mv (.t 46) none⟩])))))))
   (.sq (.rg none [⟨some 47, none, .mv (.t 6) none⟩,
      ⟨some 48, none, .mv (.t 7) none⟩,
      ⟨some 4, none, .mv (.t 47) none⟩,
      ⟨some 5, none, .mv (.t 48) none⟩])
   (.rt)))))) }
theorem k_impl_Bigraph_childrenOf : chkF Go.Proofs.Tryd.prog fid_impl_Bigraph_childrenOf c_impl_Bigraph_childrenOf = true := by kernel_rfl

def c_impl_Bigraph_isIdle : F2 :=
  { nt := 19, res := [.t 4 [0]], body :=
   (.sq (.rg none [⟨some 2, none, .bt (.t 0)⟩,
      ⟨some 4, none, .mv (.k (.bool false)) none⟩])
   (.sq (.rg none [⟨some 8, none, .ld (some 6) (.t 2)⟩,
      ⟨some 9, none, .mv (.t 1) none⟩,
      ⟨some 10, none, .ca .pure false (.f fid_impl_Bigraph_pointsOf) [.t 8, .t 9]⟩,
      ⟨some 7, none, .mv (.t 10) none⟩,
      ⟨some 11, none, .ex 0 (.t 7)⟩,
      ⟨some 12, none, .ex 1 (.t 7)⟩,
      ⟨some 5, none, .mv (.t 11) none⟩,
      ⟨some 6, none, .mv (.t 12) none⟩])
   (.sq (.rg none [⟨some 13, none, .mv (.t 5) none⟩,
      ⟨some 14, none, .ln (.t 13)⟩,
      ⟨some 15, none, .mv (.t 6) none⟩,
      ⟨some 16, none, .ln (.t 15)⟩,
      ⟨some 17, none, .bi .add 0 (.t 14) (.t 16)⟩,
      ⟨some 18, none, .bi .eql 0 (.t 17) (.k (.int .i64 0))⟩,
      ⟨some 4, none, .mv (.t 18) none⟩])
   (.rt)))) }
theorem k_impl_Bigraph_isIdle : chkF Go.Proofs.Tryd.prog fid_impl_Bigraph_isIdle c_impl_Bigraph_isIdle = true := by kernel_rfl

def c_spec_l8Redex : F2 :=
  { nt := 12, res := [.t 4 [0]], body :=
   (.sq (.rg none [⟨some 3, none, .bt (.t 1)⟩,
      ⟨some 4, none, .mv (.k (.bool false)) none⟩])
   (.sq (.rg none [⟨some 5, none, .mv (.t 0) none⟩,
      ⟨some 6, none, .ld (some 6) (.t 3)⟩,
      ⟨some 7, none, .ca .pure false (.f fid_spec_l2Good) [.t 5, .t 6]⟩,
      ⟨some 8, none, .mv (.t 7) none⟩,
      ⟨some 9, (some (8, true)), .ld (some 6) (.t 3)⟩,
      ⟨some 10, (some (8, true)), .ca .pure false (.f fid_spec_l8Solid) [.t 9]⟩,
      ⟨some 11, none, .pk (.t 8) (.t 10) (.k (.bool false))⟩,
      ⟨some 4, none, .mv (.t 11) none⟩])
   (.rt))) }
theorem k_spec_l8Redex : chkF Go.Proofs.Tryd.prog fid_spec_l8Redex c_spec_l8Redex = true := by kernel_rfl

def c_spec_l3SameNames : F2 :=
  { nt := 32, res := [.t 4 [0]], body :=
   (.sq (.rg none [⟨some 4, none, .mv (.k (.bool false)) none⟩])
   (.sq (.sq (.rg none [⟨some 5, none, .mv (.k (.int .i64 0)) none⟩])
    (.bl 0 (.lp [0, 1, 5] [] (.sq (.sq (.rg none [⟨some 6, none, .mv (.t 5) none⟩,
          ⟨some 7, none, .mv (.t 0) none⟩,
          ⟨some 8, none, .ln (.t 7)⟩,
          ⟨some 9, none, .bi .lss 0 (.t 6) (.t 8)⟩,
          ⟨some 10, none, .mv (.t 9) none⟩,
          ⟨some 11, (some (10, true)), .mv (.t 5) none⟩,
          ⟨some 12, (some (10, true)), .mv (.t 1) none⟩,
          ⟨some 13, (some (10, true)), .ln (.t 12)⟩,
          ⟨some 14, (some (10, true)), .bi .lss 0 (.t 11) (.t 13)⟩,
          ⟨some 15, none, .pk (.t 10) (.t 14) (.k (.bool false))⟩])
       (.cd (.t 15) (.sk)
       (.ex 0)))
      (.sq (.bl 1 (.sq (.rg (some 0) [⟨some 18, none, .mv (.t 0) none⟩,
           ⟨some 19, none, .mv (.t 5) none⟩,
           ⟨some 20, none, .ia 1 (.t 18) (.t 19)⟩,
           ⟨some 21, none, .ld none (.t 20)⟩,
           ⟨some 22, none, .mv (.t 1) none⟩,
           ⟨some 23, none, .mv (.t 5) none⟩,
           ⟨some 24, none, .ia 1 (.t 22) (.t 23)⟩,
           ⟨some 25, none, .ld none (.t 24)⟩,
           ⟨some 26, none, .bi .neq 0 (.t 21) (.t 25)⟩])
        (.cd (.t 26) (.sq (.rg none [⟨some 4, none, .mv (.k (.bool false)) none⟩])
         (.rt))
        (.sk))))
      (.rg none [⟨some 16, none, .mv (.t 5) none⟩,
        ⟨some 17, none, .bi .add 0 (.t 16) (.k (.int .i64 1))⟩,
        ⟨some 5, none, .mv (.t 17) none⟩]))))))
   (.sq (.rg none [⟨some 27, none, .mv (.t 0) none⟩,
      ⟨some 28, none, .ln (.t 27)⟩,
      ⟨some 29, none, .mv (.t 1) none⟩,
      ⟨some 30, none, .ln (.t 29)⟩,
      ⟨some 31, none, .bi .eql 0 (.t 28) (.t 30)⟩,
      ⟨some 4, none, .mv (.t 31) none⟩])
   (.rt)))) }
theorem k_spec_l3SameNames : chkF Go.Proofs.Tryd.prog fid_spec_l3SameNames c_spec_l3SameNames = true := by kernel_rfl

def c_spec_l9Copies : F2 :=
  { nt := 31, res := [.t 2 [0]], body :=
   (.sq (.rg none [⟨some 1, none, .bt (.t 0)⟩,
      ⟨some 2, none, .mv (.k (.bool false)) none⟩])
   (.sq (.sq (.rg none [⟨some 3, none, .mv (.k (.int .i64 0)) none⟩])
    (.bl 0 (.lp [1, 3] [] (.sq (.sq (.rg none [⟨some 4, none, .mv (.t 3) none⟩,
          ⟨some 5, none, .fa 12 (.t 1)⟩,
          ⟨some 6, none, .ld none (.t 5)⟩,
          ⟨some 7, none, .ln (.t 6)⟩,
          ⟨some 8, none, .bi .lss 0 (.t 4) (.t 7)⟩])
       (.cd (.t 8) (.sk)
       (.ex 0)))
      (.sq (.bl 1 (.sq (.rg (some 0) [⟨some 11, none, .fa 12 (.t 1)⟩,
           ⟨some 12, none, .ld none (.t 11)⟩,
           ⟨some 13, none, .mv (.t 3) none⟩,
           ⟨some 14, none, .ia 1 (.t 12) (.t 13)⟩,
           ⟨some 15, none, .ld none (.t 14)⟩,
           ⟨some 16, none, .fa 0 (.t 1)⟩,
           ⟨some 17, none, .fa 2 (.t 16)⟩,
           ⟨some 18, none, .ld none (.t 17)⟩,
           ⟨some 19, none, .ln (.t 18)⟩,
           ⟨some 20, none, .bi .sub 0 (.t 19) (.k (.int .i64 1))⟩,
           ⟨some 21, none, .ca .pure false (.f fid_spec_l1In) [.t 15, .k (.int .i64 0), .t 20]⟩,
           ⟨some 22, none, .nt (.t 21)⟩])
        (.cd (.t 22) (.sq (.rg none [⟨some 2, none, .mv (.k (.bool false)) none⟩])
         (.rt))
        (.sk))))
      (.rg none [⟨some 9, none, .mv (.t 3) none⟩,
        ⟨some 10, none, .bi .add 0 (.t 9) (.k (.int .i64 1))⟩,
        ⟨some 3, none, .mv (.t 10) none⟩]))))))
   (.sq (.rg none [⟨some 23, none, .fa 12 (.t 1)⟩,
      ⟨some 24, none, .ld none (.t 23)⟩,
      ⟨some 25, none, .ln (.t 24)⟩,
      ⟨some 26, none, .fa 6 (.t 1)⟩,
      ⟨some 27, none, .fa 2 (.t 26)⟩,
      ⟨some 28, none, .ld none (.t 27)⟩,
      ⟨some 29, none, .ln (.t 28)⟩,
      ⟨some 30, none, .bi .eql 0 (.t 25) (.t 29)⟩,
      ⟨some 2, none, .mv (.t 30) none⟩])
   (.rt)))) }
theorem k_spec_l9Copies : chkF Go.Proofs.Tryd.prog fid_spec_l9Copies c_spec_l9Copies = true := by kernel_rfl

def c_spec_l2Name : F2 :=
  { nt := 23, res := [.t 2 [0]], body :=
   (.sq (.rg none [⟨some 2, none, .mv (.k (.bool false)) none⟩])
   (.sq (.sq (.rg none [⟨some 3, none, .mv (.k (.int .i64 0)) none⟩])
    (.bl 0 (.lp [0, 3] [] (.sq (.sq (.rg none [⟨some 4, none, .mv (.t 3) none⟩,
          ⟨some 5, none, .mv (.t 0) none⟩,
          ⟨some 6, none, .lg (.t 5)⟩,
          ⟨some 7, none, .bi .lss 0 (.t 4) (.t 6)⟩])
       (.cd (.t 7) (.sk)
       (.ex 0)))
      (.sq (.bl 1 (.sq (.rg none [⟨some 10, none, .mv (.t 0) none⟩,
           ⟨some 11, none, .mv (.t 3) none⟩,
           ⟨some 12, none, .ix (.t 10) (.t 11)⟩,
           ⟨some 13, none, .bi .lss 0 (.t 12) (.k (.int .u8 97))⟩,
           ⟨some 14, none, .mv (.t 13) none⟩,
           ⟨some 15, (some (14, false)), .mv (.t 0) none⟩,
           ⟨some 16, (some (14, false)), .mv (.t 3) none⟩,
           ⟨some 17, (some (14, false)), .ix (.t 15) (.t 16)⟩,
           ⟨some 18, (some (14, false)), .bi .gtr 0 (.t 17) (.k (.int .u8 122))⟩,
           ⟨some 19, none, .pk (.t 14) (.k (.bool true)) (.t 18)⟩])
        (.cd (.t 19) (.sq (.rg none [⟨some 2, none, .mv (.k (.bool false)) none⟩])
         (.rt))
        (.sk))))
      (.rg none [⟨some 8, none, .mv (.t 3) none⟩,
        ⟨some 9, none, .bi .add 0 (.t 8) (.k (.int .i64 1))⟩,
        ⟨some 3, none, .mv (.t 9) none⟩]))))))
   (.sq (.rg none [⟨some 20, none, .mv (.t 0) none⟩,
      ⟨some 21, none, .lg (.t 20)⟩,
      ⟨some 22, none, .ca .pure false (.f fid_spec_l1In) [.t 21, .k (.int .i64 1), .k (.int .i64 4)]⟩,
      ⟨some 2, none, .mv (.t 22) none⟩])
   (.rt)))) }
theorem k_spec_l2Name : chkF Go.Proofs.Tryd.prog fid_spec_l2Name c_spec_l2Name = true := by kernel_rfl

def c_spec_l2Ports : F2 :=
  { nt := 45, res := [.t 4 [3]], body :=
   (.sq (.rg none [⟨some 2, none, .bt (.t 0)⟩,
      ⟨some 4, none, .mv (.k (.slice none 0 0)) none⟩])
   (.sq (.rg none [⟨some 8, none, .bs 2 0 [] []⟩,
      ⟨some 5, none, .mv (.t 8) none⟩])
   (.sq (.sq (.rg none [⟨some 6, none, .mv (.k (.int .i64 0)) none⟩])
    (.bl 0 (.lp [1, 2, 5, 6] [256, 1376] (.sq (.sq (.rg none [⟨some 9, none, .mv (.t 6) none⟩,
          ⟨some 10, none, .fa 1 (.t 2)⟩,
          ⟨some 11, none, .ld none (.t 10)⟩,
          ⟨some 12, none, .ln (.t 11)⟩,
          ⟨some 13, none, .bi .lss 0 (.t 9) (.t 12)⟩])
       (.cd (.t 13) (.sk)
       (.ex 0)))
      (.sq (.bl 1 (.sq (.rg none [⟨some 7, none, .mv (.k (.int .i64 0)) none⟩])
        (.bl 2 (.lp [1, 2, 5, 6, 7] [256, 1376] (.sq (.sq (.rg none [⟨some 16, none, .mv (.t 7) none⟩,
              ⟨some 17, none, .fa 1 (.t 2)⟩,
              ⟨some 18, none, .ld none (.t 17)⟩,
              ⟨some 19, none, .mv (.t 6) none⟩,
              ⟨some 20, none, .ia 3 (.t 18) (.t 19)⟩,
              ⟨some 21, none, .fa 2 (.t 20)⟩,
              ⟨some 22, none, .ld none (.t 21)⟩,
              ⟨some 23, none, .ln (.t 22)⟩,
              ⟨some 24, none, .bi .lss 0 (.t 16) (.t 23)⟩])
           (.cd (.t 24) (.sk)
           (.ex 2)))
          (.sq (.bl 3 (.sq (.rg none [⟨some 27, none, .fa 1 (.t 2)⟩,
               ⟨some 28, none, .ld none (.t 27)⟩,
               ⟨some 29, none, .mv (.t 6) none⟩,
               ⟨some 30, none, .ia 3 (.t 28) (.t 29)⟩,
               ⟨some 31, none, .fa 2 (.t 30)⟩,
               ⟨some 32, none, .ld none (.t 31)⟩,
               ⟨some 33, none, .mv (.t 7) none⟩,
               ⟨some 34, none, .ia 1 (.t 32) (.t 33)⟩,
               ⟨some 35, none, .ld none (.t 34)⟩,
               ⟨some 36, none, .mv (.t 1) none⟩,
               ⟨some 37, none, .bi .eql 0 (.t 35) (.t 36)⟩])
            (.cd (.t 37) (.rg none [⟨some 38, none, .mv (.t 5) none⟩,
               ⟨some 39, none, .mv (.t 6) none⟩,
               ⟨some 40, none, .mv (.t 7) none⟩,
               ⟨some 41, none, .bd [.int .i64 0, .int .i64 0] [(0, 1, .t 39), (1, 1, .t 40)] []⟩,
               ⟨some 42, none, .bs 2 1 [.int .i64 0, .int .i64 0] [(0, .t 41)]⟩,
               ⟨some 43, none, .ap 2 0 (.t 38) (.t 42)⟩,
               ⟨some 5, none, .mv (.t 43) none⟩])
            (.sk))))
          (.rg none [⟨some 25, none, .mv (.t 7) none⟩,
            ⟨some 26, none, .bi .add 0 (.t 25) (.k (.int .i64 1))⟩,
            ⟨some 7, none, .mv (.t 26) none⟩])))))))
      (.rg none [⟨some 14, none, .mv (.t 6) none⟩,
        ⟨some 15, none, .bi .add 0 (.t 14) (.k (.int .i64 1))⟩,
        ⟨some 6, none, .mv (.t 15) none⟩]))))))
   (.sq (.rg none [⟨some 44, none, .mv (.t 5) none⟩,
      ⟨some 4, none, .mv (.t 44) none⟩])
   (.rt))))) }
theorem k_spec_l2Ports : chkF Go.Proofs.Tryd.prog fid_spec_l2Ports c_spec_l2Ports = true := by kernel_rfl

def c_spec_l2Ends : F2 :=
  { nt := 33, res := [.t 4 [2]], body :=
   (.sq (.rg none [⟨some 2, none, .bt (.t 0)⟩,
      ⟨some 4, none, .mv (.k (.slice none 0 0)) none⟩])
   (.sq (.rg none [⟨some 7, none, .bs 1 0 [] []⟩,
      ⟨some 5, none, .mv (.t 7) none⟩])
   (.sq (.sq (.rg none [⟨some 6, none, .mv (.k (.int .i64 0)) none⟩])
    (.bl 0 (.lp [1, 2, 5, 6] [224, 992] (.sq (.sq (.rg none [⟨some 8, none, .mv (.t 6) none⟩,
          ⟨some 9, none, .fa 5 (.t 2)⟩,
          ⟨some 10, none, .ld none (.t 9)⟩,
          ⟨some 11, none, .ln (.t 10)⟩,
          ⟨some 12, none, .bi .lss 0 (.t 8) (.t 11)⟩])
       (.cd (.t 12) (.sk)
       (.ex 0)))
      (.sq (.bl 1 (.sq (.rg none [⟨some 15, none, .fa 5 (.t 2)⟩,
           ⟨some 16, none, .ld none (.t 15)⟩,
           ⟨some 17, none, .mv (.t 6) none⟩,
           ⟨some 18, none, .ia 2 (.t 16) (.t 17)⟩,
           ⟨some 19, none, .fa 1 (.t 18)⟩,
           ⟨some 20, none, .ld none (.t 19)⟩,
           ⟨some 21, none, .mv (.t 1) none⟩,
           ⟨some 22, none, .bi .eql 0 (.t 20) (.t 21)⟩])
        (.cd (.t 22) (.rg none [⟨some 23, none, .mv (.t 5) none⟩,
           ⟨some 24, none, .fa 5 (.t 2)⟩,
           ⟨some 25, none, .ld none (.t 24)⟩,
           ⟨some 26, none, .mv (.t 6) none⟩,
           ⟨some 27, none, .ia 2 (.t 25) (.t 26)⟩,
           ⟨some 28, none, .fa 0 (.t 27)⟩,
           ⟨some 29, none, .ld none (.t 28)⟩,
           ⟨some 30, none, .bs 1 1 [.string ⟨#[]⟩] [(0, .t 29)]⟩,
           ⟨some 31, none, .ap 1 0 (.t 23) (.t 30)⟩,
           ⟨some 5, none, .mv (.t 31) none⟩])
        (.sk))))
      (.rg none [⟨some 13, none, .mv (.t 6) none⟩,
        ⟨some 14, none, .bi .add 0 (.t 13) (.k (.int .i64 1))⟩,
        ⟨some 6, none, .mv (.t 14) none⟩]))))))
   (.sq (.rg none [⟨some 32, none, .mv (.t 5) none⟩,
      ⟨some 4, none, .mv (.t 32) none⟩])
   (.rt))))) }
theorem k_spec_l2Ends : chkF Go.Proofs.Tryd.prog fid_spec_l2Ends c_spec_l2Ends = true := by kernel_rfl

def c_impl_isName : F2 :=
  { nt := 11, res := [.t 2 [0]], body :=
   (.sq (.rg none [⟨some 2, none, .mv (.k (.bool false)) none⟩])
   (.sq (.rg none [⟨some 3, none, .mv (.t 0) none⟩,
      ⟨some 4, none, .lg (.t 3)⟩,
      ⟨some 5, none, .ca .pure false (.f fid_impl_within) [.t 4, .k (.int .i64 1), .k (.int .i64 4)]⟩,
      ⟨some 6, none, .mv (.t 5) none⟩,
      ⟨some 7, (some (6, true)), .mv (.t 0) none⟩,
      ⟨some 8, (some (6, true)), .ca .pure false (.f fid_strings_Trim) [.t 7, .k (.string ⟨#[97, 98, 99, 100, 101, 102, 103, 104, 105, 106, 107, 108, 109, 110, 111, 112, 113, 114, 115, 116, 117, 118, 119, 120, 121, 122]⟩)]⟩,
      ⟨some 9, (some (6, true)), .bi .eql 0 (.t 8) (.k (.string ⟨#[]⟩))⟩,
      ⟨some 10, none, .pk (.t 6) (.t 9) (.k (.bool false))⟩,
      ⟨some 2, none, .mv (.t 10) none⟩])
   (.rt))) }
theorem k_impl_isName : chkF Go.Proofs.Tryd.prog fid_impl_isName c_impl_isName = true := by kernel_rfl

def c_impl_IsSignature_1 : F2 :=
  { nt := 9, res := [.t 3 [0]], body :=
   (.sq (.rg none [⟨some 2, none, .bt (.t 0)⟩,
      ⟨some 3, none, .mv (.k (.bool false)) none⟩])
   (.sq (.rg none [⟨some 4, none, .fa 0 (.t 2)⟩,
      ⟨some 5, none, .ld none (.t 4)⟩,
      ⟨some 6, none, .fa 0 (.t 1)⟩,
      ⟨some 7, none, .ld none (.t 6)⟩,
      ⟨some 8, none, .bi .eql 0 (.t 5) (.t 7)⟩,
      ⟨some 3, none, .mv (.t 8) none⟩])
   (.rt))) }
theorem k_impl_IsSignature_1 : chkF Go.Proofs.Tryd.prog fid_impl_IsSignature_1 c_impl_IsSignature_1 = true := by kernel_rfl

def c_impl_Bigraph_pointsOf : F2 :=
  { nt := 62, res := [.t 4 [3], .t 5 [2]], body :=
   (.sq (.rg none [⟨some 2, none, .bt (.t 0)⟩,
      ⟨some 4, none, .mv (.k (.slice none 0 0)) none⟩,
      ⟨some 5, none, .mv (.k (.slice none 0 0)) none⟩])
   (.sq (.rg none [⟨some 14, none, .bs 2 0 [] []⟩,
      ⟨some 15, none, .bs 1 0 [] []⟩,
      ⟨some 6, none, .mv (.t 14) none⟩,
      ⟨some 7, none, .mv (.t 15) none⟩])
   (.sq (.sq (.rg none [⟨some 16, none, .fa 1 (.t 2)⟩,
       ⟨some 17, none, .ld none (.t 16)⟩,
       ⟨some 18, none, .ln (.t 17)⟩,
       ⟨some 19, none, .mv (.k (.int .i64 0)) none⟩])
    (.bl 0 (.lp [1, 2, 6, 7, 17, 18, 19] [448, 480, 1280, 1856] (.sq (.rg none [⟨some 20, none, .bi .lss 0 (.t 19) (.t 18)⟩])
      (.sq (.cd (.t 20) (.sk)
       (.ex 0))
      (.sq (.bl 1 (.sq (.rg none [⟨some 21, none, .mv (.t 19) none⟩,
           ⟨some 22, none, .ia 3 (.t 17) (.t 19)⟩,
           ⟨some 23, none, .ld (some 3) (.t 22)⟩,
           ⟨some 9, none, .al [.int .i64 0, .int .i64 0, .slice none 0 0] []⟩,
           ⟨some 8, none, .mv (.t 21) none⟩,
           ⟨none, none, .st 3 (.t 9) (.t 23)⟩])
        (.sq (.rg none [⟨some 24, none, .fa 2 (.t 9)⟩,
           ⟨some 25, none, .ld none (.t 24)⟩,
           ⟨some 26, none, .ln (.t 25)⟩,
           ⟨some 27, none, .mv (.k (.int .i64 0)) none⟩])
        (.bl 2 (.lp [1, 2, 6, 7, 8, 17, 18, 19, 25, 26, 27] [288, 448, 480, 1280, 1856] (.sq (.rg none [⟨some 28, none, .bi .lss 0 (.t 27) (.t 26)⟩])
          (.sq (.cd (.t 28) (.sk)
           (.ex 2))
          (.sq (.bl 3 (.sq (.rg none [⟨some 29, none, .mv (.t 27) none⟩,
               ⟨some 30, none, .ia 1 (.t 25) (.t 27)⟩,
               ⟨some 31, none, .ld none (.t 30)⟩,
               ⟨some 10, none, .mv (.t 29) none⟩,
               ⟨some 11, none, .mv (.t 31) none⟩])
            (.sq (.rg none [⟨some 32, none, .mv (.t 11) none⟩,
               ⟨some 33, none, .mv (.t 1) none⟩,
               ⟨some 34, none, .bi .eql 0 (.t 32) (.t 33)⟩])
            (.cd (.t 34) (.rg none [⟨some 35, none, .mv (.t 6) none⟩,
               ⟨some 36, none, .mv (.t 8) none⟩,
               ⟨some 37, none, .mv (.t 10) none⟩,
               ⟨some 38, none, .bd [.int .i64 0, .int .i64 0] [(0, 1, .t 36), (1, 1, .t 37)] []⟩,
               ⟨some 39, none, .bs 2 1 [.int .i64 0, .int .i64 0] [(0, .t 38)]⟩,
               ⟨some 40, none, .ap 2 0 (.t 35) (.t 39)⟩,
               ⟨some 6, none, .mv (.t 40) none⟩])
            (.sk)))))
          (.rg none [⟨some 41, none, .bi .add 0 (.t 27) (.k (.int .i64 1))⟩,
            ⟨some 27, none, .mv (.t 41) none⟩])))))))))
      (.rg none [⟨some 42, none, .bi .add 0 (.t 19) (.k (.int .i64 1))⟩,
        ⟨some 19, none, .mv (.t 42) none⟩])))))))
   (.sq (.sq (.rg none [⟨some 43, none, .fa 5 (.t 2)⟩,
       ⟨some 44, none, .ld none (.t 43)⟩,
       ⟨some 45, none, .ln (.t 44)⟩,
       ⟨some 46, none, .mv (.k (.int .i64 0)) none⟩])
    (.bl 4 (.lp [1, 6, 7, 44, 45, 46] [448, 480, 1280, 1856] (.sq (.rg none [⟨some 47, none, .bi .lss 0 (.t 46) (.t 45)⟩])
      (.sq (.cd (.t 47) (.sk)
       (.ex 4))
      (.sq (.bl 5 (.sq (.rg none [⟨some 48, none, .ia 2 (.t 44) (.t 46)⟩,
           ⟨some 49, none, .ld (some 2) (.t 48)⟩,
           ⟨some 13, none, .al [.string ⟨#[]⟩, .int .i64 0] []⟩,
           ⟨none, none, .st 2 (.t 13) (.t 49)⟩])
        (.sq (.rg none [⟨some 50, none, .fa 1 (.t 13)⟩,
           ⟨some 51, none, .ld none (.t 50)⟩,
           ⟨some 52, none, .mv (.t 1) none⟩,
           ⟨some 53, none, .bi .eql 0 (.t 51) (.t 52)⟩])
        (.cd (.t 53) (.rg none [⟨some 54, none, .mv (.t 7) none⟩,
           ⟨some 55, none, .fa 0 (.t 13)⟩,
           ⟨some 56, none, .ld none (.t 55)⟩,
           ⟨some 57, none, .bs 1 1 [.string ⟨#[]⟩] [(0, .t 56)]⟩,
           ⟨some 58, none, .ap 1 0 (.t 54) (.t 57)⟩,
           ⟨some 7, none, .mv (.t 58) none⟩])
        (.sk)))))
      (.rg none [⟨some 59, none, .bi .add 0 (.t 46) (.k (.int .i64 1))⟩,
        ⟨some 46, none, .mv (.t 59) none⟩])))))))
   (.sq (.rg none [⟨some 60, none, .mv (.t 6) none⟩,
      ⟨some 61, none, .mv (.t 7) none⟩,
      ⟨some 4, none, .mv (.t 60) none⟩,
      ⟨some 5, none, .mv (.t 61) none⟩])
   (.rt)))))) }
theorem k_impl_Bigraph_pointsOf : chkF Go.Proofs.Tryd.prog fid_impl_Bigraph_pointsOf c_impl_Bigraph_pointsOf = true := by kernel_rfl

end Go.Fd

/-
  ANNOTATED CODES OF GO'S GENERIC FUNCTIONS ON SLICES, AT ANY ELEMENT (printed by generic.py out of one instance each). Own work.
-/
namespace Go.Fd
def gIxF (k : Nat) (m : Option Nat) : F2 :=
  { nt := 19, res := [.t 4 [0]], body :=
   (.sq (.rg none [⟨some 4, none, .mv (.k (.int .i64 0)) none⟩])
   (.sq (.sq (.rg none [⟨some 6, none, .mv (.t 0) none⟩,
       ⟨some 7, none, .ln (.t 6)⟩,
       ⟨some 8, none, .mv (.k (.int .i64 0)) none⟩])
    (.bl 0 (.lp [0, 1, 7, 8] [] (.sq (.rg none [⟨some 9, none, .bi .lss 0 (.t 8) (.t 7)⟩])
      (.sq (.cd (.t 9) (.sk)
       (.ex 0))
      (.sq (.bl 1 (.sq (.rg none [⟨some 10, none, .mv (.t 8) none⟩,
           ⟨some 5, none, .mv (.t 10) none⟩])
        (.sq (.rg none [⟨some 11, none, .mv (.t 1) none⟩,
           ⟨some 12, none, .mv (.t 0) none⟩,
           ⟨some 13, none, .mv (.t 5) none⟩,
           ⟨some 14, none, .ia k (.t 12) (.t 13)⟩,
           ⟨some 15, none, .ld m (.t 14)⟩,
           ⟨some 16, none, .ca .pure false (.t 11) [.t 15]⟩])
        (.cd (.t 16) (.sq (.rg none [⟨some 17, none, .mv (.t 5) none⟩,
            ⟨some 4, none, .mv (.t 17) none⟩])
         (.rt))
        (.sk)))))
      (.rg none [⟨some 18, none, .bi .add 0 (.t 8) (.k (.int .i64 1))⟩,
        ⟨some 8, none, .mv (.t 18) none⟩])))))))
   (.sq (.rg none [⟨some 4, none, .mv (.k (.int .i64 (-1))) none⟩])
   (.rt)))) }
def gCoF (fi : FuncId) : F2 :=
  { nt := 9, res := [.t 4 [0]], body :=
   (.sq (.rg none [⟨some 4, none, .mv (.k (.bool false)) none⟩])
   (.sq (.rg none [⟨some 5, none, .mv (.t 0) none⟩,
      ⟨some 6, none, .mv (.t 1) none⟩,
      ⟨some 7, none, .ca .pure false (.f fi) [.t 5, .t 6]⟩,
      ⟨some 8, none, .bi .geq 0 (.t 7) (.k (.int .i64 0))⟩,
      ⟨some 4, none, .mv (.t 8) none⟩])
   (.rt))) }
def gEq1  : F2 :=
  { nt := 26, res := [.t 4 [0]], body :=
   (.sq (.rg none [⟨some 4, none, .mv (.k (.bool false)) none⟩])
   (.sq (.sq (.rg none [⟨some 6, none, .mv (.t 0) none⟩,
       ⟨some 7, none, .ln (.t 6)⟩,
       ⟨some 8, none, .mv (.t 1) none⟩,
       ⟨some 9, none, .ln (.t 8)⟩,
       ⟨some 10, none, .bi .neq 0 (.t 7) (.t 9)⟩])
    (.cd (.t 10) (.sq (.rg none [⟨some 4, none, .mv (.k (.bool false)) none⟩])
     (.rt))
    (.sk)))
   (.sq (.sq (.rg none [⟨some 11, none, .mv (.t 0) none⟩,
       ⟨some 12, none, .ln (.t 11)⟩,
       ⟨some 13, none, .mv (.k (.int .i64 0)) none⟩])
    (.bl 0 (.lp [0, 1, 12, 13] [] (.sq (.rg none [⟨some 14, none, .bi .lss 0 (.t 13) (.t 12)⟩])
      (.sq (.cd (.t 14) (.sk)
       (.ex 0))
      (.sq (.bl 1 (.sq (.rg none [⟨some 15, none, .mv (.t 13) none⟩,
           ⟨some 5, none, .mv (.t 15) none⟩])
        (.sq (.rg (some 0) [⟨some 16, none, .mv (.t 0) none⟩,
           ⟨some 17, none, .mv (.t 5) none⟩,
           ⟨some 18, none, .ia 1 (.t 16) (.t 17)⟩,
           ⟨some 19, none, .ld none (.t 18)⟩,
           ⟨some 20, none, .mv (.t 1) none⟩,
           ⟨some 21, none, .mv (.t 5) none⟩,
           ⟨some 22, none, .ia 1 (.t 20) (.t 21)⟩,
           ⟨some 23, none, .ld none (.t 22)⟩,
           ⟨some 24, none, .bi .neq 0 (.t 19) (.t 23)⟩])
        (.cd (.t 24) (.sq (.rg none [⟨some 4, none, .mv (.k (.bool false)) none⟩])
         (.rt))
        (.sk)))))
      (.rg none [⟨some 25, none, .bi .add 0 (.t 13) (.k (.int .i64 1))⟩,
        ⟨some 13, none, .mv (.t 25) none⟩])))))))
   (.sq (.rg none [⟨some 4, none, .mv (.k (.bool true)) none⟩])
   (.rt))))) }
end Go.Fd

/-
  GO'S GENERIC FUNCTIONS ON SLICES, AT ANY ELEMENT. Own work.
-/
namespace Go.Fd
set_option maxRecDepth 20000

section rules
variable {L : Sto} {F : List IV → Prop} {lvl : Nat}
theorem r_snta : ∀ {l : List (List Tr)} {F : List IV → Prop}, snaps L (l.map IV.ta) F = F (l.map IV.ta)
  | [], F => r_sn0
  | x :: r, F => by
    simp only [List.map_cons]
    rw [r_sn5, r_snta]
    rfl
theorem r_mensta {Pd : Oid → Prop} : ∀ {l : List (List Tr)}, mens Pd (l.map IV.ta) = True
  | [] => rfl
  | x :: r => by
    simp only [List.map_cons, mens, men, true_and]
    exact r_mensta
theorem r_okmsta {js : List Nat} {l : List (List Tr)} : okms lvl js (l.map IV.ta) = True := r_mensta
end rules

section
variable {P : Program} {α : Type}
theorem getA {α β : Type} {c : α → β} {l : List α} {j : Nat} (h : j < l.length) : (l.map c)[j]? = some (c l[j]) := by simp [h]
theorem cut_take0 {α : Type} {c : α → List Tr} {l : List α} {j : Nat} : cut (l.map c) 0 (j - 0) = (l.take j).map c := by
  simp only [cut, List.drop_zero, Nat.sub_zero, List.map_take]
theorem drop_cons {α : Type} {l : List α} {j : Nat} (h : j < l.length) : l.drop j = l[j] :: l.drop (j + 1) := List.drop_eq_getElem_cons h

/-- The first place that answers true, -1 for none. -/
def ixF (f : α → Bool) : List α → Int → Int
  | [], _ => -1
  | x :: r, j => if f x = true then j else ixF f r (j + 1)
theorem ixF_cons {f : α → Bool} {x : α} {r : List α} {j : Int} : ixF f (x :: r) j = if f x = true then j else ixF f r (j + 1) := rfl
theorem ixF_any {f : α → Bool} : ∀ {l : List α} {j : Int}, 0 ≤ j → (0 ≤ ixF f l j ↔ l.any f = true)
  | [], j, _ => by simp [ixF]
  | x :: r, j, h => by
    rw [ixF_cons, List.any_cons]
    cases hx : f x with
    | true => simp [h]
    | false =>
      simp only [Bool.false_eq_true, if_false, Bool.false_or]
      exact ixF_any (by omega)

theorem sem_ixF1 {fid : FuncId} (hc : chkF P fid (gIxF 1 none) = true) {t : α → Tr} {f : α → Bool} {fe : FuncId} {cs : List (List Tr)} (l : List α) (hl : l.length ≤ 9223372036854775807)
    (hf : ∀ x ∈ l, ∀ lvl S, Sem P fe lvl (.tr (t x) :: cs.map IV.ta) S (iB (f x)) S) (lvl : Nat) (S : Sto) : Sem P fid lvl [.tr (.sl (l.map fun x => [t x])), .fn fe (cs.map IV.ta)] S (iI (ixF f l 0)) S := by
  refine sem_of_chk hc trivial ?_
  simp only [gIxF, List.length_map, r_cons, r_nil, r_kont, r_seq1, r_rg, r_sq, r_bl, r_wpF, r_op1, r_go1, r_mv, r_ln, r_ln1, ptd, lk, pt, xv, kv, kc, params, ↓reduceIte, Nat.reduceEqDiff, reduceCtorEq, List.length_cons, List.length_nil, Nat.reduceAdd, Nat.reduceLeDiff, Nat.reduceLT, true_and, Nat.zero_add, List.length_map]
  refine wp_cnt (α := Unit) l.length (fun j _ => [(8, iI j)]) (fun _ _ => []) (fun j _ => ixF f (l.drop j) j = ixF f l 0) () (by simp only [r_okmsta, r_clean, r_okm4, r_okm8, r_okE0, r_okE1, r_okL0, ↓reduceIte, Nat.reduceEqDiff, reduceCtorEq, memB, keepB, keepOB, Bool.false_eq_true, and_self]) (by (simp only [r_fgt, r_chg, r_pts0, r_pts1, r_ptOs0, pt, ↓reduceIte, Nat.reduceEqDiff, reduceCtorEq, Nat.reduceLT, memB, keepB, keepOB, Bool.false_eq_true, Int.cast_ofNat_Int]) <;> rfl) rfl ?_
  intro j _ hj hA
  simp only [r_cons, r_nil, r_kont, r_seq1, r_seq2, r_blk2, r_fn2, r_sk, r_rg, r_sq, r_bl, r_ex, r_rt, r_cd, r_cd2, r_op1, r_go1, r_mv, r_bi, r_lti, r_ixn, r_ia, r_ia1, r_fin, r_kfe1, r_kcx, r_exps0, r_exps1, r_kex, r_exp1, r_expv2, r_fgt, r_round2, r_chg, r_pts0, r_pts1, r_ptOs0, ptd, lk, pt, xv, kv, kc, ↓reduceIte, Nat.reduceEqDiff, reduceCtorEq, Nat.reduceLT, true_and, and_true, decide_eq_true_eq, memB, keepB, keepOB, Bool.false_eq_true, Int.toNat_natCast, Int.natCast_nonneg]
  refine ite_of (fun hlt => ?_) (fun hge => ?_)
  · have hja : j < l.length := by omega
    have ga := getA (c := fun x => [t x]) hja
    rw [drop_cons hja, ixF_cons] at hA
    simp only [ga, r_snta, r_mensta, r_cons, r_kont, r_op1, r_go1, r_op3, r_iae, r_ltr, r_ld, r_ld1, r_kcn, r_sn1, r_ca, r_ca1, ptd, lk, pt, xv, ↓reduceIte, Nat.reduceEqDiff, reduceCtorEq, List.length_cons, List.length_nil, Nat.reduceLT, true_and, List.map_cons, List.map_nil, List.cons_append, List.nil_append, List.getElem?_cons_zero, mens, men, Nat.zero_add, and_self]
    refine kca_intro (hf _ (List.getElem_mem hja)) ?_
    simp only [r_mensta, r_cons, r_nil, r_kont, r_seq1, r_seq3, r_blk1, r_blk3, r_fn2, r_sk, r_rg, r_sq, r_rt, r_cd, r_cd2, r_op1, r_go1, r_mv, r_bi, r_add0, r_fin, r_kfe1, r_kcx, r_exps0, r_exps1, r_kex, r_exp1, r_expv2, r_fgt, r_clean, r_okm4, r_okm8, r_okE0, r_okE1, r_okL0, r_round1, r_round3, r_lt1, ptd, keyOf, freshK, lk, pt, addO, xv, kv, kc, ↓reduceIte, Nat.reduceEqDiff, Nat.reduceMul, reduceCtorEq, List.length_nil, Nat.reduceLT, true_and, and_true, noSh, isSc, impv, memB, keepB, keepOB, or_true, Bool.false_eq_true, and_self]
    refine ite_of (fun h => ?_) (fun h => ?_)
    · rw [if_pos h] at hA
      rw [← hA]
    · rw [if_neg h] at hA
      exact ⟨by rw [fits_i64]; omega, cntJ_intro () hja rfl hA⟩
  · have : j = l.length := by omega
    subst this
    rw [List.drop_length] at hA
    rw [← hA]
    rfl
theorem sem_ixFk {k : Nat} {fid : FuncId} (hc : chkF P fid (gIxF k (some k)) = true) {c : α → List Tr} (hk : ∀ x, (c x).length = k) {f : α → Bool} {fe : FuncId} {cs : List (List Tr)} (l : List α) (hl : l.length ≤ 9223372036854775807)
    (hf : ∀ x ∈ l, ∀ lvl S, Sem P fe lvl (.ag ((c x).map .tr) :: cs.map IV.ta) S (iB (f x)) S) (lvl : Nat) (S : Sto) : Sem P fid lvl [.tr (.sl (l.map c)), .fn fe (cs.map IV.ta)] S (iI (ixF f l 0)) S := by
  refine sem_of_chk hc trivial ?_
  simp only [gIxF, List.length_map, r_cons, r_nil, r_kont, r_seq1, r_rg, r_sq, r_bl, r_wpF, r_op1, r_go1, r_mv, r_ln, r_ln1, ptd, lk, pt, xv, kv, kc, params, ↓reduceIte, Nat.reduceEqDiff, reduceCtorEq, List.length_cons, List.length_nil, Nat.reduceAdd, Nat.reduceLeDiff, Nat.reduceLT, true_and, Nat.zero_add, List.length_map]
  refine wp_cnt (α := Unit) l.length (fun j _ => [(8, iI j)]) (fun _ _ => []) (fun j _ => ixF f (l.drop j) j = ixF f l 0) () (by simp only [r_okmsta, r_clean, r_okm4, r_okm8, r_okE0, r_okE1, r_okL0, ↓reduceIte, Nat.reduceEqDiff, reduceCtorEq, memB, keepB, keepOB, Bool.false_eq_true, and_self]) (by (simp only [r_fgt, r_chg, r_pts0, r_pts1, r_ptOs0, pt, ↓reduceIte, Nat.reduceEqDiff, reduceCtorEq, Nat.reduceLT, memB, keepB, keepOB, Bool.false_eq_true, Int.cast_ofNat_Int]) <;> rfl) rfl ?_
  intro j _ hj hA
  simp only [r_cons, r_nil, r_kont, r_seq1, r_seq2, r_blk2, r_fn2, r_sk, r_rg, r_sq, r_bl, r_ex, r_rt, r_cd, r_cd2, r_op1, r_go1, r_mv, r_bi, r_lti, r_ixn, r_ia, r_ia1, r_fin, r_kfe1, r_kcx, r_exps0, r_exps1, r_kex, r_exp1, r_expv2, r_fgt, r_round2, r_chg, r_pts0, r_pts1, r_ptOs0, ptd, lk, pt, xv, kv, kc, ↓reduceIte, Nat.reduceEqDiff, reduceCtorEq, Nat.reduceLT, true_and, and_true, decide_eq_true_eq, memB, keepB, keepOB, Bool.false_eq_true, Int.toNat_natCast, Int.natCast_nonneg]
  refine ite_of (fun hlt => ?_) (fun hge => ?_)
  · have hja : j < l.length := by omega
    have ga := getA (c := c) hja
    have hkk := hk l[j]
    have htk : (c l[j]).take k = c l[j] := List.take_of_length_le (by omega)
    rw [drop_cons hja, ixF_cons] at hA
    simp only [ga, hkk, htk, r_snta, r_snm, r_mensta, r_mensm, r_cons, r_kont, r_op1, r_go1, r_op3, r_iae, r_ld, r_ld4, r_kcn, r_kagn, r_sn3, r_ca, r_ca1, r_snm, r_mensm, ptd, lk, pt, xv, ↓reduceIte, Nat.reduceEqDiff, reduceCtorEq, Nat.reduceLT, true_and, List.map_cons, List.map_nil, List.cons_append, List.nil_append, mens, men, Nat.le_refl, and_self]
    refine kca_intro (hf _ (List.getElem_mem hja)) ?_
    simp only [r_mensta, r_cons, r_nil, r_kont, r_seq1, r_seq3, r_blk1, r_blk3, r_fn2, r_sk, r_rg, r_sq, r_rt, r_cd, r_cd2, r_op1, r_go1, r_mv, r_bi, r_add0, r_fin, r_kfe1, r_kcx, r_exps0, r_exps1, r_kex, r_exp1, r_expv2, r_fgt, r_clean, r_okm4, r_okm8, r_okE0, r_okE1, r_okL0, r_round1, r_round3, r_lt1, ptd, keyOf, freshK, lk, pt, addO, xv, kv, kc, ↓reduceIte, Nat.reduceEqDiff, Nat.reduceMul, reduceCtorEq, List.length_nil, Nat.reduceLT, true_and, and_true, noSh, isSc, impv, memB, keepB, keepOB, or_true, Bool.false_eq_true, and_self]
    refine ite_of (fun h => ?_) (fun h => ?_)
    · rw [if_pos h] at hA
      rw [← hA]
    · rw [if_neg h] at hA
      exact ⟨by rw [fits_i64]; omega, cntJ_intro () hja rfl hA⟩
  · have : j = l.length := by omega
    subst this
    rw [List.drop_length] at hA
    rw [← hA]
    rfl
theorem sem_coF {fid fi : FuncId} (hc : chkF P fid (gCoF fi) = true) {es : Row} {f : α → Bool} {fe : FuncId} {cs : List (List Tr)} {l : List α}
    (hi : ∀ lvl S, Sem P fi lvl [.tr (.sl es), .fn fe (cs.map IV.ta)] S (iI (ixF f l 0)) S) (lvl : Nat) (S : Sto) : Sem P fid lvl [.tr (.sl es), .fn fe (cs.map IV.ta)] S (iB (l.any f)) S := by
  refine sem_of_chk hc trivial ?_
  simp only [gCoF, r_snta, r_mensta, r_cons, r_nil, r_kont, r_seq1, r_rg, r_sq, r_wpF, r_op1, r_mv, r_kcn, r_kfnn, r_sn0, r_sn1, r_sn4, r_ca, r_ca1, ptd, lk, pt, xv, kv, kc, params, ↓reduceIte, Nat.reduceEqDiff, reduceCtorEq, List.length_cons, List.length_nil, Nat.reduceAdd, Nat.reduceLeDiff, Nat.reduceLT, true_and, List.map_cons, List.map_nil, List.cons_append, List.nil_append, mens, men, Nat.zero_add, and_self]
  refine kca_intro hi ?_
  simp only [r_cons, r_nil, r_kont, r_seq1, r_fn2, r_rt, r_op1, r_go1, r_mv, r_bi, r_gei, r_fin, r_kfe1, r_kcx, r_exps0, r_exps1, r_kex, r_exp1, r_expv2, ptd, keyOf, freshK, lk, pt, addO, xv, kv, kc, ↓reduceIte, Nat.reduceEqDiff, Nat.reduceMul, reduceCtorEq, List.length_nil, Nat.reduceLT, true_and, and_true, noSh, isSc, impv, or_true]
  have := ixF_any (f := f) (l := l) (Int.le_refl 0)
  by_cases h : l.any f = true
  · simp [h, this.2 h]
  · simp [h, mt this.1 h]
theorem sem_coF1 {fid fi : FuncId} (hc : chkF P fid (gCoF fi) = true) (hi : chkF P fi (gIxF 1 none) = true) {t : α → Tr} {f : α → Bool} {fe : FuncId} {cs : List (List Tr)} (l : List α) (hl : l.length ≤ 9223372036854775807)
    (hf : ∀ x ∈ l, ∀ lvl S, Sem P fe lvl (.tr (t x) :: cs.map IV.ta) S (iB (f x)) S) (lvl : Nat) (S : Sto) : Sem P fid lvl [.tr (.sl (l.map fun x => [t x])), .fn fe (cs.map IV.ta)] S (iB (l.any f)) S :=
  sem_coF hc (sem_ixF1 hi l hl hf) lvl S
theorem sem_coFk {k : Nat} {fid fi : FuncId} (hc : chkF P fid (gCoF fi) = true) (hi : chkF P fi (gIxF k (some k)) = true) {c : α → List Tr} (hk : ∀ x, (c x).length = k) {f : α → Bool} {fe : FuncId} {cs : List (List Tr)} (l : List α) (hl : l.length ≤ 9223372036854775807)
    (hf : ∀ x ∈ l, ∀ lvl S, Sem P fe lvl (.ag ((c x).map .tr) :: cs.map IV.ta) S (iB (f x)) S) (lvl : Nat) (S : Sto) : Sem P fid lvl [.tr (.sl (l.map c)), .fn fe (cs.map IV.ta)] S (iB (l.any f)) S :=
  sem_coF hc (sem_ixFk hi hk l hl hf) lvl S

/-! ## equal slices -/
/-- What the machine compares: numbers and strings. -/
structure Cmp (t : α → Tr) : Prop where
  neq : ∀ (x y : α) (F : IV → Prop), bi2 .neq 0 (.tr (t x)) (.tr (t y)) F = F (iB (!(@decide (x = y) (Classical.propDecidable _))))
  eql : ∀ (x y : α) (F : IV → Prop), bi2 .eql 0 (.tr (t x)) (.tr (t y)) F = F (iB (@decide (x = y) (Classical.propDecidable _)))
theorem cmpTS : Cmp ts := ⟨fun x y F => by rw [r_nes]; congr 2; by_cases h : x = y <;> simp [h], fun x y F => by rw [r_eqs]; congr 2; by_cases h : x = y <;> simp [h]⟩
theorem sem_eq1 {fid : FuncId} (hc : chkF P fid gEq1 = true) [DecidableEq α] {t : α → Tr} (hT : Cmp t) (a b : List α) (ha : a.length ≤ 9223372036854775807) (lvl : Nat) (S : Sto) : Sem P fid lvl [.tr (.sl (a.map fun x => [t x])), .tr (.sl (b.map fun x => [t x]))] S (iB (decide (a = b))) S := by
  refine sem_of_chk hc trivial ?_
  simp only [gEq1, List.length_map, r_cons, r_nil, r_kont, r_seq1, r_seq3, r_fn2, r_sk, r_rg, r_sq, r_bl, r_rt, r_cd, r_cd2, r_wpF, r_op1, r_go1, r_mv, r_bi, r_nei, r_ln, r_ln1, r_fin, r_kfe1, r_kcx, r_exps0, r_exps1, r_kex, r_exp1, r_expv2, ptd, lk, pt, xv, kv, kc, params, ↓reduceIte, Nat.reduceEqDiff, reduceCtorEq, List.length_cons, List.length_nil, Nat.reduceAdd, Nat.reduceLeDiff, Nat.reduceLT, true_and, and_true, decide_eq_true_eq, Nat.zero_add, ne_eq, List.length_map]
  refine ite_of (fun h => ?_) (fun h => ?_)
  · have : ¬ a = b := fun e => h (by rw [e])
    simp [this]
  have hlen : a.length = b.length := by omega
  refine wp_cnt (α := Unit) a.length (fun j _ => [(13, iI j)]) (fun _ _ => []) (fun j _ => a.take j = b.take j) () (by simp only [r_clean, r_okm4, r_okE0, r_okE1, r_okL0, ↓reduceIte, Nat.reduceEqDiff, reduceCtorEq, memB, keepB, keepOB, Bool.false_eq_true, and_self]) (by (simp only [r_fgt, r_chg, r_pts0, r_pts1, r_ptOs0, pt, ↓reduceIte, Nat.reduceEqDiff, reduceCtorEq, Nat.reduceLT, memB, keepB, keepOB, Bool.false_eq_true, Int.cast_ofNat_Int]) <;> rfl) rfl ?_
  intro j _ hj hA
  simp only [r_cons, r_nil, r_kont, r_seq1, r_seq2, r_blk2, r_fn2, r_sk, r_rg, r_sq, r_bl, r_ex, r_rt, r_cd, r_cd2, r_op1, r_go1, r_mv, r_bi, r_lti, r_ixn, r_ia, r_ia1, r_fin, r_kfe1, r_kcx, r_exps0, r_exps1, r_kex, r_exp1, r_expv2, r_fgt, r_round2, r_chg, r_pts0, r_pts1, r_ptOs0, ptd, lk, pt, xv, kv, kc, ↓reduceIte, Nat.reduceEqDiff, reduceCtorEq, Nat.reduceLT, true_and, and_true, decide_eq_true_eq, memB, keepB, keepOB, Bool.false_eq_true, Int.toNat_natCast, Int.natCast_nonneg]
  refine ite_of (fun hlt => ?_) (fun hge => ?_)
  · have hja : j < a.length := by omega
    have hjb : j < b.length := by omega
    have ga := getA (c := fun x => [t x]) hja
    have gb := getA (c := fun x => [t x]) hjb
    have hq := hT.neq a[j] b[j]
    simp only [ga, gb, hq, r_cons, r_nil, r_kont, r_seq1, r_seq3, r_blk1, r_blk3, r_fn2, r_sk, r_rg, r_sq, r_rt, r_cd, r_cd2, r_op1, r_go1, r_mv, r_bi, r_add0, r_op3, r_ixn, r_ia, r_iae, r_ia1, r_ltr, r_ld, r_ld1, r_fin, r_kfe1, r_kcx, r_exps0, r_exps1, r_kex, r_exp1, r_expv2, r_fgt, r_clean, r_okm4, r_okE0, r_okE1, r_okL0, r_round1, r_round3, r_lt1, ptd, lk, pt, xv, kv, kc, ↓reduceIte, Nat.reduceEqDiff, reduceCtorEq, List.length_cons, List.length_nil, Nat.reduceLT, true_and, and_true, List.getElem?_cons_zero, memB, keepB, keepOB, Bool.false_eq_true, Int.toNat_natCast, Nat.zero_add, Bool.not_eq_true', Int.natCast_nonneg, and_self]
    refine ite_of (fun hne => ?_) (fun he => ?_)
    · have : ¬ a = b := list_ne_at hja hjb (by simpa using hne)
      simp [this]
    · exact ⟨by rw [fits_i64]; omega, cntJ_intro () hja rfl (take_succ_eq hja hjb hA (by simpa using he))⟩
  · have : j = a.length := by omega
    subst this
    have : a = b := list_eq_all hlen hA
    simp [this]

/-! ## the place of an element -/
end
end Go.Fd

/-
  WHAT HOLDS OF THE PROGRAM'S AND THE REFERENCE'S SMALL FUNCTIONS ON NUMBERS. Own work.
-/
namespace Go.Fd
set_option maxRecDepth 20000

/-- A statement as a bool. -/
noncomputable def dc (p : Prop) : Bool := @decide p (Classical.propDecidable p)
theorem dc_iff {p : Prop} : dc p = true ↔ p := by unfold dc; simp
theorem dc_true {p : Prop} (h : p) : dc p = true := dc_iff.2 h
theorem dc_false {p : Prop} (h : ¬ p) : dc p = false := by
  cases hh : dc p with
  | false => rfl
  | true => exact absurd (dc_iff.1 hh) h
theorem dc_not {p : Prop} : dc p = false ↔ ¬ p := ⟨fun h hp => (by rw [dc_true hp] at h; cases h), dc_false⟩
theorem dc_congr {p q : Prop} (h : p ↔ q) : dc p = dc q := by rw [propext h]
theorem dc_decide {p : Prop} [Decidable p] : dc p = decide p := by
  by_cases h : p
  · rw [dc_true h]; simp [h]
  · rw [dc_false h]; simp [h]

abbrev g0 (l : List Int) (i : Nat) : Int := l.getD i 0
abbrev A3 := Int × Int × Int
abbrev g3 (l : List A3) (i : Nat) : A3 := l.getD i (0, 0, 0)
theorem rI_get {l : List Int} {i : Nat} (h : i < l.length) : (rI l)[i]? = some [tv (g0 l i)] := by simp [h]
def inB (n a b : Int) : Bool := decide (a ≤ n) && decide (n ≤ b)
theorem inB_iff {n a b : Int} : inB n a b = true ↔ a ≤ n ∧ n ≤ b := by simp [inB]
theorem inB_not {n a b : Int} : inB n a b = false ↔ ¬ (a ≤ n ∧ n ≤ b) := by
  rw [← inB_iff]; cases inB n a b <;> simp

theorem sem_l1In (n a b : Int) (lvl : Nat) (S : Sto) : Sem Go.Proofs.Tryd.prog fid_spec_l1In lvl [iI n, iI a, iI b] S (iB (inB n a b)) S := by
  refine sem_of_chk k_spec_l1In trivial ?_
  simp only [c_spec_l1In, r_cons, r_nil, r_kont, r_seq1, r_fn2, r_rg, r_sq, r_rt, r_wpF, r_op1, r_op1g, r_gd, r_go1, r_mv, r_bi, r_lei, r_gei, r_pk, r_pkt, r_pkf, r_fin, r_kfe1, r_kcx, r_exps0, r_exps1, r_kex, r_exp1, r_expv2, ptd, lk, pt, xv, kv, kc, params, ↓reduceIte, Nat.reduceEqDiff, reduceCtorEq, List.length_cons, List.length_nil, Nat.reduceAdd, Nat.reduceLeDiff, Nat.reduceLT, true_and, and_true, decide_eq_true_eq, Bool.false_eq_true, Bool.not_true, Nat.zero_add]
  refine ite_of (fun h => ?_) (fun h => ?_) <;> simp [inB, h]
theorem sem_within (n a b : Int) (lvl : Nat) (S : Sto) : Sem Go.Proofs.Tryd.prog fid_impl_within lvl [iI n, iI a, iI b] S (iB (inB n a b)) S := by
  refine sem_of_chk k_impl_within trivial ?_
  simp only [c_impl_within, r_cons, r_nil, r_kont, r_seq1, r_fn2, r_rg, r_sq, r_rt, r_wpF, r_op1, r_op1g, r_gd, r_go1, r_mv, r_bi, r_lei, r_gei, r_pk, r_pkt, r_pkf, r_fin, r_kfe1, r_kcx, r_exps0, r_exps1, r_kex, r_exp1, r_expv2, ptd, lk, pt, xv, kv, kc, params, ↓reduceIte, Nat.reduceEqDiff, reduceCtorEq, List.length_cons, List.length_nil, Nat.reduceAdd, Nat.reduceLeDiff, Nat.reduceLT, true_and, and_true, decide_eq_true_eq, Bool.false_eq_true, Bool.not_true, Nat.zero_add]
  refine ite_of (fun h => ?_) (fun h => ?_) <;> simp [inB, h]

end Go.Fd

/-
  NUMBERS OF LIBRARY FUNCTIONS IN THIS PROGRAM, as the guide's shelf lays them (printed by lay.py out of the kit's own command).
-/
namespace Go.Proofs
open Go.Shelf
def Tryd.lays160_ren : Go.Shelf.Ren := ⟨fun | 160 => 82 | 232 => 85 | 231 => 84 | 227 => 86 | 234 => 88 | 233 => 87 | 236 => 90 | 235 => 89 | 228 => 91 | 271 => 94 | 151 => 93 | 197 => 92 | 120 => 97 | 152 => 96 | 260 => 95 | 137 => 98 | 119 => 99 | 224 => 100 | 225 => 101 | 217 => 102 | 266 => 103 | n => n, fun | 9 => 9 | 4 => 4 | 3 => 3 | 5 => 5 | 117 => 118 | 116 => 117 | 0 => 0 | 124 => 121 | 21 => 21 | 105 => 123 | 46 => 128 | 119 => 127 | 139 => 131 | 138 => 130 | n => n, fun | 3 => 0 | 4 => 1 | n => n⟩
theorem Tryd.lays160 : Go.Proofs.Lays.n160 Tryd.prog Tryd.lays160_ren := {
    mixed := by kernel_rfl,
    f119 := Tryd.func99.trans (congrArg some (by kernel_rfl)),
    f120 := Tryd.func97.trans (congrArg some (by kernel_rfl)),
    f137 := Tryd.func98.trans (congrArg some (by kernel_rfl)),
    f151 := Tryd.func93.trans (congrArg some (by kernel_rfl)),
    f152 := Tryd.func96.trans (congrArg some (by kernel_rfl)),
    f160 := Tryd.func82.trans (congrArg some (by kernel_rfl)),
    f197 := Tryd.func92.trans (congrArg some (by kernel_rfl)),
    f217 := Tryd.func102.trans (congrArg some (by kernel_rfl)),
    f224 := Tryd.func100.trans (congrArg some (by kernel_rfl)),
    f225 := Tryd.func101.trans (congrArg some (by kernel_rfl)),
    f227 := Tryd.func86.trans (congrArg some (by kernel_rfl)),
    f228 := Tryd.func91.trans (congrArg some (by kernel_rfl)),
    f231 := Tryd.func84.trans (congrArg some (by kernel_rfl)),
    f232 := Tryd.func85.trans (congrArg some (by kernel_rfl)),
    f233 := Tryd.func87.trans (congrArg some (by kernel_rfl)),
    f234 := Tryd.func88.trans (congrArg some (by kernel_rfl)),
    f235 := Tryd.func89.trans (congrArg some (by kernel_rfl)),
    f236 := Tryd.func90.trans (congrArg some (by kernel_rfl)),
    f260 := Tryd.func95.trans (congrArg some (by kernel_rfl)),
    f266 := Tryd.func103.trans (congrArg some (by kernel_rfl)),
    f271 := Tryd.func94.trans (congrArg some (by kernel_rfl)),
    t0 := Tryd.underlying0,
    a0 := Tryd.isAgg0,
    z0 := Tryd.sizeOf0,
    v0 := Tryd.zeroValue0,
    t3 := Tryd.underlying3,
    a3 := Tryd.isAgg3,
    z3 := Tryd.sizeOf3,
    v3 := Tryd.zeroValue3,
    t4 := Tryd.underlying4,
    a4 := Tryd.isAgg4,
    z4 := Tryd.sizeOf4,
    v4 := Tryd.zeroValue4,
    t5 := Tryd.underlying5,
    a5 := Tryd.isAgg5,
    z5 := Tryd.sizeOf5,
    v5 := Tryd.zeroValue5,
    t9 := Tryd.underlying9,
    a9 := Tryd.isAgg9,
    z9 := Tryd.sizeOf9,
    v9 := Tryd.zeroValue9,
    t21 := Tryd.underlying21,
    a21 := Tryd.isAgg21,
    z21 := Tryd.sizeOf21,
    v21 := Tryd.zeroValue21,
    t46 := Tryd.underlying128,
    a46 := Tryd.isAgg128,
    z46 := Tryd.sizeOf128,
    v46 := Tryd.zeroValue128,
    t105 := Tryd.underlying123,
    a105 := Tryd.isAgg123,
    z105 := Tryd.sizeOf123,
    v105 := Tryd.zeroValue123,
    t116 := Tryd.underlying117,
    a116 := Tryd.isAgg117,
    z116 := Tryd.sizeOf117,
    t117 := Tryd.underlying118,
    a117 := Tryd.isAgg118,
    z117 := Tryd.sizeOf118,
    v117 := Tryd.zeroValue118,
    t119 := Tryd.underlying127,
    a119 := Tryd.isAgg127,
    z119 := Tryd.sizeOf127,
    t124 := Tryd.underlying121,
    a124 := Tryd.isAgg121,
    z124 := Tryd.sizeOf121,
    v124 := Tryd.zeroValue121,
    t138 := Tryd.underlying130,
    a138 := Tryd.isAgg130,
    z138 := Tryd.sizeOf130,
    v138 := Tryd.zeroValue130,
    t139 := Tryd.underlying131,
    a139 := Tryd.isAgg131,
    z139 := Tryd.sizeOf131,
    v139 := Tryd.zeroValue131,
    g3 := by kernel_rfl,
    g4 := by kernel_rfl }
end Go.Proofs

/-
  NAMES AND SIGNATURES, BOTH SIDES. Own work.
-/
namespace Go.Fd
set_option maxRecDepth 20000

def callB (P : Program) (f : FuncId) : Bool := match P.funcs[f]? with | some fn => fn.body.isSome && !(fn.name == "runtime.NumGoroutine") | none => false

theorem callB_ok {P : Program} {f : FuncId} (h : callB P f = true) : Callable P f := by
  unfold callB at h
  split at h
  · rename_i fn hf
    simp only [Bool.and_eq_true, Bool.not_eq_true'] at h
    exact ⟨fn, hf, h.1, h.2⟩
  · cases h

abbrev AZ : ByteArray := ⟨#[97, 98, 99, 100, 101, 102, 103, 104, 105, 106, 107, 108, 109, 110, 111, 112, 113, 114, 115, 116, 117, 118, 119, 120, 121, 122]⟩

theorem sem_Trim (s : ByteArray) (hs : s.size ≤ 9223372036854775807) (lvl : Nat) (S : Sto) : Sem Go.Proofs.Tryd.prog fid_strings_Trim lvl [iS s, iS AZ] S (iS ⟨(Lib.trimS s.data.toList AZ.data.toList).toArray⟩) S :=
  sem_of_scal (xs := [.string s, .string AZ]) (callB_ok (by kernel_rfl)) rfl (fun w => Go.Proofs.Any.strings_Trim_laid Go.Proofs.Tryd.lays160 (by kernel_rfl) s AZ w hs (by decide) (Go.Proofs.ascii_of_all (by decide)))

/-- A name: one to four small letters. -/
def isNm (s : ByteArray) : Prop := (∀ b ∈ s.data.toList, 97 ≤ b.toNat ∧ b.toNat ≤ 122) ∧ 1 ≤ s.size ∧ s.size ≤ 4

theorem size_list (s : ByteArray) : s.size = s.data.toList.length := by rw [Array.length_toList]; rfl

theorem az_mem (b : UInt8) : b ∈ AZ.data.toList ↔ 97 ≤ b.toNat ∧ b.toNat ≤ 122 := by
  have : ∀ n : Fin 256, (UInt8.ofNat n.val) ∈ AZ.data.toList ↔ 97 ≤ n.val ∧ n.val ≤ 122 := by decide +kernel
  have h : UInt8.ofNat b.toNat ∈ AZ.data.toList ↔ 97 ≤ b.toNat ∧ b.toNat ≤ 122 := this ⟨b.toNat, b.toNat_lt⟩
  rw [show UInt8.ofNat b.toNat = b from UInt8.ofNat_toNat] at h
  exact h

theorem dw_nil {p : UInt8 → Bool} : ∀ {l : List UInt8}, l.dropWhile p = [] ↔ ∀ b ∈ l, p b = true
  | [] => by simp
  | x :: r => by
    simp only [List.dropWhile_cons, List.mem_cons, forall_eq_or_imp]
    cases h : p x with
    | true => simp [dw_nil (l := r)]
    | false => simp

theorem tw_mem {p : UInt8 → Bool} {b : UInt8} : ∀ {l : List UInt8}, b ∈ l.takeWhile p → p b = true
  | [], h => by simp at h
  | x :: r, h => by
    rw [List.takeWhile_cons] at h
    split at h
    · rename_i hx
      rcases List.mem_cons.1 h with rfl | h
      · exact hx
      · exact tw_mem h
    · cases h

theorem drop_nil {l cs : List UInt8} (h : ∀ b ∈ l, b ∈ cs) : l.dropWhile (cs.contains ·) = [] := by
  rw [dw_nil]
  intro b hb
  simpa using h b hb

theorem trimS_nil {l cs : List UInt8} : Lib.trimS l cs = [] ↔ ∀ b ∈ l, b ∈ cs := by
  unfold Lib.trimS Lib.trimLeftS Lib.trimRightS
  constructor
  · intro h b hb
    rw [dw_nil] at h
    have hrev : ∀ x ∈ (l.reverse.dropWhile (cs.contains ·)), x ∈ cs := fun x hx => by
      have := h x (by simpa using hx)
      simpa using this
    have hsplit : l.reverse = l.reverse.takeWhile (cs.contains ·) ++ l.reverse.dropWhile (cs.contains ·) := (List.takeWhile_append_dropWhile).symm
    have hb2 : b ∈ l.reverse := by simpa using hb
    rw [hsplit] at hb2
    rcases List.mem_append.1 hb2 with h1 | h1
    · have := tw_mem h1
      simpa using this
    · exact hrev b h1
  · intro h
    rw [drop_nil (l := l.reverse) (fun b hb => h b (by simpa using hb))]
    rfl

theorem sem_l2Name (s : ByteArray) (hs : s.size ≤ 9223372036854775807) (lvl : Nat) (S : Sto) : Sem Go.Proofs.Tryd.prog fid_spec_l2Name lvl [iS s] S (iB (dc (isNm s))) S := by
  refine sem_of_chk k_spec_l2Name trivial ?_
  simp only [c_spec_l2Name, r_cons, r_nil, r_kont, r_seq1, r_rg, r_sq, r_bl, r_wpF, r_op1, r_mv, ptd, pt, xv, kv, kc, params, ↓reduceIte, Nat.reduceEqDiff, reduceCtorEq, List.length_cons, List.length_nil, Nat.reduceLeDiff, Nat.reduceLT, true_and, Nat.zero_add]
  refine wp_cnt (α := Unit) s.size (fun j _ => [(3, iI j)]) (fun _ _ => []) (fun j _ => ∀ b ∈ s.data.toList.take j, 97 ≤ b.toNat ∧ b.toNat ≤ 122) () (by simp only [r_clean, r_okm4, r_okE0, r_okE1, r_okL0, ↓reduceIte, Nat.reduceEqDiff, reduceCtorEq, memB, keepB, keepOB, Bool.false_eq_true, and_self]) (by (simp only [r_fgt, r_chg, r_pts0, r_pts1, r_ptOs0, pt, ↓reduceIte, Nat.reduceEqDiff, reduceCtorEq, Nat.reduceLT, memB, keepB, keepOB, Bool.false_eq_true, Int.cast_ofNat_Int]) <;> rfl) (fun b hb => by simp at hb) ?_
  intro j _ hj hA
  simp only [r_cons, r_nil, r_kont, r_seq1, r_seq2, r_blk2, r_sk, r_rg, r_sq, r_bl, r_ex, r_cd, r_cd2, r_op1, r_go1, r_mv, r_bi, r_lti, r_lg, r_lg1, r_ixn, r_ix, r_ix1, r_kcn, r_sn0, r_sn1, r_ca, r_ca1, r_fgt, r_round2, r_chg, r_pts0, r_pts1, r_ptOs0, ptd, lk, pt, xv, kv, kc, ↓reduceIte, Nat.reduceEqDiff, reduceCtorEq, Nat.reduceLT, true_and, decide_eq_true_eq, List.map_cons, List.map_nil, List.cons_append, List.nil_append, mens, men, memB, keepB, keepOB, Bool.false_eq_true, Int.toNat_natCast, Int.natCast_nonneg, and_self]
  refine ite_of (fun hlt => ?_) (fun hge => ?_)
  · have hja : j < s.data.toList.length := by rw [← size_list]; omega
    have ga : s.data.toList[j]? = some (s.data.toList[j]) := List.getElem?_eq_getElem hja
    have hno : ¬ (97 ≤ (s.data.toList[j]).toNat ∧ (s.data.toList[j]).toNat ≤ 122) → ¬ isNm s := fun h hn => h (hn.1 _ (List.getElem_mem hja))
    by_cases h1 : ((s.data.toList[j]).toNat : Int) < 97
    · simp only [ga, h1, r_cons, r_nil, r_kont, r_seq1, r_seq3, r_blk3, r_fn2, r_rg, r_sq, r_rt, r_cd, r_cd2, r_op1, r_op1g, r_gd, r_go1, r_mv, r_bi, r_lti, r_pk, r_pkt, r_op3, r_ixb, r_fin, r_kfe1, r_kcx, r_exps0, r_exps1, r_kex, r_exp1, r_expv2, r_round3, r_lt1, ptd, lk, pt, xv, kv, kc, ↓reduceIte, Nat.reduceEqDiff, reduceCtorEq, Nat.reduceLT, and_true, decide_true, Bool.true_eq_false, Bool.not_false]
      rw [dc_false (hno (by omega))]
    by_cases h2 : (122 : Int) < (s.data.toList[j]).toNat
    · simp only [ga, h1, h2, r_cons, r_nil, r_kont, r_seq1, r_seq3, r_blk3, r_fn2, r_rg, r_sq, r_rt, r_cd, r_cd2, r_op1, r_op1g, r_gd, r_go1, r_mv, r_bi, r_lti, r_gti, r_pk, r_pkf, r_op3, r_ixn, r_ixb, r_ix, r_ix1, r_fin, r_kfe1, r_kcx, r_exps0, r_exps1, r_kex, r_exp1, r_expv2, r_round3, r_lt1, ptd, lk, pt, xv, kv, kc, ↓reduceIte, Nat.reduceEqDiff, reduceCtorEq, Nat.reduceLT, true_and, and_true, decide_true, decide_false, Int.toNat_natCast, Int.natCast_nonneg]
      rw [dc_false (hno (by omega))]
    · simp only [ga, h1, h2, r_cons, r_nil, r_kont, r_seq1, r_blk1, r_sk, r_rg, r_cd, r_cd2, r_op1, r_op1g, r_gd, r_go1, r_mv, r_bi, r_add0, r_lti, r_gti, r_pk, r_pkf, r_op3, r_ixn, r_ixb, r_ix, r_ix1, r_fgt, r_clean, r_okm4, r_okE0, r_okE1, r_okL0, r_round1, r_lt1, ptd, lk, pt, xv, kv, kc, ↓reduceIte, Nat.reduceEqDiff, reduceCtorEq, Nat.reduceLT, true_and, decide_false, memB, keepB, keepOB, Bool.false_eq_true, Int.toNat_natCast, Int.natCast_nonneg, and_self]
      refine ⟨by rw [fits_i64]; omega, cntJ_intro () (by omega) rfl ?_⟩
      intro b hb
      rw [List.take_succ_eq_append_getElem hja] at hb
      rcases List.mem_append.1 hb with h | h
      · exact hA b h
      · have : b = s.data.toList[j] := by simpa using h
        subst this
        omega
  · have : j = s.size := by omega
    subst this
    rw [size_list, List.take_length] at hA
    refine kca_intro (sem_l1In s.size 1 4) ?_
    simp only [r_cons, r_nil, r_kont, r_seq1, r_fn2, r_rt, r_op1, r_mv, r_fin, r_kfe1, r_kcx, r_exps0, r_exps1, r_kex, r_exp1, r_expv2, r_lt1, ptd, keyOf, freshK, lk, pt, addO, xv, ↓reduceIte, Nat.reduceEqDiff, Nat.reduceMul, reduceCtorEq, List.length_nil, Nat.reduceLT, true_and, and_true, noSh, isSc, impv, or_true]
    rw [dc_congr (q := 1 ≤ s.size ∧ s.size ≤ 4) ⟨fun h => h.2, fun h => ⟨hA, h⟩⟩]
    by_cases h : 1 ≤ s.size ∧ s.size ≤ 4
    · rw [dc_true h, inB_iff.2 (by omega)]
    · rw [dc_false h, inB_not.2 (by omega)]

theorem sem_isName (s : ByteArray) (hs : s.size ≤ 9223372036854775807) (lvl : Nat) (S : Sto) : Sem Go.Proofs.Tryd.prog fid_impl_isName lvl [iS s] S (iB (dc (isNm s))) S := by
  refine sem_of_chk k_impl_isName trivial ?_
  simp only [c_impl_isName, r_cons, r_nil, r_kont, r_seq1, r_rg, r_sq, r_wpF, r_op1, r_go1, r_mv, r_lg, r_lg1, r_kcn, r_sn0, r_sn1, r_ca, r_ca1, ptd, lk, pt, xv, kv, kc, params, ↓reduceIte, Nat.reduceEqDiff, reduceCtorEq, List.length_cons, List.length_nil, Nat.reduceLeDiff, Nat.reduceLT, true_and, List.map_cons, List.map_nil, List.cons_append, List.nil_append, mens, men, Nat.zero_add, and_self]
  refine kca_intro (sem_within s.size 1 4) ?_
  simp only [r_cons, r_nil, r_kont, r_seq1, r_fn2, r_rt, r_op1, r_op1g, r_gd, r_go1, r_mv, r_pk, r_pkf, r_kcn, r_sn0, r_sn1, r_ca, r_ca1, r_fin, r_kfe1, r_kcx, r_exps0, r_exps1, r_kex, r_exp1, r_expv2, ptd, keyOf, freshK, lk, pt, addO, xv, kv, kc, ↓reduceIte, Nat.reduceEqDiff, Nat.reduceMul, reduceCtorEq, List.length_nil, Nat.reduceLT, true_and, and_true, List.map_cons, List.map_nil, List.cons_append, List.nil_append, mens, men, noSh, isSc, impv, or_true, Bool.false_eq_true, Bool.not_true, and_self]
  cases hin : inB (s.size : Int) 1 4 with
  | false =>
    have : ¬ isNm s := fun h => (inB_not.1 hin) (by have := h.2; omega)
    rw [dc_false this]
    simp only [↓reduceIte, Bool.false_eq_true]
  | true =>
    have hin' := inB_iff.1 hin
    simp only [↓reduceIte]
    refine kca_intro (sem_Trim s hs) ?_
    simp only [r_cons, r_nil, r_kont, r_seq1, r_fn2, r_rt, r_op1, r_op1g, r_gd, r_go1, r_mv, r_bi, r_eqs, r_pk, r_pkt, r_fin, r_kfe1, r_kcx, r_exps0, r_exps1, r_kex, r_exp1, r_expv2, ptd, keyOf, freshK, lk, pt, addO, xv, kv, kc, ↓reduceIte, Nat.reduceEqDiff, Nat.reduceMul, reduceCtorEq, List.length_nil, Nat.reduceLT, true_and, and_true, noSh, isSc, impv, or_true]
    by_cases h : isNm s
    · have : Lib.trimS s.data.toList AZ.data.toList = [] := trimS_nil.2 (fun b hb => (az_mem b).2 (h.1 b hb))
      rw [dc_true h, this]
      rfl
    · have : ¬ Lib.trimS s.data.toList AZ.data.toList = [] := fun e => h ⟨fun b hb => (az_mem b).1 (trimS_nil.1 e b hb), by omega, by omega⟩
      rw [dc_false h]
      have h2 : ¬ (⟨(Lib.trimS s.data.toList AZ.data.toList).toArray⟩ : ByteArray) = ⟨#[]⟩ := fun e => this (by
        have := congrArg (fun b : ByteArray => b.data.toList) e
        simpa using this)
      simp [h2]

/-- A signature: each control has a name, few ports and a kind; no two have one name. -/
def ctlOK (c : TControl) : Prop := isNm c.name ∧ (0 ≤ c.ports ∧ c.ports ≤ 3) ∧ 0 ≤ c.kind_ ∧ c.kind_ ≤ 2

def sigAt (sig : List TControl) (i : Nat) : Prop := ∀ h : i < sig.length, ctlOK sig[i] ∧ ∀ k (hk : k < i), (sig[k]'(by omega)).name ≠ sig[i].name

def sigOK (sig : List TControl) : Prop := (∀ i, sigAt sig i) ∧ 1 ≤ sig.length ∧ sig.length ≤ 6

theorem sem_IsSignature_1 (c d : TControl) (lvl : Nat) (S : Sto) : Sem Go.Proofs.Tryd.prog fid_impl_IsSignature_1 lvl [.ag ((cControl d).map .tr), .ta (cControl c)] S (iB (decide (d.name = c.name))) S := by
  refine sem_of_chk k_impl_IsSignature_1 trivial ?_
  simp only [c_impl_IsSignature_1, cControl, r_cons, r_nil, r_kont, r_seq1, r_fn2, r_rg, r_sq, r_rt, r_wpF, r_op1, r_go1, r_mv, r_bt, r_bt1, r_bi, r_eqs, r_op3, r_fa, r_fa1, r_ltr, r_ld, r_ld1, r_fin, r_kfe1, r_kcx, r_exps0, r_exps1, r_kex, r_exp1, r_expv2, ptd, lk, pt, xv, kv, kc, params, ↓reduceIte, Nat.reduceEqDiff, reduceCtorEq, List.length_cons, List.length_nil, Nat.reduceAdd, Nat.reduceLeDiff, Nat.reduceLT, List.map_cons, List.map_nil, List.getElem?_cons_zero, List.drop_zero, List.all_cons, List.all_nil, isCell, Bool.and_self, cellsOf, totr, totrs, tocs, Nat.zero_add, and_self]

theorem g_ixFControl : chkF Go.Proofs.Tryd.prog fid_slices_IndexFunc_impl_Control_impl_Control (gIxF 3 (some 3)) = true := by kernel_rfl

theorem g_coFControl : chkF Go.Proofs.Tryd.prog fid_slices_ContainsFunc_impl_Control_impl_Control (gCoF fid_slices_IndexFunc_impl_Control_impl_Control) = true := by kernel_rfl

theorem sem_l2Sig (sig : List TControl) (hl : sig.length ≤ 9223372036854775807) (hb : ∀ y ∈ sig, bdControl 9223372036854775807 y) (lvl : Nat) (S : Sto) : Sem Go.Proofs.Tryd.prog fid_spec_l2Sig lvl [.tr (.sl (sig.map cControl))] S (iB (dc (sigOK sig))) S := by
  refine sem_of_chk k_spec_l2Sig trivial ?_
  simp only [c_spec_l2Sig, r_cons, r_nil, r_kont, r_seq1, r_rg, r_sq, r_bl, r_wpF, r_op1, r_mv, ptd, pt, xv, kv, kc, params, ↓reduceIte, Nat.reduceEqDiff, reduceCtorEq, List.length_cons, List.length_nil, Nat.reduceLeDiff, Nat.reduceLT, true_and, Nat.zero_add]
  refine wp_cnt (α := Unit) sig.length (fun j _ => [(3, iI j)]) (fun _ _ => []) (fun j _ => ∀ i, i < j → sigAt sig i) () (by simp only [r_clean, r_okm4, r_okE0, r_okE1, r_okL0, ↓reduceIte, Nat.reduceEqDiff, reduceCtorEq, memB, keepB, keepOB, Bool.false_eq_true, and_self]) (by (simp only [r_fgt, r_chg, r_pts0, r_pts1, r_ptOs0, pt, ↓reduceIte, Nat.reduceEqDiff, reduceCtorEq, Nat.reduceLT, memB, keepB, keepOB, Bool.false_eq_true, Int.cast_ofNat_Int]) <;> rfl) (fun i hi => by omega) ?_
  intro j _ hj hA
  simp only [List.length_map, r_cons, r_nil, r_kont, r_seq1, r_seq2, r_blk2, r_sk, r_rg, r_sq, r_bl, r_ex, r_cd, r_cd2, r_op1, r_go1, r_mv, r_bi, r_lti, r_ln, r_ln1, r_ixn, r_ia, r_ia1, r_kcn, r_sn0, r_sn1, r_ca, r_ca1, r_fgt, r_round2, r_chg, r_pts0, r_pts1, r_ptOs0, ptd, lk, pt, xv, kv, kc, ↓reduceIte, Nat.reduceEqDiff, reduceCtorEq, Nat.reduceLT, true_and, decide_eq_true_eq, List.map_cons, List.map_nil, List.cons_append, List.nil_append, mens, men, memB, keepB, keepOB, Bool.false_eq_true, Int.toNat_natCast, Int.natCast_nonneg, List.length_map, and_self]
  refine ite_of (fun hlt => ?_) (fun hge => ?_)
  · have hja : j < sig.length := by omega
    have ga := getA (c := cControl) hja
    have hbj : sig[j].name.size ≤ 9223372036854775807 := hb _ (List.getElem_mem hja)
    have hno : ¬ ctlOK sig[j] → ¬ sigOK sig := fun h hs => h (hs.1 j hja).1
    simp only [ga, cControl, r_cons, r_kont, r_op1, r_go1, r_op3, r_fa, r_fa1, r_iae, r_ltr, r_ld, r_ld1, r_kcn, r_sn0, r_sn1, r_ca, r_ca1, ptd, lk, pt, xv, ↓reduceIte, Nat.reduceEqDiff, reduceCtorEq, List.length_cons, List.length_nil, Nat.reduceAdd, Nat.reduceLT, true_and, List.map_cons, List.map_nil, List.cons_append, List.nil_append, List.getElem?_cons_zero, List.drop_zero, mens, men, Nat.zero_add, and_self]
    refine kca_intro (sem_l2Name sig[j].name hbj) ?_
    simp only [ga, cControl, r_cons, r_nil, r_kont, r_seq1, r_seq3, r_blk3, r_fn2, r_rg, r_sq, r_rt, r_cd, r_cd2, r_op1, r_op1g, r_gd, r_go1, r_mv, r_nt, r_nt1, r_pk, r_pkt, r_op3, r_fa, r_fa1, r_ixn, r_ia, r_iae, r_ia1, r_ltr, r_ld, r_ld1, r_kcn, r_sn0, r_sn1, r_ca, r_ca1, r_fin, r_kfe1, r_kcx, r_exps0, r_exps1, r_kex, r_exp1, r_expv2, r_round3, r_lt1, ptd, keyOf, freshK, lk, pt, addO, xv, kv, kc, ↓reduceIte, Nat.reduceEqDiff, Nat.reduceMul, reduceCtorEq, List.length_cons, List.length_nil, Nat.reduceAdd, Nat.reduceLT, true_and, and_true, List.map_cons, List.map_nil, List.cons_append, List.nil_append, List.getElem?_cons_zero, List.drop_succ_cons, List.drop_zero, mens, men, noSh, isSc, impv, or_true, Bool.true_eq_false, Bool.not_false, Int.toNat_natCast, Nat.zero_add, Bool.not_eq_false', Int.natCast_nonneg, and_self]
    cases hn : dc (isNm sig[j].name) with
    | false =>
      simp only [↓reduceIte, Bool.false_eq_true]
      rw [dc_false (hno fun h => dc_not.1 hn h.1)]
    | true =>
      have hn' := dc_iff.1 hn
      simp only [↓reduceIte, Bool.not_true]
      refine kca_intro (sem_l1In sig[j].ports 0 3) ?_
      simp only [ga, cControl, r_cons, r_nil, r_kont, r_seq1, r_seq3, r_blk3, r_fn2, r_rg, r_sq, r_rt, r_cd, r_cd2, r_op1, r_op1g, r_gd, r_go1, r_mv, r_nt, r_nt1, r_pk, r_pkt, r_pkf, r_op3, r_fa, r_fa1, r_ixn, r_ia, r_iae, r_ia1, r_ltr, r_ld, r_ld1, r_kcn, r_sn0, r_sn1, r_ca, r_ca1, r_fin, r_kfe1, r_kcx, r_exps0, r_exps1, r_kex, r_exp1, r_expv2, r_round3, r_lt1, ptd, keyOf, freshK, lk, pt, addO, xv, kv, kc, ↓reduceIte, Nat.reduceEqDiff, Nat.reduceMul, reduceCtorEq, List.length_cons, List.length_nil, Nat.reduceAdd, Nat.reduceLT, true_and, and_true, List.map_cons, List.map_nil, List.cons_append, List.nil_append, List.getElem?_cons_zero, List.drop_succ_cons, List.drop_zero, mens, men, noSh, isSc, impv, or_true, Bool.true_eq_false, Bool.not_false, Int.toNat_natCast, Nat.zero_add, Bool.not_eq_false', Int.natCast_nonneg, and_self]
      cases hp : inB sig[j].ports 0 3 with
      | false =>
        simp only [↓reduceIte, Bool.false_eq_true]
        rw [dc_false (hno fun h => inB_not.1 hp h.2.1)]
      | true =>
        have hp' := inB_iff.1 hp
        simp only [↓reduceIte, Bool.not_true]
        refine kca_intro (sem_l1In sig[j].kind_ 0 2) ?_
        simp only [r_cons, r_nil, r_kont, r_seq1, r_seq3, r_blk3, r_fn2, r_sk, r_rg, r_sq, r_bl, r_rt, r_cd, r_cd2, r_op1, r_op1g, r_gd, r_go1, r_mv, r_nt, r_nt1, r_pk, r_pkf, r_fin, r_kfe1, r_kcx, r_exps0, r_exps1, r_kex, r_exp1, r_expv2, r_round3, r_lt1, ptd, keyOf, freshK, lk, pt, addO, xv, kv, kc, ↓reduceIte, Nat.reduceEqDiff, Nat.reduceMul, reduceCtorEq, List.length_nil, Nat.reduceLT, true_and, and_true, noSh, isSc, impv, or_true, Bool.not_eq_true']
        cases hk : inB sig[j].kind_ 0 2 with
        | false =>
          simp only [↓reduceIte]
          rw [dc_false (hno fun h => inB_not.1 hk h.2.2)]
        | true =>
          have hk' := inB_iff.1 hk
          simp only [↓reduceIte, Bool.true_eq_false, Bool.not_true]
          refine wp_cnt (α := Unit) j (fun k _ => [(4, iI k)]) (fun _ _ => []) (fun k _ => ∀ i (hi : i < k), k ≤ j → ∀ hi2 : i < sig.length, (sig[i]'hi2).name ≠ sig[j].name) () (by simp only [r_clean, r_okm4, r_okE0, r_okE1, r_okL0, ↓reduceIte, Nat.reduceEqDiff, reduceCtorEq, memB, keepB, keepOB, Bool.false_eq_true, and_self]) (by (simp only [r_fgt, r_chg, r_pts0, r_pts1, r_ptOs0, pt, ↓reduceIte, Nat.reduceEqDiff, reduceCtorEq, Nat.reduceLT, memB, keepB, keepOB, Bool.false_eq_true, Int.cast_ofNat_Int]) <;> rfl) (fun i hi => by omega) ?_
          intro k _ hkj hB
          simp only [r_cons, r_nil, r_kont, r_seq1, r_seq2, r_blk1, r_blk2, r_sk, r_rg, r_sq, r_bl, r_ex, r_cd, r_cd2, r_op1, r_go1, r_mv, r_bi, r_add0, r_lti, r_ixn, r_ia, r_ia1, r_fgt, r_clean, r_okm4, r_okE0, r_okE1, r_okL0, r_round1, r_round2, r_chg, r_pts0, r_pts1, r_ptOs0, ptd, lk, pt, xv, kv, kc, ↓reduceIte, Nat.reduceEqDiff, reduceCtorEq, Nat.reduceLT, true_and, decide_eq_true_eq, memB, keepB, keepOB, Bool.false_eq_true, Int.toNat_natCast, Int.natCast_nonneg, ne_eq, and_self]
          refine ite_of (fun hlt2 => ?_) (fun hge2 => ?_)
          · have hka : k < sig.length := by omega
            have gb := getA (c := cControl) hka
            simp only [ga, gb, cControl, r_cons, r_nil, r_kont, r_seq1, r_seq3, r_blk1, r_blk3, r_fn2, r_sk, r_rg, r_sq, r_rt, r_cd, r_cd2, r_op1, r_go1, r_mv, r_bi, r_add0, r_eqs, r_op3, r_fa, r_fa1, r_ixn, r_ia, r_iae, r_ia1, r_ltr, r_ld, r_ld1, r_fin, r_kfe1, r_kcx, r_exps0, r_exps1, r_kex, r_exp1, r_expv2, r_fgt, r_clean, r_okm4, r_okE0, r_okE1, r_okL0, r_round1, r_round3, r_lt1, ptd, lk, pt, xv, kv, kc, ↓reduceIte, Nat.reduceEqDiff, reduceCtorEq, List.length_cons, List.length_nil, Nat.reduceAdd, Nat.reduceLT, true_and, and_true, decide_eq_true_eq, List.getElem?_cons_zero, List.drop_zero, memB, keepB, keepOB, Bool.false_eq_true, Int.toNat_natCast, Nat.zero_add, Int.natCast_nonneg, and_self]
            refine ite_of (fun he => ?_) (fun hne => ?_)
            · rw [dc_false (fun hs : sigOK sig => (hs.1 j hja).2 k (by omega) he)]
            · refine ⟨by rw [fits_i64]; omega, cntJ_intro () (by omega) rfl (fun i hi _ hi2 => ?_)⟩
              by_cases e : i = k
              · subst e; exact hne
              · exact hB i (by omega) (by omega) hi2
          · have : k = j := by omega
            subst this
            refine ⟨by rw [fits_i64]; omega, cntJ_intro () hja rfl (fun i hi => ?_)⟩
            by_cases e : i = k
            · subst e
              exact fun h => ⟨⟨hn', hp', hk'⟩, fun q hq => hB q hq (Nat.le_refl _) (by omega)⟩
            · exact hA i (by omega)
  · have : j = sig.length := by omega
    subst this
    refine kca_intro (sem_l1In sig.length 1 6) ?_
    simp only [r_cons, r_nil, r_kont, r_seq1, r_fn2, r_rt, r_op1, r_mv, r_fin, r_kfe1, r_kcx, r_exps0, r_exps1, r_kex, r_exp1, r_expv2, r_lt1, ptd, keyOf, freshK, lk, pt, addO, xv, ↓reduceIte, Nat.reduceEqDiff, Nat.reduceMul, reduceCtorEq, List.length_nil, Nat.reduceLT, true_and, and_true, noSh, isSc, impv, or_true]
    have hall : ∀ i, sigAt sig i := fun i h => hA i h h
    rw [dc_congr (q := 1 ≤ sig.length ∧ sig.length ≤ 6) ⟨fun h => h.2, fun h => ⟨hall, h⟩⟩]
    by_cases h : 1 ≤ sig.length ∧ sig.length ≤ 6
    · rw [dc_true h, inB_iff.2 (by omega)]
    · rw [dc_false h, inB_not.2 (by omega)]

theorem sem_impl_IsSignature (sig : List TControl) (hl : sig.length ≤ 9223372036854775807) (hb : ∀ y ∈ sig, bdControl 9223372036854775807 y) (lvl : Nat) (S : Sto) : Sem Go.Proofs.Tryd.prog fid_impl_IsSignature lvl [.tr (.sl (sig.map cControl))] S (iB (dc (sigOK sig))) S := by
  refine sem_of_chk k_impl_IsSignature trivial ?_
  simp only [c_impl_IsSignature, List.length_map, r_cons, r_nil, r_kont, r_seq1, r_rg, r_sq, r_wpF, r_op1, r_go1, r_mv, r_ln, r_ln1, r_kcn, r_sn0, r_sn1, r_ca, r_ca1, ptd, lk, pt, xv, kv, kc, params, ↓reduceIte, Nat.reduceEqDiff, reduceCtorEq, List.length_cons, List.length_nil, Nat.reduceLeDiff, Nat.reduceLT, true_and, List.map_cons, List.map_nil, List.cons_append, List.nil_append, mens, men, Nat.zero_add, List.length_map, and_self]
  refine kca_intro (sem_within sig.length 1 6) ?_
  simp only [List.length_map, r_cons, r_nil, r_kont, r_seq1, r_seq3, r_fn2, r_sk, r_rg, r_sq, r_bl, r_rt, r_cd, r_cd2, r_op1, r_go1, r_mv, r_nt, r_nt1, r_ln, r_ln1, r_fin, r_kfe1, r_kcx, r_exps0, r_exps1, r_kex, r_exp1, r_expv2, ptd, keyOf, freshK, lk, pt, addO, xv, kv, kc, ↓reduceIte, Nat.reduceEqDiff, Nat.reduceMul, reduceCtorEq, List.length_nil, Nat.reduceLT, true_and, and_true, noSh, isSc, impv, or_true, Bool.not_eq_true', List.length_map]
  refine ite_of (fun h => ?_) (fun h => ?_)
  · rw [dc_false (fun hs : sigOK sig => (inB_not.1 h) (by have := hs.2; omega))]
  have hln := inB_iff.1 (by simpa using h)
  refine wp_cnt (α := Unit) sig.length (fun j _ => [(11, iI j)]) (fun _ _ => []) (fun j _ => ∀ i, i < j → sigAt sig i) () (by simp only [r_clean, r_okm4, r_okE0, r_okE1, r_okL0, ↓reduceIte, Nat.reduceEqDiff, reduceCtorEq, memB, keepB, keepOB, Bool.false_eq_true, and_self]) (by (simp only [r_fgt, r_chg, r_pts0, r_pts1, r_ptOs0, pt, ↓reduceIte, Nat.reduceEqDiff, reduceCtorEq, Nat.reduceLT, memB, keepB, keepOB, Bool.false_eq_true, Int.cast_ofNat_Int]) <;> rfl) (fun i hi => by omega) ?_
  intro j _ hj hA
  simp only [r_cons, r_nil, r_kont, r_seq1, r_seq2, r_blk2, r_fn2, r_sk, r_rg, r_sq, r_bl, r_ex, r_rt, r_cd, r_cd2, r_op1, r_go1, r_mv, r_bi, r_lti, r_ixn, r_ia, r_ia1, r_fin, r_kfe1, r_kcx, r_exps0, r_exps1, r_kex, r_exp1, r_expv2, r_fgt, r_round2, r_chg, r_pts0, r_pts1, r_ptOs0, ptd, lk, pt, xv, kv, kc, ↓reduceIte, Nat.reduceEqDiff, reduceCtorEq, Nat.reduceLT, true_and, and_true, decide_eq_true_eq, memB, keepB, keepOB, Bool.false_eq_true, Int.toNat_natCast, Int.natCast_nonneg]
  refine ite_of (fun hlt => ?_) (fun hge => ?_)
  · have hja : j < sig.length := by omega
    have ga := getA (c := cControl) hja
    have hbj : sig[j].name.size ≤ 9223372036854775807 := hb _ (List.getElem_mem hja)
    have hno : ¬ ctlOK sig[j] → ¬ sigOK sig := fun h hs => h (hs.1 j hja).1
    simp only [ga, cControl, r_cons, r_nil, r_kont, r_seq1, r_rg, r_sq, r_op1, r_go1, r_mv, r_al, r_op3, r_fa, r_fa2, r_iae, r_pack, r_setOb, r_lab, r_ld, r_ld2, r_ld4, r_kcn, r_sn0, r_sn1, r_ca, r_ca1, r_st, r_st1, r_stb, r_setAt0, r_setAt1, r_lows0, r_lows1, r_low1, r_lt1, zfill, zobs, ptd, keyOf, freshK, lk, pt, lkO, ptO, addO, xv, kc, ↓reduceIte, Nat.reduceEqDiff, Nat.reduceMul, reduceCtorEq, List.length_cons, List.length_nil, Nat.reduceAdd, Nat.reduceLT, true_and, List.map_cons, List.map_nil, List.cons_append, List.nil_append, List.getElem?_cons_zero, List.take_succ_cons, List.take_zero, mens, men, List.all_cons, List.all_nil, isCell, Bool.and_self, cellsOf, Nat.zero_add, Nat.add_zero, List.set_cons_zero, List.set_cons_succ, Nat.le_refl, and_self]
    refine kca_intro (sem_isName sig[j].name hbj) ?_
    simp only [r_cons, r_nil, r_kont, r_seq1, r_seq3, r_blk3, r_fn2, r_rg, r_sq, r_rt, r_cd, r_cd2, r_op1, r_op1g, r_gd, r_go1, r_mv, r_nt, r_nt1, r_pk, r_pkt, r_op3, r_fa, r_fa2, r_pack, r_lab, r_ld, r_ld2, r_kcn, r_sn0, r_sn1, r_ca, r_ca1, r_fin, r_kfe1, r_kcx, r_exps0, r_exps1, r_kex, r_exp1, r_expv2, r_round3, r_lt1, ptd, keyOf, freshK, lk, pt, lkO, addO, xv, kv, kc, ↓reduceIte, Nat.reduceEqDiff, Nat.reduceMul, reduceCtorEq, List.length_nil, Nat.reduceLT, true_and, and_true, List.map_cons, List.map_nil, List.cons_append, List.nil_append, List.getElem?_cons_zero, List.getElem?_cons_succ, mens, men, noSh, isSc, impv, or_true, Bool.true_eq_false, Bool.not_false, Nat.zero_add, Bool.not_eq_false', and_self]
    cases hn : dc (isNm sig[j].name) with
    | false =>
      simp only [↓reduceIte, Bool.false_eq_true]
      rw [dc_false (hno fun h => dc_not.1 hn h.1)]
    | true =>
      have hn' := dc_iff.1 hn
      simp only [↓reduceIte, Bool.not_true]
      refine kca_intro (sem_within sig[j].ports 0 3) ?_
      simp only [r_cons, r_nil, r_kont, r_seq1, r_seq3, r_blk3, r_fn2, r_rg, r_sq, r_rt, r_cd, r_cd2, r_op1, r_op1g, r_gd, r_go1, r_mv, r_nt, r_nt1, r_pk, r_pkt, r_pkf, r_op3, r_fa, r_fa2, r_pack, r_lab, r_ld, r_ld2, r_kcn, r_sn0, r_sn1, r_ca, r_ca1, r_fin, r_kfe1, r_kcx, r_exps0, r_exps1, r_kex, r_exp1, r_expv2, r_round3, r_lt1, ptd, keyOf, freshK, lk, pt, lkO, addO, xv, kv, kc, ↓reduceIte, Nat.reduceEqDiff, Nat.reduceMul, reduceCtorEq, List.length_nil, Nat.reduceLT, true_and, and_true, List.map_cons, List.map_nil, List.cons_append, List.nil_append, List.getElem?_cons_zero, List.getElem?_cons_succ, mens, men, noSh, isSc, impv, or_true, Bool.true_eq_false, Bool.not_false, Nat.zero_add, Bool.not_eq_false', and_self]
      cases hp : inB sig[j].ports 0 3 with
      | false =>
        simp only [↓reduceIte, Bool.false_eq_true]
        rw [dc_false (hno fun h => inB_not.1 hp h.2.1)]
      | true =>
        have hp' := inB_iff.1 hp
        simp only [↓reduceIte, Bool.not_true]
        refine kca_intro (sem_within sig[j].kind_ 0 2) ?_
        simp only [r_cons, r_nil, r_kont, r_seq1, r_seq3, r_blk3, r_fn2, r_rg, r_sq, r_rt, r_cd, r_cd2, r_op1, r_op1g, r_gd, r_go1, r_mv, r_nt, r_nt1, r_mf, r_mf1, r_pk, r_pkt, r_pkf, r_pack, r_bn0, r_bn1, r_sxt, r_sxt2, r_sxt3, r_sx, r_sx1, r_kcn, r_kfnn, r_sn0, r_sn1, r_sn4, r_ca, r_ca1, r_fin, r_kfe1, r_kcx, r_exps0, r_exps1, r_kex, r_exp1, r_expv2, r_round3, r_kabn, r_sn9, r_kta, r_snb, r_kct, r_ksnc, r_snc0, r_snc1, r_snct, r_lt1, ptd, keyOf, freshK, lk, pt, lkO, addO, xv, kv, kc, ↓reduceIte, Nat.reduceEqDiff, Nat.reduceMul, reduceCtorEq, List.length_nil, Nat.reduceLT, true_and, and_true, Option.map_some, Option.map_none, Option.isSome_none, List.map_cons, List.map_nil, List.cons_append, List.nil_append, List.drop_zero, mens, men, noSh, isSc, impv, or_true, Bool.false_eq_true, Bool.true_eq_false, Bool.not_false, Int.toNat_natCast, List.all_cons, List.all_nil, isCell, Bool.and_self, Bool.not_eq_false', Int.natCast_nonneg, List.length_map, and_false]
        cases hk : inB sig[j].kind_ 0 2 with
        | false =>
          simp only [↓reduceIte, Bool.false_eq_true]
          rw [dc_false (hno fun h => inB_not.1 hk h.2.2)]
        | true =>
          have hk' := inB_iff.1 hk
          have hjl : j ≤ sig.length := by omega
          simp only [hjl, ↓reduceIte, true_and, Bool.not_true]
          have hc := sem_coFk (P := Go.Proofs.Tryd.prog) g_coFControl g_ixFControl cControl_len (f := fun d : TControl => decide (d.name = sig[j].name)) (fe := fid_impl_IsSignature_1) (cs := [cControl sig[j]]) (sig.take j) (by rw [List.length_take]; omega) (fun d _ lvl S => sem_IsSignature_1 sig[j] d lvl S)
          rw [← cut_take0] at hc
          refine ⟨fun h => h.elim, Nat.zero_le _, kca_intro hc ?_⟩
          simp only [r_cons, r_nil, r_kont, r_seq1, r_seq3, r_blk1, r_blk3, r_fn2, r_sk, r_rg, r_sq, r_rt, r_cd, r_cd2, r_op1, r_go1, r_mv, r_bi, r_add0, r_pk, r_pkf, r_fin, r_kfe1, r_kcx, r_exps0, r_exps1, r_kex, r_exp1, r_expv2, r_fgt, r_clean, r_okm4, r_okE0, r_okE1, r_okL0, r_round1, r_round3, r_lt1, ptd, keyOf, freshK, lk, pt, addO, xv, kv, kc, ↓reduceIte, Nat.reduceEqDiff, Nat.reduceMul, reduceCtorEq, List.length_nil, Nat.reduceLT, true_and, and_true, noSh, isSc, impv, memB, keepB, keepOB, or_true, Bool.false_eq_true, and_self]
          cases ha : (sig.take j).any (fun d : TControl => decide (d.name = sig[j].name)) with
          | true =>
            simp only [↓reduceIte]
            obtain ⟨d, hd, he⟩ := List.any_eq_true.1 ha
            obtain ⟨q, hq, rfl⟩ := List.getElem_of_mem hd
            rw [List.length_take] at hq
            rw [dc_false (fun hs : sigOK sig => (hs.1 j hja).2 q (by omega) (by simpa using he))]
          | false =>
            simp only [↓reduceIte, Bool.false_eq_true]
            refine ⟨by rw [fits_i64]; omega, cntJ_intro () hja rfl (fun i hi => ?_)⟩
            by_cases e : i = j
            · subst e
              refine fun h => ⟨⟨hn', hp', hk'⟩, fun q hq => ?_⟩
              have := (List.any_eq_false.1 ha) sig[q] (by
                rw [List.mem_take_iff_getElem]
                exact ⟨q, by omega, rfl⟩)
              simpa using this
            · exact hA i (by omega)
  · have : j = sig.length := by omega
    subst this
    have hall : ∀ i, sigAt sig i := fun i h => hA i h h
    rw [dc_true (p := sigOK sig) ⟨hall, by omega, by omega⟩]
end Go.Fd

/-
  WHAT A SIZE THAT IS LEFT SAYS OF BOUNDS (printed by lawgen.py). Own work.
-/
namespace Go.Fd
/-- A measure that only falls, and what it shows where something is left. -/
def Zm (s : Int → Int) (P : Prop) : Prop := ∀ l : Int, 0 ≤ l → l ≤ 1048576 → s l ≤ l ∧ (0 ≤ s l → P)
theorem Zm_id : Zm (fun l => l) True := fun _ _ _ => ⟨Int.le_refl _, fun _ => trivial⟩
theorem Zm_th {s g : Int → Int} {P Q : Prop} (hs : Zm s P) (hg : Zm g Q) : Zm (fun l => szTh (s l) g) (P ∧ Q) := fun l h0 h1 => by
  have a := hs l h0 h1
  by_cases h : s l < 0
  · simp only [szTh, if_pos h]
    exact ⟨by omega, fun h => by omega⟩
  · simp only [szTh, if_neg h]
    have b := hg (s l) (by omega) (by omega)
    exact ⟨by omega, fun h2 => ⟨a.2 (by omega), b.2 h2⟩⟩
theorem Zm_N (n : Nat) : Zm (fun l => szN n l) (n ≤ 4294967296) := fun l h0 h1 => by
  simp only [szN]
  split
  · exact ⟨by omega, fun h => by omega⟩
  · exact ⟨by omega, fun h => by omega⟩
theorem Zm_str (n : Nat) : Zm (fun l => l - n) (n ≤ 4294967296) := fun l h0 h1 => ⟨by simp only; omega, fun h => by simp only at h; omega⟩
theorem Zm_F {α : Type} {f : α → Int → Int} {P : α → Prop} (hf : ∀ x, Zm (f x) (P x)) : ∀ (a : List α), Zm (fun l => szF f a l) (∀ y ∈ a, P y)
  | [] => fun l _ _ => ⟨Int.le_refl l, fun _ y hy => by cases hy⟩
  | x :: r => fun l h0 h1 => by
    simp only [szF]
    have a := hf x l h0 h1
    split
    · exact ⟨by omega, fun h => by omega⟩
    · have b := Zm_F hf r (f x l) (by omega) (by omega)
      refine ⟨by simp only at b; omega, fun h y hy => ?_⟩
      cases hy with
      | head => exact a.2 (by omega)
      | tail _ hy => exact b.2 h y hy
theorem Zm_L {α : Type} {f : α → Int → Int} {P : α → Prop} (hf : ∀ x, Zm (f x) (P x)) (a : List α) : Zm (fun l => szL f a l) (a.length ≤ 4294967296 ∧ ∀ y ∈ a, P y) := fun l h0 h1 => by
  simp only [szL]
  split
  · exact ⟨by omega, fun h => by omega⟩
  · have b := Zm_F hf a (l - a.length) (by omega) (by omega)
    simp only at b
    exact ⟨by omega, fun h => ⟨by omega, b.2 h⟩⟩
theorem Zm_imp {s : Int → Int} {P Q : Prop} (h : Zm s P) (hq : P → Q) : Zm s Q := fun l h0 h1 => ⟨(h l h0 h1).1, fun h2 => hq ((h l h0 h1).2 h2)⟩
theorem zpNode (x : TNode) : Zm (fun l => szNode x l) (bdNode 4294967296 x) := by
  unfold szNode
  exact Zm_imp (Zm_th (Zm_N _) Zm_id) (fun h => by unfold bdNode; simp only [and_true] at h ⊢; exact h)
theorem zpWire (x : TWire) : Zm (fun l => szWire x l) (bdWire 4294967296 x) := by
  unfold szWire
  exact Zm_imp (Zm_th (Zm_str _) Zm_id) (fun h => by unfold bdWire; simp only [and_true] at h ⊢; exact h)
theorem zpBigraph (x : TBigraph) : Zm (fun l => szBigraph x l) (bdBigraph 4294967296 x) := by
  unfold szBigraph
  exact Zm_imp (Zm_th (Zm_L (fun y => (zpNode _)) _) (Zm_th (Zm_N _) (Zm_th (Zm_L (fun y => (Zm_str _)) _) (Zm_th (Zm_L (fun y => (zpWire _)) _) Zm_id)))) (fun h => by unfold bdBigraph; simp only [and_assoc, and_true] at h ⊢; exact h)
theorem zpRule (x : TRule) : Zm (fun l => szRule x l) (bdRule 4294967296 x) := by
  unfold szRule
  exact Zm_imp (Zm_th (zpBigraph _) (Zm_th (zpBigraph _) (Zm_th (Zm_N _) Zm_id))) (fun h => by unfold bdRule; simp only [and_true] at h ⊢; exact h)
theorem zpControl (x : TControl) : Zm (fun l => szControl x l) (bdControl 4294967296 x) := by
  unfold szControl
  exact Zm_imp (Zm_th (Zm_str _) Zm_id) (fun h => by unfold bdControl; simp only [and_true] at h ⊢; exact h)
theorem mono_le {a : Nat} (h : a ≤ 4294967296) : a ≤ 9223372036854775807 := by omega
theorem monoControl {x : TControl} (h : bdControl 4294967296 x) : bdControl 9223372036854775807 x := by
  exact (mono_le h)
end Go.Fd
