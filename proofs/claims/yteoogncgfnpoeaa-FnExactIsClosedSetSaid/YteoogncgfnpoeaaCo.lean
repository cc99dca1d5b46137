/-
  The numbers of the functions of this program, by name (printed by ids.py).
-/
import Derived.Test.YteoogncgfnpoeaaProg
import Derived.Test.YteoogncgfnpoeaaFaC
namespace Go.Fd
abbrev fid_main_main : FuncId := 0
abbrev fid_gosem_cut : FuncId := 1
abbrev fid_gosem_cut_init : FuncId := 2
abbrev fid_laws_FnSplitJoin : FuncId := 3
abbrev fid_laws_FnExactIsClosedSet : FuncId := 4
abbrev fid_laws_FnExactEndStates : FuncId := 5
abbrev fid_laws_vBig : FuncId := 6
abbrev fid_spec_DrawSplitString : FuncId := 7
abbrev fid_impl_SplitString : FuncId := 8
abbrev fid_spec_DrawJoinStrings : FuncId := 9
abbrev fid_impl_JoinStrings : FuncId := 10
abbrev fid_spec_JoinStrings : FuncId := 11
abbrev fid_spec_DrawLessString : FuncId := 12
abbrev fid_impl_LessString : FuncId := 13
abbrev fid_spec_LessString : FuncId := 14
abbrev fid_laws_szSystem : FuncId := 15
abbrev fid_spec_IsClosedSet : FuncId := 16
abbrev fid_laws_toSystem : FuncId := 17
abbrev fid_laws_toIntS : FuncId := 18
abbrev fid_impl_IsClosedSet : FuncId := 19
abbrev fid_laws_eqSystem : FuncId := 20
abbrev fid_laws_eqIntS : FuncId := 21
abbrev fid_spec_EndStates : FuncId := 22
abbrev fid_impl_EndStates : FuncId := 23
abbrev fid_laws_markSystem : FuncId := 24
abbrev fid_laws_markIntS : FuncId := 25
abbrev fid_laws_heldIntS : FuncId := 26
abbrev fid_spec_l1Cur_any1 : FuncId := 27
abbrev fid_spec_l1Cur_of : FuncId := 28
abbrev fid_impl_splitAt : FuncId := 29
abbrev fid_spec_l1Cur_pick : FuncId := 30
abbrev fid_spec_l1Cur_one : FuncId := 31
abbrev fid_strings_IndexByte : FuncId := 32
abbrev fid_strings_Join : FuncId := 33
abbrev fid_spec_l1Stands : FuncId := 34
abbrev fid_laws_szBigraphS : FuncId := 35
abbrev fid_laws_szIntA3S : FuncId := 36
abbrev fid_spec_l10Good : FuncId := 37
abbrev fid_spec_l10Goals : FuncId := 38
abbrev fid_spec_l1Has : FuncId := 39
abbrev fid_laws_toBigraphS : FuncId := 40
abbrev fid_laws_toIntA3S : FuncId := 41
abbrev fid_impl_isGoals : FuncId := 42
abbrev fid_slices_ContainsFunc_3_int_3_int : FuncId := 43
abbrev fid_impl_IsClosedSet_1 : FuncId := 44
abbrev fid_slices_Contains_int_int : FuncId := 45
abbrev fid_laws_eqBigraphS : FuncId := 46
abbrev fid_laws_eqIntA3S : FuncId := 47
abbrev fid_spec_l10From : FuncId := 48
abbrev fid_impl_isSystem : FuncId := 49
abbrev fid_impl_System_next : FuncId := 50
abbrev fid_laws_markBigraphS : FuncId := 51
abbrev fid_laws_markIntA3S : FuncId := 52
abbrev fid_spec_l1Cur_next : FuncId := 53
abbrev fid_internal_stringslite_IndexByte : FuncId := 54
abbrev fid_strings_Builder_Grow : FuncId := 55
abbrev fid_strings_Builder_WriteString : FuncId := 56
abbrev fid_strings_Builder_String : FuncId := 57
abbrev fid_laws_szBigraph : FuncId := 58
abbrev fid_spec_l1In : FuncId := 59
abbrev fid_spec_l10Before : FuncId := 60
abbrev fid_spec_l1Rising : FuncId := 61
abbrev fid_laws_toBigraph : FuncId := 62
abbrev fid_laws_toIntA3 : FuncId := 63
abbrev fid_impl_isRising : FuncId := 64
abbrev fid_slices_IndexFunc_3_int_3_int : FuncId := 65
abbrev fid_slices_Index_int_int : FuncId := 66
abbrev fid_laws_eqBigraph : FuncId := 67
abbrev fid_laws_eqIntA3 : FuncId := 68
abbrev fid_impl_within : FuncId := 69
abbrev fid_impl_areSteps : FuncId := 70
abbrev fid_laws_markNodeS : FuncId := 71
abbrev fid_laws_markStringS : FuncId := 72
abbrev fid_laws_markWireS : FuncId := 73
abbrev fid_internal_bytealg_IndexByteString : FuncId := 74
abbrev fid_strings_Builder_copyCheck : FuncId := 75
abbrev fid_strings_Builder_grow : FuncId := 76
abbrev fid_laws_szNodeS : FuncId := 77
abbrev fid_laws_szIntS : FuncId := 78
abbrev fid_laws_szStringS : FuncId := 79
abbrev fid_laws_szWireS : FuncId := 80
abbrev fid_laws_toNodeS : FuncId := 81
abbrev fid_laws_toStringS : FuncId := 82
abbrev fid_laws_toWireS : FuncId := 83
abbrev fid_laws_eqNodeS : FuncId := 84
abbrev fid_laws_eqStringS : FuncId := 85
abbrev fid_laws_eqWireS : FuncId := 86
abbrev fid_impl_compareSteps : FuncId := 87
abbrev fid_laws_markText : FuncId := 88
abbrev fid_internal_abi_NoEscape : FuncId := 89
abbrev fid_internal_bytealg_MakeNoZero : FuncId := 90
abbrev fid_laws_szNode : FuncId := 91
abbrev fid_laws_szWire : FuncId := 92
abbrev fid_laws_toNode : FuncId := 93
abbrev fid_laws_toWire : FuncId := 94
abbrev fid_laws_eqNode : FuncId := 95
abbrev fid_laws_eqWire : FuncId := 96
abbrev fid_slices_Compare_int_int : FuncId := 97
abbrev fid_cmp_Compare_int : FuncId := 98
abbrev fid_cmp_isNaN_int : FuncId := 99
abbrev fid_runtime_boundsError_Error : FuncId := 100
abbrev fid_runtime_boundsError_RuntimeError : FuncId := 101
abbrev fid_runtime_errorString_Error : FuncId := 102
abbrev fid_runtime_errorString_RuntimeError : FuncId := 103
abbrev fid_runtime_plainError_Error : FuncId := 104
abbrev fid_runtime_plainError_RuntimeError : FuncId := 105
abbrev fid_runtime_errorAddressString_Error : FuncId := 106
abbrev fid_runtime_errorAddressString_RuntimeError : FuncId := 107
abbrev fid_runtime_TypeAssertionError_Error : FuncId := 108
abbrev fid_runtime_TypeAssertionError_RuntimeError : FuncId := 109
abbrev fid_runtime_PanicNilError_Error : FuncId := 110
abbrev fid_runtime_PanicNilError_RuntimeError : FuncId := 111
abbrev fid_internal_abi_Type_Align : FuncId := 112
abbrev fid_internal_runtime_maps_unhashableTypeError_Error : FuncId := 113
abbrev fid_internal_runtime_maps_unhashableTypeError_RuntimeError : FuncId := 114
abbrev fid_impl_System_isState : FuncId := 115
abbrev fid_strings_Builder_Reset : FuncId := 116
abbrev fid_impl_Bigraph_hasOnePoint : FuncId := 117
abbrev fid_internal_abi_Kind_String : FuncId := 118
end Go.Fd

/-
  The annotated codes of the functions, printed by a program of mine (gen.py), and the check that they belong to the program.
-/
namespace Go.Fd

def c_laws_vBig : F2 :=
  { nt := 6, res := [.t 2 [0]], body :=
   (.sq (.rg none [⟨some 2, none, .mv (.k (.bool false)) none⟩])
   (.sq (.rg none [⟨some 3, none, .mv (.t 0) none⟩,
      ⟨some 4, none, .ln (.t 3)⟩,
      ⟨some 5, none, .bi .gtr 0 (.t 4) (.k (.int .i64 65536))⟩,
      ⟨some 2, none, .mv (.t 5) none⟩])
   (.rt))) }
theorem k_laws_vBig : chkF Go.Proofs.Try.prog fid_laws_vBig c_laws_vBig = true := by kernel_rfl

def c_laws_szSystem : F2 :=
  { nt := 18, res := [.t 4 [0]], body :=
   (.sq (.rg none [⟨some 2, none, .bt (.t 0)⟩,
      ⟨some 4, none, .mv (.k (.int .i64 0)) none⟩])
   (.sq (.rg none [⟨some 5, none, .fa 0 (.t 2)⟩,
      ⟨some 6, none, .ld none (.t 5)⟩,
      ⟨some 7, none, .mv (.t 1) none⟩,
      ⟨some 8, none, .ca .pure false (.f fid_laws_szBigraphS) [.t 6, .t 7]⟩,
      ⟨some 1, none, .mv (.t 8) none⟩])
   (.sq (.sq (.rg none [⟨some 9, none, .mv (.t 1) none⟩,
       ⟨some 10, none, .bi .lss 0 (.t 9) (.k (.int .i64 0))⟩])
    (.cd (.t 10) (.sq (.rg none [⟨some 4, none, .mv (.k (.int .i64 (-1))) none⟩])
     (.rt))
    (.sk)))
   (.sq (.rg none [⟨some 11, none, .fa 1 (.t 2)⟩,
      ⟨some 12, none, .ld none (.t 11)⟩,
      ⟨some 13, none, .mv (.t 1) none⟩,
      ⟨some 14, none, .ca .pure false (.f fid_laws_szIntA3S) [.t 12, .t 13]⟩,
      ⟨some 1, none, .mv (.t 14) none⟩])
   (.sq (.sq (.rg none [⟨some 15, none, .mv (.t 1) none⟩,
       ⟨some 16, none, .bi .lss 0 (.t 15) (.k (.int .i64 0))⟩])
    (.cd (.t 16) (.sq (.rg none [⟨some 4, none, .mv (.k (.int .i64 (-1))) none⟩])
     (.rt))
    (.sk)))
   (.sq (.rg none [⟨some 17, none, .mv (.t 1) none⟩,
      ⟨some 4, none, .mv (.t 17) none⟩])
   (.rt))))))) }
theorem k_laws_szSystem : chkF Go.Proofs.Try.prog fid_laws_szSystem c_laws_szSystem = true := by kernel_rfl

def c_laws_toSystem : F2 :=
  { nt := 13, res := [.c 2 (some 2) [7, 4]], body :=
   (.sq (.rg none [⟨some 1, none, .bt (.t 0)⟩,
      ⟨some 2, none, .al [.slice none 0 0, .slice none 0 0] []⟩])
   (.sq (.rg none [⟨some 3, none, .al [.slice none 0 0, .slice none 0 0] []⟩])
   (.sq (.rg none [⟨some 4, none, .fa 0 (.t 1)⟩,
      ⟨some 5, none, .ld none (.t 4)⟩,
      ⟨some 6, none, .ca .pure true (.f fid_laws_toBigraphS) [.t 5]⟩,
      ⟨some 7, none, .fa 0 (.t 3)⟩,
      ⟨none, none, .st 1 (.t 7) (.t 6)⟩])
   (.sq (.rg none [⟨some 8, none, .fa 1 (.t 1)⟩,
      ⟨some 9, none, .ld none (.t 8)⟩,
      ⟨some 10, none, .ca .pure true (.f fid_laws_toIntA3S) [.t 9]⟩,
      ⟨some 11, none, .fa 1 (.t 3)⟩,
      ⟨none, none, .st 1 (.t 11) (.t 10)⟩])
   (.sq (.rg none [⟨some 12, none, .ld (some 2) (.t 3)⟩,
      ⟨none, none, .st 2 (.t 2) (.t 12)⟩])
   (.rt)))))) }
theorem k_laws_toSystem : chkF Go.Proofs.Try.prog fid_laws_toSystem c_laws_toSystem = true := by kernel_rfl

def c_laws_toIntS : F2 :=
  { nt := 22, res := [.t 2 [2]], body :=
   (.sq (.rg none [⟨some 2, none, .mv (.k (.slice none 0 0)) none⟩])
   (.sq (.rg none [⟨some 5, none, .mv (.t 0) none⟩,
      ⟨some 6, none, .ln (.t 5)⟩,
      ⟨some 7, none, .ms 1 [.int .i64 0] (.t 6)⟩,
      ⟨some 3, none, .mv (.t 7) none⟩])
   (.sq (.sq (.rg none [⟨some 4, none, .mv (.k (.int .i64 0)) none⟩])
    (.bl 0 (.lp [0, 3, 4] [224] (.sq (.sq (.rg none [⟨some 8, none, .mv (.t 4) none⟩,
          ⟨some 9, none, .mv (.t 0) none⟩,
          ⟨some 10, none, .ln (.t 9)⟩,
          ⟨some 11, none, .bi .lss 0 (.t 8) (.t 10)⟩])
       (.cd (.t 11) (.sk)
       (.ex 0)))
      (.sq (.bl 1 (.rg none [⟨some 14, none, .mv (.t 3) none⟩,
          ⟨some 15, none, .mv (.t 4) none⟩,
          ⟨some 16, none, .mv (.t 0) none⟩,
          ⟨some 17, none, .mv (.t 4) none⟩,
          ⟨some 18, none, .ia 1 (.t 16) (.t 17)⟩,
          ⟨some 19, none, .ld none (.t 18)⟩,
          ⟨some 20, none, .ia 1 (.t 14) (.t 15)⟩,
          ⟨none, none, .st 1 (.t 20) (.t 19)⟩]))
      (.rg none [⟨some 12, none, .mv (.t 4) none⟩,
        ⟨some 13, none, .bi .add 0 (.t 12) (.k (.int .i64 1))⟩,
        ⟨some 4, none, .mv (.t 13) none⟩]))))))
   (.sq (.rg none [⟨some 21, none, .mv (.t 3) none⟩,
      ⟨some 2, none, .mv (.t 21) none⟩])
   (.rt))))) }
theorem k_laws_toIntS : chkF Go.Proofs.Try.prog fid_laws_toIntS c_laws_toIntS = true := by kernel_rfl

def c_laws_eqSystem : F2 :=
  { nt := 17, res := [.t 4 [0]], body :=
   (.sq (.rg none [⟨some 2, none, .bt (.t 0)⟩,
      ⟨some 3, none, .bt (.t 1)⟩,
      ⟨some 4, none, .mv (.k (.bool false)) none⟩])
   (.sq (.sq (.rg none [⟨some 5, none, .fa 0 (.t 2)⟩,
       ⟨some 6, none, .ld none (.t 5)⟩,
       ⟨some 7, none, .fa 0 (.t 3)⟩,
       ⟨some 8, none, .ld none (.t 7)⟩,
       ⟨some 9, none, .ca .pure false (.f fid_laws_eqBigraphS) [.t 6, .t 8]⟩,
       ⟨some 10, none, .nt (.t 9)⟩])
    (.cd (.t 10) (.sq (.rg none [⟨some 4, none, .mv (.k (.bool false)) none⟩])
     (.rt))
    (.sk)))
   (.sq (.sq (.rg none [⟨some 11, none, .fa 1 (.t 2)⟩,
       ⟨some 12, none, .ld none (.t 11)⟩,
       ⟨some 13, none, .fa 1 (.t 3)⟩,
       ⟨some 14, none, .ld none (.t 13)⟩,
       ⟨some 15, none, .ca .pure false (.f fid_laws_eqIntA3S) [.t 12, .t 14]⟩,
       ⟨some 16, none, .nt (.t 15)⟩])
    (.cd (.t 16) (.sq (.rg none [⟨some 4, none, .mv (.k (.bool false)) none⟩])
     (.rt))
    (.sk)))
   (.sq (.rg none [⟨some 4, none, .mv (.k (.bool true)) none⟩])
   (.rt))))) }
theorem k_laws_eqSystem : chkF Go.Proofs.Try.prog fid_laws_eqSystem c_laws_eqSystem = true := by kernel_rfl

def c_laws_eqIntS : F2 :=
  { nt := 26, res := [.t 4 [0]], body :=
   (.sq (.rg none [⟨some 4, none, .mv (.k (.bool false)) none⟩])
   (.sq (.sq (.rg none [⟨some 6, none, .mv (.t 0) none⟩,
       ⟨some 7, none, .ln (.t 6)⟩,
       ⟨some 8, none, .mv (.t 1) none⟩,
       ⟨some 9, none, .ln (.t 8)⟩,
       ⟨some 10, none, .bi .neq 0 (.t 7) (.t 9)⟩])
    (.cd (.t 10) (.sq (.rg none [⟨some 4, none, .mv (.k (.bool false)) none⟩])
     (.rt))
    (.sk)))
   (.sq (.sq (.rg none [⟨some 5, none, .mv (.k (.int .i64 0)) none⟩])
    (.bl 0 (.lp [0, 1, 5] [] (.sq (.sq (.rg none [⟨some 11, none, .mv (.t 5) none⟩,
          ⟨some 12, none, .mv (.t 0) none⟩,
          ⟨some 13, none, .ln (.t 12)⟩,
          ⟨some 14, none, .bi .lss 0 (.t 11) (.t 13)⟩])
       (.cd (.t 14) (.sk)
       (.ex 0)))
      (.sq (.bl 1 (.sq (.rg (some 0) [⟨some 17, none, .mv (.t 0) none⟩,
           ⟨some 18, none, .mv (.t 5) none⟩,
           ⟨some 19, none, .ia 1 (.t 17) (.t 18)⟩,
           ⟨some 20, none, .ld none (.t 19)⟩,
           ⟨some 21, none, .mv (.t 1) none⟩,
           ⟨some 22, none, .mv (.t 5) none⟩,
           ⟨some 23, none, .ia 1 (.t 21) (.t 22)⟩,
           ⟨some 24, none, .ld none (.t 23)⟩,
           ⟨some 25, none, .bi .neq 0 (.t 20) (.t 24)⟩])
        (.cd (.t 25) (.sq (.rg none [⟨some 4, none, .mv (.k (.bool false)) none⟩])
         (.rt))
        (.sk))))
      (.rg none [⟨some 15, none, .mv (.t 5) none⟩,
        ⟨some 16, none, .bi .add 0 (.t 15) (.k (.int .i64 1))⟩,
        ⟨some 5, none, .mv (.t 16) none⟩]))))))
   (.sq (.rg none [⟨some 4, none, .mv (.k (.bool true)) none⟩])
   (.rt))))) }
theorem k_laws_eqIntS : chkF Go.Proofs.Try.prog fid_laws_eqIntS c_laws_eqIntS = true := by kernel_rfl

def c_laws_markSystem : F2 :=
  { nt := 14, res := [.t 4 [0]], body :=
   (.sq (.rg none [⟨some 2, none, .bt (.t 0)⟩,
      ⟨some 4, none, .mv (.k (.int .i64 0)) none⟩])
   (.sq (.rg none [⟨some 5, none, .fa 0 (.t 2)⟩,
      ⟨some 6, none, .ld none (.t 5)⟩,
      ⟨some 7, none, .mv (.t 1) none⟩,
      ⟨some 8, none, .ca .pure false (.f fid_laws_markBigraphS) [.t 6, .t 7]⟩,
      ⟨some 1, none, .mv (.t 8) none⟩])
   (.sq (.rg none [⟨some 9, none, .fa 1 (.t 2)⟩,
      ⟨some 10, none, .ld none (.t 9)⟩,
      ⟨some 11, none, .mv (.t 1) none⟩,
      ⟨some 12, none, .ca .pure false (.f fid_laws_markIntA3S) [.t 10, .t 11]⟩,
      ⟨some 1, none, .mv (.t 12) none⟩])
   (.sq (.rg none [⟨some 13, none, .mv (.t 1) none⟩,
      ⟨some 4, none, .mv (.t 13) none⟩])
   (.rt))))) }
theorem k_laws_markSystem : chkF Go.Proofs.Try.prog fid_laws_markSystem c_laws_markSystem = true := by kernel_rfl

def c_laws_markIntS : F2 :=
  { nt := 19, res := [.t 4 [0]], body :=
   (.sq (.rg none [⟨some 4, none, .mv (.k (.int .i64 0)) none⟩])
   (.sq (.sq (.rg none [⟨some 5, none, .mv (.k (.int .i64 0)) none⟩])
    (.bl 0 (.lp [0, 1, 5] [] (.sq (.sq (.rg none [⟨some 6, none, .mv (.t 5) none⟩,
          ⟨some 7, none, .mv (.t 0) none⟩,
          ⟨some 8, none, .ln (.t 7)⟩,
          ⟨some 9, none, .bi .lss 0 (.t 6) (.t 8)⟩])
       (.cd (.t 9) (.sk)
       (.ex 0)))
      (.sq (.bl 1 (.sq (.rg none [⟨some 12, none, .mv (.t 0) none⟩,
           ⟨some 13, none, .mv (.t 5) none⟩,
           ⟨some 14, none, .mv (.t 1) none⟩,
           ⟨some 15, none, .ia 1 (.t 12) (.t 13)⟩,
           ⟨none, none, .st 1 (.t 15) (.t 14)⟩])
        (.rg none [⟨some 16, none, .mv (.t 1) none⟩,
          ⟨some 17, none, .bi .add 0 (.t 16) (.k (.int .i64 1))⟩,
          ⟨some 1, none, .mv (.t 17) none⟩])))
      (.rg none [⟨some 10, none, .mv (.t 5) none⟩,
        ⟨some 11, none, .bi .add 0 (.t 10) (.k (.int .i64 1))⟩,
        ⟨some 5, none, .mv (.t 11) none⟩]))))))
   (.sq (.rg none [⟨some 18, none, .mv (.t 1) none⟩,
      ⟨some 4, none, .mv (.t 18) none⟩])
   (.rt)))) }
theorem k_laws_markIntS : chkF Go.Proofs.Try.prog fid_laws_markIntS c_laws_markIntS = true := by kernel_rfl

def c_laws_heldIntS : F2 :=
  { nt := 21, res := [.t 4 [0]], body :=
   (.sq (.rg none [⟨some 4, none, .mv (.k (.int .i64 0)) none⟩])
   (.sq (.sq (.rg none [⟨some 5, none, .mv (.k (.int .i64 0)) none⟩])
    (.bl 0 (.lp [0, 1, 5] [] (.sq (.sq (.rg none [⟨some 6, none, .mv (.t 5) none⟩,
          ⟨some 7, none, .mv (.t 0) none⟩,
          ⟨some 8, none, .ln (.t 7)⟩,
          ⟨some 9, none, .bi .lss 0 (.t 6) (.t 8)⟩])
       (.cd (.t 9) (.sk)
       (.ex 0)))
      (.sq (.bl 1 (.sq (.sq (.rg none [⟨some 12, none, .mv (.t 0) none⟩,
            ⟨some 13, none, .mv (.t 5) none⟩,
            ⟨some 14, none, .ia 1 (.t 12) (.t 13)⟩,
            ⟨some 15, none, .ld none (.t 14)⟩,
            ⟨some 16, none, .mv (.t 1) none⟩,
            ⟨some 17, none, .bi .neq 0 (.t 15) (.t 16)⟩])
         (.cd (.t 17) (.sq (.rg none [⟨some 4, none, .mv (.k (.int .i64 (-1))) none⟩])
          (.rt))
         (.sk)))
        (.rg none [⟨some 18, none, .mv (.t 1) none⟩,
          ⟨some 19, none, .bi .add 0 (.t 18) (.k (.int .i64 1))⟩,
          ⟨some 1, none, .mv (.t 19) none⟩])))
      (.rg none [⟨some 10, none, .mv (.t 5) none⟩,
        ⟨some 11, none, .bi .add 0 (.t 10) (.k (.int .i64 1))⟩,
        ⟨some 5, none, .mv (.t 11) none⟩]))))))
   (.sq (.rg none [⟨some 20, none, .mv (.t 1) none⟩,
      ⟨some 4, none, .mv (.t 20) none⟩])
   (.rt)))) }
theorem k_laws_heldIntS : chkF Go.Proofs.Try.prog fid_laws_heldIntS c_laws_heldIntS = true := by kernel_rfl

def c_laws_szBigraphS : F2 :=
  { nt := 27, res := [.t 4 [0]], body :=
   (.sq (.rg none [⟨some 4, none, .mv (.k (.int .i64 0)) none⟩])
   (.sq (.rg none [⟨some 6, none, .mv (.t 1) none⟩,
      ⟨some 7, none, .mv (.t 0) none⟩,
      ⟨some 8, none, .ln (.t 7)⟩,
      ⟨some 9, none, .bi .sub 0 (.t 6) (.t 8)⟩,
      ⟨some 1, none, .mv (.t 9) none⟩])
   (.sq (.sq (.rg none [⟨some 10, none, .mv (.t 1) none⟩,
       ⟨some 11, none, .bi .lss 0 (.t 10) (.k (.int .i64 0))⟩])
    (.cd (.t 11) (.sq (.rg none [⟨some 4, none, .mv (.k (.int .i64 (-1))) none⟩])
     (.rt))
    (.sk)))
   (.sq (.sq (.rg none [⟨some 5, none, .mv (.k (.int .i64 0)) none⟩])
    (.bl 0 (.lp [0, 1, 5] [] (.sq (.sq (.rg none [⟨some 12, none, .mv (.t 5) none⟩,
          ⟨some 13, none, .mv (.t 0) none⟩,
          ⟨some 14, none, .ln (.t 13)⟩,
          ⟨some 15, none, .bi .lss 0 (.t 12) (.t 14)⟩])
       (.cd (.t 15) (.sk)
       (.ex 0)))
      (.sq (.bl 1 (.sq (.rg none [⟨some 18, none, .mv (.t 0) none⟩,
           ⟨some 19, none, .mv (.t 5) none⟩,
           ⟨some 20, none, .ia 6 (.t 18) (.t 19)⟩,
           ⟨some 21, none, .ld (some 6) (.t 20)⟩,
           ⟨some 22, none, .mv (.t 1) none⟩,
           ⟨some 23, none, .ca .pure false (.f fid_laws_szBigraph) [.t 21, .t 22]⟩,
           ⟨some 1, none, .mv (.t 23) none⟩])
        (.sq (.rg none [⟨some 24, none, .mv (.t 1) none⟩,
           ⟨some 25, none, .bi .lss 0 (.t 24) (.k (.int .i64 0))⟩])
        (.cd (.t 25) (.sq (.rg none [⟨some 4, none, .mv (.k (.int .i64 (-1))) none⟩])
         (.rt))
        (.sk)))))
      (.rg none [⟨some 16, none, .mv (.t 5) none⟩,
        ⟨some 17, none, .bi .add 0 (.t 16) (.k (.int .i64 1))⟩,
        ⟨some 5, none, .mv (.t 17) none⟩]))))))
   (.sq (.rg none [⟨some 26, none, .mv (.t 1) none⟩,
      ⟨some 4, none, .mv (.t 26) none⟩])
   (.rt)))))) }
theorem k_laws_szBigraphS : chkF Go.Proofs.Try.prog fid_laws_szBigraphS c_laws_szBigraphS = true := by kernel_rfl

def c_laws_szIntA3S : F2 :=
  { nt := 12, res := [.t 4 [0]], body :=
   (.sq (.rg none [⟨some 4, none, .mv (.k (.int .i64 0)) none⟩])
   (.sq (.rg none [⟨some 5, none, .mv (.t 1) none⟩,
      ⟨some 6, none, .mv (.t 0) none⟩,
      ⟨some 7, none, .ln (.t 6)⟩,
      ⟨some 8, none, .bi .sub 0 (.t 5) (.t 7)⟩,
      ⟨some 1, none, .mv (.t 8) none⟩])
   (.sq (.sq (.rg none [⟨some 9, none, .mv (.t 1) none⟩,
       ⟨some 10, none, .bi .lss 0 (.t 9) (.k (.int .i64 0))⟩])
    (.cd (.t 10) (.sq (.rg none [⟨some 4, none, .mv (.k (.int .i64 (-1))) none⟩])
     (.rt))
    (.sk)))
   (.sq (.rg none [⟨some 11, none, .mv (.t 1) none⟩,
      ⟨some 4, none, .mv (.t 11) none⟩])
   (.rt))))) }
theorem k_laws_szIntA3S : chkF Go.Proofs.Try.prog fid_laws_szIntA3S c_laws_szIntA3S = true := by kernel_rfl

def c_laws_toBigraphS : F2 :=
  { nt := 23, res := [.t 2 [7]], body :=
   (.sq (.rg none [⟨some 2, none, .mv (.k (.slice none 0 0)) none⟩])
   (.sq (.rg none [⟨some 5, none, .mv (.t 0) none⟩,
      ⟨some 6, none, .ln (.t 5)⟩,
      ⟨some 7, none, .ms 6 [.int .i64 0, .slice none 0 0, .slice none 0 0, .int .i64 0, .slice none 0 0, .slice none 0 0] (.t 6)⟩,
      ⟨some 3, none, .mv (.t 7) none⟩])
   (.sq (.sq (.rg none [⟨some 4, none, .mv (.k (.int .i64 0)) none⟩])
    (.bl 0 (.lp [0, 3, 4] [224, 640, 641, 642, 643] (.sq (.sq (.rg none [⟨some 8, none, .mv (.t 4) none⟩,
          ⟨some 9, none, .mv (.t 0) none⟩,
          ⟨some 10, none, .ln (.t 9)⟩,
          ⟨some 11, none, .bi .lss 0 (.t 8) (.t 10)⟩])
       (.cd (.t 11) (.sk)
       (.ex 0)))
      (.sq (.bl 1 (.rg none [⟨some 14, none, .mv (.t 3) none⟩,
          ⟨some 15, none, .mv (.t 4) none⟩,
          ⟨some 16, none, .mv (.t 0) none⟩,
          ⟨some 17, none, .mv (.t 4) none⟩,
          ⟨some 18, none, .ia 6 (.t 16) (.t 17)⟩,
          ⟨some 19, none, .ld (some 6) (.t 18)⟩,
          ⟨some 20, none, .ca .pure true (.f fid_laws_toBigraph) [.t 19]⟩,
          ⟨some 21, none, .ia 6 (.t 14) (.t 15)⟩,
          ⟨none, none, .st 6 (.t 21) (.t 20)⟩]))
      (.rg none [⟨some 12, none, .mv (.t 4) none⟩,
        ⟨some 13, none, .bi .add 0 (.t 12) (.k (.int .i64 1))⟩,
        ⟨some 4, none, .mv (.t 13) none⟩]))))))
   (.sq (.rg none [⟨some 22, none, .mv (.t 3) none⟩,
      ⟨some 2, none, .mv (.t 22) none⟩])
   (.rt))))) }
theorem k_laws_toBigraphS : chkF Go.Proofs.Try.prog fid_laws_toBigraphS c_laws_toBigraphS = true := by kernel_rfl

def c_laws_toIntA3S : F2 :=
  { nt := 23, res := [.t 2 [4]], body :=
   (.sq (.rg none [⟨some 2, none, .mv (.k (.slice none 0 0)) none⟩])
   (.sq (.rg none [⟨some 5, none, .mv (.t 0) none⟩,
      ⟨some 6, none, .ln (.t 5)⟩,
      ⟨some 7, none, .ms 3 [.int .i64 0, .int .i64 0, .int .i64 0] (.t 6)⟩,
      ⟨some 3, none, .mv (.t 7) none⟩])
   (.sq (.sq (.rg none [⟨some 4, none, .mv (.k (.int .i64 0)) none⟩])
    (.bl 0 (.lp [0, 3, 4] [224] (.sq (.sq (.rg none [⟨some 8, none, .mv (.t 4) none⟩,
          ⟨some 9, none, .mv (.t 0) none⟩,
          ⟨some 10, none, .ln (.t 9)⟩,
          ⟨some 11, none, .bi .lss 0 (.t 8) (.t 10)⟩])
       (.cd (.t 11) (.sk)
       (.ex 0)))
      (.sq (.bl 1 (.rg none [⟨some 14, none, .mv (.t 3) none⟩,
          ⟨some 15, none, .mv (.t 4) none⟩,
          ⟨some 16, none, .mv (.t 0) none⟩,
          ⟨some 17, none, .mv (.t 4) none⟩,
          ⟨some 18, none, .ia 3 (.t 16) (.t 17)⟩,
          ⟨some 19, none, .ld (some 3) (.t 18)⟩,
          ⟨some 20, none, .ca .pure true (.f fid_laws_toIntA3) [.t 19]⟩,
          ⟨some 21, none, .ia 3 (.t 14) (.t 15)⟩,
          ⟨none, none, .st 3 (.t 21) (.t 20)⟩]))
      (.rg none [⟨some 12, none, .mv (.t 4) none⟩,
        ⟨some 13, none, .bi .add 0 (.t 12) (.k (.int .i64 1))⟩,
        ⟨some 4, none, .mv (.t 13) none⟩]))))))
   (.sq (.rg none [⟨some 22, none, .mv (.t 3) none⟩,
      ⟨some 2, none, .mv (.t 22) none⟩])
   (.rt))))) }
theorem k_laws_toIntA3S : chkF Go.Proofs.Try.prog fid_laws_toIntA3S c_laws_toIntA3S = true := by kernel_rfl

def c_laws_eqBigraphS : F2 :=
  { nt := 27, res := [.t 4 [0]], body :=
   (.sq (.rg none [⟨some 4, none, .mv (.k (.bool false)) none⟩])
   (.sq (.sq (.rg none [⟨some 6, none, .mv (.t 0) none⟩,
       ⟨some 7, none, .ln (.t 6)⟩,
       ⟨some 8, none, .mv (.t 1) none⟩,
       ⟨some 9, none, .ln (.t 8)⟩,
       ⟨some 10, none, .bi .neq 0 (.t 7) (.t 9)⟩])
    (.cd (.t 10) (.sq (.rg none [⟨some 4, none, .mv (.k (.bool false)) none⟩])
     (.rt))
    (.sk)))
   (.sq (.sq (.rg none [⟨some 5, none, .mv (.k (.int .i64 0)) none⟩])
    (.bl 0 (.lp [0, 1, 5] [] (.sq (.sq (.rg none [⟨some 11, none, .mv (.t 5) none⟩,
          ⟨some 12, none, .mv (.t 0) none⟩,
          ⟨some 13, none, .ln (.t 12)⟩,
          ⟨some 14, none, .bi .lss 0 (.t 11) (.t 13)⟩])
       (.cd (.t 14) (.sk)
       (.ex 0)))
      (.sq (.bl 1 (.sq (.rg (some 0) [⟨some 17, none, .mv (.t 0) none⟩,
           ⟨some 18, none, .mv (.t 5) none⟩,
           ⟨some 19, none, .ia 6 (.t 17) (.t 18)⟩,
           ⟨some 20, none, .ld (some 6) (.t 19)⟩,
           ⟨some 21, none, .mv (.t 1) none⟩,
           ⟨some 22, none, .mv (.t 5) none⟩,
           ⟨some 23, none, .ia 6 (.t 21) (.t 22)⟩,
           ⟨some 24, none, .ld (some 6) (.t 23)⟩,
           ⟨some 25, none, .ca .pure false (.f fid_laws_eqBigraph) [.t 20, .t 24]⟩,
           ⟨some 26, none, .nt (.t 25)⟩])
        (.cd (.t 26) (.sq (.rg none [⟨some 4, none, .mv (.k (.bool false)) none⟩])
         (.rt))
        (.sk))))
      (.rg none [⟨some 15, none, .mv (.t 5) none⟩,
        ⟨some 16, none, .bi .add 0 (.t 15) (.k (.int .i64 1))⟩,
        ⟨some 5, none, .mv (.t 16) none⟩]))))))
   (.sq (.rg none [⟨some 4, none, .mv (.k (.bool true)) none⟩])
   (.rt))))) }
theorem k_laws_eqBigraphS : chkF Go.Proofs.Try.prog fid_laws_eqBigraphS c_laws_eqBigraphS = true := by kernel_rfl

def c_laws_eqIntA3S : F2 :=
  { nt := 27, res := [.t 4 [0]], body :=
   (.sq (.rg none [⟨some 4, none, .mv (.k (.bool false)) none⟩])
   (.sq (.sq (.rg none [⟨some 6, none, .mv (.t 0) none⟩,
       ⟨some 7, none, .ln (.t 6)⟩,
       ⟨some 8, none, .mv (.t 1) none⟩,
       ⟨some 9, none, .ln (.t 8)⟩,
       ⟨some 10, none, .bi .neq 0 (.t 7) (.t 9)⟩])
    (.cd (.t 10) (.sq (.rg none [⟨some 4, none, .mv (.k (.bool false)) none⟩])
     (.rt))
    (.sk)))
   (.sq (.sq (.rg none [⟨some 5, none, .mv (.k (.int .i64 0)) none⟩])
    (.bl 0 (.lp [0, 1, 5] [] (.sq (.sq (.rg none [⟨some 11, none, .mv (.t 5) none⟩,
          ⟨some 12, none, .mv (.t 0) none⟩,
          ⟨some 13, none, .ln (.t 12)⟩,
          ⟨some 14, none, .bi .lss 0 (.t 11) (.t 13)⟩])
       (.cd (.t 14) (.sk)
       (.ex 0)))
      (.sq (.bl 1 (.sq (.rg (some 0) [⟨some 17, none, .mv (.t 0) none⟩,
           ⟨some 18, none, .mv (.t 5) none⟩,
           ⟨some 19, none, .ia 3 (.t 17) (.t 18)⟩,
           ⟨some 20, none, .ld (some 3) (.t 19)⟩,
           ⟨some 21, none, .mv (.t 1) none⟩,
           ⟨some 22, none, .mv (.t 5) none⟩,
           ⟨some 23, none, .ia 3 (.t 21) (.t 22)⟩,
           ⟨some 24, none, .ld (some 3) (.t 23)⟩,
           ⟨some 25, none, .ca .pure false (.f fid_laws_eqIntA3) [.t 20, .t 24]⟩,
           ⟨some 26, none, .nt (.t 25)⟩])
        (.cd (.t 26) (.sq (.rg none [⟨some 4, none, .mv (.k (.bool false)) none⟩])
         (.rt))
        (.sk))))
      (.rg none [⟨some 15, none, .mv (.t 5) none⟩,
        ⟨some 16, none, .bi .add 0 (.t 15) (.k (.int .i64 1))⟩,
        ⟨some 5, none, .mv (.t 16) none⟩]))))))
   (.sq (.rg none [⟨some 4, none, .mv (.k (.bool true)) none⟩])
   (.rt))))) }
theorem k_laws_eqIntA3S : chkF Go.Proofs.Try.prog fid_laws_eqIntA3S c_laws_eqIntA3S = true := by kernel_rfl

def c_laws_markBigraphS : F2 :=
  { nt := 55, res := [.t 4 [0]], body :=
   (.sq (.rg none [⟨some 4, none, .mv (.k (.int .i64 0)) none⟩])
   (.sq (.sq (.rg none [⟨some 5, none, .mv (.k (.int .i64 0)) none⟩])
    (.bl 0 (.lp [0, 1, 5] [] (.sq (.sq (.rg none [⟨some 6, none, .mv (.t 5) none⟩,
          ⟨some 7, none, .mv (.t 0) none⟩,
          ⟨some 8, none, .ln (.t 7)⟩,
          ⟨some 9, none, .bi .lss 0 (.t 6) (.t 8)⟩])
       (.cd (.t 9) (.sk)
       (.ex 0)))
      (.sq (.bl 1 (.sq (.rg none [⟨some 12, none, .mv (.t 0) none⟩,
           ⟨some 13, none, .mv (.t 5) none⟩,
           ⟨some 14, none, .mv (.t 1) none⟩,
           ⟨some 15, none, .ia 6 (.t 12) (.t 13)⟩,
           ⟨some 16, none, .fa 0 (.t 15)⟩,
           ⟨none, none, .st 1 (.t 16) (.t 14)⟩])
        (.sq (.rg none [⟨some 17, none, .mv (.t 1) none⟩,
           ⟨some 18, none, .bi .add 0 (.t 17) (.k (.int .i64 1))⟩,
           ⟨some 1, none, .mv (.t 18) none⟩])
        (.sq (.rg none [⟨some 19, none, .mv (.t 0) none⟩,
           ⟨some 20, none, .mv (.t 5) none⟩,
           ⟨some 21, none, .ia 6 (.t 19) (.t 20)⟩,
           ⟨some 22, none, .fa 1 (.t 21)⟩,
           ⟨some 23, none, .ld none (.t 22)⟩,
           ⟨some 24, none, .mv (.t 1) none⟩,
           ⟨some 25, none, .ca .pure false (.f fid_laws_markNodeS) [.t 23, .t 24]⟩,
           ⟨some 1, none, .mv (.t 25) none⟩])
        (.sq (.rg none [⟨some 26, none, .mv (.t 0) none⟩,
           ⟨some 27, none, .mv (.t 5) none⟩,
           ⟨some 28, none, .ia 6 (.t 26) (.t 27)⟩,
           ⟨some 29, none, .fa 2 (.t 28)⟩,
           ⟨some 30, none, .ld none (.t 29)⟩,
           ⟨some 31, none, .mv (.t 1) none⟩,
           ⟨some 32, none, .ca .pure false (.f fid_laws_markIntS) [.t 30, .t 31]⟩,
           ⟨some 1, none, .mv (.t 32) none⟩])
        (.sq (.rg none [⟨some 33, none, .mv (.t 0) none⟩,
           ⟨some 34, none, .mv (.t 5) none⟩,
           ⟨some 35, none, .mv (.t 1) none⟩,
           ⟨some 36, none, .ia 6 (.t 33) (.t 34)⟩,
           ⟨some 37, none, .fa 3 (.t 36)⟩,
           ⟨none, none, .st 1 (.t 37) (.t 35)⟩])
        (.sq (.rg none [⟨some 38, none, .mv (.t 1) none⟩,
           ⟨some 39, none, .bi .add 0 (.t 38) (.k (.int .i64 1))⟩,
           ⟨some 1, none, .mv (.t 39) none⟩])
        (.sq (.rg none [⟨some 40, none, .mv (.t 0) none⟩,
           ⟨some 41, none, .mv (.t 5) none⟩,
           ⟨some 42, none, .ia 6 (.t 40) (.t 41)⟩,
           ⟨some 43, none, .fa 4 (.t 42)⟩,
           ⟨some 44, none, .ld none (.t 43)⟩,
           ⟨some 45, none, .mv (.t 1) none⟩,
           ⟨some 46, none, .ca .pure false (.f fid_laws_markStringS) [.t 44, .t 45]⟩,
           ⟨some 1, none, .mv (.t 46) none⟩])
        (.rg none [⟨some 47, none, .mv (.t 0) none⟩,
          ⟨some 48, none, .mv (.t 5) none⟩,
          ⟨some 49, none, .ia 6 (.t 47) (.t 48)⟩,
          ⟨some 50, none, .fa 5 (.t 49)⟩,
          ⟨some 51, none, .ld none (.t 50)⟩,
          ⟨some 52, none, .mv (.t 1) none⟩,
          ⟨some 53, none, .ca .pure false (.f fid_laws_markWireS) [.t 51, .t 52]⟩,
          ⟨some 1, none, .mv (.t 53) none⟩])))))))))
      (.rg none [⟨some 10, none, .mv (.t 5) none⟩,
        ⟨some 11, none, .bi .add 0 (.t 10) (.k (.int .i64 1))⟩,
        ⟨some 5, none, .mv (.t 11) none⟩]))))))
   (.sq (.rg none [⟨some 54, none, .mv (.t 1) none⟩,
      ⟨some 4, none, .mv (.t 54) none⟩])
   (.rt)))) }
theorem k_laws_markBigraphS : chkF Go.Proofs.Try.prog fid_laws_markBigraphS c_laws_markBigraphS = true := by kernel_rfl

def c_laws_markIntA3S : F2 :=
  { nt := 26, res := [.t 4 [0]], body :=
   (.sq (.rg none [⟨some 4, none, .mv (.k (.int .i64 0)) none⟩])
   (.sq (.sq (.rg none [⟨some 5, none, .mv (.k (.int .i64 0)) none⟩])
    (.bl 0 (.lp [0, 1, 5] [] (.sq (.sq (.rg none [⟨some 7, none, .mv (.t 5) none⟩,
          ⟨some 8, none, .mv (.t 0) none⟩,
          ⟨some 9, none, .ln (.t 8)⟩,
          ⟨some 10, none, .bi .lss 0 (.t 7) (.t 9)⟩])
       (.cd (.t 10) (.sk)
       (.ex 0)))
      (.sq (.bl 1 (.sq (.rg none [⟨some 6, none, .mv (.k (.int .i64 0)) none⟩])
        (.bl 2 (.lp [0, 1, 5, 6] [] (.sq (.sq (.rg none [⟨some 13, none, .mv (.t 6) none⟩,
              ⟨some 14, none, .bi .lss 0 (.t 13) (.k (.int .i64 3))⟩])
           (.cd (.t 14) (.sk)
           (.ex 2)))
          (.sq (.bl 3 (.sq (.rg none [⟨some 17, none, .mv (.t 0) none⟩,
               ⟨some 18, none, .mv (.t 5) none⟩,
               ⟨some 19, none, .mv (.t 6) none⟩,
               ⟨some 20, none, .mv (.t 1) none⟩,
               ⟨some 21, none, .ia 3 (.t 17) (.t 18)⟩,
               ⟨some 22, none, .ja 1 3 (.t 21) (.t 19)⟩,
               ⟨none, none, .st 1 (.t 22) (.t 20)⟩])
            (.rg none [⟨some 23, none, .mv (.t 1) none⟩,
              ⟨some 24, none, .bi .add 0 (.t 23) (.k (.int .i64 1))⟩,
              ⟨some 1, none, .mv (.t 24) none⟩])))
          (.rg none [⟨some 15, none, .mv (.t 6) none⟩,
            ⟨some 16, none, .bi .add 0 (.t 15) (.k (.int .i64 1))⟩,
            ⟨some 6, none, .mv (.t 16) none⟩])))))))
      (.rg none [⟨some 11, none, .mv (.t 5) none⟩,
        ⟨some 12, none, .bi .add 0 (.t 11) (.k (.int .i64 1))⟩,
        ⟨some 5, none, .mv (.t 12) none⟩]))))))
   (.sq (.rg none [⟨some 25, none, .mv (.t 1) none⟩,
      ⟨some 4, none, .mv (.t 25) none⟩])
   (.rt)))) }
theorem k_laws_markIntA3S : chkF Go.Proofs.Try.prog fid_laws_markIntA3S c_laws_markIntA3S = true := by kernel_rfl

def c_laws_szBigraph : F2 :=
  { nt := 30, res := [.t 4 [0]], body :=
   (.sq (.rg none [⟨some 2, none, .bt (.t 0)⟩,
      ⟨some 4, none, .mv (.k (.int .i64 0)) none⟩])
   (.sq (.rg none [⟨some 5, none, .fa 1 (.t 2)⟩,
      ⟨some 6, none, .ld none (.t 5)⟩,
      ⟨some 7, none, .mv (.t 1) none⟩,
      ⟨some 8, none, .ca .pure false (.f fid_laws_szNodeS) [.t 6, .t 7]⟩,
      ⟨some 1, none, .mv (.t 8) none⟩])
   (.sq (.sq (.rg none [⟨some 9, none, .mv (.t 1) none⟩,
       ⟨some 10, none, .bi .lss 0 (.t 9) (.k (.int .i64 0))⟩])
    (.cd (.t 10) (.sq (.rg none [⟨some 4, none, .mv (.k (.int .i64 (-1))) none⟩])
     (.rt))
    (.sk)))
   (.sq (.rg none [⟨some 11, none, .fa 2 (.t 2)⟩,
      ⟨some 12, none, .ld none (.t 11)⟩,
      ⟨some 13, none, .mv (.t 1) none⟩,
      ⟨some 14, none, .ca .pure false (.f fid_laws_szIntS) [.t 12, .t 13]⟩,
      ⟨some 1, none, .mv (.t 14) none⟩])
   (.sq (.sq (.rg none [⟨some 15, none, .mv (.t 1) none⟩,
       ⟨some 16, none, .bi .lss 0 (.t 15) (.k (.int .i64 0))⟩])
    (.cd (.t 16) (.sq (.rg none [⟨some 4, none, .mv (.k (.int .i64 (-1))) none⟩])
     (.rt))
    (.sk)))
   (.sq (.rg none [⟨some 17, none, .fa 4 (.t 2)⟩,
      ⟨some 18, none, .ld none (.t 17)⟩,
      ⟨some 19, none, .mv (.t 1) none⟩,
      ⟨some 20, none, .ca .pure false (.f fid_laws_szStringS) [.t 18, .t 19]⟩,
      ⟨some 1, none, .mv (.t 20) none⟩])
   (.sq (.sq (.rg none [⟨some 21, none, .mv (.t 1) none⟩,
       ⟨some 22, none, .bi .lss 0 (.t 21) (.k (.int .i64 0))⟩])
    (.cd (.t 22) (.sq (.rg none [⟨some 4, none, .mv (.k (.int .i64 (-1))) none⟩])
     (.rt))
    (.sk)))
   (.sq (.rg none [⟨some 23, none, .fa 5 (.t 2)⟩,
      ⟨some 24, none, .ld none (.t 23)⟩,
      ⟨some 25, none, .mv (.t 1) none⟩,
      ⟨some 26, none, .ca .pure false (.f fid_laws_szWireS) [.t 24, .t 25]⟩,
      ⟨some 1, none, .mv (.t 26) none⟩])
   (.sq (.sq (.rg none [⟨some 27, none, .mv (.t 1) none⟩,
       ⟨some 28, none, .bi .lss 0 (.t 27) (.k (.int .i64 0))⟩])
    (.cd (.t 28) (.sq (.rg none [⟨some 4, none, .mv (.k (.int .i64 (-1))) none⟩])
     (.rt))
    (.sk)))
   (.sq (.rg none [⟨some 29, none, .mv (.t 1) none⟩,
      ⟨some 4, none, .mv (.t 29) none⟩])
   (.rt))))))))))) }
theorem k_laws_szBigraph : chkF Go.Proofs.Try.prog fid_laws_szBigraph c_laws_szBigraph = true := by kernel_rfl

def c_laws_toBigraph : F2 :=
  { nt := 27, res := [.c 2 (some 6) [0, 4, 2, 0, 2, 3]], body :=
   (.sq (.rg none [⟨some 1, none, .bt (.t 0)⟩,
      ⟨some 2, none, .al [.int .i64 0, .slice none 0 0, .slice none 0 0, .int .i64 0, .slice none 0 0, .slice none 0 0] []⟩])
   (.sq (.rg none [⟨some 3, none, .al [.int .i64 0, .slice none 0 0, .slice none 0 0, .int .i64 0, .slice none 0 0, .slice none 0 0] []⟩])
   (.sq (.rg none [⟨some 4, none, .fa 0 (.t 1)⟩,
      ⟨some 5, none, .ld none (.t 4)⟩,
      ⟨some 6, none, .fa 0 (.t 3)⟩,
      ⟨none, none, .st 1 (.t 6) (.t 5)⟩])
   (.sq (.rg none [⟨some 7, none, .fa 1 (.t 1)⟩,
      ⟨some 8, none, .ld none (.t 7)⟩,
      ⟨some 9, none, .ca .pure true (.f fid_laws_toNodeS) [.t 8]⟩,
      ⟨some 10, none, .fa 1 (.t 3)⟩,
      ⟨none, none, .st 1 (.t 10) (.t 9)⟩])
   (.sq (.rg none [⟨some 11, none, .fa 2 (.t 1)⟩,
      ⟨some 12, none, .ld none (.t 11)⟩,
      ⟨some 13, none, .ca .pure true (.f fid_laws_toIntS) [.t 12]⟩,
      ⟨some 14, none, .fa 2 (.t 3)⟩,
      ⟨none, none, .st 1 (.t 14) (.t 13)⟩])
   (.sq (.rg none [⟨some 15, none, .fa 3 (.t 1)⟩,
      ⟨some 16, none, .ld none (.t 15)⟩,
      ⟨some 17, none, .fa 3 (.t 3)⟩,
      ⟨none, none, .st 1 (.t 17) (.t 16)⟩])
   (.sq (.rg none [⟨some 18, none, .fa 4 (.t 1)⟩,
      ⟨some 19, none, .ld none (.t 18)⟩,
      ⟨some 20, none, .ca .pure true (.f fid_laws_toStringS) [.t 19]⟩,
      ⟨some 21, none, .fa 4 (.t 3)⟩,
      ⟨none, none, .st 1 (.t 21) (.t 20)⟩])
   (.sq (.rg none [⟨some 22, none, .fa 5 (.t 1)⟩,
      ⟨some 23, none, .ld none (.t 22)⟩,
      ⟨some 24, none, .ca .pure true (.f fid_laws_toWireS) [.t 23]⟩,
      ⟨some 25, none, .fa 5 (.t 3)⟩,
      ⟨none, none, .st 1 (.t 25) (.t 24)⟩])
   (.sq (.rg none [⟨some 26, none, .ld (some 6) (.t 3)⟩,
      ⟨none, none, .st 6 (.t 2) (.t 26)⟩])
   (.rt)))))))))) }
theorem k_laws_toBigraph : chkF Go.Proofs.Try.prog fid_laws_toBigraph c_laws_toBigraph = true := by kernel_rfl

def c_laws_toIntA3 : F2 :=
  { nt := 15, res := [.c 2 (some 3) [0, 0, 0]], body :=
   (.sq (.rg none [⟨some 1, none, .bt (.t 0)⟩,
      ⟨some 2, none, .al [.int .i64 0, .int .i64 0, .int .i64 0] []⟩])
   (.sq (.rg none [⟨some 3, none, .al [.int .i64 0, .int .i64 0, .int .i64 0] []⟩])
   (.sq (.sq (.rg none [⟨some 4, none, .mv (.k (.int .i64 0)) none⟩])
    (.bl 0 (.lp [1, 2, 3, 4] [64, 96] (.sq (.sq (.rg none [⟨some 5, none, .mv (.t 4) none⟩,
          ⟨some 6, none, .bi .lss 0 (.t 5) (.k (.int .i64 3))⟩])
       (.cd (.t 6) (.sk)
       (.ex 0)))
      (.sq (.bl 1 (.rg none [⟨some 9, none, .mv (.t 4) none⟩,
          ⟨some 10, none, .mv (.t 4) none⟩,
          ⟨some 11, none, .ja 1 3 (.t 1) (.t 10)⟩,
          ⟨some 12, none, .ld none (.t 11)⟩,
          ⟨some 13, none, .ja 1 3 (.t 3) (.t 9)⟩,
          ⟨none, none, .st 1 (.t 13) (.t 12)⟩]))
      (.rg none [⟨some 7, none, .mv (.t 4) none⟩,
        ⟨some 8, none, .bi .add 0 (.t 7) (.k (.int .i64 1))⟩,
        ⟨some 4, none, .mv (.t 8) none⟩]))))))
   (.sq (.rg none [⟨some 14, none, .ld (some 3) (.t 3)⟩,
      ⟨none, none, .st 3 (.t 2) (.t 14)⟩])
   (.rt))))) }
theorem k_laws_toIntA3 : chkF Go.Proofs.Try.prog fid_laws_toIntA3 c_laws_toIntA3 = true := by kernel_rfl

def c_laws_eqBigraph : F2 :=
  { nt := 39, res := [.t 4 [0]], body :=
   (.sq (.rg none [⟨some 2, none, .bt (.t 0)⟩,
      ⟨some 3, none, .bt (.t 1)⟩,
      ⟨some 4, none, .mv (.k (.bool false)) none⟩])
   (.sq (.sq (.rg none [⟨some 5, none, .fa 0 (.t 2)⟩,
       ⟨some 6, none, .ld none (.t 5)⟩,
       ⟨some 7, none, .fa 0 (.t 3)⟩,
       ⟨some 8, none, .ld none (.t 7)⟩,
       ⟨some 9, none, .bi .neq 0 (.t 6) (.t 8)⟩])
    (.cd (.t 9) (.sq (.rg none [⟨some 4, none, .mv (.k (.bool false)) none⟩])
     (.rt))
    (.sk)))
   (.sq (.sq (.rg none [⟨some 10, none, .fa 1 (.t 2)⟩,
       ⟨some 11, none, .ld none (.t 10)⟩,
       ⟨some 12, none, .fa 1 (.t 3)⟩,
       ⟨some 13, none, .ld none (.t 12)⟩,
       ⟨some 14, none, .ca .pure false (.f fid_laws_eqNodeS) [.t 11, .t 13]⟩,
       ⟨some 15, none, .nt (.t 14)⟩])
    (.cd (.t 15) (.sq (.rg none [⟨some 4, none, .mv (.k (.bool false)) none⟩])
     (.rt))
    (.sk)))
   (.sq (.sq (.rg none [⟨some 16, none, .fa 2 (.t 2)⟩,
       ⟨some 17, none, .ld none (.t 16)⟩,
       ⟨some 18, none, .fa 2 (.t 3)⟩,
       ⟨some 19, none, .ld none (.t 18)⟩,
       ⟨some 20, none, .ca .pure false (.f fid_laws_eqIntS) [.t 17, .t 19]⟩,
       ⟨some 21, none, .nt (.t 20)⟩])
    (.cd (.t 21) (.sq (.rg none [⟨some 4, none, .mv (.k (.bool false)) none⟩])
     (.rt))
    (.sk)))
   (.sq (.sq (.rg none [⟨some 22, none, .fa 3 (.t 2)⟩,
       ⟨some 23, none, .ld none (.t 22)⟩,
       ⟨some 24, none, .fa 3 (.t 3)⟩,
       ⟨some 25, none, .ld none (.t 24)⟩,
       ⟨some 26, none, .bi .neq 0 (.t 23) (.t 25)⟩])
    (.cd (.t 26) (.sq (.rg none [⟨some 4, none, .mv (.k (.bool false)) none⟩])
     (.rt))
    (.sk)))
   (.sq (.sq (.rg none [⟨some 27, none, .fa 4 (.t 2)⟩,
       ⟨some 28, none, .ld none (.t 27)⟩,
       ⟨some 29, none, .fa 4 (.t 3)⟩,
       ⟨some 30, none, .ld none (.t 29)⟩,
       ⟨some 31, none, .ca .pure false (.f fid_laws_eqStringS) [.t 28, .t 30]⟩,
       ⟨some 32, none, .nt (.t 31)⟩])
    (.cd (.t 32) (.sq (.rg none [⟨some 4, none, .mv (.k (.bool false)) none⟩])
     (.rt))
    (.sk)))
   (.sq (.sq (.rg none [⟨some 33, none, .fa 5 (.t 2)⟩,
       ⟨some 34, none, .ld none (.t 33)⟩,
       ⟨some 35, none, .fa 5 (.t 3)⟩,
       ⟨some 36, none, .ld none (.t 35)⟩,
       ⟨some 37, none, .ca .pure false (.f fid_laws_eqWireS) [.t 34, .t 36]⟩,
       ⟨some 38, none, .nt (.t 37)⟩])
    (.cd (.t 38) (.sq (.rg none [⟨some 4, none, .mv (.k (.bool false)) none⟩])
     (.rt))
    (.sk)))
   (.sq (.rg none [⟨some 4, none, .mv (.k (.bool true)) none⟩])
   (.rt))))))))) }
theorem k_laws_eqBigraph : chkF Go.Proofs.Try.prog fid_laws_eqBigraph c_laws_eqBigraph = true := by kernel_rfl

def c_laws_eqIntA3 : F2 :=
  { nt := 17, res := [.t 4 [0]], body :=
   (.sq (.rg none [⟨some 2, none, .bt (.t 0)⟩,
      ⟨some 3, none, .bt (.t 1)⟩,
      ⟨some 4, none, .mv (.k (.bool false)) none⟩])
   (.sq (.sq (.rg none [⟨some 5, none, .mv (.k (.int .i64 0)) none⟩])
    (.bl 0 (.lp [2, 3, 5] [] (.sq (.sq (.rg none [⟨some 6, none, .mv (.t 5) none⟩,
          ⟨some 7, none, .bi .lss 0 (.t 6) (.k (.int .i64 3))⟩])
       (.cd (.t 7) (.sk)
       (.ex 0)))
      (.sq (.bl 1 (.sq (.rg (some 0) [⟨some 10, none, .mv (.t 5) none⟩,
           ⟨some 11, none, .ja 1 3 (.t 2) (.t 10)⟩,
           ⟨some 12, none, .ld none (.t 11)⟩,
           ⟨some 13, none, .mv (.t 5) none⟩,
           ⟨some 14, none, .ja 1 3 (.t 3) (.t 13)⟩,
           ⟨some 15, none, .ld none (.t 14)⟩,
           ⟨some 16, none, .bi .neq 0 (.t 12) (.t 15)⟩])
        (.cd (.t 16) (.sq (.rg none [⟨some 4, none, .mv (.k (.bool false)) none⟩])
         (.rt))
        (.sk))))
      (.rg none [⟨some 8, none, .mv (.t 5) none⟩,
        ⟨some 9, none, .bi .add 0 (.t 8) (.k (.int .i64 1))⟩,
        ⟨some 5, none, .mv (.t 9) none⟩]))))))
   (.sq (.rg none [⟨some 4, none, .mv (.k (.bool true)) none⟩])
   (.rt)))) }
theorem k_laws_eqIntA3 : chkF Go.Proofs.Try.prog fid_laws_eqIntA3 c_laws_eqIntA3 = true := by kernel_rfl

def c_laws_markNodeS : F2 :=
  { nt := 34, res := [.t 4 [0]], body :=
   (.sq (.rg none [⟨some 4, none, .mv (.k (.int .i64 0)) none⟩])
   (.sq (.sq (.rg none [⟨some 5, none, .mv (.k (.int .i64 0)) none⟩])
    (.bl 0 (.lp [0, 1, 5] [] (.sq (.sq (.rg none [⟨some 6, none, .mv (.t 5) none⟩,
          ⟨some 7, none, .mv (.t 0) none⟩,
          ⟨some 8, none, .ln (.t 7)⟩,
          ⟨some 9, none, .bi .lss 0 (.t 6) (.t 8)⟩])
       (.cd (.t 9) (.sk)
       (.ex 0)))
      (.sq (.bl 1 (.sq (.rg none [⟨some 12, none, .mv (.t 0) none⟩,
           ⟨some 13, none, .mv (.t 5) none⟩,
           ⟨some 14, none, .mv (.t 1) none⟩,
           ⟨some 15, none, .ia 3 (.t 12) (.t 13)⟩,
           ⟨some 16, none, .fa 0 (.t 15)⟩,
           ⟨none, none, .st 1 (.t 16) (.t 14)⟩])
        (.sq (.rg none [⟨some 17, none, .mv (.t 1) none⟩,
           ⟨some 18, none, .bi .add 0 (.t 17) (.k (.int .i64 1))⟩,
           ⟨some 1, none, .mv (.t 18) none⟩])
        (.sq (.rg none [⟨some 19, none, .mv (.t 0) none⟩,
           ⟨some 20, none, .mv (.t 5) none⟩,
           ⟨some 21, none, .mv (.t 1) none⟩,
           ⟨some 22, none, .ia 3 (.t 19) (.t 20)⟩,
           ⟨some 23, none, .fa 1 (.t 22)⟩,
           ⟨none, none, .st 1 (.t 23) (.t 21)⟩])
        (.sq (.rg none [⟨some 24, none, .mv (.t 1) none⟩,
           ⟨some 25, none, .bi .add 0 (.t 24) (.k (.int .i64 1))⟩,
           ⟨some 1, none, .mv (.t 25) none⟩])
        (.rg none [⟨some 26, none, .mv (.t 0) none⟩,
          ⟨some 27, none, .mv (.t 5) none⟩,
          ⟨some 28, none, .ia 3 (.t 26) (.t 27)⟩,
          ⟨some 29, none, .fa 2 (.t 28)⟩,
          ⟨some 30, none, .ld none (.t 29)⟩,
          ⟨some 31, none, .mv (.t 1) none⟩,
          ⟨some 32, none, .ca .pure false (.f fid_laws_markIntS) [.t 30, .t 31]⟩,
          ⟨some 1, none, .mv (.t 32) none⟩]))))))
      (.rg none [⟨some 10, none, .mv (.t 5) none⟩,
        ⟨some 11, none, .bi .add 0 (.t 10) (.k (.int .i64 1))⟩,
        ⟨some 5, none, .mv (.t 11) none⟩]))))))
   (.sq (.rg none [⟨some 33, none, .mv (.t 1) none⟩,
      ⟨some 4, none, .mv (.t 33) none⟩])
   (.rt)))) }
theorem k_laws_markNodeS : chkF Go.Proofs.Try.prog fid_laws_markNodeS c_laws_markNodeS = true := by kernel_rfl

def c_laws_markStringS : F2 :=
  { nt := 20, res := [.t 4 [0]], body :=
   (.sq (.rg none [⟨some 4, none, .mv (.k (.int .i64 0)) none⟩])
   (.sq (.sq (.rg none [⟨some 5, none, .mv (.k (.int .i64 0)) none⟩])
    (.bl 0 (.lp [0, 1, 5] [] (.sq (.sq (.rg none [⟨some 6, none, .mv (.t 5) none⟩,
          ⟨some 7, none, .mv (.t 0) none⟩,
          ⟨some 8, none, .ln (.t 7)⟩,
          ⟨some 9, none, .bi .lss 0 (.t 6) (.t 8)⟩])
       (.cd (.t 9) (.sk)
       (.ex 0)))
      (.sq (.bl 1 (.sq (.rg none [⟨some 12, none, .mv (.t 0) none⟩,
           ⟨some 13, none, .mv (.t 5) none⟩,
           ⟨some 14, none, .mv (.t 1) none⟩,
           ⟨some 15, none, .ca .pure false (.f fid_laws_markText) [.t 14]⟩,
           ⟨some 16, none, .ia 1 (.t 12) (.t 13)⟩,
           ⟨none, none, .st 1 (.t 16) (.t 15)⟩])
        (.rg none [⟨some 17, none, .mv (.t 1) none⟩,
          ⟨some 18, none, .bi .add 0 (.t 17) (.k (.int .i64 1))⟩,
          ⟨some 1, none, .mv (.t 18) none⟩])))
      (.rg none [⟨some 10, none, .mv (.t 5) none⟩,
        ⟨some 11, none, .bi .add 0 (.t 10) (.k (.int .i64 1))⟩,
        ⟨some 5, none, .mv (.t 11) none⟩]))))))
   (.sq (.rg none [⟨some 19, none, .mv (.t 1) none⟩,
      ⟨some 4, none, .mv (.t 19) none⟩])
   (.rt)))) }
theorem k_laws_markStringS : chkF Go.Proofs.Try.prog fid_laws_markStringS c_laws_markStringS = true := by kernel_rfl

def c_laws_markWireS : F2 :=
  { nt := 28, res := [.t 4 [0]], body :=
   (.sq (.rg none [⟨some 4, none, .mv (.k (.int .i64 0)) none⟩])
   (.sq (.sq (.rg none [⟨some 5, none, .mv (.k (.int .i64 0)) none⟩])
    (.bl 0 (.lp [0, 1, 5] [] (.sq (.sq (.rg none [⟨some 6, none, .mv (.t 5) none⟩,
          ⟨some 7, none, .mv (.t 0) none⟩,
          ⟨some 8, none, .ln (.t 7)⟩,
          ⟨some 9, none, .bi .lss 0 (.t 6) (.t 8)⟩])
       (.cd (.t 9) (.sk)
       (.ex 0)))
      (.sq (.bl 1 (.sq (.rg none [⟨some 12, none, .mv (.t 0) none⟩,
           ⟨some 13, none, .mv (.t 5) none⟩,
           ⟨some 14, none, .mv (.t 1) none⟩,
           ⟨some 15, none, .ca .pure false (.f fid_laws_markText) [.t 14]⟩,
           ⟨some 16, none, .ia 2 (.t 12) (.t 13)⟩,
           ⟨some 17, none, .fa 0 (.t 16)⟩,
           ⟨none, none, .st 1 (.t 17) (.t 15)⟩])
        (.sq (.rg none [⟨some 18, none, .mv (.t 1) none⟩,
           ⟨some 19, none, .bi .add 0 (.t 18) (.k (.int .i64 1))⟩,
           ⟨some 1, none, .mv (.t 19) none⟩])
        (.sq (.rg none [⟨some 20, none, .mv (.t 0) none⟩,
           ⟨some 21, none, .mv (.t 5) none⟩,
           ⟨some 22, none, .mv (.t 1) none⟩,
           ⟨some 23, none, .ia 2 (.t 20) (.t 21)⟩,
           ⟨some 24, none, .fa 1 (.t 23)⟩,
           ⟨none, none, .st 1 (.t 24) (.t 22)⟩])
        (.rg none [⟨some 25, none, .mv (.t 1) none⟩,
          ⟨some 26, none, .bi .add 0 (.t 25) (.k (.int .i64 1))⟩,
          ⟨some 1, none, .mv (.t 26) none⟩])))))
      (.rg none [⟨some 10, none, .mv (.t 5) none⟩,
        ⟨some 11, none, .bi .add 0 (.t 10) (.k (.int .i64 1))⟩,
        ⟨some 5, none, .mv (.t 11) none⟩]))))))
   (.sq (.rg none [⟨some 27, none, .mv (.t 1) none⟩,
      ⟨some 4, none, .mv (.t 27) none⟩])
   (.rt)))) }
theorem k_laws_markWireS : chkF Go.Proofs.Try.prog fid_laws_markWireS c_laws_markWireS = true := by kernel_rfl

def c_laws_szNodeS : F2 :=
  { nt := 27, res := [.t 4 [0]], body :=
   (.sq (.rg none [⟨some 4, none, .mv (.k (.int .i64 0)) none⟩])
   (.sq (.rg none [⟨some 6, none, .mv (.t 1) none⟩,
      ⟨some 7, none, .mv (.t 0) none⟩,
      ⟨some 8, none, .ln (.t 7)⟩,
      ⟨some 9, none, .bi .sub 0 (.t 6) (.t 8)⟩,
      ⟨some 1, none, .mv (.t 9) none⟩])
   (.sq (.sq (.rg none [⟨some 10, none, .mv (.t 1) none⟩,
       ⟨some 11, none, .bi .lss 0 (.t 10) (.k (.int .i64 0))⟩])
    (.cd (.t 11) (.sq (.rg none [⟨some 4, none, .mv (.k (.int .i64 (-1))) none⟩])
     (.rt))
    (.sk)))
   (.sq (.sq (.rg none [⟨some 5, none, .mv (.k (.int .i64 0)) none⟩])
    (.bl 0 (.lp [0, 1, 5] [] (.sq (.sq (.rg none [⟨some 12, none, .mv (.t 5) none⟩,
          ⟨some 13, none, .mv (.t 0) none⟩,
          ⟨some 14, none, .ln (.t 13)⟩,
          ⟨some 15, none, .bi .lss 0 (.t 12) (.t 14)⟩])
       (.cd (.t 15) (.sk)
       (.ex 0)))
      (.sq (.bl 1 (.sq (.rg none [⟨some 18, none, .mv (.t 0) none⟩,
           ⟨some 19, none, .mv (.t 5) none⟩,
           ⟨some 20, none, .ia 3 (.t 18) (.t 19)⟩,
           ⟨some 21, none, .ld (some 3) (.t 20)⟩,
           ⟨some 22, none, .mv (.t 1) none⟩,
           ⟨some 23, none, .ca .pure false (.f fid_laws_szNode) [.t 21, .t 22]⟩,
           ⟨some 1, none, .mv (.t 23) none⟩])
        (.sq (.rg none [⟨some 24, none, .mv (.t 1) none⟩,
           ⟨some 25, none, .bi .lss 0 (.t 24) (.k (.int .i64 0))⟩])
        (.cd (.t 25) (.sq (.rg none [⟨some 4, none, .mv (.k (.int .i64 (-1))) none⟩])
         (.rt))
        (.sk)))))
      (.rg none [⟨some 16, none, .mv (.t 5) none⟩,
        ⟨some 17, none, .bi .add 0 (.t 16) (.k (.int .i64 1))⟩,
        ⟨some 5, none, .mv (.t 17) none⟩]))))))
   (.sq (.rg none [⟨some 26, none, .mv (.t 1) none⟩,
      ⟨some 4, none, .mv (.t 26) none⟩])
   (.rt)))))) }
theorem k_laws_szNodeS : chkF Go.Proofs.Try.prog fid_laws_szNodeS c_laws_szNodeS = true := by kernel_rfl

def c_laws_szIntS : F2 :=
  { nt := 12, res := [.t 4 [0]], body :=
   (.sq (.rg none [⟨some 4, none, .mv (.k (.int .i64 0)) none⟩])
   (.sq (.rg none [⟨some 5, none, .mv (.t 1) none⟩,
      ⟨some 6, none, .mv (.t 0) none⟩,
      ⟨some 7, none, .ln (.t 6)⟩,
      ⟨some 8, none, .bi .sub 0 (.t 5) (.t 7)⟩,
      ⟨some 1, none, .mv (.t 8) none⟩])
   (.sq (.sq (.rg none [⟨some 9, none, .mv (.t 1) none⟩,
       ⟨some 10, none, .bi .lss 0 (.t 9) (.k (.int .i64 0))⟩])
    (.cd (.t 10) (.sq (.rg none [⟨some 4, none, .mv (.k (.int .i64 (-1))) none⟩])
     (.rt))
    (.sk)))
   (.sq (.rg none [⟨some 11, none, .mv (.t 1) none⟩,
      ⟨some 4, none, .mv (.t 11) none⟩])
   (.rt))))) }
theorem k_laws_szIntS : chkF Go.Proofs.Try.prog fid_laws_szIntS c_laws_szIntS = true := by kernel_rfl

def c_laws_szStringS : F2 :=
  { nt := 28, res := [.t 4 [0]], body :=
   (.sq (.rg none [⟨some 4, none, .mv (.k (.int .i64 0)) none⟩])
   (.sq (.rg none [⟨some 6, none, .mv (.t 1) none⟩,
      ⟨some 7, none, .mv (.t 0) none⟩,
      ⟨some 8, none, .ln (.t 7)⟩,
      ⟨some 9, none, .bi .sub 0 (.t 6) (.t 8)⟩,
      ⟨some 1, none, .mv (.t 9) none⟩])
   (.sq (.sq (.rg none [⟨some 10, none, .mv (.t 1) none⟩,
       ⟨some 11, none, .bi .lss 0 (.t 10) (.k (.int .i64 0))⟩])
    (.cd (.t 11) (.sq (.rg none [⟨some 4, none, .mv (.k (.int .i64 (-1))) none⟩])
     (.rt))
    (.sk)))
   (.sq (.sq (.rg none [⟨some 5, none, .mv (.k (.int .i64 0)) none⟩])
    (.bl 0 (.lp [0, 1, 5] [] (.sq (.sq (.rg none [⟨some 12, none, .mv (.t 5) none⟩,
          ⟨some 13, none, .mv (.t 0) none⟩,
          ⟨some 14, none, .ln (.t 13)⟩,
          ⟨some 15, none, .bi .lss 0 (.t 12) (.t 14)⟩])
       (.cd (.t 15) (.sk)
       (.ex 0)))
      (.sq (.bl 1 (.sq (.rg none [⟨some 18, none, .mv (.t 1) none⟩,
           ⟨some 19, none, .mv (.t 0) none⟩,
           ⟨some 20, none, .mv (.t 5) none⟩,
           ⟨some 21, none, .ia 1 (.t 19) (.t 20)⟩,
           ⟨some 22, none, .ld none (.t 21)⟩,
           ⟨some 23, none, .lg (.t 22)⟩,
           ⟨some 24, none, .bi .sub 0 (.t 18) (.t 23)⟩,
           ⟨some 1, none, .mv (.t 24) none⟩])
        (.sq (.rg none [⟨some 25, none, .mv (.t 1) none⟩,
           ⟨some 26, none, .bi .lss 0 (.t 25) (.k (.int .i64 0))⟩])
        (.cd (.t 26) (.sq (.rg none [⟨some 4, none, .mv (.k (.int .i64 (-1))) none⟩])
         (.rt))
        (.sk)))))
      (.rg none [⟨some 16, none, .mv (.t 5) none⟩,
        ⟨some 17, none, .bi .add 0 (.t 16) (.k (.int .i64 1))⟩,
        ⟨some 5, none, .mv (.t 17) none⟩]))))))
   (.sq (.rg none [⟨some 27, none, .mv (.t 1) none⟩,
      ⟨some 4, none, .mv (.t 27) none⟩])
   (.rt)))))) }
theorem k_laws_szStringS : chkF Go.Proofs.Try.prog fid_laws_szStringS c_laws_szStringS = true := by kernel_rfl

def c_laws_szWireS : F2 :=
  { nt := 27, res := [.t 4 [0]], body :=
   (.sq (.rg none [⟨some 4, none, .mv (.k (.int .i64 0)) none⟩])
   (.sq (.rg none [⟨some 6, none, .mv (.t 1) none⟩,
      ⟨some 7, none, .mv (.t 0) none⟩,
      ⟨some 8, none, .ln (.t 7)⟩,
      ⟨some 9, none, .bi .sub 0 (.t 6) (.t 8)⟩,
      ⟨some 1, none, .mv (.t 9) none⟩])
   (.sq (.sq (.rg none [⟨some 10, none, .mv (.t 1) none⟩,
       ⟨some 11, none, .bi .lss 0 (.t 10) (.k (.int .i64 0))⟩])
    (.cd (.t 11) (.sq (.rg none [⟨some 4, none, .mv (.k (.int .i64 (-1))) none⟩])
     (.rt))
    (.sk)))
   (.sq (.sq (.rg none [⟨some 5, none, .mv (.k (.int .i64 0)) none⟩])
    (.bl 0 (.lp [0, 1, 5] [] (.sq (.sq (.rg none [⟨some 12, none, .mv (.t 5) none⟩,
          ⟨some 13, none, .mv (.t 0) none⟩,
          ⟨some 14, none, .ln (.t 13)⟩,
          ⟨some 15, none, .bi .lss 0 (.t 12) (.t 14)⟩])
       (.cd (.t 15) (.sk)
       (.ex 0)))
      (.sq (.bl 1 (.sq (.rg none [⟨some 18, none, .mv (.t 0) none⟩,
           ⟨some 19, none, .mv (.t 5) none⟩,
           ⟨some 20, none, .ia 2 (.t 18) (.t 19)⟩,
           ⟨some 21, none, .ld (some 2) (.t 20)⟩,
           ⟨some 22, none, .mv (.t 1) none⟩,
           ⟨some 23, none, .ca .pure false (.f fid_laws_szWire) [.t 21, .t 22]⟩,
           ⟨some 1, none, .mv (.t 23) none⟩])
        (.sq (.rg none [⟨some 24, none, .mv (.t 1) none⟩,
           ⟨some 25, none, .bi .lss 0 (.t 24) (.k (.int .i64 0))⟩])
        (.cd (.t 25) (.sq (.rg none [⟨some 4, none, .mv (.k (.int .i64 (-1))) none⟩])
         (.rt))
        (.sk)))))
      (.rg none [⟨some 16, none, .mv (.t 5) none⟩,
        ⟨some 17, none, .bi .add 0 (.t 16) (.k (.int .i64 1))⟩,
        ⟨some 5, none, .mv (.t 17) none⟩]))))))
   (.sq (.rg none [⟨some 26, none, .mv (.t 1) none⟩,
      ⟨some 4, none, .mv (.t 26) none⟩])
   (.rt)))))) }
theorem k_laws_szWireS : chkF Go.Proofs.Try.prog fid_laws_szWireS c_laws_szWireS = true := by kernel_rfl

def c_laws_toNodeS : F2 :=
  { nt := 23, res := [.t 2 [4]], body :=
   (.sq (.rg none [⟨some 2, none, .mv (.k (.slice none 0 0)) none⟩])
   (.sq (.rg none [⟨some 5, none, .mv (.t 0) none⟩,
      ⟨some 6, none, .ln (.t 5)⟩,
      ⟨some 7, none, .ms 3 [.int .i64 0, .int .i64 0, .slice none 0 0] (.t 6)⟩,
      ⟨some 3, none, .mv (.t 7) none⟩])
   (.sq (.sq (.rg none [⟨some 4, none, .mv (.k (.int .i64 0)) none⟩])
    (.bl 0 (.lp [0, 3, 4] [224, 640] (.sq (.sq (.rg none [⟨some 8, none, .mv (.t 4) none⟩,
          ⟨some 9, none, .mv (.t 0) none⟩,
          ⟨some 10, none, .ln (.t 9)⟩,
          ⟨some 11, none, .bi .lss 0 (.t 8) (.t 10)⟩])
       (.cd (.t 11) (.sk)
       (.ex 0)))
      (.sq (.bl 1 (.rg none [⟨some 14, none, .mv (.t 3) none⟩,
          ⟨some 15, none, .mv (.t 4) none⟩,
          ⟨some 16, none, .mv (.t 0) none⟩,
          ⟨some 17, none, .mv (.t 4) none⟩,
          ⟨some 18, none, .ia 3 (.t 16) (.t 17)⟩,
          ⟨some 19, none, .ld (some 3) (.t 18)⟩,
          ⟨some 20, none, .ca .pure true (.f fid_laws_toNode) [.t 19]⟩,
          ⟨some 21, none, .ia 3 (.t 14) (.t 15)⟩,
          ⟨none, none, .st 3 (.t 21) (.t 20)⟩]))
      (.rg none [⟨some 12, none, .mv (.t 4) none⟩,
        ⟨some 13, none, .bi .add 0 (.t 12) (.k (.int .i64 1))⟩,
        ⟨some 4, none, .mv (.t 13) none⟩]))))))
   (.sq (.rg none [⟨some 22, none, .mv (.t 3) none⟩,
      ⟨some 2, none, .mv (.t 22) none⟩])
   (.rt))))) }
theorem k_laws_toNodeS : chkF Go.Proofs.Try.prog fid_laws_toNodeS c_laws_toNodeS = true := by kernel_rfl

def c_laws_toStringS : F2 :=
  { nt := 22, res := [.t 2 [2]], body :=
   (.sq (.rg none [⟨some 2, none, .mv (.k (.slice none 0 0)) none⟩])
   (.sq (.rg none [⟨some 5, none, .mv (.t 0) none⟩,
      ⟨some 6, none, .ln (.t 5)⟩,
      ⟨some 7, none, .ms 1 [.string ⟨#[]⟩] (.t 6)⟩,
      ⟨some 3, none, .mv (.t 7) none⟩])
   (.sq (.sq (.rg none [⟨some 4, none, .mv (.k (.int .i64 0)) none⟩])
    (.bl 0 (.lp [0, 3, 4] [224] (.sq (.sq (.rg none [⟨some 8, none, .mv (.t 4) none⟩,
          ⟨some 9, none, .mv (.t 0) none⟩,
          ⟨some 10, none, .ln (.t 9)⟩,
          ⟨some 11, none, .bi .lss 0 (.t 8) (.t 10)⟩])
       (.cd (.t 11) (.sk)
       (.ex 0)))
      (.sq (.bl 1 (.rg none [⟨some 14, none, .mv (.t 3) none⟩,
          ⟨some 15, none, .mv (.t 4) none⟩,
          ⟨some 16, none, .mv (.t 0) none⟩,
          ⟨some 17, none, .mv (.t 4) none⟩,
          ⟨some 18, none, .ia 1 (.t 16) (.t 17)⟩,
          ⟨some 19, none, .ld none (.t 18)⟩,
          ⟨some 20, none, .ia 1 (.t 14) (.t 15)⟩,
          ⟨none, none, .st 1 (.t 20) (.t 19)⟩]))
      (.rg none [⟨some 12, none, .mv (.t 4) none⟩,
        ⟨some 13, none, .bi .add 0 (.t 12) (.k (.int .i64 1))⟩,
        ⟨some 4, none, .mv (.t 13) none⟩]))))))
   (.sq (.rg none [⟨some 21, none, .mv (.t 3) none⟩,
      ⟨some 2, none, .mv (.t 21) none⟩])
   (.rt))))) }
theorem k_laws_toStringS : chkF Go.Proofs.Try.prog fid_laws_toStringS c_laws_toStringS = true := by kernel_rfl

def c_laws_toWireS : F2 :=
  { nt := 23, res := [.t 2 [3]], body :=
   (.sq (.rg none [⟨some 2, none, .mv (.k (.slice none 0 0)) none⟩])
   (.sq (.rg none [⟨some 5, none, .mv (.t 0) none⟩,
      ⟨some 6, none, .ln (.t 5)⟩,
      ⟨some 7, none, .ms 2 [.string ⟨#[]⟩, .int .i64 0] (.t 6)⟩,
      ⟨some 3, none, .mv (.t 7) none⟩])
   (.sq (.sq (.rg none [⟨some 4, none, .mv (.k (.int .i64 0)) none⟩])
    (.bl 0 (.lp [0, 3, 4] [224] (.sq (.sq (.rg none [⟨some 8, none, .mv (.t 4) none⟩,
          ⟨some 9, none, .mv (.t 0) none⟩,
          ⟨some 10, none, .ln (.t 9)⟩,
          ⟨some 11, none, .bi .lss 0 (.t 8) (.t 10)⟩])
       (.cd (.t 11) (.sk)
       (.ex 0)))
      (.sq (.bl 1 (.rg none [⟨some 14, none, .mv (.t 3) none⟩,
          ⟨some 15, none, .mv (.t 4) none⟩,
          ⟨some 16, none, .mv (.t 0) none⟩,
          ⟨some 17, none, .mv (.t 4) none⟩,
          ⟨some 18, none, .ia 2 (.t 16) (.t 17)⟩,
          ⟨some 19, none, .ld (some 2) (.t 18)⟩,
          ⟨some 20, none, .ca .pure true (.f fid_laws_toWire) [.t 19]⟩,
          ⟨some 21, none, .ia 2 (.t 14) (.t 15)⟩,
          ⟨none, none, .st 2 (.t 21) (.t 20)⟩]))
      (.rg none [⟨some 12, none, .mv (.t 4) none⟩,
        ⟨some 13, none, .bi .add 0 (.t 12) (.k (.int .i64 1))⟩,
        ⟨some 4, none, .mv (.t 13) none⟩]))))))
   (.sq (.rg none [⟨some 22, none, .mv (.t 3) none⟩,
      ⟨some 2, none, .mv (.t 22) none⟩])
   (.rt))))) }
theorem k_laws_toWireS : chkF Go.Proofs.Try.prog fid_laws_toWireS c_laws_toWireS = true := by kernel_rfl

def c_laws_eqNodeS : F2 :=
  { nt := 27, res := [.t 4 [0]], body :=
   (.sq (.rg none [⟨some 4, none, .mv (.k (.bool false)) none⟩])
   (.sq (.sq (.rg none [⟨some 6, none, .mv (.t 0) none⟩,
       ⟨some 7, none, .ln (.t 6)⟩,
       ⟨some 8, none, .mv (.t 1) none⟩,
       ⟨some 9, none, .ln (.t 8)⟩,
       ⟨some 10, none, .bi .neq 0 (.t 7) (.t 9)⟩])
    (.cd (.t 10) (.sq (.rg none [⟨some 4, none, .mv (.k (.bool false)) none⟩])
     (.rt))
    (.sk)))
   (.sq (.sq (.rg none [⟨some 5, none, .mv (.k (.int .i64 0)) none⟩])
    (.bl 0 (.lp [0, 1, 5] [] (.sq (.sq (.rg none [⟨some 11, none, .mv (.t 5) none⟩,
          ⟨some 12, none, .mv (.t 0) none⟩,
          ⟨some 13, none, .ln (.t 12)⟩,
          ⟨some 14, none, .bi .lss 0 (.t 11) (.t 13)⟩])
       (.cd (.t 14) (.sk)
       (.ex 0)))
      (.sq (.bl 1 (.sq (.rg (some 0) [⟨some 17, none, .mv (.t 0) none⟩,
           ⟨some 18, none, .mv (.t 5) none⟩,
           ⟨some 19, none, .ia 3 (.t 17) (.t 18)⟩,
           ⟨some 20, none, .ld (some 3) (.t 19)⟩,
           ⟨some 21, none, .mv (.t 1) none⟩,
           ⟨some 22, none, .mv (.t 5) none⟩,
           ⟨some 23, none, .ia 3 (.t 21) (.t 22)⟩,
           ⟨some 24, none, .ld (some 3) (.t 23)⟩,
           ⟨some 25, none, .ca .pure false (.f fid_laws_eqNode) [.t 20, .t 24]⟩,
           ⟨some 26, none, .nt (.t 25)⟩])
        (.cd (.t 26) (.sq (.rg none [⟨some 4, none, .mv (.k (.bool false)) none⟩])
         (.rt))
        (.sk))))
      (.rg none [⟨some 15, none, .mv (.t 5) none⟩,
        ⟨some 16, none, .bi .add 0 (.t 15) (.k (.int .i64 1))⟩,
        ⟨some 5, none, .mv (.t 16) none⟩]))))))
   (.sq (.rg none [⟨some 4, none, .mv (.k (.bool true)) none⟩])
   (.rt))))) }
theorem k_laws_eqNodeS : chkF Go.Proofs.Try.prog fid_laws_eqNodeS c_laws_eqNodeS = true := by kernel_rfl

def c_laws_eqStringS : F2 :=
  { nt := 26, res := [.t 4 [0]], body :=
   (.sq (.rg none [⟨some 4, none, .mv (.k (.bool false)) none⟩])
   (.sq (.sq (.rg none [⟨some 6, none, .mv (.t 0) none⟩,
       ⟨some 7, none, .ln (.t 6)⟩,
       ⟨some 8, none, .mv (.t 1) none⟩,
       ⟨some 9, none, .ln (.t 8)⟩,
       ⟨some 10, none, .bi .neq 0 (.t 7) (.t 9)⟩])
    (.cd (.t 10) (.sq (.rg none [⟨some 4, none, .mv (.k (.bool false)) none⟩])
     (.rt))
    (.sk)))
   (.sq (.sq (.rg none [⟨some 5, none, .mv (.k (.int .i64 0)) none⟩])
    (.bl 0 (.lp [0, 1, 5] [] (.sq (.sq (.rg none [⟨some 11, none, .mv (.t 5) none⟩,
          ⟨some 12, none, .mv (.t 0) none⟩,
          ⟨some 13, none, .ln (.t 12)⟩,
          ⟨some 14, none, .bi .lss 0 (.t 11) (.t 13)⟩])
       (.cd (.t 14) (.sk)
       (.ex 0)))
      (.sq (.bl 1 (.sq (.rg (some 0) [⟨some 17, none, .mv (.t 0) none⟩,
           ⟨some 18, none, .mv (.t 5) none⟩,
           ⟨some 19, none, .ia 1 (.t 17) (.t 18)⟩,
           ⟨some 20, none, .ld none (.t 19)⟩,
           ⟨some 21, none, .mv (.t 1) none⟩,
           ⟨some 22, none, .mv (.t 5) none⟩,
           ⟨some 23, none, .ia 1 (.t 21) (.t 22)⟩,
           ⟨some 24, none, .ld none (.t 23)⟩,
           ⟨some 25, none, .bi .neq 0 (.t 20) (.t 24)⟩])
        (.cd (.t 25) (.sq (.rg none [⟨some 4, none, .mv (.k (.bool false)) none⟩])
         (.rt))
        (.sk))))
      (.rg none [⟨some 15, none, .mv (.t 5) none⟩,
        ⟨some 16, none, .bi .add 0 (.t 15) (.k (.int .i64 1))⟩,
        ⟨some 5, none, .mv (.t 16) none⟩]))))))
   (.sq (.rg none [⟨some 4, none, .mv (.k (.bool true)) none⟩])
   (.rt))))) }
theorem k_laws_eqStringS : chkF Go.Proofs.Try.prog fid_laws_eqStringS c_laws_eqStringS = true := by kernel_rfl

def c_laws_eqWireS : F2 :=
  { nt := 27, res := [.t 4 [0]], body :=
   (.sq (.rg none [⟨some 4, none, .mv (.k (.bool false)) none⟩])
   (.sq (.sq (.rg none [⟨some 6, none, .mv (.t 0) none⟩,
       ⟨some 7, none, .ln (.t 6)⟩,
       ⟨some 8, none, .mv (.t 1) none⟩,
       ⟨some 9, none, .ln (.t 8)⟩,
       ⟨some 10, none, .bi .neq 0 (.t 7) (.t 9)⟩])
    (.cd (.t 10) (.sq (.rg none [⟨some 4, none, .mv (.k (.bool false)) none⟩])
     (.rt))
    (.sk)))
   (.sq (.sq (.rg none [⟨some 5, none, .mv (.k (.int .i64 0)) none⟩])
    (.bl 0 (.lp [0, 1, 5] [] (.sq (.sq (.rg none [⟨some 11, none, .mv (.t 5) none⟩,
          ⟨some 12, none, .mv (.t 0) none⟩,
          ⟨some 13, none, .ln (.t 12)⟩,
          ⟨some 14, none, .bi .lss 0 (.t 11) (.t 13)⟩])
       (.cd (.t 14) (.sk)
       (.ex 0)))
      (.sq (.bl 1 (.sq (.rg (some 0) [⟨some 17, none, .mv (.t 0) none⟩,
           ⟨some 18, none, .mv (.t 5) none⟩,
           ⟨some 19, none, .ia 2 (.t 17) (.t 18)⟩,
           ⟨some 20, none, .ld (some 2) (.t 19)⟩,
           ⟨some 21, none, .mv (.t 1) none⟩,
           ⟨some 22, none, .mv (.t 5) none⟩,
           ⟨some 23, none, .ia 2 (.t 21) (.t 22)⟩,
           ⟨some 24, none, .ld (some 2) (.t 23)⟩,
           ⟨some 25, none, .ca .pure false (.f fid_laws_eqWire) [.t 20, .t 24]⟩,
           ⟨some 26, none, .nt (.t 25)⟩])
        (.cd (.t 26) (.sq (.rg none [⟨some 4, none, .mv (.k (.bool false)) none⟩])
         (.rt))
        (.sk))))
      (.rg none [⟨some 15, none, .mv (.t 5) none⟩,
        ⟨some 16, none, .bi .add 0 (.t 15) (.k (.int .i64 1))⟩,
        ⟨some 5, none, .mv (.t 16) none⟩]))))))
   (.sq (.rg none [⟨some 4, none, .mv (.k (.bool true)) none⟩])
   (.rt))))) }
theorem k_laws_eqWireS : chkF Go.Proofs.Try.prog fid_laws_eqWireS c_laws_eqWireS = true := by kernel_rfl

def c_laws_markText : F2 :=
  { nt := 20, res := [.t 2 [0]], body :=
   (.sq (.rg none [⟨some 2, none, .mv (.k (.string ⟨#[]⟩)) none⟩])
   (.sq (.sq (.rg none [⟨some 4, none, .mv (.t 0) none⟩,
       ⟨some 5, none, .bi .leq 0 (.t 4) (.k (.int .i64 0))⟩])
    (.cd (.t 5) (.sq (.rg none [⟨some 2, none, .mv (.k (.string ⟨#[109, 48]⟩)) none⟩])
     (.rt))
    (.sk)))
   (.sq (.rg none [⟨some 3, none, .mv (.k (.string ⟨#[]⟩)) none⟩])
   (.sq (.bl 0 (.lp [0, 3] [] (.sq (.sq (.rg none [⟨some 6, none, .mv (.t 0) none⟩,
          ⟨some 7, none, .bi .gtr 0 (.t 6) (.k (.int .i64 0))⟩])
       (.cd (.t 7) (.sk)
       (.ex 0)))
      (.bl 1 (.sq (.rg none [⟨some 8, none, .mv (.t 0) none⟩,
          ⟨some 9, none, .bi .rem 0 (.t 8) (.k (.int .i64 10))⟩,
          ⟨some 10, none, .bi .add 0 (.k (.int .i64 48)) (.t 9)⟩,
          ⟨some 11, none, .cv (.int .u8) (.t 10)⟩,
          ⟨some 12, none, .bs 1 1 [.int .u8 0] [(0, .t 11)]⟩,
          ⟨some 13, none, .sb (.t 12)⟩,
          ⟨some 14, none, .mv (.t 3) none⟩,
          ⟨some 15, none, .bi .add 0 (.t 13) (.t 14)⟩,
          ⟨some 3, none, .mv (.t 15) none⟩])
       (.rg none [⟨some 16, none, .mv (.t 0) none⟩,
         ⟨some 17, none, .bi .quo 0 (.t 16) (.k (.int .i64 10))⟩,
         ⟨some 0, none, .mv (.t 17) none⟩]))))))
   (.sq (.rg none [⟨some 18, none, .mv (.t 3) none⟩,
      ⟨some 19, none, .bi .add 0 (.k (.string ⟨#[109]⟩)) (.t 18)⟩,
      ⟨some 2, none, .mv (.t 19) none⟩])
   (.rt)))))) }
theorem k_laws_markText : chkF Go.Proofs.Try.prog fid_laws_markText c_laws_markText = true := by kernel_rfl

def c_laws_szNode : F2 :=
  { nt := 12, res := [.t 4 [0]], body :=
   (.sq (.rg none [⟨some 2, none, .bt (.t 0)⟩,
      ⟨some 4, none, .mv (.k (.int .i64 0)) none⟩])
   (.sq (.rg none [⟨some 5, none, .fa 2 (.t 2)⟩,
      ⟨some 6, none, .ld none (.t 5)⟩,
      ⟨some 7, none, .mv (.t 1) none⟩,
      ⟨some 8, none, .ca .pure false (.f fid_laws_szIntS) [.t 6, .t 7]⟩,
      ⟨some 1, none, .mv (.t 8) none⟩])
   (.sq (.sq (.rg none [⟨some 9, none, .mv (.t 1) none⟩,
       ⟨some 10, none, .bi .lss 0 (.t 9) (.k (.int .i64 0))⟩])
    (.cd (.t 10) (.sq (.rg none [⟨some 4, none, .mv (.k (.int .i64 (-1))) none⟩])
     (.rt))
    (.sk)))
   (.sq (.rg none [⟨some 11, none, .mv (.t 1) none⟩,
      ⟨some 4, none, .mv (.t 11) none⟩])
   (.rt))))) }
theorem k_laws_szNode : chkF Go.Proofs.Try.prog fid_laws_szNode c_laws_szNode = true := by kernel_rfl

def c_laws_szWire : F2 :=
  { nt := 13, res := [.t 4 [0]], body :=
   (.sq (.rg none [⟨some 2, none, .bt (.t 0)⟩,
      ⟨some 4, none, .mv (.k (.int .i64 0)) none⟩])
   (.sq (.rg none [⟨some 5, none, .mv (.t 1) none⟩,
      ⟨some 6, none, .fa 0 (.t 2)⟩,
      ⟨some 7, none, .ld none (.t 6)⟩,
      ⟨some 8, none, .lg (.t 7)⟩,
      ⟨some 9, none, .bi .sub 0 (.t 5) (.t 8)⟩,
      ⟨some 1, none, .mv (.t 9) none⟩])
   (.sq (.sq (.rg none [⟨some 10, none, .mv (.t 1) none⟩,
       ⟨some 11, none, .bi .lss 0 (.t 10) (.k (.int .i64 0))⟩])
    (.cd (.t 11) (.sq (.rg none [⟨some 4, none, .mv (.k (.int .i64 (-1))) none⟩])
     (.rt))
    (.sk)))
   (.sq (.rg none [⟨some 12, none, .mv (.t 1) none⟩,
      ⟨some 4, none, .mv (.t 12) none⟩])
   (.rt))))) }
theorem k_laws_szWire : chkF Go.Proofs.Try.prog fid_laws_szWire c_laws_szWire = true := by kernel_rfl

def c_laws_toNode : F2 :=
  { nt := 15, res := [.c 2 (some 3) [0, 0, 2]], body :=
   (.sq (.rg none [⟨some 1, none, .bt (.t 0)⟩,
      ⟨some 2, none, .al [.int .i64 0, .int .i64 0, .slice none 0 0] []⟩])
   (.sq (.rg none [⟨some 3, none, .al [.int .i64 0, .int .i64 0, .slice none 0 0] []⟩])
   (.sq (.rg none [⟨some 4, none, .fa 0 (.t 1)⟩,
      ⟨some 5, none, .ld none (.t 4)⟩,
      ⟨some 6, none, .fa 0 (.t 3)⟩,
      ⟨none, none, .st 1 (.t 6) (.t 5)⟩])
   (.sq (.rg none [⟨some 7, none, .fa 1 (.t 1)⟩,
      ⟨some 8, none, .ld none (.t 7)⟩,
      ⟨some 9, none, .fa 1 (.t 3)⟩,
      ⟨none, none, .st 1 (.t 9) (.t 8)⟩])
   (.sq (.rg none [⟨some 10, none, .fa 2 (.t 1)⟩,
      ⟨some 11, none, .ld none (.t 10)⟩,
      ⟨some 12, none, .ca .pure true (.f fid_laws_toIntS) [.t 11]⟩,
      ⟨some 13, none, .fa 2 (.t 3)⟩,
      ⟨none, none, .st 1 (.t 13) (.t 12)⟩])
   (.sq (.rg none [⟨some 14, none, .ld (some 3) (.t 3)⟩,
      ⟨none, none, .st 3 (.t 2) (.t 14)⟩])
   (.rt))))))) }
theorem k_laws_toNode : chkF Go.Proofs.Try.prog fid_laws_toNode c_laws_toNode = true := by kernel_rfl

def c_laws_toWire : F2 :=
  { nt := 11, res := [.c 2 (some 2) [0, 0]], body :=
   (.sq (.rg none [⟨some 1, none, .bt (.t 0)⟩,
      ⟨some 2, none, .al [.string ⟨#[]⟩, .int .i64 0] []⟩])
   (.sq (.rg none [⟨some 3, none, .al [.string ⟨#[]⟩, .int .i64 0] []⟩])
   (.sq (.rg none [⟨some 4, none, .fa 0 (.t 1)⟩,
      ⟨some 5, none, .ld none (.t 4)⟩,
      ⟨some 6, none, .fa 0 (.t 3)⟩,
      ⟨none, none, .st 1 (.t 6) (.t 5)⟩])
   (.sq (.rg none [⟨some 7, none, .fa 1 (.t 1)⟩,
      ⟨some 8, none, .ld none (.t 7)⟩,
      ⟨some 9, none, .fa 1 (.t 3)⟩,
      ⟨none, none, .st 1 (.t 9) (.t 8)⟩])
   (.sq (.rg none [⟨some 10, none, .ld (some 2) (.t 3)⟩,
      ⟨none, none, .st 2 (.t 2) (.t 10)⟩])
   (.rt)))))) }
theorem k_laws_toWire : chkF Go.Proofs.Try.prog fid_laws_toWire c_laws_toWire = true := by kernel_rfl

def c_laws_eqNode : F2 :=
  { nt := 21, res := [.t 4 [0]], body :=
   (.sq (.rg none [⟨some 2, none, .bt (.t 0)⟩,
      ⟨some 3, none, .bt (.t 1)⟩,
      ⟨some 4, none, .mv (.k (.bool false)) none⟩])
   (.sq (.sq (.rg none [⟨some 5, none, .fa 0 (.t 2)⟩,
       ⟨some 6, none, .ld none (.t 5)⟩,
       ⟨some 7, none, .fa 0 (.t 3)⟩,
       ⟨some 8, none, .ld none (.t 7)⟩,
       ⟨some 9, none, .bi .neq 0 (.t 6) (.t 8)⟩])
    (.cd (.t 9) (.sq (.rg none [⟨some 4, none, .mv (.k (.bool false)) none⟩])
     (.rt))
    (.sk)))
   (.sq (.sq (.rg none [⟨some 10, none, .fa 1 (.t 2)⟩,
       ⟨some 11, none, .ld none (.t 10)⟩,
       ⟨some 12, none, .fa 1 (.t 3)⟩,
       ⟨some 13, none, .ld none (.t 12)⟩,
       ⟨some 14, none, .bi .neq 0 (.t 11) (.t 13)⟩])
    (.cd (.t 14) (.sq (.rg none [⟨some 4, none, .mv (.k (.bool false)) none⟩])
     (.rt))
    (.sk)))
   (.sq (.sq (.rg none [⟨some 15, none, .fa 2 (.t 2)⟩,
       ⟨some 16, none, .ld none (.t 15)⟩,
       ⟨some 17, none, .fa 2 (.t 3)⟩,
       ⟨some 18, none, .ld none (.t 17)⟩,
       ⟨some 19, none, .ca .pure false (.f fid_laws_eqIntS) [.t 16, .t 18]⟩,
       ⟨some 20, none, .nt (.t 19)⟩])
    (.cd (.t 20) (.sq (.rg none [⟨some 4, none, .mv (.k (.bool false)) none⟩])
     (.rt))
    (.sk)))
   (.sq (.rg none [⟨some 4, none, .mv (.k (.bool true)) none⟩])
   (.rt)))))) }
theorem k_laws_eqNode : chkF Go.Proofs.Try.prog fid_laws_eqNode c_laws_eqNode = true := by kernel_rfl

def c_laws_eqWire : F2 :=
  { nt := 15, res := [.t 4 [0]], body :=
   (.sq (.rg none [⟨some 2, none, .bt (.t 0)⟩,
      ⟨some 3, none, .bt (.t 1)⟩,
      ⟨some 4, none, .mv (.k (.bool false)) none⟩])
   (.sq (.sq (.rg none [⟨some 5, none, .fa 0 (.t 2)⟩,
       ⟨some 6, none, .ld none (.t 5)⟩,
       ⟨some 7, none, .fa 0 (.t 3)⟩,
       ⟨some 8, none, .ld none (.t 7)⟩,
       ⟨some 9, none, .bi .neq 0 (.t 6) (.t 8)⟩])
    (.cd (.t 9) (.sq (.rg none [⟨some 4, none, .mv (.k (.bool false)) none⟩])
     (.rt))
    (.sk)))
   (.sq (.sq (.rg none [⟨some 10, none, .fa 1 (.t 2)⟩,
       ⟨some 11, none, .ld none (.t 10)⟩,
       ⟨some 12, none, .fa 1 (.t 3)⟩,
       ⟨some 13, none, .ld none (.t 12)⟩,
       ⟨some 14, none, .bi .neq 0 (.t 11) (.t 13)⟩])
    (.cd (.t 14) (.sq (.rg none [⟨some 4, none, .mv (.k (.bool false)) none⟩])
     (.rt))
    (.sk)))
   (.sq (.rg none [⟨some 4, none, .mv (.k (.bool true)) none⟩])
   (.rt))))) }
theorem k_laws_eqWire : chkF Go.Proofs.Try.prog fid_laws_eqWire c_laws_eqWire = true := by kernel_rfl

end Go.Fd

/-
  The annotated codes of the functions, printed by a program of mine (gen.py), and the check that they belong to the program.
-/
namespace Go.Fd

def c_spec_DrawSplitString : F2 :=
  { nt := 15, res := [.t 2 [0], .t 3 [0]], body :=
   (.sq (.rg none [⟨some 2, none, .mv (.k (.string ⟨#[]⟩)) none⟩,
      ⟨some 3, none, .mv (.k (.string ⟨#[]⟩)) none⟩])
   (.sq (.rg none [⟨some 6, none, .mv (.t 0) none⟩,
      ⟨some 7, none, .bd [.slice none 0 0, .int .i64 0, .int .u64 0] [(0, 1, .t 6)] []⟩,
      ⟨some 8, none, .bx (.t 7)⟩,
      ⟨some 4, none, .mv (.t 8) none⟩])
   (.sq (.rg none [⟨some 9, none, .mv (.t 4) none⟩,
      ⟨some 10, none, .ca .pure false (.f fid_spec_l1Cur_any1) [.t 9]⟩,
      ⟨some 5, none, .mv (.t 10) none⟩])
   (.sq (.rg none [⟨some 11, none, .mv (.t 5) none⟩,
      ⟨some 12, none, .mv (.t 4) none⟩,
      ⟨some 13, none, .bs 1 5 [.string ⟨#[]⟩] [(0, .k (.string ⟨#[44]⟩)), (1, .k (.string ⟨#[44]⟩)), (2, .k (.string ⟨#[32]⟩)), (3, .k (.string ⟨#[]⟩)), (4, .k (.string ⟨#[44, 44]⟩))]⟩,
      ⟨some 14, none, .ca .pure false (.f fid_spec_l1Cur_of) [.t 12, .t 13]⟩,
      ⟨some 2, none, .mv (.t 11) none⟩,
      ⟨some 3, none, .mv (.t 14) none⟩])
   (.rt))))) }
theorem k_spec_DrawSplitString : chkF Go.Proofs.Try.prog fid_spec_DrawSplitString c_spec_DrawSplitString = true := by kernel_rfl

def c_impl_SplitString : F2 :=
  { nt := 18, res := [.t 4 [2], .t 5 [0]], body :=
   (.sq (.rg none [⟨some 4, none, .mv (.k (.slice none 0 0)) none⟩,
      ⟨some 5, none, .mv (.k (.bool false)) none⟩])
   (.sq (.sq (.rg none [⟨some 6, none, .mv (.t 0) none⟩,
       ⟨some 7, none, .lg (.t 6)⟩,
       ⟨some 8, none, .bi .gtr 0 (.t 7) (.k (.int .i64 4000))⟩,
       ⟨some 9, none, .mv (.t 8) none⟩,
       ⟨some 10, (some (9, false)), .mv (.t 1) none⟩,
       ⟨some 11, (some (9, false)), .lg (.t 10)⟩,
       ⟨some 12, (some (9, false)), .bi .neq 0 (.t 11) (.k (.int .i64 1))⟩,
       ⟨some 13, none, .pk (.t 9) (.k (.bool true)) (.t 12)⟩])
    (.cd (.t 13) (.sq (.rg none [⟨some 4, none, .mv (.k (.slice none 0 0)) none⟩,
        ⟨some 5, none, .mv (.k (.bool false)) none⟩])
     (.rt))
    (.sk)))
   (.sq (.rg none [⟨some 14, none, .mv (.t 0) none⟩,
      ⟨some 15, none, .mv (.t 1) none⟩,
      ⟨some 16, none, .ix (.t 15) (.k (.int .i64 0))⟩,
      ⟨some 17, none, .ca .pure false (.f fid_impl_splitAt) [.t 14, .t 16]⟩,
      ⟨some 4, none, .mv (.t 17) none⟩,
      ⟨some 5, none, .mv (.k (.bool true)) none⟩])
   (.rt)))) }
theorem k_impl_SplitString : chkF Go.Proofs.Try.prog fid_impl_SplitString c_impl_SplitString = true := by kernel_rfl

def c_spec_DrawJoinStrings : F2 :=
  { nt := 38, res := [.t 2 [2], .t 3 [0]], body :=
   (.sq (.rg none [⟨some 2, none, .mv (.k (.slice none 0 0)) none⟩,
      ⟨some 3, none, .mv (.k (.string ⟨#[]⟩)) none⟩])
   (.sq (.rg none [⟨some 8, none, .mv (.t 0) none⟩,
      ⟨some 9, none, .bd [.slice none 0 0, .int .i64 0, .int .u64 0] [(0, 1, .t 8)] []⟩,
      ⟨some 10, none, .bx (.t 9)⟩,
      ⟨some 4, none, .mv (.t 10) none⟩])
   (.sq (.rg none [⟨some 11, none, .bs 1 0 [] []⟩,
      ⟨some 5, none, .mv (.t 11) none⟩])
   (.sq (.rg none [⟨some 12, none, .mv (.t 4) none⟩,
      ⟨some 13, none, .ca .pure false (.f fid_spec_l1Cur_pick) [.t 12, .k (.int .i64 4)]⟩,
      ⟨some 6, none, .mv (.t 13) none⟩])
   (.sq (.sq (.rg none [⟨some 7, none, .mv (.k (.int .i64 0)) none⟩])
    (.bl 0 (.lp [4, 5, 6, 7] [320, 352, 736, 1056] (.sq (.sq (.rg none [⟨some 14, none, .mv (.t 7) none⟩,
          ⟨some 15, none, .mv (.t 6) none⟩,
          ⟨some 16, none, .bi .lss 0 (.t 14) (.t 15)⟩])
       (.cd (.t 16) (.sk)
       (.ex 0)))
      (.sq (.bl 1 (.rg none [⟨some 19, none, .mv (.t 5) none⟩,
          ⟨some 20, none, .mv (.t 4) none⟩,
          ⟨some 21, none, .ca .pure false (.f fid_spec_l1Cur_any1) [.t 20]⟩,
          ⟨some 22, none, .bs 1 1 [.string ⟨#[]⟩] [(0, .t 21)]⟩,
          ⟨some 23, none, .ap 1 0 (.t 19) (.t 22)⟩,
          ⟨some 5, none, .mv (.t 23) none⟩]))
      (.rg none [⟨some 17, none, .mv (.t 7) none⟩,
        ⟨some 18, none, .bi .add 0 (.t 17) (.k (.int .i64 1))⟩,
        ⟨some 7, none, .mv (.t 18) none⟩]))))))
   (.sq (.sq (.rg none [⟨some 24, none, .mv (.t 4) none⟩,
       ⟨some 25, none, .ca .pure false (.f fid_spec_l1Cur_one) [.t 24, .k (.int .i64 20)]⟩])
    (.cd (.t 25) (.rg none [⟨some 26, none, .mv (.t 5) none⟩,
       ⟨some 27, none, .mv (.t 4) none⟩,
       ⟨some 28, none, .ca .pure false (.f fid_spec_l1Cur_pick) [.t 27, .k (.int .i64 20)]⟩,
       ⟨some 29, none, .bi .add 0 (.k (.int .i64 3990)) (.t 28)⟩,
       ⟨some 30, none, .ms 1 [.int .u8 0] (.t 29)⟩,
       ⟨some 31, none, .sb (.t 30)⟩,
       ⟨some 32, none, .bs 1 1 [.string ⟨#[]⟩] [(0, .t 31)]⟩,
       ⟨some 33, none, .ap 1 0 (.t 26) (.t 32)⟩,
       ⟨some 5, none, .mv (.t 33) none⟩])
    (.sk)))
   (.sq (.rg none [⟨some 34, none, .mv (.t 5) none⟩,
      ⟨some 35, none, .mv (.t 4) none⟩,
      ⟨some 36, none, .bs 1 5 [.string ⟨#[]⟩] [(0, .k (.string ⟨#[44]⟩)), (1, .k (.string ⟨#[59]⟩)), (2, .k (.string ⟨#[59]⟩)), (3, .k (.string ⟨#[]⟩)), (4, .k (.string ⟨#[97, 98]⟩))]⟩,
      ⟨some 37, none, .ca .pure false (.f fid_spec_l1Cur_of) [.t 35, .t 36]⟩,
      ⟨some 2, none, .mv (.t 34) none⟩,
      ⟨some 3, none, .mv (.t 37) none⟩])
   (.rt)))))))) }
theorem k_spec_DrawJoinStrings : chkF Go.Proofs.Try.prog fid_spec_DrawJoinStrings c_spec_DrawJoinStrings = true := by kernel_rfl

def c_impl_JoinStrings : F2 :=
  { nt := 45, res := [.t 4 [0], .t 5 [0]], body :=
   (.sq (.rg none [⟨some 4, none, .mv (.k (.string ⟨#[]⟩)) none⟩,
      ⟨some 5, none, .mv (.k (.bool false)) none⟩])
   (.sq (.sq (.rg none [⟨some 9, none, .mv (.t 0) none⟩,
       ⟨some 10, none, .ln (.t 9)⟩,
       ⟨some 11, none, .bi .eql 0 (.t 10) (.k (.int .i64 0))⟩,
       ⟨some 12, none, .mv (.t 11) none⟩,
       ⟨some 13, (some (12, false)), .mv (.t 1) none⟩,
       ⟨some 14, (some (12, false)), .lg (.t 13)⟩,
       ⟨some 15, (some (12, false)), .bi .neq 0 (.t 14) (.k (.int .i64 1))⟩,
       ⟨some 16, none, .pk (.t 12) (.k (.bool true)) (.t 15)⟩])
    (.cd (.t 16) (.sq (.rg none [⟨some 4, none, .mv (.k (.string ⟨#[]⟩)) none⟩,
        ⟨some 5, none, .mv (.k (.bool false)) none⟩])
     (.rt))
    (.sk)))
   (.sq (.rg none [⟨some 17, none, .mv (.t 0) none⟩,
      ⟨some 18, none, .ln (.t 17)⟩,
      ⟨some 19, none, .bi .sub 0 (.t 18) (.k (.int .i64 1))⟩,
      ⟨some 6, none, .mv (.t 19) none⟩])
   (.sq (.sq (.rg none [⟨some 20, none, .mv (.t 0) none⟩,
       ⟨some 21, none, .ln (.t 20)⟩,
       ⟨some 22, none, .mv (.k (.int .i64 0)) none⟩])
    (.bl 0 (.lp [0, 1, 6, 20, 21, 22] [] (.sq (.rg none [⟨some 23, none, .bi .lss 0 (.t 22) (.t 21)⟩])
      (.sq (.cd (.t 23) (.sk)
       (.ex 0))
      (.sq (.bl 1 (.sq (.rg none [⟨some 24, none, .ia 1 (.t 20) (.t 22)⟩,
           ⟨some 25, none, .ld none (.t 24)⟩,
           ⟨some 8, none, .mv (.t 25) none⟩])
        (.sq (.rg none [⟨some 26, none, .mv (.t 6) none⟩,
           ⟨some 27, none, .mv (.t 8) none⟩,
           ⟨some 28, none, .lg (.t 27)⟩,
           ⟨some 29, none, .bi .add 0 (.t 26) (.t 28)⟩,
           ⟨some 6, none, .mv (.t 29) none⟩])
        (.sq (.rg none [⟨some 30, none, .mv (.t 6) none⟩,
           ⟨some 31, none, .bi .gtr 0 (.t 30) (.k (.int .i64 4000))⟩,
           ⟨some 32, none, .mv (.t 31) none⟩,
           ⟨some 33, (some (32, false)), .mv (.t 8) none⟩,
           ⟨some 34, (some (32, false)), .mv (.t 1) none⟩,
           ⟨some 35, (some (32, false)), .ix (.t 34) (.k (.int .i64 0))⟩,
           ⟨some 36, (some (32, false)), .ca .pure false (.f fid_strings_IndexByte) [.t 33, .t 35]⟩,
           ⟨some 37, (some (32, false)), .bi .geq 0 (.t 36) (.k (.int .i64 0))⟩,
           ⟨some 38, none, .pk (.t 32) (.k (.bool true)) (.t 37)⟩])
        (.cd (.t 38) (.sq (.rg none [⟨some 4, none, .mv (.k (.string ⟨#[]⟩)) none⟩,
            ⟨some 5, none, .mv (.k (.bool false)) none⟩])
         (.rt))
        (.sk))))))
      (.rg none [⟨some 39, none, .bi .add 0 (.t 22) (.k (.int .i64 1))⟩,
        ⟨some 22, none, .mv (.t 39) none⟩])))))))
   (.sq (.sq (.rg none [⟨some 40, none, .mv (.t 6) none⟩,
       ⟨some 41, none, .bi .gtr 0 (.t 40) (.k (.int .i64 4000))⟩])
    (.cd (.t 41) (.sq (.rg none [⟨some 4, none, .mv (.k (.string ⟨#[]⟩)) none⟩,
        ⟨some 5, none, .mv (.k (.bool false)) none⟩])
     (.rt))
    (.sk)))
   (.sq (.rg none [⟨some 42, none, .mv (.t 0) none⟩,
      ⟨some 43, none, .mv (.t 1) none⟩,
      ⟨some 44, none, .ca .pure false (.f fid_strings_Join) [.t 42, .t 43]⟩,
      ⟨some 4, none, .mv (.t 44) none⟩,
      ⟨some 5, none, .mv (.k (.bool true)) none⟩])
   (.rt))))))) }
theorem k_impl_JoinStrings : chkF Go.Proofs.Try.prog fid_impl_JoinStrings c_impl_JoinStrings = true := by kernel_rfl

def c_spec_JoinStrings : F2 :=
  { nt := 44, res := [.t 4 [0], .t 5 [0]], body :=
   (.sq (.rg none [⟨some 4, none, .mv (.k (.string ⟨#[]⟩)) none⟩,
      ⟨some 5, none, .mv (.k (.bool false)) none⟩])
   (.sq (.sq (.rg none [⟨some 8, none, .mv (.t 1) none⟩,
       ⟨some 9, none, .lg (.t 8)⟩,
       ⟨some 10, none, .bi .neq 0 (.t 9) (.k (.int .i64 1))⟩,
       ⟨some 11, none, .mv (.t 10) none⟩,
       ⟨some 12, (some (11, false)), .mv (.t 0) none⟩,
       ⟨some 13, (some (11, false)), .ln (.t 12)⟩,
       ⟨some 14, (some (11, false)), .bi .eql 0 (.t 13) (.k (.int .i64 0))⟩,
       ⟨some 15, none, .pk (.t 11) (.k (.bool true)) (.t 14)⟩])
    (.cd (.t 15) (.sq (.rg none [⟨some 4, none, .mv (.k (.string ⟨#[]⟩)) none⟩,
        ⟨some 5, none, .mv (.k (.bool false)) none⟩])
     (.rt))
    (.sk)))
   (.sq (.rg none [⟨some 6, none, .mv (.k (.string ⟨#[]⟩)) none⟩])
   (.sq (.sq (.rg none [⟨some 7, none, .mv (.k (.int .i64 0)) none⟩])
    (.bl 0 (.lp [0, 1, 6, 7] [] (.sq (.sq (.rg none [⟨some 16, none, .mv (.t 7) none⟩,
          ⟨some 17, none, .mv (.t 0) none⟩,
          ⟨some 18, none, .ln (.t 17)⟩,
          ⟨some 19, none, .bi .lss 0 (.t 16) (.t 18)⟩])
       (.cd (.t 19) (.sk)
       (.ex 0)))
      (.sq (.bl 1 (.sq (.sq (.rg (some 0) [⟨some 22, none, .mv (.t 0) none⟩,
            ⟨some 23, none, .mv (.t 7) none⟩,
            ⟨some 24, none, .ia 1 (.t 22) (.t 23)⟩,
            ⟨some 25, none, .ld none (.t 24)⟩,
            ⟨some 26, none, .mv (.t 1) none⟩,
            ⟨some 27, none, .ix (.t 26) (.k (.int .i64 0))⟩,
            ⟨some 28, none, .ca .pure false (.f fid_spec_l1Stands) [.t 25, .t 27]⟩])
         (.cd (.t 28) (.sq (.rg none [⟨some 4, none, .mv (.k (.string ⟨#[]⟩)) none⟩,
             ⟨some 5, none, .mv (.k (.bool false)) none⟩])
          (.rt))
         (.sk)))
        (.sq (.sq (.rg none [⟨some 29, none, .mv (.t 7) none⟩,
            ⟨some 30, none, .bi .gtr 0 (.t 29) (.k (.int .i64 0))⟩])
         (.cd (.t 30) (.rg none [⟨some 31, none, .mv (.t 6) none⟩,
            ⟨some 32, none, .mv (.t 1) none⟩,
            ⟨some 33, none, .bi .add 0 (.t 31) (.t 32)⟩,
            ⟨some 6, none, .mv (.t 33) none⟩])
         (.sk)))
        (.sq (.rg none [⟨some 34, none, .mv (.t 6) none⟩,
           ⟨some 35, none, .mv (.t 0) none⟩,
           ⟨some 36, none, .mv (.t 7) none⟩,
           ⟨some 37, none, .ia 1 (.t 35) (.t 36)⟩,
           ⟨some 38, none, .ld none (.t 37)⟩,
           ⟨some 39, none, .bi .add 0 (.t 34) (.t 38)⟩,
           ⟨some 6, none, .mv (.t 39) none⟩])
        (.sq (.rg none [⟨some 40, none, .mv (.t 6) none⟩,
           ⟨some 41, none, .lg (.t 40)⟩,
           ⟨some 42, none, .bi .gtr 0 (.t 41) (.k (.int .i64 4000))⟩])
        (.cd (.t 42) (.sq (.rg none [⟨some 4, none, .mv (.k (.string ⟨#[]⟩)) none⟩,
            ⟨some 5, none, .mv (.k (.bool false)) none⟩])
         (.rt))
        (.sk)))))))
      (.rg none [⟨some 20, none, .mv (.t 7) none⟩,
        ⟨some 21, none, .bi .add 0 (.t 20) (.k (.int .i64 1))⟩,
        ⟨some 7, none, .mv (.t 21) none⟩]))))))
   (.sq (.rg none [⟨some 43, none, .mv (.t 6) none⟩,
      ⟨some 4, none, .mv (.t 43) none⟩,
      ⟨some 5, none, .mv (.k (.bool true)) none⟩])
   (.rt)))))) }
theorem k_spec_JoinStrings : chkF Go.Proofs.Try.prog fid_spec_JoinStrings c_spec_JoinStrings = true := by kernel_rfl

def c_spec_DrawLessString : F2 :=
  { nt := 14, res := [.t 2 [0], .t 3 [0]], body :=
   (.sq (.rg none [⟨some 2, none, .mv (.k (.string ⟨#[]⟩)) none⟩,
      ⟨some 3, none, .mv (.k (.string ⟨#[]⟩)) none⟩])
   (.sq (.rg none [⟨some 6, none, .mv (.t 0) none⟩,
      ⟨some 7, none, .bd [.slice none 0 0, .int .i64 0, .int .u64 0] [(0, 1, .t 6)] []⟩,
      ⟨some 8, none, .bx (.t 7)⟩,
      ⟨some 4, none, .mv (.t 8) none⟩])
   (.sq (.rg none [⟨some 9, none, .mv (.t 4) none⟩,
      ⟨some 10, none, .ca .pure false (.f fid_spec_l1Cur_any1) [.t 9]⟩,
      ⟨some 5, none, .mv (.t 10) none⟩])
   (.sq (.rg none [⟨some 11, none, .mv (.t 5) none⟩,
      ⟨some 12, none, .mv (.t 4) none⟩,
      ⟨some 13, none, .ca .pure false (.f fid_spec_l1Cur_any1) [.t 12]⟩,
      ⟨some 2, none, .mv (.t 11) none⟩,
      ⟨some 3, none, .mv (.t 13) none⟩])
   (.rt))))) }
theorem k_spec_DrawLessString : chkF Go.Proofs.Try.prog fid_spec_DrawLessString c_spec_DrawLessString = true := by kernel_rfl

def c_impl_LessString : F2 :=
  { nt := 8, res := [.t 4 [0]], body :=
   (.sq (.rg none [⟨some 4, none, .mv (.k (.bool false)) none⟩])
   (.sq (.rg none [⟨some 5, none, .mv (.t 0) none⟩,
      ⟨some 6, none, .mv (.t 1) none⟩,
      ⟨some 7, none, .bi .lss 0 (.t 5) (.t 6)⟩,
      ⟨some 4, none, .mv (.t 7) none⟩])
   (.rt))) }
theorem k_impl_LessString : chkF Go.Proofs.Try.prog fid_impl_LessString c_impl_LessString = true := by kernel_rfl

def c_spec_LessString : F2 :=
  { nt := 8, res := [.t 4 [0]], body :=
   (.sq (.rg none [⟨some 4, none, .mv (.k (.bool false)) none⟩])
   (.sq (.rg none [⟨some 5, none, .mv (.t 0) none⟩,
      ⟨some 6, none, .mv (.t 1) none⟩,
      ⟨some 7, none, .bi .lss 0 (.t 5) (.t 6)⟩,
      ⟨some 4, none, .mv (.t 7) none⟩])
   (.rt))) }
theorem k_spec_LessString : chkF Go.Proofs.Try.prog fid_spec_LessString c_spec_LessString = true := by kernel_rfl

def c_spec_IsClosedSet : F2 :=
  { nt := 42, res := [.t 4 [0], .t 5 [0]], body :=
   (.sq (.rg none [⟨some 2, none, .bt (.t 0)⟩,
      ⟨some 4, none, .mv (.k (.bool false)) none⟩,
      ⟨some 5, none, .mv (.k (.bool false)) none⟩])
   (.sq (.sq (.rg none [⟨some 7, none, .ld (some 2) (.t 2)⟩,
       ⟨some 8, none, .ca .pure false (.f fid_spec_l10Good) [.t 7]⟩,
       ⟨some 9, none, .nt (.t 8)⟩,
       ⟨some 10, none, .mv (.t 9) none⟩,
       ⟨some 11, (some (10, false)), .ld (some 2) (.t 2)⟩,
       ⟨some 12, (some (10, false)), .mv (.t 1) none⟩,
       ⟨some 13, (some (10, false)), .ca .pure false (.f fid_spec_l10Goals) [.t 11, .t 12]⟩,
       ⟨some 14, (some (10, false)), .nt (.t 13)⟩,
       ⟨some 15, none, .pk (.t 10) (.k (.bool true)) (.t 14)⟩])
    (.cd (.t 15) (.sq (.rg none [⟨some 4, none, .mv (.k (.bool false)) none⟩,
        ⟨some 5, none, .mv (.k (.bool false)) none⟩])
     (.rt))
    (.sk)))
   (.sq (.sq (.rg none [⟨some 6, none, .mv (.k (.int .i64 0)) none⟩])
    (.bl 0 (.lp [1, 2, 6] [] (.sq (.sq (.rg none [⟨some 16, none, .mv (.t 6) none⟩,
          ⟨some 17, none, .fa 1 (.t 2)⟩,
          ⟨some 18, none, .ld none (.t 17)⟩,
          ⟨some 19, none, .ln (.t 18)⟩,
          ⟨some 20, none, .bi .lss 0 (.t 16) (.t 19)⟩])
       (.cd (.t 20) (.sk)
       (.ex 0)))
      (.sq (.bl 1 (.sq (.rg none [⟨some 23, none, .mv (.t 1) none⟩,
           ⟨some 24, none, .fa 1 (.t 2)⟩,
           ⟨some 25, none, .ld none (.t 24)⟩,
           ⟨some 26, none, .mv (.t 6) none⟩,
           ⟨some 27, none, .ia 3 (.t 25) (.t 26)⟩,
           ⟨some 28, none, .ja 1 3 (.t 27) (.k (.int .i64 0))⟩,
           ⟨some 29, none, .ld none (.t 28)⟩,
           ⟨some 30, none, .ca .pure false (.f fid_spec_l1Has) [.t 23, .t 29]⟩,
           ⟨some 31, none, .mv (.t 30) none⟩,
           ⟨some 32, (some (31, true)), .mv (.t 1) none⟩,
           ⟨some 33, (some (31, true)), .fa 1 (.t 2)⟩,
           ⟨some 34, (some (31, true)), .ld none (.t 33)⟩,
           ⟨some 35, (some (31, true)), .mv (.t 6) none⟩,
           ⟨some 36, (some (31, true)), .ia 3 (.t 34) (.t 35)⟩,
           ⟨some 37, (some (31, true)), .ja 1 3 (.t 36) (.k (.int .i64 2))⟩,
           ⟨some 38, (some (31, true)), .ld none (.t 37)⟩,
           ⟨some 39, (some (31, true)), .ca .pure false (.f fid_spec_l1Has) [.t 32, .t 38]⟩,
           ⟨some 40, (some (31, true)), .nt (.t 39)⟩,
           ⟨some 41, none, .pk (.t 31) (.t 40) (.k (.bool false))⟩])
        (.cd (.t 41) (.sq (.rg none [⟨some 4, none, .mv (.k (.bool false)) none⟩,
            ⟨some 5, none, .mv (.k (.bool true)) none⟩])
         (.rt))
        (.sk))))
      (.rg none [⟨some 21, none, .mv (.t 6) none⟩,
        ⟨some 22, none, .bi .add 0 (.t 21) (.k (.int .i64 1))⟩,
        ⟨some 6, none, .mv (.t 22) none⟩]))))))
   (.sq (.rg none [⟨some 4, none, .mv (.k (.bool true)) none⟩,
      ⟨some 5, none, .mv (.k (.bool true)) none⟩])
   (.rt))))) }
theorem k_spec_IsClosedSet : chkF Go.Proofs.Try.prog fid_spec_IsClosedSet c_spec_IsClosedSet = true := by kernel_rfl

def c_impl_IsClosedSet : F2 :=
  { nt := 15, res := [.t 4 [0], .t 5 [0]], body :=
   (.sq (.rg none [⟨some 2, none, .bt (.t 0)⟩,
      ⟨some 3, none, .bt (.t 1)⟩,
      ⟨some 4, none, .mv (.k (.bool false)) none⟩,
      ⟨some 5, none, .mv (.k (.bool false)) none⟩])
   (.sq (.sq (.rg none [⟨some 6, none, .ld (some 2) (.t 2)⟩,
       ⟨some 7, none, .ld none (.t 3)⟩,
       ⟨some 8, none, .ca .pure false (.f fid_impl_isGoals) [.t 6, .t 7]⟩,
       ⟨some 9, none, .nt (.t 8)⟩])
    (.cd (.t 9) (.sq (.rg none [⟨some 4, none, .mv (.k (.bool false)) none⟩,
        ⟨some 5, none, .mv (.k (.bool false)) none⟩])
     (.rt))
    (.sk)))
   (.sq (.rg none [⟨some 10, none, .fa 1 (.t 2)⟩,
      ⟨some 11, none, .ld none (.t 10)⟩,
      ⟨some 12, none, .mf fid_impl_IsClosedSet_1 [.t 3]⟩,
      ⟨some 13, none, .ca .pure false (.f fid_slices_ContainsFunc_3_int_3_int) [.t 11, .t 12]⟩,
      ⟨some 14, none, .nt (.t 13)⟩,
      ⟨some 4, none, .mv (.t 14) none⟩,
      ⟨some 5, none, .mv (.k (.bool true)) none⟩])
   (.rt)))) }
theorem k_impl_IsClosedSet : chkF Go.Proofs.Try.prog fid_impl_IsClosedSet c_impl_IsClosedSet = true := by kernel_rfl

def c_spec_EndStates : F2 :=
  { nt := 28, res := [.t 2 [2], .t 3 [0]], body :=
   (.sq (.rg none [⟨some 1, none, .bt (.t 0)⟩,
      ⟨some 2, none, .mv (.k (.slice none 0 0)) none⟩,
      ⟨some 3, none, .mv (.k (.bool false)) none⟩])
   (.sq (.rg none [⟨some 6, none, .bs 1 0 [] []⟩,
      ⟨some 4, none, .mv (.t 6) none⟩])
   (.sq (.sq (.rg none [⟨some 7, none, .ld (some 2) (.t 1)⟩,
       ⟨some 8, none, .ca .pure false (.f fid_spec_l10Good) [.t 7]⟩,
       ⟨some 9, none, .nt (.t 8)⟩])
    (.cd (.t 9) (.sq (.rg none [⟨some 10, none, .mv (.t 4) none⟩,
        ⟨some 2, none, .mv (.t 10) none⟩,
        ⟨some 3, none, .mv (.k (.bool false)) none⟩])
     (.rt))
    (.sk)))
   (.sq (.sq (.rg none [⟨some 5, none, .mv (.k (.int .i64 0)) none⟩])
    (.bl 0 (.lp [1, 4, 5] [192, 832] (.sq (.sq (.rg none [⟨some 11, none, .mv (.t 5) none⟩,
          ⟨some 12, none, .fa 0 (.t 1)⟩,
          ⟨some 13, none, .ld none (.t 12)⟩,
          ⟨some 14, none, .ln (.t 13)⟩,
          ⟨some 15, none, .bi .lss 0 (.t 11) (.t 14)⟩])
       (.cd (.t 15) (.sk)
       (.ex 0)))
      (.sq (.bl 1 (.sq (.rg none [⟨some 18, none, .ld (some 2) (.t 1)⟩,
           ⟨some 19, none, .mv (.t 5) none⟩,
           ⟨some 20, none, .ca .pure false (.f fid_spec_l10From) [.t 18, .t 19]⟩,
           ⟨some 21, none, .ln (.t 20)⟩,
           ⟨some 22, none, .bi .eql 0 (.t 21) (.k (.int .i64 0))⟩])
        (.cd (.t 22) (.rg none [⟨some 23, none, .mv (.t 4) none⟩,
           ⟨some 24, none, .mv (.t 5) none⟩,
           ⟨some 25, none, .bs 1 1 [.int .i64 0] [(0, .t 24)]⟩,
           ⟨some 26, none, .ap 1 0 (.t 23) (.t 25)⟩,
           ⟨some 4, none, .mv (.t 26) none⟩])
        (.sk))))
      (.rg none [⟨some 16, none, .mv (.t 5) none⟩,
        ⟨some 17, none, .bi .add 0 (.t 16) (.k (.int .i64 1))⟩,
        ⟨some 5, none, .mv (.t 17) none⟩]))))))
   (.sq (.rg none [⟨some 27, none, .mv (.t 4) none⟩,
      ⟨some 2, none, .mv (.t 27) none⟩,
      ⟨some 3, none, .mv (.k (.bool true)) none⟩])
   (.rt)))))) }
theorem k_spec_EndStates : chkF Go.Proofs.Try.prog fid_spec_EndStates c_spec_EndStates = true := by kernel_rfl

def c_impl_EndStates : F2 :=
  { nt := 27, res := [.t 2 [2], .t 3 [0]], body :=
   (.sq (.rg none [⟨some 1, none, .bt (.t 0)⟩,
      ⟨some 2, none, .mv (.k (.slice none 0 0)) none⟩,
      ⟨some 3, none, .mv (.k (.bool false)) none⟩])
   (.sq (.sq (.rg none [⟨some 6, none, .ld (some 2) (.t 1)⟩,
       ⟨some 7, none, .ca .pure false (.f fid_impl_isSystem) [.t 6]⟩,
       ⟨some 8, none, .nt (.t 7)⟩])
    (.cd (.t 8) (.sq (.rg none [⟨some 2, none, .mv (.k (.slice none 0 0)) none⟩,
        ⟨some 3, none, .mv (.k (.bool false)) none⟩])
     (.rt))
    (.sk)))
   (.sq (.rg none [⟨some 9, none, .bs 1 0 [] []⟩,
      ⟨some 4, none, .mv (.t 9) none⟩])
   (.sq (.sq (.rg none [⟨some 10, none, .fa 0 (.t 1)⟩,
       ⟨some 11, none, .ld none (.t 10)⟩,
       ⟨some 12, none, .ln (.t 11)⟩,
       ⟨some 13, none, .mv (.k (.int .i64 0)) none⟩])
    (.bl 0 (.lp [1, 4, 12, 13] [288, 768] (.sq (.rg none [⟨some 14, none, .bi .lss 0 (.t 13) (.t 12)⟩])
      (.sq (.cd (.t 14) (.sk)
       (.ex 0))
      (.sq (.bl 1 (.sq (.rg none [⟨some 15, none, .mv (.t 13) none⟩,
           ⟨some 5, none, .mv (.t 15) none⟩])
        (.sq (.rg none [⟨some 16, none, .ld (some 2) (.t 1)⟩,
           ⟨some 17, none, .mv (.t 5) none⟩,
           ⟨some 18, none, .ca .pure false (.f fid_impl_System_next) [.t 16, .t 17]⟩,
           ⟨some 19, none, .ln (.t 18)⟩,
           ⟨some 20, none, .bi .eql 0 (.t 19) (.k (.int .i64 0))⟩])
        (.cd (.t 20) (.rg none [⟨some 21, none, .mv (.t 4) none⟩,
           ⟨some 22, none, .mv (.t 5) none⟩,
           ⟨some 23, none, .bs 1 1 [.int .i64 0] [(0, .t 22)]⟩,
           ⟨some 24, none, .ap 1 0 (.t 21) (.t 23)⟩,
           ⟨some 4, none, .mv (.t 24) none⟩])
        (.sk)))))
      (.rg none [⟨some 25, none, .bi .add 0 (.t 13) (.k (.int .i64 1))⟩,
        ⟨some 13, none, .mv (.t 25) none⟩])))))))
   (.sq (.rg none [⟨some 26, none, .mv (.t 4) none⟩,
      ⟨some 2, none, .mv (.t 26) none⟩,
      ⟨some 3, none, .mv (.k (.bool true)) none⟩])
   (.rt)))))) }
theorem k_impl_EndStates : chkF Go.Proofs.Try.prog fid_impl_EndStates c_impl_EndStates = true := by kernel_rfl

def c_spec_l1Cur_any1 : F2 :=
  { nt := 6, res := [.t 2 [0]], body :=
   (.sq (.rg none [⟨some 2, none, .mv (.k (.string ⟨#[]⟩)) none⟩])
   (.sq (.rg none [⟨some 3, none, .mv (.t 0) none⟩,
      ⟨some 4, none, .bs 1 9 [.string ⟨#[]⟩] [(0, .k (.string ⟨#[]⟩)), (1, .k (.string ⟨#[97]⟩)), (2, .k (.string ⟨#[97, 44, 98]⟩)), (3, .k (.string ⟨#[115, 111, 109, 101, 32, 119, 111, 114, 100, 115]⟩)), (4, .k (.string ⟨#[120, 35, 121]⟩)), (5, .k (.string ⟨#[45, 49, 50]⟩)), (6, .k (.string ⟨#[0, 255]⟩)), (7, .k (.string ⟨#[44, 44]⟩)), (8, .k (.string ⟨#[48]⟩))]⟩,
      ⟨some 5, none, .ca .pure false (.f fid_spec_l1Cur_of) [.t 3, .t 4]⟩,
      ⟨some 2, none, .mv (.t 5) none⟩])
   (.rt))) }
theorem k_spec_l1Cur_any1 : chkF Go.Proofs.Try.prog fid_spec_l1Cur_any1 c_spec_l1Cur_any1 = true := by kernel_rfl

def c_spec_l1Cur_of : F2 :=
  { nt := 12, res := [.t 4 [0]], body :=
   (.sq (.rg none [⟨some 4, none, .mv (.k (.string ⟨#[]⟩)) none⟩])
   (.sq (.rg none [⟨some 5, none, .mv (.t 1) none⟩,
      ⟨some 6, none, .mv (.t 0) none⟩,
      ⟨some 7, none, .mv (.t 1) none⟩,
      ⟨some 8, none, .ln (.t 7)⟩,
      ⟨some 9, none, .ca .pure false (.f fid_spec_l1Cur_pick) [.t 6, .t 8]⟩,
      ⟨some 10, none, .ia 1 (.t 5) (.t 9)⟩,
      ⟨some 11, none, .ld none (.t 10)⟩,
      ⟨some 4, none, .mv (.t 11) none⟩])
   (.rt))) }
theorem k_spec_l1Cur_of : chkF Go.Proofs.Try.prog fid_spec_l1Cur_of c_spec_l1Cur_of = true := by kernel_rfl

def c_impl_splitAt : F2 :=
  { nt := 35, res := [.t 4 [2]], body :=
   (.sq (.rg none [⟨some 4, none, .mv (.k (.slice none 0 0)) none⟩])
   (.sq (.rg none [⟨some 8, none, .bs 1 0 [] []⟩,
      ⟨some 5, none, .mv (.t 8) none⟩])
   (.sq (.rg none [⟨some 6, none, .mv (.k (.int .i64 0)) none⟩])
   (.sq (.sq (.rg none [⟨some 9, none, .mv (.t 0) none⟩,
       ⟨some 10, none, .lg (.t 9)⟩,
       ⟨some 11, none, .mv (.k (.int .i64 0)) none⟩])
    (.bl 0 (.lp [0, 1, 5, 6, 10, 11] [256, 800] (.sq (.rg none [⟨some 12, none, .bi .lss 0 (.t 11) (.t 10)⟩])
      (.sq (.cd (.t 12) (.sk)
       (.ex 0))
      (.sq (.bl 1 (.sq (.rg none [⟨some 13, none, .mv (.t 11) none⟩,
           ⟨some 7, none, .mv (.t 13) none⟩])
        (.sq (.rg none [⟨some 14, none, .mv (.t 0) none⟩,
           ⟨some 15, none, .mv (.t 7) none⟩,
           ⟨some 16, none, .ix (.t 14) (.t 15)⟩,
           ⟨some 17, none, .mv (.t 1) none⟩,
           ⟨some 18, none, .bi .eql 0 (.t 16) (.t 17)⟩])
        (.cd (.t 18) (.sq (.rg none [⟨some 19, none, .mv (.t 5) none⟩,
            ⟨some 20, none, .mv (.t 0) none⟩,
            ⟨some 21, none, .mv (.t 6) none⟩,
            ⟨some 22, none, .mv (.t 7) none⟩,
            ⟨some 23, none, .ss (.t 20) (some (.t 21)) (some (.t 22))⟩,
            ⟨some 24, none, .bs 1 1 [.string ⟨#[]⟩] [(0, .t 23)]⟩,
            ⟨some 25, none, .ap 1 0 (.t 19) (.t 24)⟩,
            ⟨some 5, none, .mv (.t 25) none⟩])
         (.rg none [⟨some 26, none, .mv (.t 7) none⟩,
           ⟨some 27, none, .bi .add 0 (.t 26) (.k (.int .i64 1))⟩,
           ⟨some 6, none, .mv (.t 27) none⟩]))
        (.sk)))))
      (.rg none [⟨some 28, none, .bi .add 0 (.t 11) (.k (.int .i64 1))⟩,
        ⟨some 11, none, .mv (.t 28) none⟩])))))))
   (.sq (.rg none [⟨some 29, none, .mv (.t 5) none⟩,
      ⟨some 30, none, .mv (.t 0) none⟩,
      ⟨some 31, none, .mv (.t 6) none⟩,
      ⟨some 32, none, .ss (.t 30) (some (.t 31)) none⟩,
      ⟨some 33, none, .bs 1 1 [.string ⟨#[]⟩] [(0, .t 32)]⟩,
      ⟨some 34, none, .ap 1 0 (.t 29) (.t 33)⟩,
      ⟨some 4, none, .mv (.t 34) none⟩])
   (.rt)))))) }
theorem k_impl_splitAt : chkF Go.Proofs.Try.prog fid_impl_splitAt c_impl_splitAt = true := by kernel_rfl

def c_spec_l1Cur_pick : F2 :=
  { nt := 20, res := [.t 4 [0]], body :=
   (.sq (.rg none [⟨some 4, none, .mv (.k (.int .i64 0)) none⟩])
   (.sq (.sq (.rg none [⟨some 6, none, .mv (.t 1) none⟩,
       ⟨some 7, none, .bi .leq 0 (.t 6) (.k (.int .i64 1))⟩])
    (.cd (.t 7) (.sq (.rg none [⟨some 4, none, .mv (.k (.int .i64 0)) none⟩])
     (.rt))
    (.sk)))
   (.sq (.rg none [⟨some 8, none, .mv (.t 0) none⟩,
      ⟨some 9, none, .ca .pure false (.f fid_spec_l1Cur_next) [.t 8]⟩,
      ⟨some 5, none, .mv (.t 9) none⟩])
   (.sq (.sq (.rg none [⟨some 10, none, .mv (.t 1) none⟩,
       ⟨some 11, none, .bi .gtr 0 (.t 10) (.k (.int .i64 200))⟩])
    (.cd (.t 11) (.rg none [⟨some 12, none, .mv (.t 5) none⟩,
       ⟨some 13, none, .bi .mul 0 (.t 12) (.k (.int .i64 256))⟩,
       ⟨some 14, none, .mv (.t 0) none⟩,
       ⟨some 15, none, .ca .pure false (.f fid_spec_l1Cur_next) [.t 14]⟩,
       ⟨some 16, none, .bi .add 0 (.t 13) (.t 15)⟩,
       ⟨some 5, none, .mv (.t 16) none⟩])
    (.sk)))
   (.sq (.rg none [⟨some 17, none, .mv (.t 5) none⟩,
      ⟨some 18, none, .mv (.t 1) none⟩,
      ⟨some 19, none, .bi .rem 0 (.t 17) (.t 18)⟩,
      ⟨some 4, none, .mv (.t 19) none⟩])
   (.rt)))))) }
theorem k_spec_l1Cur_pick : chkF Go.Proofs.Try.prog fid_spec_l1Cur_pick c_spec_l1Cur_pick = true := by kernel_rfl

def c_spec_l1Cur_one : F2 :=
  { nt := 9, res := [.t 4 [0]], body :=
   (.sq (.rg none [⟨some 4, none, .mv (.k (.bool false)) none⟩])
   (.sq (.rg none [⟨some 5, none, .mv (.t 0) none⟩,
      ⟨some 6, none, .mv (.t 1) none⟩,
      ⟨some 7, none, .ca .pure false (.f fid_spec_l1Cur_pick) [.t 5, .t 6]⟩,
      ⟨some 8, none, .bi .eql 0 (.t 7) (.k (.int .i64 0))⟩,
      ⟨some 4, none, .mv (.t 8) none⟩])
   (.rt))) }
theorem k_spec_l1Cur_one : chkF Go.Proofs.Try.prog fid_spec_l1Cur_one c_spec_l1Cur_one = true := by kernel_rfl

def c_spec_l1Stands : F2 :=
  { nt := 17, res := [.t 4 [0]], body :=
   (.sq (.rg none [⟨some 4, none, .mv (.k (.bool false)) none⟩])
   (.sq (.sq (.rg none [⟨some 5, none, .mv (.k (.int .i64 0)) none⟩])
    (.bl 0 (.lp [0, 1, 5] [] (.sq (.sq (.rg none [⟨some 6, none, .mv (.t 5) none⟩,
          ⟨some 7, none, .mv (.t 0) none⟩,
          ⟨some 8, none, .lg (.t 7)⟩,
          ⟨some 9, none, .bi .lss 0 (.t 6) (.t 8)⟩])
       (.cd (.t 9) (.sk)
       (.ex 0)))
      (.sq (.bl 1 (.sq (.rg none [⟨some 12, none, .mv (.t 0) none⟩,
           ⟨some 13, none, .mv (.t 5) none⟩,
           ⟨some 14, none, .ix (.t 12) (.t 13)⟩,
           ⟨some 15, none, .mv (.t 1) none⟩,
           ⟨some 16, none, .bi .eql 0 (.t 14) (.t 15)⟩])
        (.cd (.t 16) (.sq (.rg none [⟨some 4, none, .mv (.k (.bool true)) none⟩])
         (.rt))
        (.sk))))
      (.rg none [⟨some 10, none, .mv (.t 5) none⟩,
        ⟨some 11, none, .bi .add 0 (.t 10) (.k (.int .i64 1))⟩,
        ⟨some 5, none, .mv (.t 11) none⟩]))))))
   (.sq (.rg none [⟨some 4, none, .mv (.k (.bool false)) none⟩])
   (.rt)))) }
theorem k_spec_l1Stands : chkF Go.Proofs.Try.prog fid_spec_l1Stands c_spec_l1Stands = true := by kernel_rfl

def c_spec_l10Good : F2 :=
  { nt := 58, res := [.t 2 [0]], body :=
   (.sq (.rg none [⟨some 1, none, .bt (.t 0)⟩,
      ⟨some 2, none, .mv (.k (.bool false)) none⟩])
   (.sq (.rg none [⟨some 6, none, .fa 0 (.t 1)⟩,
      ⟨some 7, none, .ld none (.t 6)⟩,
      ⟨some 8, none, .ln (.t 7)⟩,
      ⟨some 3, none, .mv (.t 8) none⟩])
   (.sq (.sq (.rg none [⟨some 4, none, .mv (.k (.int .i64 0)) none⟩])
    (.bl 0 (.lp [1, 3, 4] [] (.sq (.sq (.rg none [⟨some 9, none, .mv (.t 4) none⟩,
          ⟨some 10, none, .fa 1 (.t 1)⟩,
          ⟨some 11, none, .ld none (.t 10)⟩,
          ⟨some 12, none, .ln (.t 11)⟩,
          ⟨some 13, none, .bi .lss 0 (.t 9) (.t 12)⟩])
       (.cd (.t 13) (.sk)
       (.ex 0)))
      (.sq (.bl 1 (.sq (.rg none [⟨some 16, none, .fa 1 (.t 1)⟩,
           ⟨some 17, none, .ld none (.t 16)⟩,
           ⟨some 18, none, .mv (.t 4) none⟩,
           ⟨some 19, none, .ia 3 (.t 17) (.t 18)⟩,
           ⟨some 20, none, .ld (some 3) (.t 19)⟩,
           ⟨some 5, none, .al [.int .i64 0, .int .i64 0, .int .i64 0] []⟩,
           ⟨none, none, .st 3 (.t 5) (.t 20)⟩])
        (.sq (.rg (some 0) [⟨some 21, none, .ja 1 3 (.t 5) (.k (.int .i64 0))⟩,
           ⟨some 22, none, .ld none (.t 21)⟩,
           ⟨some 23, none, .mv (.t 3) none⟩,
           ⟨some 24, none, .bi .sub 0 (.t 23) (.k (.int .i64 1))⟩,
           ⟨some 25, none, .ca .pure false (.f fid_spec_l1In) [.t 22, .k (.int .i64 0), .t 24]⟩,
           ⟨some 26, none, .nt (.t 25)⟩,
           ⟨some 27, none, .mv (.t 26) none⟩,
           ⟨some 28, (some (27, false)), .ja 1 3 (.t 5) (.k (.int .i64 1))⟩,
           ⟨some 29, (some (27, false)), .ld none (.t 28)⟩,
           ⟨some 30, (some (27, false)), .ca .pure false (.f fid_spec_l1In) [.t 29, .k (.int .i64 0), .k (.int .i64 5)]⟩,
           ⟨some 31, (some (27, false)), .nt (.t 30)⟩,
           ⟨some 32, none, .pk (.t 27) (.k (.bool true)) (.t 31)⟩,
           ⟨some 33, none, .mv (.t 32) none⟩,
           ⟨some 34, (some (33, false)), .ja 1 3 (.t 5) (.k (.int .i64 2))⟩,
           ⟨some 35, (some (33, false)), .ld none (.t 34)⟩,
           ⟨some 36, (some (33, false)), .mv (.t 3) none⟩,
           ⟨some 37, (some (33, false)), .bi .sub 0 (.t 36) (.k (.int .i64 1))⟩,
           ⟨some 38, (some (33, false)), .ca .pure false (.f fid_spec_l1In) [.t 35, .k (.int .i64 0), .t 37]⟩,
           ⟨some 39, (some (33, false)), .nt (.t 38)⟩,
           ⟨some 40, none, .pk (.t 33) (.k (.bool true)) (.t 39)⟩,
           ⟨some 41, none, .mv (.t 40) none⟩,
           ⟨some 42, (some (41, false)), .mv (.t 4) none⟩,
           ⟨some 43, (some (41, false)), .bi .gtr 0 (.t 42) (.k (.int .i64 0))⟩,
           ⟨some 44, (some (41, false)), .mv (.t 43) none⟩,
           ⟨some 45, (some (44, true)), .fa 1 (.t 1)⟩,
           ⟨some 46, (some (44, true)), .ld none (.t 45)⟩,
           ⟨some 47, (some (44, true)), .mv (.t 4) none⟩,
           ⟨some 48, (some (44, true)), .bi .sub 0 (.t 47) (.k (.int .i64 1))⟩,
           ⟨some 49, (some (44, true)), .ia 3 (.t 46) (.t 48)⟩,
           ⟨some 50, (some (44, true)), .ld (some 3) (.t 49)⟩,
           ⟨some 51, (some (44, true)), .ld (some 3) (.t 5)⟩,
           ⟨some 52, (some (44, true)), .ca .pure false (.f fid_spec_l10Before) [.t 50, .t 51]⟩,
           ⟨some 53, (some (44, true)), .nt (.t 52)⟩,
           ⟨some 54, (some (41, false)), .pk (.t 44) (.t 53) (.k (.bool false))⟩,
           ⟨some 55, none, .pk (.t 41) (.k (.bool true)) (.t 54)⟩])
        (.cd (.t 55) (.sq (.rg none [⟨some 2, none, .mv (.k (.bool false)) none⟩])
         (.rt))
        (.sk)))))
      (.rg none [⟨some 14, none, .mv (.t 4) none⟩,
        ⟨some 15, none, .bi .add 0 (.t 14) (.k (.int .i64 1))⟩,
        ⟨some 4, none, .mv (.t 15) none⟩]))))))
   (.sq (.rg none [⟨some 56, none, .mv (.t 3) none⟩,
      ⟨some 57, none, .ca .pure false (.f fid_spec_l1In) [.t 56, .k (.int .i64 1), .k (.int .i64 40)]⟩,
      ⟨some 2, none, .mv (.t 57) none⟩])
   (.rt))))) }
theorem k_spec_l10Good : chkF Go.Proofs.Try.prog fid_spec_l10Good c_spec_l10Good = true := by kernel_rfl

def c_spec_l10Goals : F2 :=
  { nt := 11, res := [.t 4 [0]], body :=
   (.sq (.rg none [⟨some 2, none, .bt (.t 0)⟩,
      ⟨some 4, none, .mv (.k (.bool false)) none⟩])
   (.sq (.rg none [⟨some 5, none, .mv (.t 1) none⟩,
      ⟨some 6, none, .fa 0 (.t 2)⟩,
      ⟨some 7, none, .ld none (.t 6)⟩,
      ⟨some 8, none, .ln (.t 7)⟩,
      ⟨some 9, none, .bi .sub 0 (.t 8) (.k (.int .i64 1))⟩,
      ⟨some 10, none, .ca .pure false (.f fid_spec_l1Rising) [.t 5, .k (.int .i64 0), .t 9]⟩,
      ⟨some 4, none, .mv (.t 10) none⟩])
   (.rt))) }
theorem k_spec_l10Goals : chkF Go.Proofs.Try.prog fid_spec_l10Goals c_spec_l10Goals = true := by kernel_rfl

def c_spec_l1Has : F2 :=
  { nt := 18, res := [.t 4 [0]], body :=
   (.sq (.rg none [⟨some 4, none, .mv (.k (.bool false)) none⟩])
   (.sq (.sq (.rg none [⟨some 5, none, .mv (.k (.int .i64 0)) none⟩])
    (.bl 0 (.lp [0, 1, 5] [] (.sq (.sq (.rg none [⟨some 6, none, .mv (.t 5) none⟩,
          ⟨some 7, none, .mv (.t 0) none⟩,
          ⟨some 8, none, .ln (.t 7)⟩,
          ⟨some 9, none, .bi .lss 0 (.t 6) (.t 8)⟩])
       (.cd (.t 9) (.sk)
       (.ex 0)))
      (.sq (.bl 1 (.sq (.rg none [⟨some 12, none, .mv (.t 0) none⟩,
           ⟨some 13, none, .mv (.t 5) none⟩,
           ⟨some 14, none, .ia 1 (.t 12) (.t 13)⟩,
           ⟨some 15, none, .ld none (.t 14)⟩,
           ⟨some 16, none, .mv (.t 1) none⟩,
           ⟨some 17, none, .bi .eql 0 (.t 15) (.t 16)⟩])
        (.cd (.t 17) (.sq (.rg none [⟨some 4, none, .mv (.k (.bool true)) none⟩])
         (.rt))
        (.sk))))
      (.rg none [⟨some 10, none, .mv (.t 5) none⟩,
        ⟨some 11, none, .bi .add 0 (.t 10) (.k (.int .i64 1))⟩,
        ⟨some 5, none, .mv (.t 11) none⟩]))))))
   (.sq (.rg none [⟨some 4, none, .mv (.k (.bool false)) none⟩])
   (.rt)))) }
theorem k_spec_l1Has : chkF Go.Proofs.Try.prog fid_spec_l1Has c_spec_l1Has = true := by kernel_rfl

def c_impl_isGoals : F2 :=
  { nt := 14, res := [.t 4 [0]], body :=
   (.sq (.rg none [⟨some 2, none, .bt (.t 0)⟩,
      ⟨some 4, none, .mv (.k (.bool false)) none⟩])
   (.sq (.rg none [⟨some 5, none, .ld (some 2) (.t 2)⟩,
      ⟨some 6, none, .ca .pure false (.f fid_impl_isSystem) [.t 5]⟩,
      ⟨some 7, none, .mv (.t 6) none⟩,
      ⟨some 8, (some (7, true)), .mv (.t 1) none⟩,
      ⟨some 9, (some (7, true)), .fa 0 (.t 2)⟩,
      ⟨some 10, (some (7, true)), .ld none (.t 9)⟩,
      ⟨some 11, (some (7, true)), .ln (.t 10)⟩,
      ⟨some 12, (some (7, true)), .ca .pure false (.f fid_impl_isRising) [.t 8, .t 11]⟩,
      ⟨some 13, none, .pk (.t 7) (.t 12) (.k (.bool false))⟩,
      ⟨some 4, none, .mv (.t 13) none⟩])
   (.rt))) }
theorem k_impl_isGoals : chkF Go.Proofs.Try.prog fid_impl_isGoals c_impl_isGoals = true := by kernel_rfl

def c_slices_ContainsFunc_3_int_3_int : F2 :=
  { nt := 9, res := [.t 4 [0]], body :=
   (.sq (.rg none [⟨some 4, none, .mv (.k (.bool false)) none⟩])
   (.sq (.rg none [⟨some 5, none, .mv (.t 0) none⟩,
      ⟨some 6, none, .mv (.t 1) none⟩,
      ⟨some 7, none, .ca .pure false (.f fid_slices_IndexFunc_3_int_3_int) [.t 5, .t 6]⟩,
      ⟨some 8, none, .bi .geq 0 (.t 7) (.k (.int .i64 0))⟩,
      ⟨some 4, none, .mv (.t 8) none⟩])
   (.rt))) }
theorem k_slices_ContainsFunc_3_int_3_int : chkF Go.Proofs.Try.prog fid_slices_ContainsFunc_3_int_3_int c_slices_ContainsFunc_3_int_3_int = true := by kernel_rfl

def c_impl_IsClosedSet_1 : F2 :=
  { nt := 15, res := [.t 3 [0]], body :=
   (.sq (.rg none [⟨some 2, none, .bt (.t 0)⟩,
      ⟨some 3, none, .mv (.k (.bool false)) none⟩])
   (.sq (.rg none [⟨some 4, none, .ld none (.t 1)⟩,
      ⟨some 5, none, .ja 1 3 (.t 2) (.k (.int .i64 0))⟩,
      ⟨some 6, none, .ld none (.t 5)⟩,
      ⟨some 7, none, .ca .pure false (.f fid_slices_Contains_int_int) [.t 4, .t 6]⟩,
      ⟨some 8, none, .mv (.t 7) none⟩,
      ⟨some 9, (some (8, true)), .ld none (.t 1)⟩,
      ⟨some 10, (some (8, true)), .ja 1 3 (.t 2) (.k (.int .i64 2))⟩,
      ⟨some 11, (some (8, true)), .ld none (.t 10)⟩,
      ⟨some 12, (some (8, true)), .ca .pure false (.f fid_slices_Contains_int_int) [.t 9, .t 11]⟩,
      ⟨some 13, (some (8, true)), .nt (.t 12)⟩,
      ⟨some 14, none, .pk (.t 8) (.t 13) (.k (.bool false))⟩,
      ⟨some 3, none, .mv (.t 14) none⟩])
   (.rt))) }
theorem k_impl_IsClosedSet_1 : chkF Go.Proofs.Try.prog fid_impl_IsClosedSet_1 c_impl_IsClosedSet_1 = true := by kernel_rfl

def c_slices_Contains_int_int : F2 :=
  { nt := 9, res := [.t 4 [0]], body :=
   (.sq (.rg none [⟨some 4, none, .mv (.k (.bool false)) none⟩])
   (.sq (.rg none [⟨some 5, none, .mv (.t 0) none⟩,
      ⟨some 6, none, .mv (.t 1) none⟩,
      ⟨some 7, none, .ca .pure false (.f fid_slices_Index_int_int) [.t 5, .t 6]⟩,
      ⟨some 8, none, .bi .geq 0 (.t 7) (.k (.int .i64 0))⟩,
      ⟨some 4, none, .mv (.t 8) none⟩])
   (.rt))) }
theorem k_slices_Contains_int_int : chkF Go.Proofs.Try.prog fid_slices_Contains_int_int c_slices_Contains_int_int = true := by kernel_rfl

def c_spec_l10From : F2 :=
  { nt := 32, res := [.t 4 [4]], body :=
   (.sq (.rg none [⟨some 2, none, .bt (.t 0)⟩,
      ⟨some 4, none, .mv (.k (.slice none 0 0)) none⟩])
   (.sq (.rg none [⟨some 7, none, .bs 3 0 [] []⟩,
      ⟨some 5, none, .mv (.t 7) none⟩])
   (.sq (.sq (.rg none [⟨some 6, none, .mv (.k (.int .i64 0)) none⟩])
    (.bl 0 (.lp [1, 2, 5, 6] [224, 960] (.sq (.sq (.rg none [⟨some 8, none, .mv (.t 6) none⟩,
          ⟨some 9, none, .fa 1 (.t 2)⟩,
          ⟨some 10, none, .ld none (.t 9)⟩,
          ⟨some 11, none, .ln (.t 10)⟩,
          ⟨some 12, none, .bi .lss 0 (.t 8) (.t 11)⟩])
       (.cd (.t 12) (.sk)
       (.ex 0)))
      (.sq (.bl 1 (.sq (.rg none [⟨some 15, none, .fa 1 (.t 2)⟩,
           ⟨some 16, none, .ld none (.t 15)⟩,
           ⟨some 17, none, .mv (.t 6) none⟩,
           ⟨some 18, none, .ia 3 (.t 16) (.t 17)⟩,
           ⟨some 19, none, .ja 1 3 (.t 18) (.k (.int .i64 0))⟩,
           ⟨some 20, none, .ld none (.t 19)⟩,
           ⟨some 21, none, .mv (.t 1) none⟩,
           ⟨some 22, none, .bi .eql 0 (.t 20) (.t 21)⟩])
        (.cd (.t 22) (.rg none [⟨some 23, none, .mv (.t 5) none⟩,
           ⟨some 24, none, .fa 1 (.t 2)⟩,
           ⟨some 25, none, .ld none (.t 24)⟩,
           ⟨some 26, none, .mv (.t 6) none⟩,
           ⟨some 27, none, .ia 3 (.t 25) (.t 26)⟩,
           ⟨some 28, none, .ld (some 3) (.t 27)⟩,
           ⟨some 29, none, .bs 3 1 [.int .i64 0, .int .i64 0, .int .i64 0] [(0, .t 28)]⟩,
           ⟨some 30, none, .ap 3 0 (.t 23) (.t 29)⟩,
           ⟨some 5, none, .mv (.t 30) none⟩])
        (.sk))))
      (.rg none [⟨some 13, none, .mv (.t 6) none⟩,
        ⟨some 14, none, .bi .add 0 (.t 13) (.k (.int .i64 1))⟩,
        ⟨some 6, none, .mv (.t 14) none⟩]))))))
   (.sq (.rg none [⟨some 31, none, .mv (.t 5) none⟩,
      ⟨some 4, none, .mv (.t 31) none⟩])
   (.rt))))) }
theorem k_spec_l10From : chkF Go.Proofs.Try.prog fid_spec_l10From c_spec_l10From = true := by kernel_rfl

def c_impl_isSystem : F2 :=
  { nt := 15, res := [.t 2 [0]], body :=
   (.sq (.rg none [⟨some 1, none, .bt (.t 0)⟩,
      ⟨some 2, none, .mv (.k (.bool false)) none⟩])
   (.sq (.rg none [⟨some 3, none, .fa 0 (.t 1)⟩,
      ⟨some 4, none, .ld none (.t 3)⟩,
      ⟨some 5, none, .ln (.t 4)⟩,
      ⟨some 6, none, .ca .pure false (.f fid_impl_within) [.t 5, .k (.int .i64 1), .k (.int .i64 40)]⟩,
      ⟨some 7, none, .mv (.t 6) none⟩,
      ⟨some 8, (some (7, true)), .fa 1 (.t 1)⟩,
      ⟨some 9, (some (7, true)), .ld none (.t 8)⟩,
      ⟨some 10, (some (7, true)), .fa 0 (.t 1)⟩,
      ⟨some 11, (some (7, true)), .ld none (.t 10)⟩,
      ⟨some 12, (some (7, true)), .ln (.t 11)⟩,
      ⟨some 13, (some (7, true)), .ca .pure false (.f fid_impl_areSteps) [.t 9, .t 12, .k (.int .i64 6)]⟩,
      ⟨some 14, none, .pk (.t 7) (.t 13) (.k (.bool false))⟩,
      ⟨some 2, none, .mv (.t 14) none⟩])
   (.rt))) }
theorem k_impl_isSystem : chkF Go.Proofs.Try.prog fid_impl_isSystem c_impl_isSystem = true := by kernel_rfl

def c_impl_System_next : F2 :=
  { nt := 27, res := [.t 4 [2]], body :=
   (.sq (.rg none [⟨some 2, none, .bt (.t 0)⟩,
      ⟨some 4, none, .mv (.k (.slice none 0 0)) none⟩])
   (.sq (.rg none [⟨some 8, none, .bs 1 0 [] []⟩,
      ⟨some 5, none, .mv (.t 8) none⟩])
   (.sq (.sq (.rg none [⟨some 9, none, .fa 1 (.t 2)⟩,
       ⟨some 10, none, .ld none (.t 9)⟩,
       ⟨some 11, none, .ln (.t 10)⟩,
       ⟨some 12, none, .mv (.k (.int .i64 0)) none⟩])
    (.bl 0 (.lp [1, 5, 10, 11, 12] [256, 768] (.sq (.rg none [⟨some 13, none, .bi .lss 0 (.t 12) (.t 11)⟩])
      (.sq (.cd (.t 13) (.sk)
       (.ex 0))
      (.sq (.bl 1 (.sq (.rg none [⟨some 14, none, .ia 3 (.t 10) (.t 12)⟩,
           ⟨some 15, none, .ld (some 3) (.t 14)⟩,
           ⟨some 7, none, .al [.int .i64 0, .int .i64 0, .int .i64 0] []⟩,
           ⟨none, none, .st 3 (.t 7) (.t 15)⟩])
        (.sq (.rg none [⟨some 16, none, .ja 1 3 (.t 7) (.k (.int .i64 0))⟩,
           ⟨some 17, none, .ld none (.t 16)⟩,
           ⟨some 18, none, .mv (.t 1) none⟩,
           ⟨some 19, none, .bi .eql 0 (.t 17) (.t 18)⟩])
        (.cd (.t 19) (.rg none [⟨some 20, none, .mv (.t 5) none⟩,
           ⟨some 21, none, .ja 1 3 (.t 7) (.k (.int .i64 2))⟩,
           ⟨some 22, none, .ld none (.t 21)⟩,
           ⟨some 23, none, .bs 1 1 [.int .i64 0] [(0, .t 22)]⟩,
           ⟨some 24, none, .ap 1 0 (.t 20) (.t 23)⟩,
           ⟨some 5, none, .mv (.t 24) none⟩])
        (.sk)))))
      (.rg none [⟨some 25, none, .bi .add 0 (.t 12) (.k (.int .i64 1))⟩,
        ⟨some 12, none, .mv (.t 25) none⟩])))))))
   (.sq (.rg none [⟨some 26, none, .mv (.t 5) none⟩,
      ⟨some 4, none, .mv (.t 26) none⟩])
   (.rt))))) }
theorem k_impl_System_next : chkF Go.Proofs.Try.prog fid_impl_System_next c_impl_System_next = true := by kernel_rfl

def c_spec_l1Cur_next : F2 :=
  { nt := 62, res := [.t 2 [0]], body :=
   (.sq (.rg none [⟨some 2, none, .mv (.k (.int .i64 0)) none⟩])
   (.sq (.rg none [⟨some 3, none, .mv (.k (.int .i64 0)) none⟩])
   (.sq (.sq (.rg (some 0) [⟨some 4, none, .mv (.t 0) none⟩,
       ⟨some 5, none, .nc (.t 4)⟩,
       ⟨some 6, none, .fa 1 (.t 5)⟩,
       ⟨some 7, none, .ld none (.t 6)⟩,
       ⟨some 8, none, .mv (.t 0) none⟩,
       ⟨some 9, none, .nc (.t 8)⟩,
       ⟨some 10, none, .fa 0 (.t 9)⟩,
       ⟨some 11, none, .ld none (.t 10)⟩,
       ⟨some 12, none, .ln (.t 11)⟩,
       ⟨some 13, none, .bi .lss 0 (.t 7) (.t 12)⟩])
    (.cd (.t 13) (.rg (some 0) [⟨some 14, none, .mv (.t 0) none⟩,
       ⟨some 15, none, .nc (.t 14)⟩,
       ⟨some 16, none, .fa 0 (.t 15)⟩,
       ⟨some 17, none, .ld none (.t 16)⟩,
       ⟨some 18, none, .mv (.t 0) none⟩,
       ⟨some 19, none, .nc (.t 18)⟩,
       ⟨some 20, none, .fa 1 (.t 19)⟩,
       ⟨some 21, none, .ld none (.t 20)⟩,
       ⟨some 22, none, .ia 1 (.t 17) (.t 21)⟩,
       ⟨some 23, none, .ld none (.t 22)⟩,
       ⟨some 24, none, .cv (.int .i64) (.t 23)⟩,
       ⟨some 3, none, .mv (.t 24) none⟩])
    (.sk)))
   (.sq (.rg none [⟨some 25, none, .mv (.t 0) none⟩,
      ⟨some 26, none, .nc (.t 25)⟩,
      ⟨some 27, none, .fa 1 (.t 26)⟩,
      ⟨some 28, none, .ld none (.t 27)⟩,
      ⟨some 29, none, .bi .add 0 (.t 28) (.k (.int .i64 1))⟩,
      ⟨some 30, none, .nc (.t 25)⟩,
      ⟨some 31, none, .fa 1 (.t 30)⟩,
      ⟨none, none, .st 1 (.t 31) (.t 29)⟩])
   (.sq (.rg none [⟨some 32, none, .mv (.t 0) none⟩,
      ⟨some 33, none, .mv (.t 0) none⟩,
      ⟨some 34, none, .nc (.t 33)⟩,
      ⟨some 35, none, .fa 2 (.t 34)⟩,
      ⟨some 36, none, .ld none (.t 35)⟩,
      ⟨some 37, none, .bi .mul 1 (.t 36) (.k (.int .u64 6364136223846793005))⟩,
      ⟨some 38, none, .mv (.t 3) none⟩,
      ⟨some 39, none, .cv (.int .u64) (.t 38)⟩,
      ⟨some 40, none, .bi .add 1 (.t 37) (.t 39)⟩,
      ⟨some 41, none, .bi .add 1 (.t 40) (.k (.int .u64 462197))⟩,
      ⟨some 42, none, .nc (.t 32)⟩,
      ⟨some 43, none, .fa 2 (.t 42)⟩,
      ⟨none, none, .st 1 (.t 43) (.t 41)⟩])
   (.sq (.sq (.rg (some 0) [⟨some 44, none, .mv (.t 0) none⟩,
       ⟨some 45, none, .nc (.t 44)⟩,
       ⟨some 46, none, .fa 1 (.t 45)⟩,
       ⟨some 47, none, .ld none (.t 46)⟩,
       ⟨some 48, none, .mv (.t 0) none⟩,
       ⟨some 49, none, .nc (.t 48)⟩,
       ⟨some 50, none, .fa 0 (.t 49)⟩,
       ⟨some 51, none, .ld none (.t 50)⟩,
       ⟨some 52, none, .ln (.t 51)⟩,
       ⟨some 53, none, .bi .leq 0 (.t 47) (.t 52)⟩])
    (.cd (.t 53) (.sq (.rg none [⟨some 54, none, .mv (.t 3) none⟩,
        ⟨some 2, none, .mv (.t 54) none⟩])
     (.rt))
    (.sk)))
   (.sq (.rg none [⟨some 55, none, .mv (.t 0) none⟩,
      ⟨some 56, none, .nc (.t 55)⟩,
      ⟨some 57, none, .fa 2 (.t 56)⟩,
      ⟨some 58, none, .ld none (.t 57)⟩,
      ⟨some 59, none, .bi .shr 0 (.t 58) (.k (.int .u64 40))⟩,
      ⟨some 60, none, .bi .and 0 (.t 59) (.k (.int .u64 255))⟩,
      ⟨some 61, none, .cv (.int .i64) (.t 60)⟩,
      ⟨some 2, none, .mv (.t 61) none⟩])
   (.rt)))))))) }
theorem k_spec_l1Cur_next : chkF Go.Proofs.Try.prog fid_spec_l1Cur_next c_spec_l1Cur_next = true := by kernel_rfl

def c_spec_l1In : F2 :=
  { nt := 15, res := [.t 6 [0]], body :=
   (.sq (.rg none [⟨some 6, none, .mv (.k (.bool false)) none⟩])
   (.sq (.rg none [⟨some 7, none, .mv (.t 0) none⟩,
      ⟨some 8, none, .mv (.t 1) none⟩,
      ⟨some 9, none, .bi .geq 0 (.t 7) (.t 8)⟩,
      ⟨some 10, none, .mv (.t 9) none⟩,
      ⟨some 11, (some (10, true)), .mv (.t 0) none⟩,
      ⟨some 12, (some (10, true)), .mv (.t 2) none⟩,
      ⟨some 13, (some (10, true)), .bi .leq 0 (.t 11) (.t 12)⟩,
      ⟨some 14, none, .pk (.t 10) (.t 13) (.k (.bool false))⟩,
      ⟨some 6, none, .mv (.t 14) none⟩])
   (.rt))) }
theorem k_spec_l1In : chkF Go.Proofs.Try.prog fid_spec_l1In c_spec_l1In = true := by kernel_rfl

def c_spec_l10Before : F2 :=
  { nt := 24, res := [.t 4 [0]], body :=
   (.sq (.rg none [⟨some 2, none, .bt (.t 0)⟩,
      ⟨some 3, none, .bt (.t 1)⟩,
      ⟨some 4, none, .mv (.k (.bool false)) none⟩])
   (.sq (.sq (.rg none [⟨some 5, none, .mv (.k (.int .i64 0)) none⟩])
    (.bl 0 (.lp [2, 3, 5] [] (.sq (.sq (.rg none [⟨some 6, none, .mv (.t 5) none⟩,
          ⟨some 7, none, .bi .lss 0 (.t 6) (.k (.int .i64 3))⟩])
       (.cd (.t 7) (.sk)
       (.ex 0)))
      (.sq (.bl 1 (.sq (.rg (some 0) [⟨some 10, none, .mv (.t 5) none⟩,
           ⟨some 11, none, .ja 1 3 (.t 2) (.t 10)⟩,
           ⟨some 12, none, .ld none (.t 11)⟩,
           ⟨some 13, none, .mv (.t 5) none⟩,
           ⟨some 14, none, .ja 1 3 (.t 3) (.t 13)⟩,
           ⟨some 15, none, .ld none (.t 14)⟩,
           ⟨some 16, none, .bi .neq 0 (.t 12) (.t 15)⟩])
        (.cd (.t 16) (.sq (.rg (some 0) [⟨some 17, none, .mv (.t 5) none⟩,
            ⟨some 18, none, .ja 1 3 (.t 2) (.t 17)⟩,
            ⟨some 19, none, .ld none (.t 18)⟩,
            ⟨some 20, none, .mv (.t 5) none⟩,
            ⟨some 21, none, .ja 1 3 (.t 3) (.t 20)⟩,
            ⟨some 22, none, .ld none (.t 21)⟩,
            ⟨some 23, none, .bi .lss 0 (.t 19) (.t 22)⟩,
            ⟨some 4, none, .mv (.t 23) none⟩])
         (.rt))
        (.sk))))
      (.rg none [⟨some 8, none, .mv (.t 5) none⟩,
        ⟨some 9, none, .bi .add 0 (.t 8) (.k (.int .i64 1))⟩,
        ⟨some 5, none, .mv (.t 9) none⟩]))))))
   (.sq (.rg none [⟨some 4, none, .mv (.k (.bool false)) none⟩])
   (.rt)))) }
theorem k_spec_l10Before : chkF Go.Proofs.Try.prog fid_spec_l10Before c_spec_l10Before = true := by kernel_rfl

def c_spec_l1Rising : F2 :=
  { nt := 38, res := [.t 6 [0]], body :=
   (.sq (.rg none [⟨some 6, none, .mv (.k (.bool false)) none⟩])
   (.sq (.sq (.rg none [⟨some 7, none, .mv (.k (.int .i64 0)) none⟩])
    (.bl 0 (.lp [0, 1, 2, 7] [] (.sq (.sq (.rg none [⟨some 8, none, .mv (.t 7) none⟩,
          ⟨some 9, none, .mv (.t 0) none⟩,
          ⟨some 10, none, .ln (.t 9)⟩,
          ⟨some 11, none, .bi .lss 0 (.t 8) (.t 10)⟩])
       (.cd (.t 11) (.sk)
       (.ex 0)))
      (.sq (.bl 1 (.sq (.rg (some 0) [⟨some 14, none, .mv (.t 0) none⟩,
           ⟨some 15, none, .mv (.t 7) none⟩,
           ⟨some 16, none, .ia 1 (.t 14) (.t 15)⟩,
           ⟨some 17, none, .ld none (.t 16)⟩,
           ⟨some 18, none, .mv (.t 1) none⟩,
           ⟨some 19, none, .mv (.t 2) none⟩,
           ⟨some 20, none, .ca .pure false (.f fid_spec_l1In) [.t 17, .t 18, .t 19]⟩,
           ⟨some 21, none, .nt (.t 20)⟩,
           ⟨some 22, none, .mv (.t 21) none⟩,
           ⟨some 23, (some (22, false)), .mv (.t 7) none⟩,
           ⟨some 24, (some (22, false)), .bi .gtr 0 (.t 23) (.k (.int .i64 0))⟩,
           ⟨some 25, (some (22, false)), .mv (.t 24) none⟩,
           ⟨some 26, (some (25, true)), .mv (.t 0) none⟩,
           ⟨some 27, (some (25, true)), .mv (.t 7) none⟩,
           ⟨some 28, (some (25, true)), .bi .sub 0 (.t 27) (.k (.int .i64 1))⟩,
           ⟨some 29, (some (25, true)), .ia 1 (.t 26) (.t 28)⟩,
           ⟨some 30, (some (25, true)), .ld none (.t 29)⟩,
           ⟨some 31, (some (25, true)), .mv (.t 0) none⟩,
           ⟨some 32, (some (25, true)), .mv (.t 7) none⟩,
           ⟨some 33, (some (25, true)), .ia 1 (.t 31) (.t 32)⟩,
           ⟨some 34, (some (25, true)), .ld none (.t 33)⟩,
           ⟨some 35, (some (25, true)), .bi .geq 0 (.t 30) (.t 34)⟩,
           ⟨some 36, (some (22, false)), .pk (.t 25) (.t 35) (.k (.bool false))⟩,
           ⟨some 37, none, .pk (.t 22) (.k (.bool true)) (.t 36)⟩])
        (.cd (.t 37) (.sq (.rg none [⟨some 6, none, .mv (.k (.bool false)) none⟩])
         (.rt))
        (.sk))))
      (.rg none [⟨some 12, none, .mv (.t 7) none⟩,
        ⟨some 13, none, .bi .add 0 (.t 12) (.k (.int .i64 1))⟩,
        ⟨some 7, none, .mv (.t 13) none⟩]))))))
   (.sq (.rg none [⟨some 6, none, .mv (.k (.bool true)) none⟩])
   (.rt)))) }
theorem k_spec_l1Rising : chkF Go.Proofs.Try.prog fid_spec_l1Rising c_spec_l1Rising = true := by kernel_rfl

def c_impl_isRising : F2 :=
  { nt := 33, res := [.t 4 [0]], body :=
   (.sq (.rg none [⟨some 4, none, .mv (.k (.bool false)) none⟩])
   (.sq (.sq (.rg none [⟨some 7, none, .mv (.t 0) none⟩,
       ⟨some 8, none, .ln (.t 7)⟩,
       ⟨some 9, none, .mv (.k (.int .i64 0)) none⟩])
    (.bl 0 (.lp [0, 1, 7, 8, 9] [] (.sq (.rg none [⟨some 10, none, .bi .lss 0 (.t 9) (.t 8)⟩])
      (.sq (.cd (.t 10) (.sk)
       (.ex 0))
      (.sq (.bl 1 (.sq (.rg none [⟨some 11, none, .mv (.t 9) none⟩,
           ⟨some 12, none, .ia 1 (.t 7) (.t 9)⟩,
           ⟨some 13, none, .ld none (.t 12)⟩,
           ⟨some 5, none, .mv (.t 11) none⟩,
           ⟨some 6, none, .mv (.t 13) none⟩])
        (.sq (.rg none [⟨some 14, none, .mv (.t 6) none⟩,
           ⟨some 15, none, .mv (.t 1) none⟩,
           ⟨some 16, none, .bi .sub 0 (.t 15) (.k (.int .i64 1))⟩,
           ⟨some 17, none, .ca .pure false (.f fid_impl_within) [.t 14, .k (.int .i64 0), .t 16]⟩,
           ⟨some 18, none, .nt (.t 17)⟩,
           ⟨some 19, none, .mv (.t 18) none⟩,
           ⟨some 20, (some (19, false)), .mv (.t 5) none⟩,
           ⟨some 21, (some (19, false)), .bi .gtr 0 (.t 20) (.k (.int .i64 0))⟩,
           ⟨some 22, (some (19, false)), .mv (.t 21) none⟩,
           ⟨some 23, (some (22, true)), .mv (.t 6) none⟩,
           ⟨some 24, (some (22, true)), .mv (.t 0) none⟩,
           ⟨some 25, (some (22, true)), .mv (.t 5) none⟩,
           ⟨some 26, (some (22, true)), .bi .sub 0 (.t 25) (.k (.int .i64 1))⟩,
           ⟨some 27, (some (22, true)), .ia 1 (.t 24) (.t 26)⟩,
           ⟨some 28, (some (22, true)), .ld none (.t 27)⟩,
           ⟨some 29, (some (22, true)), .bi .leq 0 (.t 23) (.t 28)⟩,
           ⟨some 30, (some (19, false)), .pk (.t 22) (.t 29) (.k (.bool false))⟩,
           ⟨some 31, none, .pk (.t 19) (.k (.bool true)) (.t 30)⟩])
        (.cd (.t 31) (.sq (.rg none [⟨some 4, none, .mv (.k (.bool false)) none⟩])
         (.rt))
        (.sk)))))
      (.rg none [⟨some 32, none, .bi .add 0 (.t 9) (.k (.int .i64 1))⟩,
        ⟨some 9, none, .mv (.t 32) none⟩])))))))
   (.sq (.rg none [⟨some 4, none, .mv (.k (.bool true)) none⟩])
   (.rt)))) }
theorem k_impl_isRising : chkF Go.Proofs.Try.prog fid_impl_isRising c_impl_isRising = true := by kernel_rfl

def c_slices_IndexFunc_3_int_3_int : F2 :=
  { nt := 19, res := [.t 4 [0]], body :=
   (.sq (.rg none [⟨some 4, none, .mv (.k (.int .i64 0)) none⟩])
   (.sq (.sq (.rg none [⟨some 6, none, .mv (.t 0) none⟩,
       ⟨some 7, none, .ln (.t 6)⟩,
       ⟨some 8, none, .mv (.k (.int .i64 0)) none⟩])
    (.bl 0 (.lp [0, 1, 7, 8] [] (.sq (.rg none [⟨some 9, none, .bi .lss 0 (.t 8) (.t 7)⟩])
      (.sq (.cd (.t 9) (.sk)
       (.ex 0))
      (.sq (.bl 1 (.sq (.rg none [⟨some 10, none, .mv (.t 8) none⟩,
           ⟨some 5, none, .mv (.t 10) none⟩])
        (.sq (.rg none [⟨some 11, none, .mv (.t 1) none⟩,
           ⟨some 12, none, .mv (.t 0) none⟩,
           ⟨some 13, none, .mv (.t 5) none⟩,
           ⟨some 14, none, .ia 3 (.t 12) (.t 13)⟩,
           ⟨some 15, none, .ld (some 3) (.t 14)⟩,
           ⟨some 16, none, .ca .pure false (.t 11) [.t 15]⟩])
        (.cd (.t 16) (.sq (.rg none [⟨some 17, none, .mv (.t 5) none⟩,
            ⟨some 4, none, .mv (.t 17) none⟩])
         (.rt))
        (.sk)))))
      (.rg none [⟨some 18, none, .bi .add 0 (.t 8) (.k (.int .i64 1))⟩,
        ⟨some 8, none, .mv (.t 18) none⟩])))))))
   (.sq (.rg none [⟨some 4, none, .mv (.k (.int .i64 (-1))) none⟩])
   (.rt)))) }
theorem k_slices_IndexFunc_3_int_3_int : chkF Go.Proofs.Try.prog fid_slices_IndexFunc_3_int_3_int c_slices_IndexFunc_3_int_3_int = true := by kernel_rfl

def c_slices_Index_int_int : F2 :=
  { nt := 19, res := [.t 4 [0]], body :=
   (.sq (.rg none [⟨some 4, none, .mv (.k (.int .i64 0)) none⟩])
   (.sq (.sq (.rg none [⟨some 6, none, .mv (.t 0) none⟩,
       ⟨some 7, none, .ln (.t 6)⟩,
       ⟨some 8, none, .mv (.k (.int .i64 0)) none⟩])
    (.bl 0 (.lp [0, 1, 7, 8] [] (.sq (.rg none [⟨some 9, none, .bi .lss 0 (.t 8) (.t 7)⟩])
      (.sq (.cd (.t 9) (.sk)
       (.ex 0))
      (.sq (.bl 1 (.sq (.rg none [⟨some 10, none, .mv (.t 8) none⟩,
           ⟨some 5, none, .mv (.t 10) none⟩])
        (.sq (.rg none [⟨some 11, none, .mv (.t 1) none⟩,
           ⟨some 12, none, .mv (.t 0) none⟩,
           ⟨some 13, none, .mv (.t 5) none⟩,
           ⟨some 14, none, .ia 1 (.t 12) (.t 13)⟩,
           ⟨some 15, none, .ld none (.t 14)⟩,
           ⟨some 16, none, .bi .eql 0 (.t 11) (.t 15)⟩])
        (.cd (.t 16) (.sq (.rg none [⟨some 17, none, .mv (.t 5) none⟩,
            ⟨some 4, none, .mv (.t 17) none⟩])
         (.rt))
        (.sk)))))
      (.rg none [⟨some 18, none, .bi .add 0 (.t 8) (.k (.int .i64 1))⟩,
        ⟨some 8, none, .mv (.t 18) none⟩])))))))
   (.sq (.rg none [⟨some 4, none, .mv (.k (.int .i64 (-1))) none⟩])
   (.rt)))) }
theorem k_slices_Index_int_int : chkF Go.Proofs.Try.prog fid_slices_Index_int_int c_slices_Index_int_int = true := by kernel_rfl

def c_impl_within : F2 :=
  { nt := 15, res := [.t 6 [0]], body :=
   (.sq (.rg none [⟨some 6, none, .mv (.k (.bool false)) none⟩])
   (.sq (.rg none [⟨some 7, none, .mv (.t 0) none⟩,
      ⟨some 8, none, .mv (.t 1) none⟩,
      ⟨some 9, none, .bi .geq 0 (.t 7) (.t 8)⟩,
      ⟨some 10, none, .mv (.t 9) none⟩,
      ⟨some 11, (some (10, true)), .mv (.t 0) none⟩,
      ⟨some 12, (some (10, true)), .mv (.t 2) none⟩,
      ⟨some 13, (some (10, true)), .bi .leq 0 (.t 11) (.t 12)⟩,
      ⟨some 14, none, .pk (.t 10) (.t 13) (.k (.bool false))⟩,
      ⟨some 6, none, .mv (.t 14) none⟩])
   (.rt))) }
theorem k_impl_within : chkF Go.Proofs.Try.prog fid_impl_within c_impl_within = true := by kernel_rfl

def c_impl_areSteps : F2 :=
  { nt := 53, res := [.t 6 [0]], body :=
   (.sq (.rg none [⟨some 6, none, .mv (.k (.bool false)) none⟩])
   (.sq (.sq (.rg none [⟨some 9, none, .mv (.t 0) none⟩,
       ⟨some 10, none, .ln (.t 9)⟩,
       ⟨some 11, none, .mv (.k (.int .i64 0)) none⟩])
    (.bl 0 (.lp [0, 1, 2, 9, 10, 11] [] (.sq (.rg none [⟨some 12, none, .bi .lss 0 (.t 11) (.t 10)⟩])
      (.sq (.cd (.t 12) (.sk)
       (.ex 0))
      (.sq (.bl 1 (.sq (.rg none [⟨some 13, none, .mv (.t 11) none⟩,
           ⟨some 14, none, .ia 3 (.t 9) (.t 11)⟩,
           ⟨some 15, none, .ld (some 3) (.t 14)⟩,
           ⟨some 8, none, .al [.int .i64 0, .int .i64 0, .int .i64 0] []⟩,
           ⟨some 7, none, .mv (.t 13) none⟩,
           ⟨none, none, .st 3 (.t 8) (.t 15)⟩])
        (.sq (.rg (some 0) [⟨some 16, none, .ja 1 3 (.t 8) (.k (.int .i64 0))⟩,
           ⟨some 17, none, .ld none (.t 16)⟩,
           ⟨some 18, none, .mv (.t 1) none⟩,
           ⟨some 19, none, .bi .sub 0 (.t 18) (.k (.int .i64 1))⟩,
           ⟨some 20, none, .ca .pure false (.f fid_impl_within) [.t 17, .k (.int .i64 0), .t 19]⟩,
           ⟨some 21, none, .nt (.t 20)⟩,
           ⟨some 22, none, .mv (.t 21) none⟩,
           ⟨some 23, (some (22, false)), .ja 1 3 (.t 8) (.k (.int .i64 1))⟩,
           ⟨some 24, (some (22, false)), .ld none (.t 23)⟩,
           ⟨some 25, (some (22, false)), .mv (.t 2) none⟩,
           ⟨some 26, (some (22, false)), .bi .sub 0 (.t 25) (.k (.int .i64 1))⟩,
           ⟨some 27, (some (22, false)), .ca .pure false (.f fid_impl_within) [.t 24, .k (.int .i64 0), .t 26]⟩,
           ⟨some 28, (some (22, false)), .nt (.t 27)⟩,
           ⟨some 29, none, .pk (.t 22) (.k (.bool true)) (.t 28)⟩,
           ⟨some 30, none, .mv (.t 29) none⟩,
           ⟨some 31, (some (30, false)), .ja 1 3 (.t 8) (.k (.int .i64 2))⟩,
           ⟨some 32, (some (30, false)), .ld none (.t 31)⟩,
           ⟨some 33, (some (30, false)), .mv (.t 1) none⟩,
           ⟨some 34, (some (30, false)), .bi .sub 0 (.t 33) (.k (.int .i64 1))⟩,
           ⟨some 35, (some (30, false)), .ca .pure false (.f fid_impl_within) [.t 32, .k (.int .i64 0), .t 34]⟩,
           ⟨some 36, (some (30, false)), .nt (.t 35)⟩,
           ⟨some 37, none, .pk (.t 30) (.k (.bool true)) (.t 36)⟩,
           ⟨some 38, none, .mv (.t 37) none⟩,
           ⟨some 39, (some (38, false)), .mv (.t 7) none⟩,
           ⟨some 40, (some (38, false)), .bi .gtr 0 (.t 39) (.k (.int .i64 0))⟩,
           ⟨some 41, (some (38, false)), .mv (.t 40) none⟩,
           ⟨some 42, (some (41, true)), .mv (.t 0) none⟩,
           ⟨some 43, (some (41, true)), .mv (.t 7) none⟩,
           ⟨some 44, (some (41, true)), .bi .sub 0 (.t 43) (.k (.int .i64 1))⟩,
           ⟨some 45, (some (41, true)), .ia 3 (.t 42) (.t 44)⟩,
           ⟨some 46, (some (41, true)), .ld (some 3) (.t 45)⟩,
           ⟨some 47, (some (41, true)), .ld (some 3) (.t 8)⟩,
           ⟨some 48, (some (41, true)), .ca .pure false (.f fid_impl_compareSteps) [.t 46, .t 47]⟩,
           ⟨some 49, (some (41, true)), .bi .geq 0 (.t 48) (.k (.int .i64 0))⟩,
           ⟨some 50, (some (38, false)), .pk (.t 41) (.t 49) (.k (.bool false))⟩,
           ⟨some 51, none, .pk (.t 38) (.k (.bool true)) (.t 50)⟩])
        (.cd (.t 51) (.sq (.rg none [⟨some 6, none, .mv (.k (.bool false)) none⟩])
         (.rt))
        (.sk)))))
      (.rg none [⟨some 52, none, .bi .add 0 (.t 11) (.k (.int .i64 1))⟩,
        ⟨some 11, none, .mv (.t 52) none⟩])))))))
   (.sq (.rg none [⟨some 6, none, .mv (.k (.bool true)) none⟩])
   (.rt)))) }
theorem k_impl_areSteps : chkF Go.Proofs.Try.prog fid_impl_areSteps c_impl_areSteps = true := by kernel_rfl

def c_impl_compareSteps : F2 :=
  { nt := 8, res := [.t 4 [0]], body :=
   (.sq (.rg none [⟨some 2, none, .bt (.t 0)⟩,
      ⟨some 3, none, .bt (.t 1)⟩,
      ⟨some 4, none, .mv (.k (.int .i64 0)) none⟩])
   (.sq (.rg (some 0) [⟨some 5, none, .sa 3 (.t 2)⟩,
      ⟨some 6, none, .sa 3 (.t 3)⟩,
      ⟨some 7, none, .ca .pure false (.f fid_slices_Compare_int_int) [.t 5, .t 6]⟩,
      ⟨some 4, none, .mv (.t 7) none⟩])
   (.rt))) }
theorem k_impl_compareSteps : chkF Go.Proofs.Try.prog fid_impl_compareSteps c_impl_compareSteps = true := by kernel_rfl

def c_slices_Compare_int_int : F2 :=
  { nt := 36, res := [.t 4 [0]], body :=
   (.sq (.rg none [⟨some 4, none, .mv (.k (.int .i64 0)) none⟩])
   (.sq (.sq (.rg none [⟨some 9, none, .mv (.t 0) none⟩,
       ⟨some 10, none, .ln (.t 9)⟩,
       ⟨some 11, none, .mv (.k (.int .i64 0)) none⟩])
    (.bl 0 (.lp [0, 1, 9, 10, 11] [] (.sq (.rg none [⟨some 12, none, .bi .lss 0 (.t 11) (.t 10)⟩])
      (.sq (.cd (.t 12) (.sk)
       (.ex 0))
      (.sq (.bl 1 (.sq (.rg none [⟨some 13, none, .mv (.t 11) none⟩,
           ⟨some 14, none, .ia 1 (.t 9) (.t 11)⟩,
           ⟨some 15, none, .ld none (.t 14)⟩,
           ⟨some 5, none, .mv (.t 13) none⟩,
           ⟨some 6, none, .mv (.t 15) none⟩])
        (.sq (.sq (.rg none [⟨some 16, none, .mv (.t 5) none⟩,
            ⟨some 17, none, .mv (.t 1) none⟩,
            ⟨some 18, none, .ln (.t 17)⟩,
            ⟨some 19, none, .bi .geq 0 (.t 16) (.t 18)⟩])
         (.cd (.t 19) (.sq (.rg none [⟨some 4, none, .mv (.k (.int .i64 1)) none⟩])
          (.rt))
         (.sk)))
        (.sq (.rg none [⟨some 20, none, .mv (.t 1) none⟩,
           ⟨some 21, none, .mv (.t 5) none⟩,
           ⟨some 22, none, .ia 1 (.t 20) (.t 21)⟩,
           ⟨some 23, none, .ld none (.t 22)⟩,
           ⟨some 7, none, .mv (.t 23) none⟩])
        (.sq (.rg none [⟨some 24, none, .mv (.t 6) none⟩,
           ⟨some 25, none, .mv (.t 7) none⟩,
           ⟨some 26, none, .ca .pure false (.f fid_cmp_Compare_int) [.t 24, .t 25]⟩,
           ⟨some 8, none, .mv (.t 26) none⟩])
        (.sq (.rg none [⟨some 27, none, .mv (.t 8) none⟩,
           ⟨some 28, none, .bi .neq 0 (.t 27) (.k (.int .i64 0))⟩])
        (.cd (.t 28) (.sq (.rg none [⟨some 29, none, .mv (.t 8) none⟩,
            ⟨some 4, none, .mv (.t 29) none⟩])
         (.rt))
        (.sk))))))))
      (.rg none [⟨some 30, none, .bi .add 0 (.t 11) (.k (.int .i64 1))⟩,
        ⟨some 11, none, .mv (.t 30) none⟩])))))))
   (.sq (.sq (.rg none [⟨some 31, none, .mv (.t 0) none⟩,
       ⟨some 32, none, .ln (.t 31)⟩,
       ⟨some 33, none, .mv (.t 1) none⟩,
       ⟨some 34, none, .ln (.t 33)⟩,
       ⟨some 35, none, .bi .lss 0 (.t 32) (.t 34)⟩])
    (.cd (.t 35) (.sq (.rg none [⟨some 4, none, .mv (.k (.int .i64 (-1))) none⟩])
     (.rt))
    (.sk)))
   (.sq (.rg none [⟨some 4, none, .mv (.k (.int .i64 0)) none⟩])
   (.rt))))) }
theorem k_slices_Compare_int_int : chkF Go.Proofs.Try.prog fid_slices_Compare_int_int c_slices_Compare_int_int = true := by kernel_rfl

def c_cmp_Compare_int : F2 :=
  { nt := 20, res := [.t 4 [0]], body :=
   (.sq (.rg none [⟨some 4, none, .mv (.k (.int .i64 0)) none⟩])
   (.sq (.rg none [⟨some 7, none, .mv (.t 0) none⟩,
      ⟨some 8, none, .ca .pure false (.f fid_cmp_isNaN_int) [.t 7]⟩,
      ⟨some 5, none, .mv (.t 8) none⟩])
   (.sq (.rg none [⟨some 9, none, .mv (.t 1) none⟩,
      ⟨some 10, none, .ca .pure false (.f fid_cmp_isNaN_int) [.t 9]⟩,
      ⟨some 6, none, .mv (.t 10) none⟩])
   (.sq (.sq (.rg none [⟨some 11, none, .mv (.t 5) none⟩])
    (.cd (.t 11) (.sq (.sq (.rg none [⟨some 12, none, .mv (.t 6) none⟩])
      (.cd (.t 12) (.sq (.rg none [⟨some 4, none, .mv (.k (.int .i64 0)) none⟩])
       (.rt))
      (.sk)))
     (.sq (.rg none [⟨some 4, none, .mv (.k (.int .i64 (-1))) none⟩])
     (.rt)))
    (.sk)))
   (.sq (.sq (.rg none [⟨some 13, none, .mv (.t 6) none⟩])
    (.cd (.t 13) (.sq (.rg none [⟨some 4, none, .mv (.k (.int .i64 1)) none⟩])
     (.rt))
    (.sk)))
   (.sq (.sq (.rg none [⟨some 14, none, .mv (.t 0) none⟩,
       ⟨some 15, none, .mv (.t 1) none⟩,
       ⟨some 16, none, .bi .lss 0 (.t 14) (.t 15)⟩])
    (.cd (.t 16) (.sq (.rg none [⟨some 4, none, .mv (.k (.int .i64 (-1))) none⟩])
     (.rt))
    (.sk)))
   (.sq (.sq (.rg none [⟨some 17, none, .mv (.t 0) none⟩,
       ⟨some 18, none, .mv (.t 1) none⟩,
       ⟨some 19, none, .bi .gtr 0 (.t 17) (.t 18)⟩])
    (.cd (.t 19) (.sq (.rg none [⟨some 4, none, .mv (.k (.int .i64 1)) none⟩])
     (.rt))
    (.sk)))
   (.sq (.rg none [⟨some 4, none, .mv (.k (.int .i64 0)) none⟩])
   (.rt))))))))) }
theorem k_cmp_Compare_int : chkF Go.Proofs.Try.prog fid_cmp_Compare_int c_cmp_Compare_int = true := by kernel_rfl

def c_cmp_isNaN_int : F2 :=
  { nt := 6, res := [.t 2 [0]], body :=
   (.sq (.rg none [⟨some 2, none, .mv (.k (.bool false)) none⟩])
   (.sq (.rg none [⟨some 3, none, .mv (.t 0) none⟩,
      ⟨some 4, none, .mv (.t 0) none⟩,
      ⟨some 5, none, .bi .neq 0 (.t 3) (.t 4)⟩,
      ⟨some 2, none, .mv (.t 5) none⟩])
   (.rt))) }
theorem k_cmp_isNaN_int : chkF Go.Proofs.Try.prog fid_cmp_isNaN_int c_cmp_isNaN_int = true := by kernel_rfl

end Go.Fd

/-
  The annotated codes of the functions, printed by a program of mine (gen.py), and the check that they belong to the program.
-/
namespace Go.Fd

def c_laws_FnExactIsClosedSet : F2 :=
  { nt := 56, res := [.t 4 [0]], body :=
   (.sq (.rg none [⟨some 2, none, .bt (.t 0)⟩,
      ⟨some 4, none, .mv (.k (.bool false)) none⟩])
   (.sq (.sq (.rg none [⟨some 12, none, .mv (.t 1) none⟩,
       ⟨some 13, none, .ln (.t 12)⟩,
       ⟨some 14, none, .bi .gtr 0 (.t 13) (.k (.int .i64 1048576))⟩])
    (.cd (.t 14) (.sq (.rg none [⟨some 4, none, .mv (.k (.bool true)) none⟩])
     (.rt))
    (.sk)))
   (.sq (.rg none [⟨some 5, none, .mv (.k (.int .i64 1048576)) none⟩])
   (.sq (.rg none [⟨some 15, none, .ld (some 2) (.t 2)⟩,
      ⟨some 16, none, .mv (.t 5) none⟩,
      ⟨some 17, none, .ca .pure false (.f fid_laws_szSystem) [.t 15, .t 16]⟩,
      ⟨some 5, none, .mv (.t 17) none⟩])
   (.sq (.sq (.rg none [⟨some 18, none, .mv (.t 5) none⟩,
       ⟨some 19, none, .bi .lss 0 (.t 18) (.k (.int .i64 0))⟩])
    (.cd (.t 19) (.sq (.rg none [⟨some 4, none, .mv (.k (.bool true)) none⟩])
     (.rt))
    (.sk)))
   (.sq (.rg none [⟨some 21, none, .ld (some 2) (.t 2)⟩,
      ⟨some 22, none, .ca .pure false (.f fid_laws_toSystem) [.t 21]⟩,
      ⟨some 23, none, .mv (.t 1) none⟩,
      ⟨some 24, none, .ca .pure false (.f fid_laws_toIntS) [.t 23]⟩,
      ⟨some 25, none, .ca .pure false (.f fid_spec_IsClosedSet) [.t 22, .t 24]⟩,
      ⟨some 20, none, .mv (.t 25) none⟩,
      ⟨some 26, none, .ex 0 (.t 20)⟩,
      ⟨some 27, none, .ex 1 (.t 20)⟩,
      ⟨some 6, none, .mv (.t 26) none⟩,
      ⟨some 7, none, .mv (.t 27) none⟩])
   (.sq (.rg none [⟨some 28, none, .ld (some 2) (.t 2)⟩,
      ⟨some 29, none, .ca .pure false (.f fid_laws_toSystem) [.t 28]⟩,
      ⟨some 8, none, .al [.slice none 0 0, .slice none 0 0] []⟩,
      ⟨none, none, .st 2 (.t 8) (.t 29)⟩])
   (.sq (.rg none [⟨some 30, none, .mv (.t 1) none⟩,
      ⟨some 31, none, .ca .pure false (.f fid_laws_toIntS) [.t 30]⟩,
      ⟨some 9, none, .mv (.t 31) none⟩])
   (.sq (.rg none [⟨some 33, none, .ld (some 2) (.t 8)⟩,
      ⟨some 34, none, .mv (.t 9) none⟩,
      ⟨some 35, none, .ca .pure false (.f fid_impl_IsClosedSet) [.t 33, .t 34]⟩,
      ⟨some 32, none, .mv (.t 35) none⟩,
      ⟨some 36, none, .ex 0 (.t 32)⟩,
      ⟨some 37, none, .ex 1 (.t 32)⟩,
      ⟨some 10, none, .mv (.t 36) none⟩,
      ⟨some 11, none, .mv (.t 37) none⟩])
   (.sq (.sq (.rg none [⟨some 38, none, .mv (.t 10) none⟩,
       ⟨some 39, none, .mv (.t 6) none⟩,
       ⟨some 40, none, .bi .neq 2 (.t 38) (.t 39)⟩,
       ⟨some 41, none, .mv (.t 40) none⟩,
       ⟨some 42, (some (41, false)), .mv (.t 11) none⟩,
       ⟨some 43, (some (41, false)), .mv (.t 7) none⟩,
       ⟨some 44, (some (41, false)), .bi .neq 2 (.t 42) (.t 43)⟩,
       ⟨some 45, none, .pk (.t 41) (.k (.bool true)) (.t 44)⟩])
    (.cd (.t 45) (.sq (.rg none [⟨some 4, none, .mv (.k (.bool false)) none⟩])
     (.rt))
    (.sk)))
   (.sq (.sq (.rg (some 0) [⟨some 46, none, .ld (some 2) (.t 8)⟩,
       ⟨some 47, none, .ld (some 2) (.t 2)⟩,
       ⟨some 48, none, .ca .pure false (.f fid_laws_toSystem) [.t 47]⟩,
       ⟨some 49, none, .ca .pure false (.f fid_laws_eqSystem) [.t 46, .t 48]⟩,
       ⟨some 50, none, .nt (.t 49)⟩])
    (.cd (.t 50) (.sq (.rg none [⟨some 4, none, .mv (.k (.bool false)) none⟩])
     (.rt))
    (.sk)))
   (.sq (.sq (.rg none [⟨some 51, none, .mv (.t 9) none⟩,
       ⟨some 52, none, .mv (.t 1) none⟩,
       ⟨some 53, none, .ca .pure false (.f fid_laws_toIntS) [.t 52]⟩,
       ⟨some 54, none, .ca .pure false (.f fid_laws_eqIntS) [.t 51, .t 53]⟩,
       ⟨some 55, none, .nt (.t 54)⟩])
    (.cd (.t 55) (.sq (.rg none [⟨some 4, none, .mv (.k (.bool false)) none⟩])
     (.rt))
    (.sk)))
   (.sq (.rg none [⟨some 4, none, .mv (.k (.bool true)) none⟩])
   (.rt)))))))))))))) }
theorem k_laws_FnExactIsClosedSet : chkF Go.Proofs.Try.prog fid_laws_FnExactIsClosedSet c_laws_FnExactIsClosedSet = true := by kernel_rfl

end Go.Fd
