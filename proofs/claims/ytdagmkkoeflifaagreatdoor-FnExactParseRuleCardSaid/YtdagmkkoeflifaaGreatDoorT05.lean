/-
  The annotated codes of the functions, printed by a program of mine (gen.py), and the check that they belong to the program.
-/
import Derived.Test.YtdagmkkoeflifaaGreatDoorT04
import Derived.KernelRfl
import Derived.Shelf.Strings.SlTrimAscii
import Derived.Test.YtdagmkkoeflifaaGreatDoorProg
import Derived.Shelf.Strconv.Itoa3
import Derived.Shelf.Strings.OnBuilder
import Derived.Lib.AppendIntMem
set_option linter.all false
namespace Go.Fd
def Wu:F2 :=
 { nt:=74,res:=[.c 4 (some 13) [0,0,0,0,0,0,0,0,0,0,0,0,0],.t 5 [0]],body:=(.sq (rg [oo 4 (.al [.int .i64 0,.slice none 0 0,.slice none 0 0,.int .i64 0,.slice none 0 0,.slice none 0 0,.int .i64 0,.slice none 0 0,.slice none 0 0,.int .i64 0,.slice none 0 0,.slice none 0 0,.slice none 0 0] []),om 5 (.k (.bool false))]) (.sq (rg [qM 18 1,oo 19 (.ca .pure false (.f VY) [.t 18,.k (.string ⟨#[32,45,62,32]⟩)]),qM 17 19,qE 20 0 17,qE 21 1 17,qM 6 20,qM 7 21]) (.sq (rg [qM 23 7,oo 24 (.ca .pure false (.f VY) [.t 23,.k (.string ⟨#[32,124]⟩)]),qM 22 24,qE 25 0 22,qE 26 1 22,qM 8 25,qM 9 26]) (.sq (rg [qM 28 0,qM 29 6,oo 30 (.ca .pure true (.f Jz) [.t 28,.t 29]),qM 27 30,qE 31 0 27,qE 32 1 27,oo 10 (.al [.int .i64 0,.slice none 0 0,.slice none 0 0,.int .i64 0,.slice none 0 0,.slice none 0 0] []),on1 (.st 6 (.t 10) (.t 31)),qM 11 32]) (.sq (rg [qM 34 0,qM 35 8,oo 36 (.ca .pure true (.f Jz) [.t 34,.t 35]),qM 33 36,qE 37 0 33,qE 38 1 33,oo 12 (.al [.int .i64 0,.slice none 0 0,.slice none 0 0,.int .i64 0,.slice none 0 0,.slice none 0 0] []),on1 (.st 6 (.t 12) (.t 37)),qM 13 38]) (.sq (rg [qM 40 9,oo 41 (.ca .pure false (.f Z6) [.t 40,.k (.int .u8 32)]),oo 42 (.ca .pure true (.f JA) [.t 41]),qM 39 42,qE 43 0 39,qE 44 1 39,qM 14 43,qM 15 44]) (.sq (rg [qS 45 6 10,qS 46 6 12,qM 47 14,oo 48 (.bd [.int .i64 0,.slice none 0 0,.slice none 0 0,.int .i64 0,.slice none 0 0,.slice none 0 0,.int .i64 0,.slice none 0 0,.slice none 0 0,.int .i64 0,.slice none 0 0,.slice none 0 0,.slice none 0 0] [(0,6,.t 45),(6,6,.t 46),(12,1,.t 47)] []),oo 16 (.al [.int .i64 0,.slice none 0 0,.slice none 0 0,.int .i64 0,.slice none 0 0,.slice none 0 0,.int .i64 0,.slice none 0 0,.slice none 0 0,.int .i64 0,.slice none 0 0,.slice none 0 0,.slice none 0 0] []),on1 (.st 13 (.t 16) (.t 48))]) (.sq (.sq (rg [qM 49 11,oo 50 (.nt (.t 49)),qM 51 50,og 52 51 false (.mv (.t 13) none),og 53 51 false (.nt (.t 52)),oo 54 (.pk (.t 51) (.k (.bool true)) (.t 53)),qM 55 54,og 56 55 false (.mv (.t 15) none),og 57 55 false (.nt (.t 56)),oo 58 (.pk (.t 55) (.k (.bool true)) (.t 57)),qM 59 58,og 60 59 false (.mv (.t 0) none),og 61 59 false (.ld (some 13) (.t 16)),og 62 59 false (.ca .pure false (.f QM) [.t 60,.t 61]),og 63 59 false (.nt (.t 62)),oo 64 (.pk (.t 59) (.k (.bool true)) (.t 63)),qM 65 64,og 66 65 false (.mv (.t 0) none),og 67 65 false (.ld (some 13) (.t 16)),og 68 65 false (.ca .pure false (.f QN) [.t 66,.t 67]),og 69 65 false (.mv (.t 1) none),og 70 65 false (.bi .neq 0 (.t 68) (.t 69)),oo 71 (.pk (.t 65) (.k (.bool true)) (.t 70))]) (.cd (.t 71) (.sq (rg [oo 72 (.bd [.int .i64 0,.slice none 0 0,.slice none 0 0,.int .i64 0,.slice none 0 0,.slice none 0 0,.int .i64 0,.slice none 0 0,.slice none 0 0,.int .i64 0,.slice none 0 0,.slice none 0 0,.slice none 0 0] [] []),on1 (.st 13 (.t 4) (.t 72)),om 5 (.k (.bool false))]) (.rt)) (.sk))) (.sq (rg [qS 73 13 16,on1 (.st 13 (.t 4) (.t 73)),om 5 (.k (.bool true))]) (.rt)))))))))) }
theorem Zbi:Z3 Proofs.Tryz.prog Vo Wu=true:=by kernel_rfl
def Wv:F2 :=
 { nt:=76,res:=[.c 4 (some 13) [0,4,2,0,2,3,0,4,2,0,2,3,2],.t 5 [0]],body:=(.sq (rg [oo 4 (.al [.int .i64 0,.slice none 0 0,.slice none 0 0,.int .i64 0,.slice none 0 0,.slice none 0 0,.int .i64 0,.slice none 0 0,.slice none 0 0,.int .i64 0,.slice none 0 0,.slice none 0 0,.slice none 0 0] []),om 5 (.k (.bool false))]) (.sq (rg [qM 17 1,oo 18 (.ca .pure false (.f Yj) [.t 17,.k (.string ⟨#[32,45,62,32]⟩)]),qM 16 18,qE 19 0 16,qE 20 1 16,qE 21 2 16,qM 6 19,qM 7 20,qM 8 21]) (.sq (rg [qM 23 7,oo 24 (.ca .pure false (.f Yj) [.t 23,.k (.string ⟨#[32,124]⟩)]),qM 22 24,qE 25 0 22,qE 26 1 22,qE 27 2 22,qM 9 25,qM 10 26,qM 11 27]) (.sq (rg [oo 28 (.bd [.int .i64 0,.slice none 0 0,.slice none 0 0,.int .i64 0,.slice none 0 0,.slice none 0 0,.int .i64 0,.slice none 0 0,.slice none 0 0,.int .i64 0,.slice none 0 0,.slice none 0 0,.slice none 0 0] [] []),oo 12 (.al [.int .i64 0,.slice none 0 0,.slice none 0 0,.int .i64 0,.slice none 0 0,.slice none 0 0,.int .i64 0,.slice none 0 0,.slice none 0 0,.int .i64 0,.slice none 0 0,.slice none 0 0,.slice none 0 0] []),on1 (.st 13 (.t 12) (.t 28))]) (.sq (rg [om 13 (.k (.bool false)),om 14 (.k (.bool false)),om 15 (.k (.bool false))]) (.sq (rg [qM 30 0,qM 31 6,oo 32 (.ca .pure true (.f JB) [.t 30,.t 31]),qM 29 32,qE 33 0 29,qE 34 1 29,qF 35 0 12,on1 (.st 6 (.t 35) (.t 33)),qM 13 34]) (.sq (rg [qM 37 0,qM 38 9,oo 39 (.ca .pure true (.f JB) [.t 37,.t 38]),qM 36 39,qE 40 0 36,qE 41 1 36,qF 42 6 12,on1 (.st 6 (.t 42) (.t 40)),qM 14 41]) (.sq (rg [qM 44 10,oo 45 (.ca .pure false (.f Ji) [.t 44,.k (.int .u8 32)]),oo 46 (.sx 1 (.t 45) (some (i6 1)) none none),oo 47 (.ca .pure true (.f Jk) [.t 46]),qM 43 47,qE 48 0 43,qE 49 1 43,qF 50 12 12,on1 (.st 1 (.t 50) (.t 48)),qM 15 49]) (.sq (.sq (rg [qM 51 13,oo 52 (.nt (.t 51)),qM 53 52,og 54 53 false (.mv (.t 14) none),og 55 53 false (.nt (.t 54)),oo 56 (.pk (.t 53) (.k (.bool true)) (.t 55)),qM 57 56,og 58 57 false (.mv (.t 15) none),og 59 57 false (.nt (.t 58)),oo 60 (.pk (.t 57) (.k (.bool true)) (.t 59)),qM 61 60,og 62 61 false (.mv (.t 0) none),og 63 61 false (.ld (some 13) (.t 12)),og 64 61 false (.ca .pure false (.f QO) [.t 62,.t 63]),og 65 61 false (.nt (.t 64)),oo 66 (.pk (.t 61) (.k (.bool true)) (.t 65)),qM 67 66,og 68 67 false (.mv (.t 0) none),og 69 67 false (.ld (some 13) (.t 12)),og 70 67 false (.ca .pure false (.f VP) [.t 68,.t 69]),og 71 67 false (.mv (.t 1) none),og 72 67 false (.bi .neq 0 (.t 70) (.t 71)),oo 73 (.pk (.t 67) (.k (.bool true)) (.t 72))]) (.cd (.t 73) (.sq (rg [oo 74 (.bd [.int .i64 0,.slice none 0 0,.slice none 0 0,.int .i64 0,.slice none 0 0,.slice none 0 0,.int .i64 0,.slice none 0 0,.slice none 0 0,.int .i64 0,.slice none 0 0,.slice none 0 0,.slice none 0 0] [] []),on1 (.st 13 (.t 4) (.t 74)),om 5 (.k (.bool false))]) (.rt)) (.sk))) (.sq (rg [qS 75 13 12,on1 (.st 13 (.t 4) (.t 75)),om 5 (.k (.bool true))]) (.rt))))))))))) }
theorem Zbj:Z3 Proofs.Tryz.prog J9 Wv=true:=by kernel_rfl
def Za7:F2 :=
 { nt:=35,res:=[.t 4 [0],.t 5 [0]],body:=(.sq (rg [om 4 (.k (.string ⟨#[]⟩)),om 5 (.k (.string ⟨#[]⟩))]) (.sq (.sq (rg [om 6 (i6 0)]) (.bl 0 (.lp [0,1,6] [] (.sq (.sq (rg [qM 7 6,qM 8 1,oo 9 (.lg (.t 8)),qB 10 .add 7 9,qM 11 0,oo 12 (.lg (.t 11)),qB 13 .leq 10 12]) (.cd (.t 13) (.sk) (.ex 0))) (.sq (.bl 1 (.sq (rg [qM 16 0,qM 17 6,qM 18 6,qM 19 1,oo 20 (.lg (.t 19)),qB 21 .add 18 20,oo 22 (.ss (.t 16) (some (.t 17)) (some (.t 21))),qM 23 1,qB 24 .eql 22 23]) (.cd (.t 24) (.sq (.rg (some 0) [qM 25 0,qM 26 6,oo 27 (.ss (.t 25) none (some (.t 26))),qM 28 0,qM 29 6,qM 30 1,oo 31 (.lg (.t 30)),qB 32 .add 29 31,oo 33 (.ss (.t 28) (some (.t 32)) none),qM 4 27,qM 5 33]) (.rt)) (.sk))))
 (rg [qM 14 6,oo 15 (.bi .add 0 (.t 14) (i6 1)),qM 6 15])))))) (.sq (rg [qM 34 0,qM 4 34,om 5 (.k (.string ⟨#[]⟩))]) (.rt)))) }
theorem ZfL:Z3 Proofs.Tryz.prog VY Za7=true:=by kernel_rfl
def QX:F2 :=
 { nt:=88,res:=[.c 4 (some 6) [0,0,0,0,0,0],.t 5 [0]],body:=(.sq (rg [oo 4 (.al [.int .i64 0,.slice none 0 0,.slice none 0 0,.int .i64 0,.slice none 0 0,.slice none 0 0] []),om 5 (.k (.bool false))]) (.sq (rg [qM 15 1,oo 16 (.ca .pure false (.f Qd) [.t 15]),qM 6 16]) (.sq (rg [qM 17 6,qN 18 17,oo 19 (.bi .sub 0 (.t 18) (i6 4)),qM 7 19]) (.sq (.sq (rg [qM 20 0,oo 21 (.ca .pure false (.f VZ) [.t 20]),oo 22 (.nt (.t 21)),qM 23 22,og 24 23 false (.mv (.t 7) none),og 25 23 false (.ca .pure false (.f ZN) [.t 24,i6 1,i6 9]),og 26 23 false (.nt (.t 25)),oo 27 (.pk (.t 23) (.k (.bool true)) (.t 26))]) (.cd (.t 27) (.sq (rg [oo 28 (.bd [.int .i64 0,.slice none 0 0,.slice none 0 0,.int .i64 0,.slice none 0 0,.slice none 0 0] [] [(1,3)]),on1 (.st 6 (.t 4) (.t 28)),om 5 (.k (.bool false))]) (.rt)) (.sk))) (.sq (rg [qM 30 6,oo 31 (.ia 1 (.t 30) (i6 0)),qL 32 31,oo 33 (.ca .pure true (.f ZZ) [.t 32]),qM 29 33,qE 34 0 29,qE 35 1 29,qM 8 34,qM 9 35]) (.sq (rg [qM 37 8,oo 38 (.bd [.int .i64 0,.slice none 0 0,.slice none 0 0,.int .i64 0,.slice none 0 0,.slice none 0 0] [(0,1,.t 37)] []),qM 39 6,qM 40 7,oo 41 (.sx 1 (.t 39) (some (.t 40)) none none),oo 42 (.ca .keep true (.f Vs) [.t 38,.t 41]),qM 36 42,qE 43 0 36,qE 44 1 36,oo 10 (.al [.int .i64 0,.slice none 0 0,.slice none 0 0,.int .i64 0,.slice none 0 0,.slice none 0 0] []),on1 (.st 6 (.t 10) (.t 43)),qM 11 44]) (.sq (.sq (rg [qM 45 9,oo 46 (.nt (.t 45)),qM 47 46,og 48 47 false (.mv (.t 11) none),og 49 47 false (.nt (.t 48)),oo 50 (.pk (.t 47) (.k (.bool true)) (.t 49))]) (.cd (.t 50) (.sq (rg [oo 51 (.bd [.int .i64 0,.slice none 0 0,.slice none 0 0,.int .i64 0,.slice none 0 0,.slice none 0 0] [] [(1,3)]),on1 (.st 6 (.t 4) (.t 51)),om 5 (.k (.bool false))]) (.rt)) (.sk))) (.sq (.sq (rg [om 12 (i6 1)]) (.bl 0 (.lp [0,1,4,6,7,10,12] [128,320,896,1344,1345,1346,1347,1632,2176,2336,2752] (.sq (.sq (rg [qM 52 12,qM 53 7,qB 54 .lss 52 53]) (.cd (.t 54) (.sk) (.ex 0))) (.sq (.bl 1 (.sq (rg [qM 58 0,qM 59 6,qM 60 12,qI 61 1 59 60,qL 62 61,oo 63 (.ca .pure true (.f Y3) [.t 58,.t 62]),qM 57 63,qE 64 0 57,qE 65 1 57,oo 13 (.al [.int .i64 0,.int .i64 0,.slice none 0 0] []),on1 (.st 3 (.t 13) (.t 64)),qM 14 65]) (.sq (.sq (rg [qM 66 14,oo 67 (.nt (.t 66))]) (.cd (.t 67) (.sq (rg [oo 68 (.bd [.int .i64 0,.slice none 0 0,.slice none 0 0,.int .i64 0,.slice none 0 0,.slice none 0 0] [] [(1,3)]),on1 (.st 6 (.t 4) (.t 68)),om 5 (.k (.bool false))]) (.rt)) (.sk)))
 (rg [qF 69 1 10,qL 70 69,qS 71 3 13,oo 72 (.bw 3 1 [.int .i64 0,.int .i64 0,.slice none 0 0] [(0,.t 71)]),oo 73 (.ap 3 2 (.t 70) (.t 72)),qF 74 1 10,on1 (.st 1 (.t 74) (.t 73))]))))
 (rg [qM 55 12,oo 56 (.bi .add 0 (.t 55) (i6 1)),qM 12 56])))))) (.sq (.sq (rg [qM 75 0,qS 76 6 10,oo 77 (.ca .pure false (.f Yl) [.t 75,.t 76]),oo 78 (.nt (.t 77)),qM 79 78,og 80 79 false (.mv (.t 0) none),og 81 79 false (.ld (some 6) (.t 10)),og 82 79 false (.ca .pure false (.f Ym) [.t 80,.t 81]),og 83 79 false (.mv (.t 1) none),og 84 79 false (.bi .neq 0 (.t 82) (.t 83)),oo 85 (.pk (.t 79) (.k (.bool true)) (.t 84))]) (.cd (.t 85) (.sq (rg [oo 86 (.bd [.int .i64 0,.slice none 0 0,.slice none 0 0,.int .i64 0,.slice none 0 0,.slice none 0 0] [] [(1,3)]),on1 (.st 6 (.t 4) (.t 86)),om 5 (.k (.bool false))]) (.rt)) (.sk))) (.sq (rg [qS 87 6 10,on1 (.st 6 (.t 4) (.t 87)),om 5 (.k (.bool true))]) (.rt))))))))))) }
theorem U9:Z3 Proofs.Tryz.prog Jz QX=true:=by kernel_rfl
def Ww:F2 :=
 { nt:=31,res:=[.t 2 [2],.t 3 [0]],body:=(.sq (rg [om 2 (.k (.slice none 0 0)),om 3 (.k (.bool false))]) (.sq (rg [oo 8 (.bs 1 0 [] []),qM 4 8]) (.sq (.sq (rg [om 5 (i6 1)]) (.bl 0 (.lp [0,4,5] [256,928] (.sq (.sq (rg [qM 9 5,qM 10 0,qN 11 10,qB 12 .lss 9 11]) (.cd (.t 12) (.sk) (.ex 0))) (.sq (.bl 1 (.sq (rg [qM 16 0,qM 17 5,qI 18 1 16 17,qL 19 18,oo 20 (.ca .pure true (.f ZZ) [.t 19]),qM 15 20,qE 21 0 15,qE 22 1 15,qM 6 21,qM 7 22]) (.sq (.sq (rg [qM 23 7,oo 24 (.nt (.t 23))]) (.cd (.t 24) (.sq (rg [oo 25 (.bs 1 0 [] []),qM 2 25,om 3 (.k (.bool false))]) (.rt)) (.sk)))
 (rg [qM 26 4,qM 27 6,oo 28 (.bs 1 1 [.int .i64 0] [(0,.t 27)]),oo 29 (.ap 1 0 (.t 26) (.t 28)),qM 4 29]))))
 (rg [qM 13 5,oo 14 (.bi .add 0 (.t 13) (i6 1)),qM 5 14])))))) (.sq (rg [qM 30 4,qM 2 30,om 3 (.k (.bool true))]) (.rt))))) }
theorem Zbk:Z3 Proofs.Tryz.prog JA Ww=true:=by kernel_rfl
def US:F2 :=
 { nt:=35,res:=[.t 4 [2]],body:=(.sq (rg [om 4 (.k (.slice none 0 0))]) (.sq (rg [oo 8 (.bs 1 0 [] []),qM 5 8]) (.sq (rg [om 6 (i6 0)]) (.sq (.sq (rg [om 7 (i6 0)]) (.bl 0 (.lp [0,1,5,6,7] [256,832] (.sq (.sq (rg [qM 9 7,qM 10 0,oo 11 (.lg (.t 10)),qB 12 .lss 9 11]) (.cd (.t 12) (.sk) (.ex 0))) (.sq (.bl 1 (.sq (rg [qM 15 0,qM 16 7,oo 17 (.ix (.t 15) (.t 16)),qM 18 1,qB 19 .eql 17 18]) (.cd (.t 19) (.sq (rg [qM 20 5,qM 21 0,qM 22 6,qM 23 7,oo 24 (.ss (.t 21) (some (.t 22)) (some (.t 23))),oo 25 (.bs 1 1 [.string ⟨#[]⟩] [(0,.t 24)]),oo 26 (.ap 1 0 (.t 20) (.t 25)),qM 5 26])
 (rg [qM 27 7,oo 28 (.bi .add 0 (.t 27) (i6 1)),qM 6 28])) (.sk))))
 (rg [qM 13 7,oo 14 (.bi .add 0 (.t 13) (i6 1)),qM 7 14])))))) (.sq (rg [qM 29 5,qM 30 0,qM 31 6,oo 32 (.ss (.t 30) (some (.t 31)) none),oo 33 (.bs 1 1 [.string ⟨#[]⟩] [(0,.t 32)]),oo 34 (.ap 1 0 (.t 29) (.t 33)),qM 4 34]) (.rt)))))) }
theorem ZcZ:Z3 Proofs.Tryz.prog Z6 US=true:=by kernel_rfl
def Dz:F2 :=
 { nt:=44,res:=[.t 4 [0]],body:=(.sq (rg [oo 3 (.bt (.t 1)),om 4 (.k (.bool false))]) (.sq (rg [qM 5 0,qF 6 0 3,qS 7 6 6,oo 8 (.ca .pure false (.f Qe) [.t 5,.t 7]),qM 9 8,og 10 9 true (.mv (.t 0) none),og 11 9 true (.fa 6 (.t 3)),og 12 9 true (.ld (some 6) (.t 11)),og 13 9 true (.ca .pure false (.f Yl) [.t 10,.t 12]),oo 14 (.pk (.t 9) (.t 13) (.k (.bool false))),qM 15 14,og 16 15 true (.fa 6 (.t 3)),og 17 15 true (.fa 5 (.t 16)),og 18 15 true (.ld none (.t 17)),og 19 15 true (.ln (.t 18)),og 20 15 true (.bi .eql 0 (.t 19) (i6 0)),oo 21 (.pk (.t 15) (.t 20) (.k (.bool false))),qM 22 21,og 23 22 true (.fa 0 (.t 3)),og 24 22 true (.fa 0 (.t 23)),og 25 22 true (.ld none (.t 24)),og 26 22 true (.fa 6 (.t 3)),og 27 22 true (.fa 0 (.t 26)),og 28 22 true (.ld none (.t 27)),og 29 22 true (.bi .eql 0 (.t 25) (.t 28)),oo 30 (.pk (.t 22) (.t 29) (.k (.bool false))),qM 31 30,og 32 31 true (.fa 0 (.t 3)),og 33 31 true (.fa 4 (.t 32)),og 34 31 true (.ld none (.t 33)),og 35 31 true (.fa 6 (.t 3)),og 36 31 true (.fa 4 (.t 35)),og 37 31 true (.ld none (.t 36)),og 38 31 true (.ca .pure false (.f YC) [.t 34,.t 37]),oo 39 (.pk (.t 31) (.t 38) (.k (.bool false))),qM 40 39,og 41 40 true (.ld (some 13) (.t 3)),og 42 40 true (.ca .pure false (.f VQ) [.t 41]),oo 43 (.pk (.t 40) (.t 42) (.k (.bool false))),qM 4 43]) (.rt))) }
theorem Zen:Z3 Proofs.Tryz.prog QM Dz=true:=by kernel_rfl
def DA:F2 :=
 { nt:=20,res:=[.t 4 [0]],body:=(.sq (rg [oo 3 (.bt (.t 1)),om 4 (.k (.string ⟨#[]⟩))]) (.sq (.rg (some 0) [qM 5 0,qF 6 0 3,qS 7 6 6,oo 8 (.ca .pure false (.f Ym) [.t 5,.t 7]),oo 9 (.bi .add 0 (.t 8) (.k (.string ⟨#[32,45,62,32]⟩))),qM 10 0,qF 11 6 3,qS 12 6 11,oo 13 (.ca .pure false (.f Ym) [.t 10,.t 12]),qB 14 .add 9 13,oo 15 (.bi .add 0 (.t 14) (.k (.string ⟨#[32,124]⟩))),qF 16 12 3,qL 17 16,oo 18 (.ca .pure false (.f J1) [.t 17]),qB 19 .add 15 18,qM 4 19]) (.rt))) }
theorem Zeo:Z3 Proofs.Tryz.prog QN DA=true:=by kernel_rfl
def QY:F2 :=
 { nt:=127,res:=[.c 4 (some 6) [0,4,2,0,2,3],.t 5 [0]],body:=(.sq (rg [oo 4 (.al [.int .i64 0,.slice none 0 0,.slice none 0 0,.int .i64 0,.slice none 0 0,.slice none 0 0] []),om 5 (.k (.bool false))]) (.sq (rg [qM 14 1,oo 15 (.ca .pure false (.f XL) [.t 14,.k (.string ⟨#[59,32]⟩)]),qM 6 15]) (.sq (rg [qM 16 6,qN 17 16,oo 18 (.bi .sub 0 (.t 17) (i6 5)),qM 7 18]) (.sq (.sq (rg [qM 19 0,oo 20 (.ca .pure false (.f JI) [.t 19]),oo 21 (.nt (.t 20)),qM 22 21,og 23 22 false (.mv (.t 7) none),og 24 22 false (.bi .lss 0 (.t 23) (i6 0)),oo 25 (.pk (.t 22) (.k (.bool true)) (.t 24))]) (.cd (.t 25) (.sq (rg [oo 26 (.bd [.int .i64 0,.slice none 0 0,.slice none 0 0,.int .i64 0,.slice none 0 0,.slice none 0 0] [] [(1,3)]),on1 (.st 6 (.t 4) (.t 26)),om 5 (.k (.bool false))]) (.rt)) (.sk))) (.sq (rg [oo 27 (.bd [.int .i64 0,.slice none 0 0,.slice none 0 0,.int .i64 0,.slice none 0 0,.slice none 0 0] [] [(1,3)]),oo 8 (.al [.int .i64 0,.slice none 0 0,.slice none 0 0,.int .i64 0,.slice none 0 0,.slice none 0 0] []),on1 (.st 6 (.t 8) (.t 27))]) (.sq (rg [oo 28 (.bd [.bool false,.bool false,.bool false,.bool false] [] []),oo 9 (.al [.bool false,.bool false,.bool false,.bool false] []),on1 (.st 4 (.t 9) (.t 28))]) (.sq (rg [qM 30 6,oo 31 (.ia 1 (.t 30) (i6 0)),qL 32 31,oo 33 (.ca .pure true (.f Jj) [.t 32]),qM 29 33,qE 34 0 29,qE 35 1 29,qF 36 0 8,on1 (.st 1 (.t 36) (.t 34)),oo 37 (.ja 1 4 (.t 9) (i6 0)),on1 (.st 1 (.t 37) (.t 35))]) (.sq (.sq (rg [qM 38 6,qM 39 7,oo 40 (.bi .add 0 (i6 1) (.t 39)),oo 41 (.sx 1 (.t 38) (some (i6 1)) (some (.t 40)) none),qN 42 41,om 43 (i6 0)]) (.bl 0 (.lp [0,1,4,6,7,8,9,41,42,43] [128,256,288,832,864,1760,1920,2272,2944,3296,3968,4032,4033,4034,4035] (.sq (rg [qB 44 .lss 43 42]) (.sq (.cd (.t 44) (.sk) (.ex 0)) (.sq (.bl 1 (.sq (rg [qI 45 1 41 43,qL 46 45,qM 11 46]) (.sq (rg [qM 48 0,qM 49 11,oo 50 (.ca .pure true (.f VS) [.t 48,.t 49]),qM 47 50,qE 51 0 47,qE 52 1 47,oo 12 (.al [.int .i64 0,.int .i64 0,.slice none 0 0] []),on1 (.st 3 (.t 12) (.t 51)),qM 13 52]) (.sq (.sq (rg [qM 53 13,oo 54 (.nt (.t 53))]) (.cd (.t 54) (.sq (rg [oo 55 (.bd [.int .i64 0,.slice none 0 0,.slice none 0 0,.int .i64 0,.slice none 0 0,.slice none 0 0] [] [(1,3)]),on1 (.st 6 (.t 4) (.t 55)),om 5 (.k (.bool false))]) (.rt)) (.sk)))
 (rg [qF 56 1 8,qL 57 56,qS 58 3 12,oo 59 (.bw 3 1 [.int .i64 0,.int .i64 0,.slice none 0 0] [(0,.t 58)]),oo 60 (.ap 3 2 (.t 57) (.t 59)),qF 61 1 8,on1 (.st 1 (.t 61) (.t 60))])))))
 (rg [oo 62 (.bi .add 0 (.t 43) (i6 1)),qM 43 62]))))))) (.sq (rg [qM 64 6,qM 65 7,oo 66 (.bi .add 0 (.t 65) (i6 1)),qI 67 1 64 66,qL 68 67,oo 69 (.ca .pure false (.f Ji) [.t 68,.k (.int .u8 32)]),oo 70 (.sx 1 (.t 69) (some (i6 1)) none none),oo 71 (.ca .pure true (.f Jk) [.t 70]),qM 63 71,qE 72 0 63,qE 73 1 63,qF 74 2 8,on1 (.st 1 (.t 74) (.t 72)),oo 75 (.ja 1 4 (.t 9) (i6 1)),on1 (.st 1 (.t 75) (.t 73))]) (.sq (rg [qM 77 6,qM 78 7,oo 79 (.bi .add 0 (.t 78) (i6 2)),qI 80 1 77 79,qL 81 80,oo 82 (.ca .pure true (.f Jj) [.t 81]),qM 76 82,qE 83 0 76,qE 84 1 76,qF 85 3 8,on1 (.st 1 (.t 85) (.t 83)),oo 86 (.ja 1 4 (.t 9) (i6 2)),on1 (.st 1 (.t 86) (.t 84))]) (.sq (rg [qM 87 6,qM 88 7,oo 89 (.bi .add 0 (.t 88) (i6 3)),qI 90 1 87 89,qL 91 90,oo 92 (.ca .pure true (.f Ji) [.t 91,.k (.int .u8 32)]),oo 93 (.sx 1 (.t 92) (some (i6 1)) none none),qF 94 4 8,on1 (.st 1 (.t 94) (.t 93))]) (.sq (rg [qM 96 6,qM 97 7,oo 98 (.bi .add 0 (.t 97) (i6 4)),qI 99 1 96 98,qL 100 99,oo 101 (.ca .pure false (.f Ji) [.t 100,.k (.int .u8 32)]),oo 102 (.sx 1 (.t 101) (some (i6 1)) none none),oo 103 (.ca .pure true (.f Vt) [.t 102]),qM 95 103,qE 104 0 95,qE 105 1 95,qF 106 5 8,on1 (.st 1 (.t 106) (.t 104)),oo 107 (.ja 1 4 (.t 9) (i6 3)),on1 (.st 1 (.t 107) (.t 105))]) (.sq (.sq (rg [qS 108 4 9,oo 109 (.bd [.bool false,.bool false,.bool false,.bool false] [(0,1,.k (.bool true)),(1,1,.k (.bool true)),(2,1,.k (.bool true)),(3,1,.k (.bool true))] []),oo 110 (.qa true [1,1,1,1] (.t 108) (.t 109)),qM 111 110,og 112 111 false (.mv (.t 0) none),og 113 111 false (.ld (some 6) (.t 8)),og 114 111 false (.ca .pure false (.f JC) [.t 112,.t 113]),og 115 111 false (.nt (.t 114)),oo 116 (.pk (.t 111) (.k (.bool true)) (.t 115)),qM 117 116,og 118 117 false (.mv (.t 0) none),og 119 117 false (.ld (some 6) (.t 8)),og 120 117 false (.ca .pure false (.f Jm) [.t 118,.t 119]),og 121 117 false (.mv (.t 1) none),og 122 117 false (.bi .neq 0 (.t 120) (.t 121)),oo 123 (.pk (.t 117) (.k (.bool true)) (.t 122))]) (.cd (.t 123) (.sq (rg [oo 124 (.bd [.int .i64 0,.slice none 0 0,.slice none 0 0,.int .i64 0,.slice none 0 0,.slice none 0 0] [] [(1,3)]),on1 (.st 6 (.t 4) (.t 124)),om 5 (.k (.bool false))]) (.rt)) (.sk))) (.sq (rg [qS 125 6 8,oo 126 (.ca .pure true (.f Y4) [.t 125]),on1 (.st 6 (.t 4) (.t 126)),om 5 (.k (.bool true))]) (.rt))))))))))))))) }
theorem Da:Z3 Proofs.Tryz.prog JB QY=true:=by kernel_rfl
def Xf:F2 :=
 { nt:=29,res:=[.t 2 [2],.t 3 [0]],body:=(.sq (rg [om 2 (.k (.slice none 0 0)),om 3 (.k (.bool false))]) (.sq (rg [oo 9 (.bs 1 0 [] []),qM 4 9]) (.sq (.sq (rg [qM 10 0,qN 11 10,om 12 (i6 0)]) (.bl 0 (.lp [4,10,11,12] [288,832] (.sq (rg [qB 13 .lss 12 11]) (.sq (.cd (.t 13) (.sk) (.ex 0)) (.sq (.bl 1 (.sq (rg [qI 14 1 10 12,qL 15 14,qM 6 15]) (.sq (rg [qM 17 6,oo 18 (.ca .pure true (.f Jj) [.t 17]),qM 16 18,qE 19 0 16,qE 20 1 16,qM 7 19,qM 8 20]) (.sq (.sq (rg [qM 21 8,oo 22 (.nt (.t 21))]) (.cd (.t 22) (.sq (rg [om 2 (.k (.slice none 0 0)),om 3 (.k (.bool false))]) (.rt)) (.sk)))
 (rg [qM 23 4,qM 24 7,oo 25 (.bs 1 1 [.int .i64 0] [(0,.t 24)]),oo 26 (.ap 1 0 (.t 23) (.t 25)),qM 4 26])))))
 (rg [oo 27 (.bi .add 0 (.t 12) (i6 1)),qM 12 27]))))))) (.sq (rg [qM 28 4,qM 2 28,om 3 (.k (.bool true))]) (.rt))))) }
theorem DB:Z3 Proofs.Tryz.prog Jk Xf=true:=by kernel_rfl
def UT:F2 :=
 { nt:=35,res:=[.t 4 [2]],body:=(.sq (rg [om 4 (.k (.slice none 0 0))]) (.sq (rg [oo 8 (.bs 1 0 [] []),qM 5 8]) (.sq (rg [om 6 (i6 0)]) (.sq (.sq (rg [qM 9 0,oo 10 (.lg (.t 9)),om 11 (i6 0)]) (.bl 0 (.lp [0,1,5,6,10,11] [256,800] (.sq (rg [qB 12 .lss 11 10]) (.sq (.cd (.t 12) (.sk) (.ex 0)) (.sq (.bl 1 (.sq (rg [qM 13 11,qM 7 13]) (.sq (rg [qM 14 0,qM 15 7,oo 16 (.ix (.t 14) (.t 15)),qM 17 1,qB 18 .eql 16 17]) (.cd (.t 18) (.sq (rg [qM 19 5,qM 20 0,qM 21 6,qM 22 7,oo 23 (.ss (.t 20) (some (.t 21)) (some (.t 22))),oo 24 (.bs 1 1 [.string ⟨#[]⟩] [(0,.t 23)]),oo 25 (.ap 1 0 (.t 19) (.t 24)),qM 5 25])
 (rg [qM 26 7,oo 27 (.bi .add 0 (.t 26) (i6 1)),qM 6 27])) (.sk)))))
 (rg [oo 28 (.bi .add 0 (.t 11) (i6 1)),qM 11 28]))))))) (.sq (rg [qM 29 5,qM 30 0,qM 31 6,oo 32 (.ss (.t 30) (some (.t 31)) none),oo 33 (.bs 1 1 [.string ⟨#[]⟩] [(0,.t 32)]),oo 34 (.ap 1 0 (.t 29) (.t 33)),qM 4 34]) (.rt)))))) }
theorem Zc0:Z3 Proofs.Tryz.prog Ji UT=true:=by kernel_rfl
def DC:F2 :=
 { nt:=59,res:=[.t 4 [0]],body:=(.sq (rg [oo 3 (.bt (.t 1)),om 4 (.k (.bool false))]) (.sq (.sq (rg [qM 5 0,qF 6 0 3,qS 7 6 6,qF 8 6 3,qS 9 6 8,oo 10 (.ca .pure false (.f QP) [.t 5,.t 7,.t 9]),oo 11 (.nt (.t 10)),qM 12 11,og 13 12 false (.fa 0 (.t 3)),og 14 12 false (.ld (some 6) (.t 13)),og 15 12 false (.ca .pure false (.f Qf) [.t 14]),og 16 12 false (.nt (.t 15)),oo 17 (.pk (.t 12) (.k (.bool true)) (.t 16)),qM 18 17,og 19 18 false (.fa 6 (.t 3)),og 20 18 false (.fa 5 (.t 19)),og 21 18 false (.ld none (.t 20)),og 22 18 false (.ln (.t 21)),og 23 18 false (.bi .gtr 0 (.t 22) (i6 0)),oo 24 (.pk (.t 18) (.k (.bool true)) (.t 23)),qM 25 24,og 26 25 false (.fa 0 (.t 3)),og 27 25 false (.fa 0 (.t 26)),og 28 25 false (.ld none (.t 27)),og 29 25 false (.fa 6 (.t 3)),og 30 25 false (.fa 0 (.t 29)),og 31 25 false (.ld none (.t 30)),og 32 25 false (.bi .neq 0 (.t 28) (.t 31)),oo 33 (.pk (.t 25) (.k (.bool true)) (.t 32)),qM 34 33,og 35 34 false (.fa 0 (.t 3)),og 36 34 false (.fa 4 (.t 35)),og 37 34 false (.ld none (.t 36)),og 38 34 false (.fa 6 (.t 3)),og 39 34 false (.fa 4 (.t 38)),og 40 34 false (.ld none (.t 39)),og 41 34 false (.ca .pure false (.f JT) [.t 37,.t 40]),og 42 34 false (.nt (.t 41)),oo 43 (.pk (.t 34) (.k (.bool true)) (.t 42))]) (.cd (.t 43) (.sq (rg [om 4 (.k (.bool false))]) (.rt)) (.sk))) (.sq (rg [qF 44 12 3,qL 45 44,qN 46 45,qF 47 6 3,qF 48 2 47,qL 49 48,qN 50 49,qB 51 .eql 46 50,qM 52 51,og 53 52 true (.fa 12 (.t 3)),og 54 52 true (.ld none (.t 53)),og 55 52 true (.mf VT [.t 3]),og 56 52 true (.ca .pure false (.f ZS) [.t 54,.t 55]),og 57 52 true (.nt (.t 56)),oo 58 (.pk (.t 52) (.t 57) (.k (.bool false))),qM 4 58]) (.rt)))) }
theorem Zep:Z3 Proofs.Tryz.prog QO DC=true:=by kernel_rfl
def W7:F2 :=
 { nt:=19,res:=[.t 4 [0]],body:=(.sq (rg [oo 3 (.bt (.t 1)),om 4 (.k (.string ⟨#[]⟩))]) (.sq (.rg (some 0) [qM 5 0,qF 6 0 3,qS 7 6 6,oo 8 (.ca .pure false (.f Jm) [.t 5,.t 7]),oo 9 (.bi .add 0 (.t 8) (.k (.string ⟨#[32,45,62,32]⟩))),qM 10 0,qF 11 6 3,qS 12 6 11,oo 13 (.ca .pure false (.f Jm) [.t 10,.t 12]),oo 14 (.bi .add 0 (.t 13) (.k (.string ⟨#[32,124]⟩))),qF 15 12 3,qL 16 15,oo 17 (.ca .pure false (.f JN) [.t 14,.t 16]),qB 18 .add 9 17,qM 4 18]) (.rt))) }
theorem Zcl:Z3 Proofs.Tryz.prog VP W7=true:=by kernel_rfl
def UU:F2 :=
 { nt:=28,res:=[.t 2 [2]],body:=(.sq (rg [om 2 (.k (.slice none 0 0))]) (.sq (rg [qM 5 0,oo 6 (.ca .pure true (.f Z6) [.t 5,.k (.int .u8 59)]),qM 3 6]) (.sq (.sq (rg [om 4 (i6 1)]) (.bl 0 (.lp [3,4] [192] (.sq (.sq (rg [qM 7 4,qM 8 3,qN 9 8,qB 10 .lss 7 9]) (.cd (.t 10) (.sk) (.ex 0))) (.sq (.bl 1 (.sq (rg [qM 13 3,qM 14 4,qI 15 1 13 14,qL 16 15,oo 17 (.lg (.t 16)),oo 18 (.bi .gtr 0 (.t 17) (i6 0))]) (.cd (.t 18) (rg [qM 19 3,qM 20 4,qM 21 3,qM 22 4,qI 23 1 21 22,qL 24 23,oo 25 (.ss (.t 24) (some (i6 1)) none),qI 26 1 19 20,on1 (.st 1 (.t 26) (.t 25))]) (.sk))))
 (rg [qM 11 4,oo 12 (.bi .add 0 (.t 11) (i6 1)),qM 4 12])))))) (.sq (rg [qM 27 3,qM 2 27]) (.rt))))) }
theorem Zc1:Z3 Proofs.Tryz.prog Qd UU=true:=by kernel_rfl
def Za8:F2 :=
 { nt:=55,res:=[.t 2 [0]],body:=(.sq (rg [om 2 (.k (.bool false))]) (.sq (.sq (rg [om 3 (i6 0)]) (.bl 0 (.lp [0,3] [] (.sq (.sq (rg [qM 5 3,qM 6 0,qN 7 6,qB 8 .lss 5 7]) (.cd (.t 8) (.sk) (.ex 0))) (.sq (.bl 1 (.sq (.sq (rg [qM 11 0,qM 12 3,qI 13 3 11 12,qF 14 0 13,qL 15 14,oo 16 (.ca .pure false (.f Vz) [.t 15]),oo 17 (.nt (.t 16)),qM 18 17,og 19 18 false (.mv (.t 0) none),og 20 18 false (.mv (.t 3) none),og 21 18 false (.ia 3 (.t 19) (.t 20)),og 22 18 false (.fa 1 (.t 21)),og 23 18 false (.ld none (.t 22)),og 24 18 false (.ca .pure false (.f ZN) [.t 23,i6 0,i6 3]),og 25 18 false (.nt (.t 24)),oo 26 (.pk (.t 18) (.k (.bool true)) (.t 25)),qM 27 26,og 28 27 false (.mv (.t 0) none),og 29 27 false (.mv (.t 3) none),og 30 27 false (.ia 3 (.t 28) (.t 29)),og 31 27 false (.fa 2 (.t 30)),og 32 27 false (.ld none (.t 31)),og 33 27 false (.ca .pure false (.f ZN) [.t 32,i6 0,i6 2]),og 34 27 false (.nt (.t 33)),oo 35 (.pk (.t 27) (.k (.bool true)) (.t 34))]) (.cd (.t 35) (.sq (rg [om 2 (.k (.bool false))]) (.rt)) (.sk))) (.sq (rg [om 4 (i6 0)]) (.bl 2 (.lp [0,3,4] [] (.sq (.sq (rg [qM 36 4,qM 37 3,qB 38 .lss 36 37]) (.cd (.t 38) (.sk) (.ex 2))) (.sq (.bl 3 (.sq (.rg (some 0) [qM 41 0,qM 42 4,qI 43 3 41 42,qF 44 0 43,qL 45 44,qM 46 0,qM 47 3,qI 48 3 46 47,qF 49 0 48,qL 50 49,qB 51 .eql 45 50]) (.cd (.t 51) (.sq (rg [om 2 (.k (.bool false))]) (.rt)) (.sk))))
 (rg [qM 39 4,oo 40 (.bi .add 0 (.t 39) (i6 1)),qM 4 40]))))))))
 (rg [qM 9 3,oo 10 (.bi .add 0 (.t 9) (i6 1)),qM 3 10])))))) (.sq (rg [qM 52 0,qN 53 52,oo 54 (.ca .pure false (.f ZN) [.t 53,i6 1,i6 6]),qM 2 54]) (.rt)))) }
theorem ZfM:Z3 Proofs.Tryz.prog VZ Za8=true:=by kernel_rfl
def Zcm:F2 :=
 { nt:=15,res:=[.t 6 [0]],body:=(.sq (rg [om 6 (.k (.bool false))]) (.sq (rg [qM 7 0,qM 8 1,qB 9 .geq 7 8,qM 10 9,og 11 10 true (.mv (.t 0) none),og 12 10 true (.mv (.t 2) none),og 13 10 true (.bi .leq 0 (.t 11) (.t 12)),oo 14 (.pk (.t 10) (.t 13) (.k (.bool false))),qM 6 14]) (.rt))) }
theorem ZgJ:Z3 Proofs.Tryz.prog ZN Zcm=true:=by kernel_rfl
def Qw:F2 :=
 { nt:=58,res:=[.t 2 [0],.t 3 [0]],body:=(.sq (rg [om 2 (i6 0),om 3 (.k (.bool false))]) (.sq (rg [qM 7 0,qM 4 7]) (.sq (.sq (rg [qM 8 4,oo 9 (.lg (.t 8)),oo 10 (.bi .gtr 0 (.t 9) (i6 1)),qM 11 10,og 12 11 true (.mv (.t 4) none),og 13 11 true (.ix (.t 12) (i6 0)),og 14 11 true (.bi .eql 0 (.t 13) (.k (.int .u8 45))),oo 15 (.pk (.t 11) (.t 14) (.k (.bool false)))]) (.cd (.t 15) (rg [qM 16 4,oo 17 (.ss (.t 16) (some (i6 1)) none),qM 4 17]) (.sk))) (.sq (.sq (rg [qM 18 4,oo 19 (.lg (.t 18)),oo 20 (.ca .pure false (.f ZN) [.t 19,i6 1,i6 6]),oo 21 (.nt (.t 20))]) (.cd (.t 21) (.sq (rg [om 2 (i6 0),om 3 (.k (.bool false))]) (.rt)) (.sk))) (.sq (rg [om 5 (i6 0)]) (.sq (.sq (rg [om 6 (i6 0)]) (.bl 0 (.lp [0,4,5,6] [] (.sq (.sq (rg [qM 22 6,qM 23 4,oo 24 (.lg (.t 23)),qB 25 .lss 22 24]) (.cd (.t 25) (.sk) (.ex 0))) (.sq (.bl 1 (.sq (.sq (rg [qM 28 4,qM 29 6,oo 30 (.ix (.t 28) (.t 29)),oo 31 (.bi .lss 0 (.t 30) (.k (.int .u8 48))),qM 32 31,og 33 32 false (.mv (.t 4) none),og 34 32 false (.mv (.t 6) none),og 35 32 false (.ix (.t 33) (.t 34)),og 36 32 false (.bi .gtr 0 (.t 35) (.k (.int .u8 57))),oo 37 (.pk (.t 32) (.k (.bool true)) (.t 36))]) (.cd (.t 37) (.sq (rg [om 2 (i6 0),om 3 (.k (.bool false))]) (.rt)) (.sk)))
 (rg [qM 38 5,oo 39 (.bi .mul 0 (i6 10) (.t 38)),qM 40 4,qM 41 6,oo 42 (.ix (.t 40) (.t 41)),oo 43 (.bi .sub 1 (.t 42) (.k (.int .u8 48))),oo 44 (.cv (.int .i64) (.t 43)),qB 45 .add 39 44,qM 5 45])))
 (rg [qM 26 6,oo 27 (.bi .add 0 (.t 26) (i6 1)),qM 6 27])))))) (.sq (.sq (rg [qM 46 4,oo 47 (.lg (.t 46)),qM 48 0,oo 49 (.lg (.t 48)),qB 50 .lss 47 49]) (.cd (.t 50) (rg [qM 51 5,oo 52 (.ng (.t 51)),qM 5 52]) (.sk))) (.sq (.sq (rg [qM 53 5,oo 54 (.ca .pure false (.f ZB) [.t 53]),qM 55 0,qB 56 .neq 54 55]) (.cd (.t 56) (.sq (rg [om 2 (i6 0),om 3 (.k (.bool false))]) (.rt)) (.sk))) (.sq (rg [qM 57 5,qM 2 57,om 3 (.k (.bool true))]) (.rt)))))))))) }
theorem X8:Z3 Proofs.Tryz.prog ZZ Qw=true:=by kernel_rfl
def Wx:F2 :=
 { nt:=81,res:=[.c 4 (some 6) [0,4,0,0,0,0],.t 5 [0]],body:=(.sq (rg [oo 2 (.bx (.t 0)),oo 4 (.al [.int .i64 0,.slice none 0 0,.slice none 0 0,.int .i64 0,.slice none 0 0,.slice none 0 0] []),om 5 (.k (.bool false))]) (.sq (rg [qM 17 1,oo 18 (.ia 1 (.t 17) (i6 0)),qL 19 18,oo 20 (.ca .pure false (.f Z6) [.t 19,.k (.int .u8 32)]),oo 21 (.ca .pure true (.f JA) [.t 20]),qM 16 21,qE 22 0 16,qE 23 1 16,qM 6 22,qM 7 23]) (.sq (rg [qM 25 1,oo 26 (.ia 1 (.t 25) (i6 1)),qL 27 26,oo 28 (.ca .pure true (.f ZZ) [.t 27]),qM 24 28,qE 29 0 24,qE 30 1 24,qM 8 29,qM 9 30]) (.sq (rg [qM 31 6,qF 32 2 2,on1 (.st 1 (.t 32) (.t 31))]) (.sq (rg [qM 33 8,qF 34 3 2,on1 (.st 1 (.t 34) (.t 33))]) (.sq (rg [qM 35 1,oo 36 (.ia 1 (.t 35) (i6 2)),qL 37 36,oo 38 (.ca .pure true (.f Z6) [.t 37,.k (.int .u8 32)]),oo 39 (.sx 1 (.t 38) (some (i6 1)) none none),qF 40 4 2,on1 (.st 1 (.t 40) (.t 39))]) (.sq (rg [qM 41 1,oo 42 (.ia 1 (.t 41) (i6 3)),qL 43 42,oo 44 (.ca .pure false (.f Z6) [.t 43,.k (.int .u8 32)]),oo 45 (.sx 1 (.t 44) (some (i6 1)) none none),qM 10 45]) (.sq (.sq (rg [om 11 (i6 0)]) (.bl 0 (.lp [2,4,7,9,10,11] [64,128,672,1216,2368] (.sq (.sq (rg [qM 46 11,qM 47 10,qN 48 47,qB 49 .lss 46 48]) (.cd (.t 49) (.sk) (.ex 0))) (.sq (.bl 1 (.sq (rg [qM 53 10,qM 54 11,qI 55 1 53 54,qL 56 55,oo 57 (.ca .pure true (.f V0) [.t 56,.k (.int .u8 61)]),qM 52 57,qE 58 0 52,qE 59 1 52,qM 12 58,qM 13 59]) (.sq (rg [qM 61 13,oo 62 (.ca .pure true (.f ZZ) [.t 61]),qM 60 62,qE 63 0 60,qE 64 1 60,qM 14 63,qM 15 64]) (.sq (.sq (rg [qM 65 15,oo 66 (.nt (.t 65))]) (.cd (.t 66) (.sq (rg [qS 67 6 2,on1 (.st 6 (.t 4) (.t 67)),om 5 (.k (.bool false))]) (.rt)) (.sk)))
 (rg [qF 68 5 2,qL 69 68,qM 70 12,qM 71 14,oo 72 (.bd [.string ⟨#[]⟩,.int .i64 0] [(0,1,.t 70),(1,1,.t 71)] []),oo 73 (.bs 2 1 [.string ⟨#[]⟩,.int .i64 0] [(0,.t 72)]),oo 74 (.ap 2 0 (.t 69) (.t 73)),qF 75 5 2,on1 (.st 1 (.t 75) (.t 74))])))))
 (rg [qM 50 11,oo 51 (.bi .add 0 (.t 50) (i6 1)),qM 11 51])))))) (.sq (rg [qS 76 6 2,qM 77 7,qM 78 77,og 79 78 true (.mv (.t 9) none),oo 80 (.pk (.t 78) (.t 79) (.k (.bool false))),on1 (.st 6 (.t 4) (.t 76)),qM 5 80]) (.rt)))))))))) }
theorem Zbl:Z3 Proofs.Tryz.prog Vs Wx=true:=by kernel_rfl
def XM:F2 :=
 { nt:=48,res:=[.c 4 (some 3) [0,0,2],.t 5 [0]],body:=(.sq (rg [oo 4 (.al [.int .i64 0,.int .i64 0,.slice none 0 0] []),om 5 (.k (.bool false))]) (.sq (rg [qM 14 1,oo 15 (.ca .pure false (.f Z6) [.t 14,.k (.int .u8 32)]),qM 6 15]) (.sq (rg [qM 17 6,oo 18 (.ia 1 (.t 17) (i6 0)),qL 19 18,oo 20 (.ca .pure false (.f V0) [.t 19,.k (.int .u8 64)]),qM 16 20,qE 21 0 16,qE 22 1 16,qM 7 21,qM 8 22]) (.sq (rg [qM 24 6,oo 25 (.ca .pure true (.f JA) [.t 24]),qM 23 25,qE 26 0 23,qE 27 1 23,qM 9 26,qM 10 27]) (.sq (rg [qM 29 8,oo 30 (.ca .pure true (.f ZZ) [.t 29]),qM 28 30,qE 31 0 28,qE 32 1 28,qM 11 31,qM 12 32]) (.sq (rg [qM 33 0,qM 34 7,oo 35 (.ca .pure false (.f VA) [.t 33,.t 34]),qM 13 35]) (.sq (rg [qM 36 13,qM 37 11,qM 38 9,oo 39 (.bd [.int .i64 0,.int .i64 0,.slice none 0 0] [(0,1,.t 36),(1,1,.t 37),(2,1,.t 38)] []),qM 40 10,qM 41 40,og 42 41 true (.mv (.t 12) none),oo 43 (.pk (.t 41) (.t 42) (.k (.bool false))),qM 44 43,og 45 44 true (.mv (.t 13) none),og 46 44 true (.bi .geq 0 (.t 45) (i6 0)),oo 47 (.pk (.t 44) (.t 46) (.k (.bool false))),on1 (.st 3 (.t 4) (.t 39)),qM 5 47]) (.rt)))))))) }
theorem ZaI:Z3 Proofs.Tryz.prog Y3 XM=true:=by kernel_rfl
def DD:F2 :=
 { nt:=98,res:=[.t 4 [0]],body:=(.sq (rg [oo 3 (.bt (.t 1)),om 4 (.k (.bool false))]) (.sq (.sq (rg [qM 8 0,oo 9 (.ca .pure false (.f VZ) [.t 8]),oo 10 (.nt (.t 9)),qM 11 10,og 12 11 false (.fa 0 (.t 3)),og 13 11 false (.ld none (.t 12)),og 14 11 false (.ca .pure false (.f ZN) [.t 13,i6 0,i6 4]),og 15 11 false (.nt (.t 14)),oo 16 (.pk (.t 11) (.k (.bool true)) (.t 15)),qM 17 16,og 18 17 false (.fa 1 (.t 3)),og 19 17 false (.ld none (.t 18)),og 20 17 false (.ln (.t 19)),og 21 17 false (.bi .gtr 0 (.t 20) (i6 8)),oo 22 (.pk (.t 17) (.k (.bool true)) (.t 21)),qM 23 22,og 24 23 false (.fa 2 (.t 3)),og 25 23 false (.ld none (.t 24)),og 26 23 false (.ln (.t 25)),og 27 23 false (.bi .gtr 0 (.t 26) (i6 4)),oo 28 (.pk (.t 23) (.k (.bool true)) (.t 27)),qM 29 28,og 30 29 false (.fa 3 (.t 3)),og 31 29 false (.ld none (.t 30)),og 32 29 false (.ca .pure false (.f ZN) [.t 31,i6 0,i6 8]),og 33 29 false (.nt (.t 32)),oo 34 (.pk (.t 29) (.k (.bool true)) (.t 33))]) (.cd (.t 34) (.sq (rg [om 4 (.k (.bool false))]) (.rt)) (.sk))) (.sq (.sq (rg [qF 35 4 3,qL 36 35,oo 37 (.ca .pure false (.f YV) [.t 36]),oo 38 (.nt (.t 37)),qM 39 38,og 40 39 false (.fa 5 (.t 3)),og 41 39 false (.ld none (.t 40)),og 42 39 false (.ln (.t 41)),og 43 39 false (.bi .gtr 0 (.t 42) (i6 16)),oo 44 (.pk (.t 39) (.k (.bool true)) (.t 43)),qM 45 44,og 46 45 false (.ld (some 6) (.t 3)),og 47 45 false (.ca .pure false (.f Qi) [.t 46]),og 48 45 false (.ca .pure false (.f YV) [.t 47]),og 49 45 false (.nt (.t 48)),oo 50 (.pk (.t 45) (.k (.bool true)) (.t 49))]) (.cd (.t 50) (.sq (rg [om 4 (.k (.bool false))]) (.rt)) (.sk))) (.sq (.sq (rg [om 5 (i6 0)]) (.bl 0 (.lp [0,3,5] [] (.sq (.sq (rg [qM 51 5,qF 52 1 3,qL 53 52,qN 54 53,qB 55 .lss 51 54]) (.cd (.t 55) (.sk) (.ex 0))) (.sq (.bl 1 (.sq (rg [qM 58 0,qS 59 6 3,qM 60 5,oo 61 (.ca .pure false (.f QQ) [.t 58,.t 59,.t 60]),oo 62 (.nt (.t 61))]) (.cd (.t 62) (.sq (rg [om 4 (.k (.bool false))]) (.rt)) (.sk))))
 (rg [qM 56 5,oo 57 (.bi .add 0 (.t 56) (i6 1)),qM 5 57])))))) (.sq (.sq (rg [om 6 (i6 0)]) (.bl 2 (.lp [0,3,6] [] (.sq (.sq (rg [qM 63 6,qF 64 2 3,qL 65 64,qN 66 65,qB 67 .lss 63 66]) (.cd (.t 67) (.sk) (.ex 2))) (.sq (.bl 3 (.sq (.rg (some 0) [qM 70 0,qS 71 6 3,qF 72 2 3,qL 73 72,qM 74 6,qI 75 1 73 74,qL 76 75,qF 77 1 3,qL 78 77,qN 79 78,oo 80 (.ca .pure false (.f YW) [.t 70,.t 71,.t 76,.t 79]),oo 81 (.nt (.t 80))]) (.cd (.t 81) (.sq (rg [om 4 (.k (.bool false))]) (.rt)) (.sk))))
 (rg [qM 68 6,oo 69 (.bi .add 0 (.t 68) (i6 1)),qM 6 69])))))) (.sq (.sq (rg [om 7 (i6 0)]) (.bl 4 (.lp [3,7] [] (.sq (.sq (rg [qM 82 7,qF 83 5 3,qL 84 83,qN 85 84,qB 86 .lss 82 85]) (.cd (.t 86) (.sk) (.ex 4))) (.sq (.bl 5 (.sq (.rg (some 0) [qS 89 6 3,qF 90 5 3,qL 91 90,qM 92 7,qI 93 2 91 92,qF 94 1 93,qL 95 94,oo 96 (.ca .pure false (.f VB) [.t 89,.t 95]),oo 97 (.nt (.t 96))]) (.cd (.t 97) (.sq (rg [om 4 (.k (.bool false))]) (.rt)) (.sk))))
 (rg [qM 87 7,oo 88 (.bi .add 0 (.t 87) (i6 1)),qM 7 88])))))) (.sq (rg [om 4 (.k (.bool true))]) (.rt)))))))) }
theorem Zeq:Z3 Proofs.Tryz.prog Yl DD=true:=by kernel_rfl
def DE:F2 :=
 { nt:=99,res:=[.t 4 [0]],body:=(.sq (rg [oo 3 (.bt (.t 1)),om 4 (.k (.string ⟨#[]⟩))]) (.sq (rg [qF 10 0 3,qL 11 10,oo 12 (.ca .pure false (.f ZB) [.t 11]),oo 13 (.bi .add 0 (.t 12) (.k (.string ⟨#[59,32]⟩))),qM 5 13]) (.sq (.sq (rg [om 6 (i6 0)]) (.bl 0 (.lp [0,3,5,6] [] (.sq (.sq (rg [qM 14 6,qF 15 1 3,qL 16 15,qN 17 16,qB 18 .lss 14 17]) (.cd (.t 18) (.sk) (.ex 0))) (.sq (.bl 1 (.sq (rg [qF 21 1 3,qL 22 21,qM 23 6,qI 24 3 22 23,qS 25 3 24,oo 7 (.al [.int .i64 0,.int .i64 0,.slice none 0 0] []),on1 (.st 3 (.t 7) (.t 25))]) (.rg (some 0) [qM 26 5,qM 27 0,qF 28 0 7,qL 29 28,qI 30 3 27 29,qF 31 0 30,qL 32 31,qB 33 .add 26 32,oo 34 (.bi .add 0 (.t 33) (.k (.string ⟨#[64]⟩))),qF 35 1 7,qL 36 35,oo 37 (.ca .pure false (.f ZB) [.t 36]),qB 38 .add 34 37,qF 39 2 7,qL 40 39,oo 41 (.ca .pure false (.f J1) [.t 40]),qB 42 .add 38 41,oo 43 (.bi .add 0 (.t 42) (.k (.string ⟨#[59,32]⟩))),qM 5 43])))
 (rg [qM 19 6,oo 20 (.bi .add 0 (.t 19) (i6 1)),qM 6 20])))))) (.sq (.rg (some 0) [qM 44 5,oo 45 (.bi .add 0 (.t 44) (.k (.string ⟨#[115,105,116,101,115]⟩))),qF 46 2 3,qL 47 46,oo 48 (.ca .pure false (.f J1) [.t 47]),qB 49 .add 45 48,oo 50 (.bi .add 0 (.t 49) (.k (.string ⟨#[59,32]⟩))),qF 51 3 3,qL 52 51,oo 53 (.ca .pure false (.f ZB) [.t 52]),qB 54 .add 50 53,oo 55 (.bi .add 0 (.t 54) (.k (.string ⟨#[59,32,111,117,116,101,114]⟩))),qM 5 55]) (.sq (.sq (rg [om 8 (i6 0)]) (.bl 2 (.lp [3,5,8] [] (.sq (.sq (rg [qM 56 8,qF 57 4 3,qL 58 57,qN 59 58,qB 60 .lss 56 59]) (.cd (.t 60) (.sk) (.ex 2))) (.sq (.bl 3 (rg [qM 63 5,oo 64 (.bi .add 0 (.t 63) (.k (.string ⟨#[32]⟩))),qF 65 4 3,qL 66 65,qM 67 8,qI 68 1 66 67,qL 69 68,qB 70 .add 64 69,qM 5 70]))
 (rg [qM 61 8,oo 62 (.bi .add 0 (.t 61) (i6 1)),qM 8 62])))))) (.sq (rg [qM 71 5,oo 72 (.bi .add 0 (.t 71) (.k (.string ⟨#[59,32,105,110,110,101,114]⟩))),qM 5 72]) (.sq (.sq (rg [om 9 (i6 0)]) (.bl 4 (.lp [3,5,9] [] (.sq (.sq (rg [qM 73 9,qF 74 5 3,qL 75 74,qN 76 75,qB 77 .lss 73 76]) (.cd (.t 77) (.sk) (.ex 4))) (.sq (.bl 5 (.rg (some 0) [qM 80 5,oo 81 (.bi .add 0 (.t 80) (.k (.string ⟨#[32]⟩))),qF 82 5 3,qL 83 82,qM 84 9,qI 85 2 83 84,qF 86 0 85,qL 87 86,qB 88 .add 81 87,oo 89 (.bi .add 0 (.t 88) (.k (.string ⟨#[61]⟩))),qF 90 5 3,qL 91 90,qM 92 9,qI 93 2 91 92,qF 94 1 93,qL 95 94,oo 96 (.ca .pure false (.f ZB) [.t 95]),qB 97 .add 89 96,qM 5 97]))
 (rg [qM 78 9,oo 79 (.bi .add 0 (.t 78) (i6 1)),qM 9 79])))))) (.sq (rg [qM 98 5,qM 4 98]) (.rt))))))))) }
theorem Zer:Z3 Proofs.Tryz.prog Ym DE=true:=by kernel_rfl
def UV:F2 :=
 { nt:=12,res:=[.t 4 [0]],body:=(.sq (rg [oo 3 (.bt (.t 1)),om 4 (.k (.bool false))]) (.sq (rg [qM 5 0,qS 6 6 3,oo 7 (.ca .pure false (.f Yl) [.t 5,.t 6]),qM 8 7,og 9 8 true (.ld (some 6) (.t 3)),og 10 8 true (.ca .pure false (.f Qj) [.t 9]),oo 11 (.pk (.t 8) (.t 10) (.k (.bool false))),qM 4 11]) (.rt))) }
theorem Zc2:Z3 Proofs.Tryz.prog Qe UV=true:=by kernel_rfl
def Xg:F2 :=
 { nt:=32,res:=[.t 4 [0]],body:=(.sq (rg [om 4 (.k (.bool false))]) (.sq (.sq (rg [om 5 (i6 0)]) (.bl 0 (.lp [0,1,5] [] (.sq (.sq (rg [qM 6 5,qM 7 0,qN 8 7,qB 9 .lss 6 8,qM 10 9,og 11 10 true (.mv (.t 5) none),og 12 10 true (.mv (.t 1) none),og 13 10 true (.ln (.t 12)),og 14 10 true (.bi .lss 0 (.t 11) (.t 13)),oo 15 (.pk (.t 10) (.t 14) (.k (.bool false)))]) (.cd (.t 15) (.sk) (.ex 0))) (.sq (.bl 1 (.sq (.rg (some 0) [qM 18 0,qM 19 5,qI 20 1 18 19,qL 21 20,qM 22 1,qM 23 5,qI 24 1 22 23,qL 25 24,qB 26 .neq 21 25]) (.cd (.t 26) (.sq (rg [om 4 (.k (.bool false))]) (.rt)) (.sk))))
 (rg [qM 16 5,oo 17 (.bi .add 0 (.t 16) (i6 1)),qM 5 17])))))) (.sq (rg [qM 27 0,qN 28 27,qM 29 1,qN 30 29,qB 31 .eql 28 30,qM 4 31]) (.rt)))) }
theorem DF:Z3 Proofs.Tryz.prog YC Xg=true:=by kernel_rfl
def W8:F2 :=
 { nt:=31,res:=[.t 2 [0]],body:=(.sq (rg [oo 1 (.bt (.t 0)),om 2 (.k (.bool false))]) (.sq (.sq (rg [om 3 (i6 0)]) (.bl 0 (.lp [1,3] [] (.sq (.sq (rg [qM 4 3,qF 5 12 1,qL 6 5,qN 7 6,qB 8 .lss 4 7]) (.cd (.t 8) (.sk) (.ex 0))) (.sq (.bl 1 (.sq (.rg (some 0) [qF 11 12 1,qL 12 11,qM 13 3,qI 14 1 12 13,qL 15 14,qF 16 0 1,qF 17 2 16,qL 18 17,qN 19 18,oo 20 (.bi .sub 0 (.t 19) (i6 1)),oo 21 (.ca .pure false (.f ZN) [.t 15,i6 0,.t 20]),oo 22 (.nt (.t 21))]) (.cd (.t 22) (.sq (rg [om 2 (.k (.bool false))]) (.rt)) (.sk))))
 (rg [qM 9 3,oo 10 (.bi .add 0 (.t 9) (i6 1)),qM 3 10])))))) (.sq (rg [qF 23 12 1,qL 24 23,qN 25 24,qF 26 6 1,qF 27 2 26,qL 28 27,qN 29 28,qB 30 .eql 25 29,qM 2 30]) (.rt)))) }
theorem Zcn:Z3 Proofs.Tryz.prog VQ W8=true:=by kernel_rfl
def UW:F2 :=
 { nt:=20,res:=[.t 2 [0]],body:=(.sq (rg [om 2 (.k (.string ⟨#[]⟩))]) (.sq (rg [om 3 (.k (.string ⟨#[]⟩))]) (.sq (.sq (rg [om 4 (i6 0)]) (.bl 0 (.lp [0,3,4] [] (.sq (.sq (rg [qM 5 4,qM 6 0,qN 7 6,qB 8 .lss 5 7]) (.cd (.t 8) (.sk) (.ex 0))) (.sq (.bl 1 (rg [qM 11 3,oo 12 (.bi .add 0 (.t 11) (.k (.string ⟨#[32]⟩))),qM 13 0,qM 14 4,qI 15 1 13 14,qL 16 15,oo 17 (.ca .pure false (.f ZB) [.t 16]),qB 18 .add 12 17,qM 3 18]))
 (rg [qM 9 4,oo 10 (.bi .add 0 (.t 9) (i6 1)),qM 4 10])))))) (.sq (rg [qM 19 3,qM 2 19]) (.rt))))) }
theorem Zc3:Z3 Proofs.Tryz.prog J1 UW=true:=by kernel_rfl
def Xh:F2 :=
 { nt:=40,res:=[.t 2 [0]],body:=(.sq (rg [om 2 (.k (.bool false))]) (.sq (.sq (rg [qM 5 0,qN 6 5,oo 7 (.ca .pure false (.f ZQ) [.t 6,i6 1,i6 6]),oo 8 (.nt (.t 7))]) (.cd (.t 8) (.sq (rg [om 2 (.k (.bool false))]) (.rt)) (.sk))) (.sq (.sq (rg [qM 9 0,qN 10 9,om 11 (i6 0)]) (.bl 0 (.lp [0,9,10,11] [] (.sq (rg [qB 12 .lss 11 10]) (.sq (.cd (.t 12) (.sk) (.ex 0)) (.sq (.bl 1 (.sq (rg [qM 13 11,qI 14 3 9 11,qS 15 3 14,oo 4 (.al [.string ⟨#[]⟩,.int .i64 0,.int .i64 0] []),qM 3 13,on1 (.st 3 (.t 4) (.t 15))]) (.sq (rg [qF 16 0 4,qL 17 16,oo 18 (.ca .pure false (.f VC) [.t 17]),oo 19 (.nt (.t 18)),qM 20 19,og 21 20 false (.fa 1 (.t 4)),og 22 20 false (.ld none (.t 21)),og 23 20 false (.ca .pure false (.f ZQ) [.t 22,i6 0,i6 3]),og 24 20 false (.nt (.t 23)),oo 25 (.pk (.t 20) (.k (.bool true)) (.t 24)),qM 26 25,og 27 26 false (.fa 2 (.t 4)),og 28 26 false (.ld none (.t 27)),og 29 26 false (.ca .pure false (.f ZQ) [.t 28,i6 0,i6 2]),og 30 26 false (.nt (.t 29)),oo 31 (.pk (.t 26) (.k (.bool true)) (.t 30)),qM 32 31,og 33 32 false (.mv (.t 0) none),og 34 32 false (.mv (.t 3) none),og 35 32 false (.sx 3 (.t 33) none (some (.t 34)) none),og 36 32 false (.mf Js [.t 4]),og 37 32 false (.ca .pure false (.f ZV) [.t 35,.t 36]),oo 38 (.pk (.t 32) (.k (.bool true)) (.t 37))]) (.cd (.t 38) (.sq (rg [om 2 (.k (.bool false))]) (.rt)) (.sk)))))
 (rg [oo 39 (.bi .add 0 (.t 11) (i6 1)),qM 11 39]))))))) (.sq (rg [om 2 (.k (.bool true))]) (.rt))))) }
theorem DG:Z3 Proofs.Tryz.prog JI Xh=true:=by kernel_rfl
def UX:F2 :=
 { nt:=20,res:=[.t 2 [0],.t 3 [0]],body:=(.sq (rg [om 2 (i6 0),om 3 (.k (.bool false))]) (.sq (rg [qM 7 0,oo 8 (.ca .pure true (.f Qk) [.t 7]),qM 6 8,qE 9 0 6,qE 10 1 6,qM 4 9,qM 5 10]) (.sq (.sq (rg [qM 11 5,oo 12 (.bi .neq 3 (.t 11) (.k (.nilIface))),qM 13 12,og 14 13 false (.mv (.t 4) none),og 15 13 false (.ca .pure false (.f JD) [.t 14]),og 16 13 false (.mv (.t 0) none),og 17 13 false (.bi .neq 0 (.t 15) (.t 16)),oo 18 (.pk (.t 13) (.k (.bool true)) (.t 17))]) (.cd (.t 18) (.sq (rg [om 2 (i6 0),om 3 (.k (.bool false))]) (.rt)) (.sk))) (.sq (rg [qM 19 4,qM 2 19,om 3 (.k (.bool true))]) (.rt))))) }
theorem Zc4:Z3 Proofs.Tryz.prog Jj UX=true:=by kernel_rfl
def W9:F2 :=
 { nt:=50,res:=[.c 4 (some 3) [0,0,2],.t 5 [0]],body:=(.sq (rg [oo 4 (.al [.int .i64 0,.int .i64 0,.slice none 0 0] []),om 5 (.k (.bool false))]) (.sq (rg [qM 13 1,oo 14 (.ca .pure false (.f Ji) [.t 13,.k (.int .u8 32)]),qM 6 14]) (.sq (rg [qM 16 6,oo 17 (.ia 1 (.t 16) (i6 0)),qL 18 17,oo 19 (.ca .pure false (.f Yj) [.t 18,.k (.string ⟨#[64]⟩)]),qM 15 19,qE 20 0 15,qE 21 1 15,qE 22 2 15,qM 7 20,qM 8 21,qM 9 22]) (.sq (rg [qM 23 0,qM 24 7,oo 25 (.ca .pure false (.f VD) [.t 23,.t 24]),oo 26 (.bd [.int .i64 0,.int .i64 0,.slice none 0 0] [(0,1,.t 25)] []),oo 10 (.al [.int .i64 0,.int .i64 0,.slice none 0 0] []),on1 (.st 3 (.t 10) (.t 26))]) (.sq (rg [om 11 (.k (.bool false)),om 12 (.k (.bool false))]) (.sq (rg [qM 28 8,oo 29 (.ca .pure true (.f Jj) [.t 28]),qM 27 29,qE 30 0 27,qE 31 1 27,qF 32 1 10,on1 (.st 1 (.t 32) (.t 30)),qM 12 31]) (.sq (rg [qM 34 6,oo 35 (.sx 1 (.t 34) (some (i6 1)) none none),oo 36 (.ca .pure true (.f Jk) [.t 35]),qM 33 36,qE 37 0 33,qE 38 1 33,qF 39 2 10,on1 (.st 1 (.t 39) (.t 37)),qM 11 38]) (.sq (.rg (some 0) [qS 40 3 10,qM 41 11,qM 42 41,og 43 42 true (.mv (.t 12) none),oo 44 (.pk (.t 42) (.t 43) (.k (.bool false))),qM 45 44,og 46 45 true (.fa 0 (.t 10)),og 47 45 true (.lb none (.t 46) (some 4)),og 48 45 true (.bi .geq 0 (.t 47) (i6 0)),oo 49 (.pk (.t 45) (.t 48) (.k (.bool false))),on1 (.s0 3 (.t 4) (.t 40)),qM 5 49]) (.rt))))))))) }
theorem Zco:Z3 Proofs.Tryz.prog VS W9=true:=by kernel_rfl
def Wy:F2 :=
 { nt:=40,res:=[.t 2 [3],.t 3 [0]],body:=(.sq (rg [om 2 (.k (.slice none 0 0)),om 3 (.k (.bool false))]) (.sq (rg [oo 12 (.bs 2 0 [] []),qM 4 12]) (.sq (.sq (rg [qM 13 0,qN 14 13,om 15 (i6 0)]) (.bl 0 (.lp [4,13,14,15] [384,1184] (.sq (rg [qB 16 .lss 15 14]) (.sq (.cd (.t 16) (.sk) (.ex 0)) (.sq (.bl 1 (.sq (rg [qI 17 1 13 15,qL 18 17,qM 6 18]) (.sq (rg [qM 20 6,oo 21 (.ca .pure true (.f Yj) [.t 20,.k (.string ⟨#[61]⟩)]),qM 19 21,qE 22 0 19,qE 23 1 19,qE 24 2 19,qM 7 22,qM 8 23,qM 9 24]) (.sq (rg [qM 26 8,oo 27 (.ca .pure true (.f Jj) [.t 26]),qM 25 27,qE 28 0 25,qE 29 1 25,qM 10 28,qM 11 29]) (.sq (.sq (rg [qM 30 11,oo 31 (.nt (.t 30))]) (.cd (.t 31) (.sq (rg [om 2 (.k (.slice none 0 0)),om 3 (.k (.bool false))]) (.rt)) (.sk)))
 (rg [qM 32 4,qM 33 7,qM 34 10,oo 35 (.bd [.string ⟨#[]⟩,.int .i64 0] [(0,1,.t 33),(1,1,.t 34)] []),oo 36 (.bs 2 1 [.string ⟨#[]⟩,.int .i64 0] [(0,.t 35)]),oo 37 (.ap 2 0 (.t 32) (.t 36)),qM 4 37]))))))
 (rg [oo 38 (.bi .add 0 (.t 15) (i6 1)),qM 15 38]))))))) (.sq (rg [qM 39 4,qM 2 39,om 3 (.k (.bool true))]) (.rt))))) }
theorem Zbm:Z3 Proofs.Tryz.prog Vt Wy=true:=by kernel_rfl
def Wz:F2 :=
 { nt:=101,res:=[.t 4 [0]],body:=(.sq (rg [oo 2 (.bt (.t 0)),oo 3 (.bt (.t 1)),om 4 (.k (.bool false))]) (.sq (.sq (rg [qL 7 2,oo 8 (.ca .pure false (.f JI) [.t 7]),oo 9 (.nt (.t 8)),qM 10 9,og 11 10 false (.fa 0 (.t 3)),og 12 10 false (.ld none (.t 11)),og 13 10 false (.ca .pure false (.f ZQ) [.t 12,i6 0,i6 4]),og 14 10 false (.nt (.t 13)),oo 15 (.pk (.t 10) (.k (.bool true)) (.t 14)),qM 16 15,og 17 16 false (.fa 1 (.t 3)),og 18 16 false (.ld none (.t 17)),og 19 16 false (.ln (.t 18)),og 20 16 false (.bi .gtr 0 (.t 19) (i6 8)),oo 21 (.pk (.t 16) (.k (.bool true)) (.t 20)),qM 22 21,og 23 22 false (.fa 2 (.t 3)),og 24 22 false (.ld none (.t 23)),og 25 22 false (.ln (.t 24)),og 26 22 false (.bi .gtr 0 (.t 25) (i6 4)),oo 27 (.pk (.t 22) (.k (.bool true)) (.t 26)),qM 28 27,og 29 28 false (.fa 3 (.t 3)),og 30 28 false (.ld none (.t 29)),og 31 28 false (.ca .pure false (.f ZQ) [.t 30,i6 0,i6 8]),og 32 28 false (.nt (.t 31)),oo 33 (.pk (.t 28) (.k (.bool true)) (.t 32)),qM 34 33,og 35 34 false (.fa 4 (.t 3)),og 36 34 false (.ld none (.t 35)),og 37 34 false (.ca .pure false (.f Yx) [.t 36]),og 38 34 false (.nt (.t 37)),oo 39 (.pk (.t 34) (.k (.bool true)) (.t 38)),qM 40 39,og 41 40 false (.ld (some 6) (.t 3)),og 42 40 false (.ca .pure false (.f Jq) [.t 41]),og 43 40 false (.ca .pure false (.f Yx) [.t 42]),og 44 40 false (.nt (.t 43)),oo 45 (.pk (.t 40) (.k (.bool true)) (.t 44))]) (.cd (.t 45) (.sq (rg [om 4 (.k (.bool false))]) (.rt)) (.sk))) (.sq (.sq (rg [qF 46 1 3,qL 47 46,qN 48 47,om 49 (i6 0)]) (.bl 0 (.lp [2,3,47,48,49] [] (.sq (rg [qB 50 .lss 49 48]) (.sq (.cd (.t 50) (.sk) (.ex 0)) (.sq (.bl 1 (.sq (rg [qM 51 49,qI 52 3 47 49,qS 53 3 52,oo 6 (.al [.int .i64 0,.int .i64 0,.slice none 0 0] []),qM 5 51,on1 (.st 3 (.t 6) (.t 53))]) (.sq (.rg (some 0) [qF 54 0 6,qL 55 54,qL 56 2,qN 57 56,oo 58 (.bi .sub 0 (.t 57) (i6 1)),oo 59 (.ca .pure false (.f ZQ) [.t 55,i6 0,.t 58]),oo 60 (.nt (.t 59)),qM 61 60,og 62 61 false (.ld (some 6) (.t 3)),og 63 61 false (.ld none (.t 2)),og 64 61 false (.fa 1 (.t 6)),og 65 61 false (.ld none (.t 64)),og 66 61 false (.mv (.t 5) none),og 67 61 false (.ca .pure false (.f Jc) [.t 62,.t 63,.t 65,.t 66]),og 68 61 false (.nt (.t 67)),oo 69 (.pk (.t 61) (.k (.bool true)) (.t 68)),qM 70 69,og 71 70 false (.fa 2 (.t 6)),og 72 70 false (.ld none (.t 71)),og 73 70 false (.ln (.t 72)),og 74 70 false (.ld none (.t 2)),og 75 70 false (.fa 0 (.t 6)),og 76 70 false (.ld none (.t 75)),og 77 70 false (.ia 3 (.t 74) (.t 76)),og 78 70 false (.fa 1 (.t 77)),og 79 70 false (.ld none (.t 78)),og 80 70 false (.bi .neq 0 (.t 73) (.t 79)),oo 81 (.pk (.t 70) (.k (.bool true)) (.t 80)),qM 82 81,og 83 82 false (.fa 2 (.t 6)),og 84 82 false (.ld none (.t 83)),og 85 82 false (.mf YF [.t 3]),og 86 82 false (.ca .pure false (.f ZS) [.t 84,.t 85]),oo 87 (.pk (.t 82) (.k (.bool true)) (.t 86))]) (.cd (.t 87) (.sq (rg [om 4 (.k (.bool false))]) (.rt)) (.sk)))))
 (rg [oo 88 (.bi .add 0 (.t 49) (i6 1)),qM 49 88]))))))) (.sq (rg [qF 89 2 3,qL 90 89,oo 91 (.mf YG [.t 3,.t 2]),oo 92 (.ca .pure false (.f ZS) [.t 90,.t 91]),oo 93 (.nt (.t 92)),qM 94 93,og 95 94 true (.fa 5 (.t 3)),og 96 94 true (.ld none (.t 95)),og 97 94 true (.mf YH [.t 3]),og 98 94 true (.ca .pure false (.f Z4) [.t 96,.t 97]),og 99 94 true (.nt (.t 98)),oo 100 (.pk (.t 94) (.t 99) (.k (.bool false))),qM 4 100]) (.rt))))) }
theorem Zbn:Z3 Proofs.Tryz.prog JC Wz=true:=by kernel_rfl
def Xi:F2 :=
 { nt:=77,res:=[.t 4 [0]],body:=(.sq (rg [oo 3 (.bt (.t 1)),om 4 (.k (.string ⟨#[]⟩))]) (.sq (rg [qF 11 0 3,qL 12 11,oo 13 (.ca .pure false (.f JD) [.t 12]),oo 14 (.bs 1 1 [.string ⟨#[]⟩] [(0,.t 13)]),qM 5 14]) (.sq (.sq (rg [qF 15 1 3,qL 16 15,qN 17 16,om 18 (i6 0)]) (.bl 0 (.lp [0,3,5,16,17,18] [448,1216,1696] (.sq (rg [qB 19 .lss 18 17]) (.sq (.cd (.t 19) (.sk) (.ex 0)) (.sq (.bl 1 (.sq (rg [qI 20 3 16 18,qS 21 3 20,oo 7 (.al [.int .i64 0,.int .i64 0,.slice none 0 0] []),on1 (.st 3 (.t 7) (.t 21))]) (.rg (some 0) [qM 22 5,qM 23 0,qF 24 0 7,qL 25 24,qI 26 3 23 25,qF 27 0 26,qL 28 27,oo 29 (.bi .add 0 (.t 28) (.k (.string ⟨#[64]⟩))),qF 30 1 7,qL 31 30,oo 32 (.ca .pure false (.f JD) [.t 31]),qB 33 .add 29 32,qF 34 2 7,qL 35 34,oo 36 (.ca .pure false (.f JN) [.t 33,.t 35]),oo 37 (.bs 1 1 [.string ⟨#[]⟩] [(0,.t 36)]),oo 38 (.ap 1 0 (.t 22) (.t 37)),qM 5 38])))
 (rg [oo 39 (.bi .add 0 (.t 18) (i6 1)),qM 18 39]))))))) (.sq (.rg (some 0) [qM 40 5,qF 41 2 3,qL 42 41,oo 43 (.ca .pure false (.f JN) [.k (.string ⟨#[115,105,116,101,115]⟩),.t 42]),qF 44 3 3,qL 45 44,oo 46 (.ca .pure false (.f JD) [.t 45]),oo 47 (.bs 1 1 [.string ⟨#[]⟩] [(0,.k (.string ⟨#[111,117,116,101,114]⟩))]),qF 48 4 3,qL 49 48,oo 50 (.a0 1 (.t 47) (.t 49)),oo 51 (.ca .pure false (.f YX) [.t 50,.k (.string ⟨#[32]⟩)]),oo 52 (.bs 1 3 [.string ⟨#[]⟩] [(0,.t 43),(1,.t 46),(2,.t 51)]),oo 53 (.ap 1 0 (.t 40) (.t 52)),qM 5 53]) (.sq (rg [om 8 (.k (.string ⟨#[105,110,110,101,114]⟩))]) (.sq (.sq (rg [qF 54 5 3,qL 55 54,qN 56 55,om 57 (i6 0)]) (.bl 2 (.lp [5,8,55,56,57] [448,1216,1696] (.sq (rg [qB 58 .lss 57 56]) (.sq (.cd (.t 58) (.sk) (.ex 2)) (.sq (.bl 3 (.sq (rg [qI 59 2 55 57,qS 60 2 59,oo 10 (.al [.string ⟨#[]⟩,.int .i64 0] []),on1 (.st 2 (.t 10) (.t 60))]) (.rg (some 0) [qM 61 8,qF 62 0 10,qL 63 62,oo 64 (.bi .add 0 (.k (.string ⟨#[32]⟩)) (.t 63)),oo 65 (.bi .add 0 (.t 64) (.k (.string ⟨#[61]⟩))),qF 66 1 10,qL 67 66,oo 68 (.ca .pure false (.f JD) [.t 67]),qB 69 .add 65 68,qB 70 .add 61 69,qM 8 70])))
 (rg [oo 71 (.bi .add 0 (.t 57) (i6 1)),qM 57 71]))))))) (.sq (rg [qM 72 5,qM 73 8,oo 74 (.bs 1 1 [.string ⟨#[]⟩] [(0,.t 73)]),oo 75 (.ap 1 0 (.t 72) (.t 74)),oo 76 (.ca .pure false (.f YX) [.t 75,.k (.string ⟨#[59,32]⟩)]),qM 4 76]) (.rt)))))))) }
theorem DH:Z3 Proofs.Tryz.prog Jm Xi=true:=by kernel_rfl
def XN:F2 :=
 { nt:=42,res:=[.c 2 (some 6) [0,4,2,0,2,3]],body:=(.sq (rg [oo 1 (.bt (.t 0)),oo 2 (.al [.int .i64 0,.slice none 0 0,.slice none 0 0,.int .i64 0,.slice none 0 0,.slice none 0 0] [])]) (.sq (.rg (some 0) [qF 6 0 1,qL 7 6,qF 8 2 1,qL 9 8,oo 10 (.ca .pure true (.f Jf) [.t 9]),qF 11 3 1,qL 12 11,qF 13 4 1,qL 14 13,oo 15 (.ca .pure true (.f Jd) [.t 14]),qF 16 5 1,qL 17 16,oo 18 (.ca .pure true (.f Z2) [.t 17]),oo 19 (.bd [.int .i64 0,.slice none 0 0,.slice none 0 0,.int .i64 0,.slice none 0 0,.slice none 0 0] [(0,1,.t 7),(2,1,.t 10),(3,1,.t 12),(4,1,.t 15),(5,1,.t 18)] [(1,3)]),oo 3 (.al [.int .i64 0,.slice none 0 0,.slice none 0 0,.int .i64 0,.slice none 0 0,.slice none 0 0] []),on1 (.st 6 (.t 3) (.t 19))]) (.sq (.sq (rg [qF 20 1 1,qL 21 20,qN 22 21,om 23 (i6 0)]) (.bl 0 (.lp [2,3,21,22,23] [64,96,320,480,576,608,1216] (.sq (rg [qB 24 .lss 23 22]) (.sq (.cd (.t 24) (.sk) (.ex 0)) (.sq (.bl 1 (.sq (rg [qI 25 3 21 23,qS 26 3 25,oo 5 (.al [.int .i64 0,.int .i64 0,.slice none 0 0] []),on1 (.st 3 (.t 5) (.t 26))]) (.rg (some 0) [qF 27 1 3,qL 28 27,qF 29 0 5,qL 30 29,qF 31 1 5,qL 32 31,qF 33 2 5,qL 34 33,oo 35 (.ca .pure true (.f Jf) [.t 34]),oo 36 (.bd [.int .i64 0,.int .i64 0,.slice none 0 0] [(0,1,.t 30),(1,1,.t 32),(2,1,.t 35)] []),oo 37 (.bv 3 1 [.int .i64 0,.int .i64 0,.slice none 0 0] [(0,.t 36)]),oo 38 (.ap 3 2 (.t 28) (.t 37)),qF 39 1 3,on1 (.st 1 (.t 39) (.t 38))])))
 (rg [oo 40 (.bi .add 0 (.t 23) (i6 1)),qM 23 40]))))))) (.sq (rg [qS 41 6 3,on1 (.st 6 (.t 2) (.t 41))]) (.rt))))) }
theorem ZaJ:Z3 Proofs.Tryz.prog Y4 XN=true:=by kernel_rfl
def DI:F2 :=
 { nt:=15,res:=[.t 6 [0]],body:=(.sq (rg [oo 4 (.bt (.t 1)),oo 5 (.bt (.t 2)),om 6 (.k (.bool false))]) (.sq (rg [qM 7 0,qS 8 6 4,oo 9 (.ca .pure false (.f JC) [.t 7,.t 8]),qM 10 9,og 11 10 true (.mv (.t 0) none),og 12 10 true (.ld (some 6) (.t 5)),og 13 10 true (.ca .pure false (.f JC) [.t 11,.t 12]),oo 14 (.pk (.t 10) (.t 13) (.k (.bool false))),qM 6 14]) (.rt))) }
theorem Zes:Z3 Proofs.Tryz.prog QP DI=true:=by kernel_rfl
def UY:F2 :=
 { nt:=62,res:=[.t 2 [0]],body:=(.sq (rg [oo 1 (.bt (.t 0)),om 2 (.k (.bool false))]) (.sq (.sq (rg [qF 7 5 1,qL 8 7,qN 9 8,oo 10 (.bi .gtr 0 (.t 9) (i6 0)),qM 11 10,og 12 11 false (.fa 0 (.t 1)),og 13 11 false (.ld none (.t 12)),og 14 11 false (.bi .eql 0 (.t 13) (i6 0)),oo 15 (.pk (.t 11) (.k (.bool true)) (.t 14))]) (.cd (.t 15) (.sq (rg [om 2 (.k (.bool false))]) (.rt)) (.sk))) (.sq (.sq (rg [qF 16 0 1,qL 17 16,oo 18 (.ng (.t 17)),qM 3 18]) (.bl 0 (.lp [1,3] [] (.sq (.sq (rg [qM 19 3,qF 20 1 1,qL 21 20,qN 22 21,qB 23 .lss 19 22]) (.cd (.t 23) (.sk) (.ex 0))) (.sq (.bl 1 (.sq (rg [qS 27 6 1,qM 28 3,oo 29 (.ca .pure false (.f Jr) [.t 27,.t 28]),qM 26 29,qE 30 0 26,qE 31 1 26,qM 4 30,qM 5 31]) (.sq (rg [qM 32 3,oo 33 (.bi .lss 0 (.t 32) (i6 0)),qM 34 33,og 35 34 true (.mv (.t 4) none),og 36 34 true (.ln (.t 35)),og 37 34 true (.bi .eql 0 (.t 36) (i6 0)),og 38 34 true (.mv (.t 37) none),og 39 38 false (.mv (.t 5) none),og 40 38 false (.ln (.t 39)),og 41 38 false (.bi .gtr 0 (.t 40) (i6 0)),og 42 34 true (.pk (.t 38) (.k (.bool true)) (.t 41)),oo 43 (.pk (.t 34) (.t 42) (.k (.bool false))),qM 44 43,og 45 44 false (.mv (.t 5) none),og 46 44 false (.ln (.t 45)),og 47 44 false (.bi .gtr 0 (.t 46) (i6 1)),oo 48 (.pk (.t 44) (.k (.bool true)) (.t 47))]) (.cd (.t 48) (.sq (rg [om 2 (.k (.bool false))]) (.rt)) (.sk)))))
 (rg [qM 24 3,oo 25 (.bi .add 0 (.t 24) (i6 1)),qM 3 25])))))) (.sq (.sq (rg [qF 49 3 1,qL 50 49,qF 51 4 1,qL 52 51,qN 53 52,qB 54 .add 50 53,om 55 (i6 0)]) (.bl 2 (.lp [1,54,55] [] (.sq (rg [qB 56 .lss 55 54]) (.sq (.cd (.t 56) (.sk) (.ex 2)) (.sq (.bl 3 (.sq (rg [qM 57 55,qM 6 57]) (.sq (rg [qS 58 6 1,qM 59 6,oo 60 (.ca .pure false (.f JX) [.t 58,.t 59])]) (.cd (.t 60) (.sq (rg [om 2 (.k (.bool false))]) (.rt)) (.sk)))))
 (rg [oo 61 (.bi .add 0 (.t 55) (i6 1)),qM 55 61]))))))) (.sq (rg [om 2 (.k (.bool true))]) (.rt)))))) }
theorem Zc5:Z3 Proofs.Tryz.prog Qf UY=true:=by kernel_rfl
def Ua:F2 :=
 { nt:=12,res:=[.t 3 [0]],body:=(.sq (rg [om 3 (.k (.bool false))]) (.sq (rg [qM 4 0,qF 5 0 1,qF 6 2 5,qL 7 6,qN 8 7,oo 9 (.bi .sub 0 (.t 8) (i6 1)),oo 10 (.ca .pure false (.f ZQ) [.t 4,i6 0,.t 9]),oo 11 (.nt (.t 10)),qM 3 11]) (.rt))) }
theorem Zcp:Z3 Proofs.Tryz.prog VT Ua=true:=by kernel_rfl
def DJ:F2 :=
 { nt:=15,res:=[.t 6 [0]],body:=(.sq (rg [om 6 (.k (.bool false))]) (.sq (rg [qM 7 0,qM 8 1,qB 9 .geq 7 8,qM 10 9,og 11 10 true (.mv (.t 0) none),og 12 10 true (.mv (.t 2) none),og 13 10 true (.bi .leq 0 (.t 11) (.t 12)),oo 14 (.pk (.t 10) (.t 13) (.k (.bool false))),qM 6 14]) (.rt))) }
theorem Zet:Z3 Proofs.Tryz.prog ZQ DJ=true:=by kernel_rfl
def Ub:F2 :=
 { nt:=20,res:=[.t 4 [0]],body:=(.sq (rg [om 4 (.k (.string ⟨#[]⟩))]) (.sq (.sq (rg [qM 7 1,qN 8 7,om 9 (i6 0)]) (.bl 0 (.lp [0,7,8,9] [] (.sq (rg [qB 10 .lss 9 8]) (.sq (.cd (.t 10) (.sk) (.ex 0)) (.sq (.bl 1 (.sq (rg [qI 11 1 7 9,qL 12 11,qM 6 12])
 (rg [qM 13 0,qM 14 6,oo 15 (.ca .pure false (.f JD) [.t 14]),oo 16 (.bi .add 0 (.k (.string ⟨#[32]⟩)) (.t 15)),qB 17 .add 13 16,qM 0 17])))
 (rg [oo 18 (.bi .add 0 (.t 9) (i6 1)),qM 9 18]))))))) (.sq (rg [qM 19 0,qM 4 19]) (.rt)))) }
theorem Zcq:Z3 Proofs.Tryz.prog JN Ub=true:=by kernel_rfl
def DK:F2 :=
 { nt:=23,res:=[.t 2 [0]],body:=(.sq (rg [om 2 (.k (.bool false))]) (.sq (.sq (rg [om 3 (i6 0)]) (.bl 0 (.lp [0,3] [] (.sq (.sq (rg [qM 4 3,qM 5 0,oo 6 (.lg (.t 5)),qB 7 .lss 4 6]) (.cd (.t 7) (.sk) (.ex 0))) (.sq (.bl 1 (.sq (rg [qM 10 0,qM 11 3,oo 12 (.ix (.t 10) (.t 11)),oo 13 (.bi .lss 0 (.t 12) (.k (.int .u8 97))),qM 14 13,og 15 14 false (.mv (.t 0) none),og 16 14 false (.mv (.t 3) none),og 17 14 false (.ix (.t 15) (.t 16)),og 18 14 false (.bi .gtr 0 (.t 17) (.k (.int .u8 122))),oo 19 (.pk (.t 14) (.k (.bool true)) (.t 18))]) (.cd (.t 19) (.sq (rg [om 2 (.k (.bool false))]) (.rt)) (.sk))))
 (rg [qM 8 3,oo 9 (.bi .add 0 (.t 8) (i6 1)),qM 3 9])))))) (.sq (rg [qM 20 0,oo 21 (.lg (.t 20)),oo 22 (.ca .pure false (.f ZN) [.t 21,i6 1,i6 4]),qM 2 22]) (.rt)))) }
theorem Zeu:Z3 Proofs.Tryz.prog Vz DK=true:=by kernel_rfl
def Vb:F2 :=
 { nt:=25,res:=[.t 2 [0]],body:=(.sq (rg [om 2 (.k (.string ⟨#[]⟩))]) (.sq (.sq (rg [qM 3 0,oo 4 (.bi .lss 0 (.t 3) (i6 0))]) (.cd (.t 4) (.sq (rg [qM 5 0,oo 6 (.ng (.t 5)),oo 7 (.ca .pure false (.f ZB) [.t 6]),oo 8 (.bi .add 0 (.k (.string ⟨#[45]⟩)) (.t 7)),qM 2 8]) (.rt)) (.sk))) (.sq (.sq (rg [qM 9 0,oo 10 (.bi .lss 0 (.t 9) (i6 10))]) (.cd (.t 10) (.sq (rg [qM 11 0,qM 12 0,oo 13 (.bi .add 0 (.t 12) (i6 1)),oo 14 (.ss (.k (.string ⟨#[48,49,50,51,52,53,54,55,56,57]⟩)) (some (.t 11)) (some (.t 13))),qM 2 14]) (.rt)) (.sk))) (.sq (.rg (some 0) [qM 15 0,oo 16 (.bi .quo 0 (.t 15) (i6 10)),oo 17 (.ca .pure false (.f ZB) [.t 16]),qM 18 0,oo 19 (.bi .rem 0 (.t 18) (i6 10)),qM 20 0,oo 21 (.bi .rem 0 (.t 20) (i6 10)),oo 22 (.bi .add 0 (.t 21) (i6 1)),oo 23 (.ss (.k (.string ⟨#[48,49,50,51,52,53,54,55,56,57]⟩)) (some (.t 19)) (some (.t 22))),qB 24 .add 17 23,qM 2 24]) (.rt))))) }
theorem V5:Z3 Proofs.Tryz.prog ZB Vb=true:=by kernel_rfl
def Za9:F2 :=
 { nt:=26,res:=[.t 4 [0],.t 5 [0]],body:=(.sq (rg [om 4 (.k (.string ⟨#[]⟩)),om 5 (.k (.string ⟨#[]⟩))]) (.sq (.sq (rg [om 6 (i6 0)]) (.bl 0 (.lp [0,1,6] [] (.sq (.sq (rg [qM 7 6,qM 8 0,oo 9 (.lg (.t 8)),qB 10 .lss 7 9]) (.cd (.t 10) (.sk) (.ex 0))) (.sq (.bl 1 (.sq (rg [qM 13 0,qM 14 6,oo 15 (.ix (.t 13) (.t 14)),qM 16 1,qB 17 .eql 15 16]) (.cd (.t 17) (.sq (.rg (some 0) [qM 18 0,qM 19 6,oo 20 (.ss (.t 18) none (some (.t 19))),qM 21 0,qM 22 6,oo 23 (.bi .add 0 (.t 22) (i6 1)),oo 24 (.ss (.t 21) (some (.t 23)) none),qM 4 20,qM 5 24]) (.rt)) (.sk))))
 (rg [qM 11 6,oo 12 (.bi .add 0 (.t 11) (i6 1)),qM 6 12])))))) (.sq (rg [qM 25 0,qM 4 25,om 5 (.k (.string ⟨#[]⟩))]) (.rt)))) }
theorem ZfN:Z3 Proofs.Tryz.prog V0 Za9=true:=by kernel_rfl
def WA:F2 :=
 { nt:=20,res:=[.t 4 [0]],body:=(.sq (rg [om 4 (i6 0)]) (.sq (.sq (rg [om 5 (i6 0)]) (.bl 0 (.lp [0,1,5] [] (.sq (.sq (rg [qM 6 5,qM 7 0,qN 8 7,qB 9 .lss 6 8]) (.cd (.t 9) (.sk) (.ex 0))) (.sq (.bl 1 (.sq (rg [qM 12 0,qM 13 5,qI 14 3 12 13,qF 15 0 14,qL 16 15,qM 17 1,qB 18 .eql 16 17]) (.cd (.t 18) (.sq (rg [qM 19 5,qM 4 19]) (.rt)) (.sk))))
 (rg [qM 10 5,oo 11 (.bi .add 0 (.t 10) (i6 1)),qM 5 11])))))) (.sq (rg [om 4 (i6 (-1))]) (.rt)))) }
theorem Zbo:Z3 Proofs.Tryz.prog VA WA=true:=by kernel_rfl
def UZ:F2 :=
 { nt:=35,res:=[.t 2 [0]],body:=(.sq (rg [om 2 (.k (.bool false))]) (.sq (.sq (rg [om 3 (i6 0)]) (.bl 0 (.lp [0,3] [] (.sq (.sq (rg [qM 4 3,qM 5 0,qN 6 5,qB 7 .lss 4 6]) (.cd (.t 7) (.sk) (.ex 0))) (.sq (.bl 1 (.sq (.rg (some 0) [qM 10 0,qM 11 3,qI 12 1 10 11,qL 13 12,oo 14 (.ca .pure false (.f Vz) [.t 13]),oo 15 (.nt (.t 14)),qM 16 15,og 17 16 false (.mv (.t 3) none),og 18 16 false (.bi .gtr 0 (.t 17) (i6 0)),og 19 16 false (.mv (.t 18) none),og 20 19 true (.mv (.t 0) none),og 21 19 true (.mv (.t 3) none),og 22 19 true (.bi .sub 0 (.t 21) (i6 1)),og 23 19 true (.ia 1 (.t 20) (.t 22)),og 24 19 true (.ld none (.t 23)),og 25 19 true (.mv (.t 0) none),og 26 19 true (.mv (.t 3) none),og 27 19 true (.ia 1 (.t 25) (.t 26)),og 28 19 true (.ld none (.t 27)),og 29 19 true (.bi .geq 0 (.t 24) (.t 28)),og 30 16 false (.pk (.t 19) (.t 29) (.k (.bool false))),oo 31 (.pk (.t 16) (.k (.bool true)) (.t 30))]) (.cd (.t 31) (.sq (rg [om 2 (.k (.bool false))]) (.rt)) (.sk))))
 (rg [qM 8 3,oo 9 (.bi .add 0 (.t 8) (i6 1)),qM 3 9])))))) (.sq (rg [qM 32 0,qN 33 32,oo 34 (.bi .leq 0 (.t 33) (i6 16)),qM 2 34]) (.rt)))) }
theorem Zc6:Z3 Proofs.Tryz.prog YV UZ=true:=by kernel_rfl
def U0:F2 :=
 { nt:=23,res:=[.t 2 [2]],body:=(.sq (rg [oo 1 (.bt (.t 0)),om 2 (.k (.slice none 0 0))]) (.sq (rg [oo 5 (.bs 1 0 [] []),qM 3 5]) (.sq (.sq (rg [om 4 (i6 0)]) (.bl 0 (.lp [1,3,4] [160,672] (.sq (.sq (rg [qM 6 4,qF 7 5 1,qL 8 7,qN 9 8,qB 10 .lss 6 9]) (.cd (.t 10) (.sk) (.ex 0))) (.sq (.bl 1 (rg [qM 13 3,qF 14 5 1,qL 15 14,qM 16 4,qI 17 2 15 16,qF 18 0 17,qL 19 18,oo 20 (.bs 1 1 [.string ⟨#[]⟩] [(0,.t 19)]),oo 21 (.ap 1 0 (.t 13) (.t 20)),qM 3 21]))
 (rg [qM 11 4,oo 12 (.bi .add 0 (.t 11) (i6 1)),qM 4 12])))))) (.sq (rg [qM 22 3,qM 2 22]) (.rt))))) }
theorem Zc7:Z3 Proofs.Tryz.prog Qi U0=true:=by kernel_rfl
def DL:F2 :=
 { nt:=57,res:=[.t 6 [0]],body:=(.sq (rg [oo 4 (.bt (.t 1)),om 6 (.k (.bool false))]) (.sq (rg [qF 9 1 4,qL 10 9,qM 11 2,qI 12 3 10 11,qS 13 3 12,oo 7 (.al [.int .i64 0,.int .i64 0,.slice none 0 0] []),on1 (.st 3 (.t 7) (.t 13))]) (.sq (.sq (.rg (some 0) [qF 14 0 7,qL 15 14,qM 16 0,qN 17 16,oo 18 (.bi .sub 0 (.t 17) (i6 1)),oo 19 (.ca .pure false (.f ZN) [.t 15,i6 0,.t 18]),oo 20 (.nt (.t 19)),qM 21 20,og 22 21 false (.mv (.t 0) none),og 23 21 false (.ld (some 6) (.t 4)),og 24 21 false (.fa 1 (.t 7)),og 25 21 false (.ld none (.t 24)),og 26 21 false (.mv (.t 2) none),og 27 21 false (.ca .pure false (.f YW) [.t 22,.t 23,.t 25,.t 26]),og 28 21 false (.nt (.t 27)),oo 29 (.pk (.t 21) (.k (.bool true)) (.t 28)),qM 30 29,og 31 30 false (.fa 2 (.t 7)),og 32 30 false (.ld none (.t 31)),og 33 30 false (.ln (.t 32)),og 34 30 false (.mv (.t 0) none),og 35 30 false (.fa 0 (.t 7)),og 36 30 false (.ld none (.t 35)),og 37 30 false (.ia 3 (.t 34) (.t 36)),og 38 30 false (.fa 1 (.t 37)),og 39 30 false (.ld none (.t 38)),og 40 30 false (.bi .neq 0 (.t 33) (.t 39)),oo 41 (.pk (.t 30) (.k (.bool true)) (.t 40))]) (.cd (.t 41) (.sq (rg [om 6 (.k (.bool false))]) (.rt)) (.sk))) (.sq (.sq (rg [om 8 (i6 0)]) (.bl 0 (.lp [4,7,8] [224] (.sq (.sq (rg [qM 42 8,qF 43 2 7,qL 44 43,qN 45 44,qB 46 .lss 42 45]) (.cd (.t 46) (.sk) (.ex 0))) (.sq (.bl 1 (.sq (.rg (some 0) [qS 49 6 4,qF 50 2 7,qL 51 50,qM 52 8,qI 53 1 51 52,qL 54 53,oo 55 (.ca .pure false (.f VB) [.t 49,.t 54]),oo 56 (.nt (.t 55))]) (.cd (.t 56) (.sq (rg [om 6 (.k (.bool false))]) (.rt)) (.sk))))
 (rg [qM 47 8,oo 48 (.bi .add 0 (.t 47) (i6 1)),qM 8 48])))))) (.sq (rg [om 6 (.k (.bool true))]) (.rt)))))) }
theorem Zev:Z3 Proofs.Tryz.prog QQ DL=true:=by kernel_rfl
def U1:F2 :=
 { nt:=33,res:=[.t 8 [0]],body:=(.sq (rg [oo 5 (.bt (.t 1)),om 8 (.k (.bool false))]) (.sq (.sq (rg [qM 9 2,oo 10 (.bi .lss 0 (.t 9) (i6 0))]) (.cd (.t 10) (.sq (rg [qM 11 2,oo 12 (.bi .sub 0 (i6 (-1)) (.t 11)),qF 13 0 5,qL 14 13,oo 15 (.bi .sub 0 (.t 14) (i6 1)),oo 16 (.ca .pure false (.f ZN) [.t 12,i6 0,.t 15]),qM 8 16]) (.rt)) (.sk))) (.sq (rg [qM 17 2,qM 18 3,qB 19 .lss 17 18,qM 20 19,og 21 20 true (.mv (.t 0) none),og 22 20 true (.fa 1 (.t 5)),og 23 20 true (.ld none (.t 22)),og 24 20 true (.mv (.t 2) none),og 25 20 true (.ia 3 (.t 23) (.t 24)),og 26 20 true (.fa 0 (.t 25)),og 27 20 true (.ld none (.t 26)),og 28 20 true (.ia 3 (.t 21) (.t 27)),og 29 20 true (.fa 2 (.t 28)),og 30 20 true (.ld none (.t 29)),og 31 20 true (.bi .neq 0 (.t 30) (i6 2)),oo 32 (.pk (.t 20) (.t 31) (.k (.bool false))),qM 8 32]) (.rt)))) }
theorem Zc8:Z3 Proofs.Tryz.prog YW U1=true:=by kernel_rfl
def DM:F2 :=
 { nt:=14,res:=[.t 4 [0]],body:=(.sq (rg [oo 2 (.bt (.t 0)),om 4 (.k (.bool false))]) (.sq (rg [qM 5 1,qF 6 3 2,qL 7 6,qF 8 4 2,qL 9 8,qN 10 9,qB 11 .add 7 10,oo 12 (.bi .sub 0 (.t 11) (i6 1)),oo 13 (.ca .pure false (.f ZN) [.t 5,i6 0,.t 12]),qM 4 13]) (.rt))) }
theorem Zew:Z3 Proofs.Tryz.prog VB DM=true:=by kernel_rfl
def U2:F2 :=
 { nt:=60,res:=[.t 2 [0]],body:=(.sq (rg [oo 1 (.bt (.t 0)),om 2 (.k (.bool false))]) (.sq (.sq (rg [qF 6 5 1,qL 7 6,qN 8 7,oo 9 (.bi .gtr 0 (.t 8) (i6 0)),qM 10 9,og 11 10 false (.fa 0 (.t 1)),og 12 10 false (.ld none (.t 11)),og 13 10 false (.bi .eql 0 (.t 12) (i6 0)),oo 14 (.pk (.t 10) (.k (.bool true)) (.t 13))]) (.cd (.t 14) (.sq (rg [om 2 (.k (.bool false))]) (.rt)) (.sk))) (.sq (.sq (rg [om 3 (i6 0)]) (.bl 0 (.lp [1,3] [] (.sq (.sq (rg [qM 15 3,qF 16 0 1,qL 17 16,qB 18 .lss 15 17]) (.cd (.t 18) (.sk) (.ex 0))) (.sq (.bl 1 (.sq (rg [qS 21 6 1,qM 22 3,oo 23 (.bi .sub 0 (i6 (-1)) (.t 22)),oo 24 (.ca .pure false (.f QU) [.t 21,.t 23]),qN 25 24,oo 26 (.bi .eql 0 (.t 25) (i6 0)),qM 27 26,og 28 27 false (.ld (some 6) (.t 1)),og 29 27 false (.mv (.t 3) none),og 30 27 false (.bi .sub 0 (i6 (-1)) (.t 29)),og 31 27 false (.ca .pure false (.f YY) [.t 28,.t 30]),og 32 27 false (.ln (.t 31)),og 33 27 false (.bi .gtr 0 (.t 32) (i6 0)),oo 34 (.pk (.t 27) (.k (.bool true)) (.t 33))]) (.cd (.t 34) (.sq (rg [om 2 (.k (.bool false))]) (.rt)) (.sk))))
 (rg [qM 19 3,oo 20 (.bi .add 0 (.t 19) (i6 1)),qM 3 20])))))) (.sq (.sq (rg [om 4 (i6 0)]) (.bl 2 (.lp [1,4] [] (.sq (.sq (rg [qM 35 4,qF 36 1 1,qL 37 36,qN 38 37,qB 39 .lss 35 38]) (.cd (.t 39) (.sk) (.ex 2))) (.sq (.bl 3 (.sq (rg [qS 42 6 1,qM 43 4,oo 44 (.ca .pure false (.f YY) [.t 42,.t 43]),qN 45 44,oo 46 (.bi .gtr 0 (.t 45) (i6 1))]) (.cd (.t 46) (.sq (rg [om 2 (.k (.bool false))]) (.rt)) (.sk))))
 (rg [qM 40 4,oo 41 (.bi .add 0 (.t 40) (i6 1)),qM 4 41])))))) (.sq (.sq (rg [om 5 (i6 0)]) (.bl 4 (.lp [1,5] [] (.sq (.sq (rg [qM 47 5,qF 48 3 1,qL 49 48,qF 50 4 1,qL 51 50,qN 52 51,qB 53 .add 49 52,qB 54 .lss 47 53]) (.cd (.t 54) (.sk) (.ex 4))) (.sq (.bl 5 (.sq (rg [qS 57 6 1,qM 58 5,oo 59 (.ca .pure false (.f QV) [.t 57,.t 58])]) (.cd (.t 59) (.sq (rg [om 2 (.k (.bool false))]) (.rt)) (.sk))))
 (rg [qM 55 5,oo 56 (.bi .add 0 (.t 55) (i6 1)),qM 5 56])))))) (.sq (rg [om 2 (.k (.bool true))]) (.rt))))))) }
theorem Zc9:Z3 Proofs.Tryz.prog Qj U2=true:=by kernel_rfl
def DN:F2 :=
 { nt:=11,res:=[.t 2 [0]],body:=(.sq (rg [om 2 (.k (.bool false))]) (.sq (rg [qM 3 0,oo 4 (.lg (.t 3)),oo 5 (.ca .pure false (.f ZQ) [.t 4,i6 1,i6 4]),qM 6 5,og 7 6 true (.mv (.t 0) none),og 8 6 true (.ca .pure false (.f Wt) [.t 7,.k (.string ⟨#[97,98,99,100,101,102,103,104,105,106,107,108,109,110,111,112,113,114,115,116,117,118,119,120,121,122]⟩)]),og 9 6 true (.bi .eql 0 (.t 8) (.k (.string ⟨#[]⟩))),oo 10 (.pk (.t 6) (.t 9) (.k (.bool false))),qM 2 10]) (.rt))) }
theorem Zex:Z3 Proofs.Tryz.prog VC DN=true:=by kernel_rfl
def Qo:F2 :=
 { nt:=9,res:=[.t 3 [0]],body:=(.sq (rg [oo 2 (.bt (.t 0)),om 3 (.k (.bool false))]) (.sq (rg [qF 4 0 2,qL 5 4,qF 6 0 1,qL 7 6,qB 8 .eql 5 7,qM 3 8]) (.rt))) }
theorem UK:Z3 Proofs.Tryz.prog Js Qo=true:=by kernel_rfl
def ZaK:F2 :=
 { nt:=5,res:=[.t 2 [0]],body:=(.sq (rg [om 2 (.k (.string ⟨#[]⟩))]) (.sq (rg [qM 3 0,oo 4 (.ca .pure false (.f Ql) [.t 3]),qM 2 4]) (.rt))) }
theorem Zdu:Z3 Proofs.Tryz.prog JD ZaK=true:=by kernel_rfl
def WB:F2 :=
 { nt:=8,res:=[.t 4 [0]],body:=(.sq (rg [oo 3 (.bt (.t 1)),om 4 (i6 0)]) (.sq (rg [qM 5 0,oo 6 (.mf JJ [.t 3]),oo 7 (.ca .pure false (.f ZD) [.t 5,.t 6]),qM 4 7]) (.rt))) }
theorem Zbp:Z3 Proofs.Tryz.prog VD WB=true:=by kernel_rfl
def Uc:F2 :=
 { nt:=32,res:=[.t 2 [0]],body:=(.sq (rg [om 2 (.k (.bool false))]) (.sq (.sq (rg [qM 5 0,qN 6 5,om 7 (i6 0)]) (.bl 0 (.lp [0,5,6,7] [] (.sq (rg [qB 8 .lss 7 6]) (.sq (.cd (.t 8) (.sk) (.ex 0)) (.sq (.bl 1 (.sq (rg [qM 9 7,qI 10 1 5 7,qL 11 10,qM 3 9,qM 4 11]) (.sq (rg [qM 12 4,oo 13 (.ca .pure false (.f VC) [.t 12]),oo 14 (.nt (.t 13)),qM 15 14,og 16 15 false (.mv (.t 3) none),og 17 15 false (.bi .gtr 0 (.t 16) (i6 0)),og 18 15 false (.mv (.t 17) none),og 19 18 true (.mv (.t 4) none),og 20 18 true (.mv (.t 0) none),og 21 18 true (.mv (.t 3) none),og 22 18 true (.bi .sub 0 (.t 21) (i6 1)),og 23 18 true (.ia 1 (.t 20) (.t 22)),og 24 18 true (.ld none (.t 23)),og 25 18 true (.bi .leq 0 (.t 19) (.t 24)),og 26 15 false (.pk (.t 18) (.t 25) (.k (.bool false))),oo 27 (.pk (.t 15) (.k (.bool true)) (.t 26))]) (.cd (.t 27) (.sq (rg [om 2 (.k (.bool false))]) (.rt)) (.sk)))))
 (rg [oo 28 (.bi .add 0 (.t 7) (i6 1)),qM 7 28]))))))) (.sq (rg [qM 29 0,qN 30 29,oo 31 (.bi .leq 0 (.t 30) (i6 16)),qM 2 31]) (.rt)))) }
theorem Zcr:Z3 Proofs.Tryz.prog Yx Uc=true:=by kernel_rfl
def YT:F2 :=
 { nt:=21,res:=[.t 2 [2]],body:=(.sq (rg [oo 1 (.bt (.t 0)),om 2 (.k (.slice none 0 0))]) (.sq (rg [oo 6 (.bs 1 0 [] []),qM 3 6]) (.sq (.sq (rg [qF 7 5 1,qL 8 7,qN 9 8,om 10 (i6 0)]) (.bl 0 (.lp [3,8,9,10] [192,576] (.sq (rg [qB 11 .lss 10 9]) (.sq (.cd (.t 11) (.sk) (.ex 0)) (.sq (.bl 1 (.sq (rg [qI 12 2 8 10,qS 13 2 12,oo 5 (.al [.string ⟨#[]⟩,.int .i64 0] []),on1 (.st 2 (.t 5) (.t 13))])
 (rg [qM 14 3,qF 15 0 5,qL 16 15,oo 17 (.bs 1 1 [.string ⟨#[]⟩] [(0,.t 16)]),oo 18 (.ap 1 0 (.t 14) (.t 17)),qM 3 18])))
 (rg [oo 19 (.bi .add 0 (.t 10) (i6 1)),qM 10 19]))))))) (.sq (rg [qM 20 3,qM 2 20]) (.rt))))) }
theorem XA:Z3 Proofs.Tryz.prog Jq YT=true:=by kernel_rfl
def VE:F2 :=
 { nt:=32,res:=[.t 8 [0]],body:=(.sq (rg [oo 4 (.bt (.t 0)),om 8 (.k (.bool false))]) (.sq (.sq (rg [qM 9 2,oo 10 (.bi .lss 0 (.t 9) (i6 0))]) (.cd (.t 10) (.sq (rg [qM 11 2,qF 12 0 4,qL 13 12,oo 14 (.ng (.t 13)),qB 15 .geq 11 14,qM 8 15]) (.rt)) (.sk))) (.sq (rg [qM 16 2,qM 17 3,qB 18 .lss 16 17,qM 19 18,og 20 19 true (.mv (.t 1) none),og 21 19 true (.fa 1 (.t 4)),og 22 19 true (.ld none (.t 21)),og 23 19 true (.mv (.t 2) none),og 24 19 true (.ia 3 (.t 22) (.t 23)),og 25 19 true (.fa 0 (.t 24)),og 26 19 true (.ld none (.t 25)),og 27 19 true (.ia 3 (.t 20) (.t 26)),og 28 19 true (.fa 2 (.t 27)),og 29 19 true (.ld none (.t 28)),og 30 19 true (.bi .neq 0 (.t 29) (i6 2)),oo 31 (.pk (.t 19) (.t 30) (.k (.bool false))),qM 8 31]) (.rt)))) }
theorem X9:Z3 Proofs.Tryz.prog Jc VE=true:=by kernel_rfl
def Xj:F2 :=
 { nt:=8,res:=[.t 3 [0]],body:=(.sq (rg [om 3 (.k (.bool false))]) (.sq (rg [qS 4 6 1,qM 5 0,oo 6 (.ca .pure false (.f Jn) [.t 4,.t 5]),oo 7 (.nt (.t 6)),qM 3 7]) (.rt))) }
theorem DO:Z3 Proofs.Tryz.prog YF Xj=true:=by kernel_rfl
def V6:F2 :=
 { nt:=14,res:=[.t 4 [0]],body:=(.sq (rg [oo 2 (.bt (.t 0)),om 4 (.k (.bool false))]) (.sq (rg [qM 5 1,qF 6 3 2,qL 7 6,qF 8 4 2,qL 9 8,qN 10 9,qB 11 .add 7 10,oo 12 (.bi .sub 0 (.t 11) (i6 1)),oo 13 (.ca .pure false (.f ZQ) [.t 5,i6 0,.t 12]),qM 4 13]) (.rt))) }
theorem Ud:Z3 Proofs.Tryz.prog Jn V6=true:=by kernel_rfl
def Xk:F2 :=
 { nt:=13,res:=[.t 4 [0]],body:=(.sq (rg [om 4 (.k (.bool false))]) (.sq (rg [qS 5 6 1,qL 6 2,qM 7 0,qF 8 1 1,qL 9 8,qN 10 9,oo 11 (.ca .pure false (.f Jc) [.t 5,.t 6,.t 7,.t 10]),oo 12 (.nt (.t 11)),qM 4 12]) (.rt))) }
theorem DP:Z3 Proofs.Tryz.prog YG Xk=true:=by kernel_rfl
def Xl:F2 :=
 { nt:=9,res:=[.t 3 [0]],body:=(.sq (rg [oo 2 (.bt (.t 0)),om 3 (.k (.bool false))]) (.sq (rg [qS 4 6 1,qF 5 1 2,qL 6 5,oo 7 (.ca .pure false (.f Jn) [.t 4,.t 6]),oo 8 (.nt (.t 7)),qM 3 8]) (.rt))) }
theorem DQ:Z3 Proofs.Tryz.prog YH Xl=true:=by kernel_rfl
def VL:F2 :=
 { nt:=8,res:=[.t 2 [2]],body:=(.sq (rg [om 2 (.k (.slice none 0 0))]) (.sq (.sq (rg [qM 3 0,oo 4 (.nl false (.t 3))]) (.cd (.t 4) (.sq (rg [om 2 (.k (.slice none 0 0))]) (.rt)) (.sk))) (.sq (rg [oo 5 (.bs 1 0 [] []),qM 6 0,oo 7 (.ap 1 0 (.t 5) (.t 6)),qM 2 7]) (.rt)))) }
theorem WN:Z3 Proofs.Tryz.prog Jf VL=true:=by kernel_rfl
def Yc:F2 :=
 { nt:=8,res:=[.t 2 [2]],body:=(.sq (rg [om 2 (.k (.slice none 0 0))]) (.sq (.sq (rg [qM 3 0,oo 4 (.nl false (.t 3))]) (.cd (.t 4) (.sq (rg [om 2 (.k (.slice none 0 0))]) (.rt)) (.sk))) (.sq (rg [oo 5 (.bs 1 0 [] []),qM 6 0,oo 7 (.ap 1 0 (.t 5) (.t 6)),qM 2 7]) (.rt)))) }
theorem Qx:Z3 Proofs.Tryz.prog Jd Yc=true:=by kernel_rfl
def Jv:F2 :=
 { nt:=8,res:=[.t 2 [3]],body:=(.sq (rg [om 2 (.k (.slice none 0 0))]) (.sq (.sq (rg [qM 3 0,oo 4 (.nl false (.t 3))]) (.cd (.t 4) (.sq (rg [om 2 (.k (.slice none 0 0))]) (.rt)) (.sk))) (.sq (rg [oo 5 (.bs 2 0 [] []),qM 6 0,oo 7 (.ap 2 0 (.t 5) (.t 6)),qM 2 7]) (.rt)))) }
theorem Vf:Z3 Proofs.Tryz.prog Z2 Jv=true:=by kernel_rfl
def YU:F2 :=
 { nt:=49,res:=[.t 4 [2],.t 5 [2]],body:=(.sq (rg [oo 2 (.bt (.t 0)),om 4 (.k (.slice none 0 0)),om 5 (.k (.slice none 0 0))]) (.sq (rg [oo 12 (.bs 1 0 [] []),oo 13 (.bs 1 0 [] []),qM 6 12,qM 7 13]) (.sq (.sq (rg [qF 14 1 2,qL 15 14,qN 16 15,om 17 (i6 0)]) (.bl 0 (.lp [1,2,6,7,15,16,17] [384,416,928,1440] (.sq (rg [qB 18 .lss 17 16]) (.sq (.cd (.t 18) (.sk) (.ex 0)) (.sq (.bl 1 (.sq (rg [qM 19 17,qI 20 3 15 17,qS 21 3 20,oo 9 (.al [.int .i64 0,.int .i64 0,.slice none 0 0] []),qM 8 19,on1 (.st 3 (.t 9) (.t 21))]) (.sq (rg [qF 22 1 9,qL 23 22,qM 24 1,qB 25 .eql 23 24]) (.cd (.t 25) (rg [qM 26 6,qM 27 8,oo 28 (.bs 1 1 [.int .i64 0] [(0,.t 27)]),oo 29 (.ap 1 0 (.t 26) (.t 28)),qM 6 29]) (.sk)))))
 (rg [oo 30 (.bi .add 0 (.t 17) (i6 1)),qM 17 30]))))))) (.sq (.sq (rg [qF 31 2 2,qL 32 31,qN 33 32,om 34 (i6 0)]) (.bl 2 (.lp [1,6,7,32,33,34] [384,416,928,1440] (.sq (rg [qB 35 .lss 34 33]) (.sq (.cd (.t 35) (.sk) (.ex 2)) (.sq (.bl 3 (.sq (rg [qM 36 34,qI 37 1 32 34,qL 38 37,qM 10 36,qM 11 38]) (.sq (rg [qM 39 11,qM 40 1,qB 41 .eql 39 40]) (.cd (.t 41) (rg [qM 42 7,qM 43 10,oo 44 (.bs 1 1 [.int .i64 0] [(0,.t 43)]),oo 45 (.ap 1 0 (.t 42) (.t 44)),qM 7 45]) (.sk)))))
 (rg [oo 46 (.bi .add 0 (.t 34) (i6 1)),qM 34 46]))))))) (.sq (rg [qM 47 6,qM 48 7,qM 4 47,qM 5 48]) (.rt)))))) }
theorem XB:Z3 Proofs.Tryz.prog Jr YU=true:=by kernel_rfl
def V7:F2 :=
 { nt:=19,res:=[.t 4 [0]],body:=(.sq (rg [oo 2 (.bt (.t 0)),om 4 (.k (.bool false))]) (.sq (rg [qS 8 6 2,qM 9 1,oo 10 (.ca .pure false (.f JE) [.t 8,.t 9]),qM 7 10,qE 11 0 7,qE 12 1 7,qM 5 11,qM 6 12]) (.sq (rg [qM 13 5,qN 14 13,qM 15 6,qN 16 15,qB 17 .add 14 16,oo 18 (.bi .eql 0 (.t 17) (i6 0)),qM 4 18]) (.rt)))) }
theorem Ue:Z3 Proofs.Tryz.prog JX V7=true:=by kernel_rfl
def DR:F2 :=
 { nt:=28,res:=[.t 4 [2]],body:=(.sq (rg [oo 2 (.bt (.t 0)),om 4 (.k (.slice none 0 0))]) (.sq (rg [oo 7 (.bs 1 0 [] []),qM 5 7]) (.sq (.sq (rg [om 6 (i6 0)]) (.bl 0 (.lp [1,2,5,6] [224,832] (.sq (.sq (rg [qM 8 6,qF 9 1 2,qL 10 9,qN 11 10,qB 12 .lss 8 11]) (.cd (.t 12) (.sk) (.ex 0))) (.sq (.bl 1 (.sq (rg [qF 15 1 2,qL 16 15,qM 17 6,qI 18 3 16 17,qF 19 1 18,qL 20 19,qM 21 1,qB 22 .eql 20 21]) (.cd (.t 22) (rg [qM 23 5,qM 24 6,oo 25 (.bs 1 1 [.int .i64 0] [(0,.t 24)]),oo 26 (.ap 1 0 (.t 23) (.t 25)),qM 5 26]) (.sk))))
 (rg [qM 13 6,oo 14 (.bi .add 0 (.t 13) (i6 1)),qM 6 14])))))) (.sq (rg [qM 27 5,qM 4 27]) (.rt))))) }
theorem Zey:Z3 Proofs.Tryz.prog QU DR=true:=by kernel_rfl
def U3:F2 :=
 { nt:=27,res:=[.t 4 [2]],body:=(.sq (rg [oo 2 (.bt (.t 0)),om 4 (.k (.slice none 0 0))]) (.sq (rg [oo 7 (.bs 1 0 [] []),qM 5 7]) (.sq (.sq (rg [om 6 (i6 0)]) (.bl 0 (.lp [1,2,5,6] [224,800] (.sq (.sq (rg [qM 8 6,qF 9 2 2,qL 10 9,qN 11 10,qB 12 .lss 8 11]) (.cd (.t 12) (.sk) (.ex 0))) (.sq (.bl 1 (.sq (rg [qF 15 2 2,qL 16 15,qM 17 6,qI 18 1 16 17,qL 19 18,qM 20 1,qB 21 .eql 19 20]) (.cd (.t 21) (rg [qM 22 5,qM 23 6,oo 24 (.bs 1 1 [.int .i64 0] [(0,.t 23)]),oo 25 (.ap 1 0 (.t 22) (.t 24)),qM 5 25]) (.sk))))
 (rg [qM 13 6,oo 14 (.bi .add 0 (.t 13) (i6 1)),qM 6 14])))))) (.sq (rg [qM 26 5,qM 4 26]) (.rt))))) }
theorem Zda:Z3 Proofs.Tryz.prog YY U3=true:=by kernel_rfl
def DS:F2 :=
 { nt:=17,res:=[.t 4 [0]],body:=(.sq (rg [oo 2 (.bt (.t 0)),om 4 (.k (.bool false))]) (.sq (rg [qS 5 6 2,qM 6 1,oo 7 (.ca .pure false (.f Qm) [.t 5,.t 6]),qN 8 7,oo 9 (.bi .eql 0 (.t 8) (i6 0)),qM 10 9,og 11 10 true (.ld (some 6) (.t 2)),og 12 10 true (.mv (.t 1) none),og 13 10 true (.ca .pure false (.f QW) [.t 11,.t 12]),og 14 10 true (.ln (.t 13)),og 15 10 true (.bi .eql 0 (.t 14) (i6 0)),oo 16 (.pk (.t 10) (.t 15) (.k (.bool false))),qM 4 16]) (.rt))) }
theorem Zez:Z3 Proofs.Tryz.prog QV DS=true:=by kernel_rfl
def Xm:F2 :=
 { nt:=8,res:=[.t 3 [0]],body:=(.sq (rg [oo 2 (.bt (.t 0)),om 3 (.k (.bool false))]) (.sq (rg [qF 4 0 2,qL 5 4,qL 6 1,qB 7 .eql 5 6,qM 3 7]) (.rt))) }
theorem DT:Z3 Proofs.Tryz.prog JJ Xm=true:=by kernel_rfl
def VF:F2 :=
 { nt:=62,res:=[.t 4 [3],.t 5 [2]],body:=(.sq (rg [oo 2 (.bt (.t 0)),om 4 (.k (.slice none 0 0)),om 5 (.k (.slice none 0 0))]) (.sq (rg [oo 14 (.bs 2 0 [] []),oo 15 (.bs 1 0 [] []),qM 6 14,qM 7 15]) (.sq (.sq (rg [qF 16 1 2,qL 17 16,qN 18 17,om 19 (i6 0)]) (.bl 0 (.lp [1,2,6,7,17,18,19] [448,480,1280,1856] (.sq (rg [qB 20 .lss 19 18]) (.sq (.cd (.t 20) (.sk) (.ex 0)) (.sq (.bl 1 (.sq (rg [qM 21 19,qI 22 3 17 19,qS 23 3 22,oo 9 (.al [.int .i64 0,.int .i64 0,.slice none 0 0] []),qM 8 21,on1 (.st 3 (.t 9) (.t 23))]) (.sq (rg [qF 24 2 9,qL 25 24,qN 26 25,om 27 (i6 0)]) (.bl 2 (.lp [1,2,6,7,8,17,18,19,25,26,27] [288,448,480,1280,1856] (.sq (rg [qB 28 .lss 27 26]) (.sq (.cd (.t 28) (.sk) (.ex 2)) (.sq (.bl 3 (.sq (rg [qM 29 27,qI 30 1 25 27,qL 31 30,qM 10 29,qM 11 31]) (.sq (rg [qM 32 11,qM 33 1,qB 34 .eql 32 33]) (.cd (.t 34) (rg [qM 35 6,qM 36 8,qM 37 10,oo 38 (.bd [.int .i64 0,.int .i64 0] [(0,1,.t 36),(1,1,.t 37)] []),oo 39 (.bs 2 1 [.int .i64 0,.int .i64 0] [(0,.t 38)]),oo 40 (.ap 2 0 (.t 35) (.t 39)),qM 6 40]) (.sk)))))
 (rg [oo 41 (.bi .add 0 (.t 27) (i6 1)),qM 27 41])))))))))
 (rg [oo 42 (.bi .add 0 (.t 19) (i6 1)),qM 19 42]))))))) (.sq (.sq (rg [qF 43 5 2,qL 44 43,qN 45 44,om 46 (i6 0)]) (.bl 4 (.lp [1,6,7,44,45,46] [448,480,1280,1856] (.sq (rg [qB 47 .lss 46 45]) (.sq (.cd (.t 47) (.sk) (.ex 4)) (.sq (.bl 5 (.sq (rg [qI 48 2 44 46,qS 49 2 48,oo 13 (.al [.string ⟨#[]⟩,.int .i64 0] []),on1 (.st 2 (.t 13) (.t 49))]) (.sq (rg [qF 50 1 13,qL 51 50,qM 52 1,qB 53 .eql 51 52]) (.cd (.t 53) (rg [qM 54 7,qF 55 0 13,qL 56 55,oo 57 (.bs 1 1 [.string ⟨#[]⟩] [(0,.t 56)]),oo 58 (.ap 1 0 (.t 54) (.t 57)),qM 7 58]) (.sk)))))
 (rg [oo 59 (.bi .add 0 (.t 46) (i6 1)),qM 46 59]))))))) (.sq (rg [qM 60 6,qM 61 7,qM 4 60,qM 5 61]) (.rt)))))) }
theorem Wa:Z3 Proofs.Tryz.prog JE VF=true:=by kernel_rfl
def U4:F2 :=
 { nt:=45,res:=[.t 4 [3]],body:=(.sq (rg [oo 2 (.bt (.t 0)),om 4 (.k (.slice none 0 0))]) (.sq (rg [oo 8 (.bs 2 0 [] []),qM 5 8]) (.sq (.sq (rg [om 6 (i6 0)]) (.bl 0 (.lp [1,2,5,6] [256,1376] (.sq (.sq (rg [qM 9 6,qF 10 1 2,qL 11 10,qN 12 11,qB 13 .lss 9 12]) (.cd (.t 13) (.sk) (.ex 0))) (.sq (.bl 1 (.sq (rg [om 7 (i6 0)]) (.bl 2 (.lp [1,2,5,6,7] [256,1376] (.sq (.sq (rg [qM 16 7,qF 17 1 2,qL 18 17,qM 19 6,qI 20 3 18 19,qF 21 2 20,qL 22 21,qN 23 22,qB 24 .lss 16 23]) (.cd (.t 24) (.sk) (.ex 2))) (.sq (.bl 3 (.sq (rg [qF 27 1 2,qL 28 27,qM 29 6,qI 30 3 28 29,qF 31 2 30,qL 32 31,qM 33 7,qI 34 1 32 33,qL 35 34,qM 36 1,qB 37 .eql 35 36]) (.cd (.t 37) (rg [qM 38 5,qM 39 6,qM 40 7,oo 41 (.bd [.int .i64 0,.int .i64 0] [(0,1,.t 39),(1,1,.t 40)] []),oo 42 (.bs 2 1 [.int .i64 0,.int .i64 0] [(0,.t 41)]),oo 43 (.ap 2 0 (.t 38) (.t 42)),qM 5 43]) (.sk))))
 (rg [qM 25 7,oo 26 (.bi .add 0 (.t 25) (i6 1)),qM 7 26])))))))
 (rg [qM 14 6,oo 15 (.bi .add 0 (.t 14) (i6 1)),qM 6 15])))))) (.sq (rg [qM 44 5,qM 4 44]) (.rt))))) }
theorem Zdb:Z3 Proofs.Tryz.prog Qm U4=true:=by kernel_rfl
def DU:F2 :=
 { nt:=33,res:=[.t 4 [2]],body:=(.sq (rg [oo 2 (.bt (.t 0)),om 4 (.k (.slice none 0 0))]) (.sq (rg [oo 7 (.bs 1 0 [] []),qM 5 7]) (.sq (.sq (rg [om 6 (i6 0)]) (.bl 0 (.lp [1,2,5,6] [224,992] (.sq (.sq (rg [qM 8 6,qF 9 5 2,qL 10 9,qN 11 10,qB 12 .lss 8 11]) (.cd (.t 12) (.sk) (.ex 0))) (.sq (.bl 1 (.sq (rg [qF 15 5 2,qL 16 15,qM 17 6,qI 18 2 16 17,qF 19 1 18,qL 20 19,qM 21 1,qB 22 .eql 20 21]) (.cd (.t 22) (rg [qM 23 5,qF 24 5 2,qL 25 24,qM 26 6,qI 27 2 25 26,qF 28 0 27,qL 29 28,oo 30 (.bs 1 1 [.string ⟨#[]⟩] [(0,.t 29)]),oo 31 (.ap 1 0 (.t 23) (.t 30)),qM 5 31]) (.sk))))
 (rg [qM 13 6,oo 14 (.bi .add 0 (.t 13) (i6 1)),qM 6 14])))))) (.sq (rg [qM 32 5,qM 4 32]) (.rt))))) }
theorem ZeA:Z3 Proofs.Tryz.prog QW DU=true:=by kernel_rfl
end Go.Fd

namespace Go.Fd
def Zk6(k:Nat)(m:Option Nat):F2 :=
 { nt:=19,res:=[.t 4 [0]],body:=(.sq (.rg none [⟨some 4,none,.mv (.k (.int .i64 0)) none⟩]) (.sq (.sq (.rg none [⟨some 6,none,.mv (.t 0) none⟩,
    ⟨some 7,none,.ln (.t 6)⟩,
    ⟨some 8,none,.mv (.k (.int .i64 0)) none⟩]) (.bl 0 (.lp [0,1,7,8] [] (.sq (.rg none [⟨some 9,none,.bi .lss 0 (.t 8) (.t 7)⟩]) (.sq (.cd (.t 9) (.sk) (.ex 0)) (.sq (.bl 1 (.sq (.rg none [⟨some 10,none,.mv (.t 8) none⟩,
      ⟨some 5,none,.mv (.t 10) none⟩]) (.sq (.rg none [⟨some 11,none,.mv (.t 1) none⟩,
      ⟨some 12,none,.mv (.t 0) none⟩,
      ⟨some 13,none,.mv (.t 5) none⟩,
      ⟨some 14,none,.ia k (.t 12) (.t 13)⟩,
      ⟨some 15,none,.ld m (.t 14)⟩,
      ⟨some 16,none,.ca .pure false (.t 11) [.t 15]⟩]) (.cd (.t 16) (.sq (.rg none [⟨some 17,none,.mv (.t 5) none⟩,
      ⟨some 4,none,.mv (.t 17) none⟩]) (.rt)) (.sk))))) (.rg none [⟨some 18,none,.bi .add 0 (.t 8) (.k (.int .i64 1))⟩,
    ⟨some 8,none,.mv (.t 18) none⟩]))))))) (.sq (.rg none [⟨some 4,none,.mv (.k (.int .i64 (-1))) none⟩]) (.rt)))) }
def Zne(fi:FuncId):F2 :=
 { nt:=9,res:=[.t 4 [0]],body:=(.sq (.rg none [⟨some 4,none,.mv (.k (.bool false)) none⟩]) (.sq (.rg none [⟨some 5,none,.mv (.t 0) none⟩,
   ⟨some 6,none,.mv (.t 1) none⟩,
   ⟨some 7,none,.ca .pure false (.f fi) [.t 5,.t 6]⟩,
   ⟨some 8,none,.bi .geq 0 (.t 7) (.k (.int .i64 0))⟩,
   ⟨some 4,none,.mv (.t 8) none⟩]) (.rt))) }
def ZuG  : F2 :=
 { nt:=26,res:=[.t 4 [0]],body:=(.sq (.rg none [⟨some 4,none,.mv (.k (.bool false)) none⟩]) (.sq (.sq (.rg none [⟨some 6,none,.mv (.t 0) none⟩,
    ⟨some 7,none,.ln (.t 6)⟩,
    ⟨some 8,none,.mv (.t 1) none⟩,
    ⟨some 9,none,.ln (.t 8)⟩,
    ⟨some 10,none,.bi .neq 0 (.t 7) (.t 9)⟩]) (.cd (.t 10) (.sq (.rg none [⟨some 4,none,.mv (.k (.bool false)) none⟩]) (.rt)) (.sk))) (.sq (.sq (.rg none [⟨some 11,none,.mv (.t 0) none⟩,
    ⟨some 12,none,.ln (.t 11)⟩,
    ⟨some 13,none,.mv (.k (.int .i64 0)) none⟩]) (.bl 0 (.lp [0,1,12,13] [] (.sq (.rg none [⟨some 14,none,.bi .lss 0 (.t 13) (.t 12)⟩]) (.sq (.cd (.t 14) (.sk) (.ex 0)) (.sq (.bl 1 (.sq (.rg none [⟨some 15,none,.mv (.t 13) none⟩,
      ⟨some 5,none,.mv (.t 15) none⟩]) (.sq (.rg (some 0) [⟨some 16,none,.mv (.t 0) none⟩,
      ⟨some 17,none,.mv (.t 5) none⟩,
      ⟨some 18,none,.ia 1 (.t 16) (.t 17)⟩,
      ⟨some 19,none,.ld none (.t 18)⟩,
      ⟨some 20,none,.mv (.t 1) none⟩,
      ⟨some 21,none,.mv (.t 5) none⟩,
      ⟨some 22,none,.ia 1 (.t 20) (.t 21)⟩,
      ⟨some 23,none,.ld none (.t 22)⟩,
      ⟨some 24,none,.bi .neq 0 (.t 19) (.t 23)⟩]) (.cd (.t 24) (.sq (.rg none [⟨some 4,none,.mv (.k (.bool false)) none⟩]) (.rt)) (.sk))))) (.rg none [⟨some 25,none,.bi .add 0 (.t 13) (.k (.int .i64 1))⟩,
    ⟨some 13,none,.mv (.t 25) none⟩]))))))) (.sq (.rg none [⟨some 4,none,.mv (.k (.bool true)) none⟩]) (.rt))))) }
end Go.Fd

namespace Go.Fd
set_option maxRecDepth 20000
section rules
variable {L:Sto} {F:List IV->Prop} {lvl:Nat}
theorem ZfO:∀{l:List (List Tr)} {F:List IV->Prop},Z7 L (l.map IV.ta) F=F (l.map IV.ta)
 | [],F=>Zmq
 | x::r,F=>by
  simp only[List.map_cons]
  rw[ZoI,ZfO]
  rfl
theorem Xn{Pd:Oid->Prop}:∀{l:List (List Tr)},Zc Pd (l.map IV.ta)=True
 | []=>rfl
 | x::r=>by
  simp only[List.map_cons,Zc,men,true_and]
  exact Xn
theorem VG{js:List Nat}{l:List (List Tr)}:Zh3 lvl js (l.map IV.ta)=True:=Xn
end rules
section
variable {P:Program} {α:Type}
theorem Xo{α β:Type}{c:α->β}{l:List α}{j:Nat}(h:j<l.length):(l.map c)[j]? = some (c l[j]):=by simp [h]
theorem ZjB{α:Type}{c:α->List Tr}{l:List α}{j:Nat}:cut (l.map c) 0 (j-0)=(l.take j).map c:=by
 simp only[cut,List.drop_zero,Nat.sub_zero,List.map_take]
theorem DV{α:Type}{l:List α}{j:Nat}(h:j<l.length):l.drop j=l[j]::l.drop (j+1):=List.drop_eq_getElem_cons h
def ixF(f:α->Bool):List α->Int->Int
 | [],_=>-1
 | x::r,j=>if f x=true then j else ixF f r (j+1)
theorem Wb{f:α->Bool}{x:α}{r:List α}{j:Int}:ixF f (x::r) j=if f x=true then j else ixF f r (j+1):=rfl
theorem ZjC{f:α->Bool}:∀{l:List α} {j:Int},0<=j->(0<=ixF f l j↔l.any f=true)
 | [],j,_=>by simp [ixF]
 | x::r,j,h=>by
  rw[Wb,List.any_cons]
  cases hx:f x with
  | true=>simp [h]
  | false =>
   simp only[Bool.false_eq_true,if_false,Bool.false_or]
   exact ZjC (by omega)
theorem Zk7{fid:FuncId}(hc:Z3 P fid (Zk6 1 none)=true){t:α->Tr}{f:α->Bool}{fe:FuncId}{cs:List (List Tr)}(l:List α)(hl:l.length<=9223372036854775807)
  (hf:∀ x∈l,∀ lvl S,Sem P fe lvl (.tr (t x)::cs.map IV.ta) S (iB (f x)) S) (lvl:Nat) (S:Sto):Sem P fid lvl [.tr (.sl (l.map fun x=>[t x])),.fn fe (cs.map IV.ta)] S (iI (ixF f l 0)) S:=by
 refine Ze hc trivial ?_
 simp only[Zk6,List.length_map,VG,EVA,seval,Zc,men]
 refine ZE (α:=Unit) l.length (fun j _=>[(8,iI j)]) (fun _ _=>[]) (fun j _=>ixF f (l.drop j) j=ixF f l 0) () (by simp only[VG,EVA,seval,Zc,men]) (by (simp only[EVA,seval,Zc,men]) <;> rfl) rfl ?_
 intro j _ hj hA
 simp only[List.length_map,VG,EVA,seval,Zc,men]
 refine Zk (fun hlt=>?_) (fun hge=>?_)
 ·have hja:j<l.length:=by omega
  have ga:=Xo (c:=fun x=>[t x]) hja
  rw[DV hja,Wb] at hA
  simp only[ga,VG,ZfO,Xn,EVA,seval,Zc,men]
  refine Za (hf _ (List.getElem_mem hja)) ?_
  simp only[Xn,VG,EVA,seval,Zc,men]
  refine Zk (fun h=>?_) (fun h=>?_)
  ·rw[if_pos h] at hA
   rw[<-hA]
  ·rw[if_neg h] at hA
   exact⟨by rw[Zd];omega,Zf () hja rfl hA⟩
 ·have:j=l.length:=by omega
  subst this
  rw[List.drop_length] at hA
  rw[<-hA]
  rfl
theorem ZhA{k:Nat}{fid:FuncId}(hc:Z3 P fid (Zk6 k (some k))=true){c:α->List Tr}(hk:∀ x,(c x).length=k){f:α->Bool}{fe:FuncId}{cs:List (List Tr)}(l:List α)(hl:l.length<=9223372036854775807)
  (hf:∀ x∈l,∀ lvl S,Sem P fe lvl (.ag ((c x).map .tr)::cs.map IV.ta) S (iB (f x)) S) (lvl:Nat) (S:Sto):Sem P fid lvl [.tr (.sl (l.map c)),.fn fe (cs.map IV.ta)] S (iI (ixF f l 0)) S:=by
 refine Ze hc trivial ?_
 simp only[Zk6,List.length_map,VG,EVA,seval,Zc,men]
 refine ZE (α:=Unit) l.length (fun j _=>[(8,iI j)]) (fun _ _=>[]) (fun j _=>ixF f (l.drop j) j=ixF f l 0) () (by simp only[VG,EVA,seval,Zc,men]) (by (simp only[EVA,seval,Zc,men]) <;> rfl) rfl ?_
 intro j _ hj hA
 simp only[List.length_map,VG,EVA,seval,Zc,men]
 refine Zk (fun hlt=>?_) (fun hge=>?_)
 ·have hja:j<l.length:=by omega
  have ga:=Xo (c:=c) hja
  have hkk:=hk l[j]
  have htk:(c l[j]).take k=c l[j]:=List.take_of_length_le (by omega)
  rw[DV hja,Wb] at hA
  simp only[ga,hkk,htk,VG,ZfO,ZmY,Xn,Zeg,EVA,seval,Zc,men]
  refine Za (hf _ (List.getElem_mem hja)) ?_
  simp only[Xn,Zeg,VG,EVA,seval,Zc,men]
  refine Zk (fun h=>?_) (fun h=>?_)
  ·rw[if_pos h] at hA
   rw[<-hA]
  ·rw[if_neg h] at hA
   exact⟨by rw[Zd];omega,Zf () hja rfl hA⟩
 ·have:j=l.length:=by omega
  subst this
  rw[List.drop_length] at hA
  rw[<-hA]
  rfl
theorem ZjD{fid fi:FuncId}(hc:Z3 P fid (Zne fi)=true){es:Row}{f:α->Bool}{fe:FuncId}{cs:List (List Tr)}{l:List α}
  (hi:∀ lvl S,Sem P fi lvl [.tr (.sl es),.fn fe (cs.map IV.ta)] S (iI (ixF f l 0)) S) (lvl:Nat) (S:Sto):Sem P fid lvl [.tr (.sl es),.fn fe (cs.map IV.ta)] S (iB (l.any f)) S:=by
 refine Ze hc trivial ?_
 simp only[Zne,ZfO,Xn,VG,EVA,seval,Zc,men]
 refine Za hi ?_
 simp only[ZfO,Xn,EVA,seval,Zc,men]
 have:=ZjC (f:=f) (l:=l) (Int.le_refl 0)
 by_cases h:l.any f=true
 ·simp [h,this.2 h]
 ·simp [h,mt this.1 h]
theorem ZeB{fid fi:FuncId}(hc:Z3 P fid (Zne fi)=true)(hi:Z3 P fi (Zk6 1 none)=true){t:α->Tr}{f:α->Bool}{fe:FuncId}{cs:List (List Tr)}(l:List α)(hl:l.length<=9223372036854775807)
  (hf:∀ x∈l,∀ lvl S,Sem P fe lvl (.tr (t x)::cs.map IV.ta) S (iB (f x)) S) (lvl:Nat) (S:Sto):Sem P fid lvl [.tr (.sl (l.map fun x=>[t x])),.fn fe (cs.map IV.ta)] S (iB (l.any f)) S :=
 ZjD hc (Zk7 hi l hl hf) lvl S
theorem ZhB{k:Nat}{fid fi:FuncId}(hc:Z3 P fid (Zne fi)=true)(hi:Z3 P fi (Zk6 k (some k))=true){c:α->List Tr}(hk:∀ x,(c x).length=k){f:α->Bool}{fe:FuncId}{cs:List (List Tr)}(l:List α)(hl:l.length<=9223372036854775807)
  (hf:∀ x∈l,∀ lvl S,Sem P fe lvl (.ag ((c x).map .tr)::cs.map IV.ta) S (iB (f x)) S) (lvl:Nat) (S:Sto):Sem P fid lvl [.tr (.sl (l.map c)),.fn fe (cs.map IV.ta)] S (iB (l.any f)) S :=
 ZjD hc (ZhA hi hk l hl hf) lvl S
structure Cmp (t:α->Tr):Prop where
 neq:∀(x y:α) (F:IV->Prop),bi2 .neq 0 (.tr (t x)) (.tr (t y)) F=F (iB (!(@decide (x=y) (Classical.propDecidable _))))
 eql:∀(x y:α) (F:IV->Prop),bi2 .eql 0 (.tr (t x)) (.tr (t y)) F=F (iB (@decide (x=y) (Classical.propDecidable _)))
theorem ZuH:Cmp ts:=⟨fun x y F=>by rw[Zoq];congr 2;by_cases h:x=y <;> simp [h],fun x y F=>by rw[Zop];congr 2;by_cases h:x=y <;> simp [h]⟩
theorem Znf{fid:FuncId}(hc:Z3 P fid ZuG=true)[DecidableEq α]{t:α->Tr}(hT:Cmp t)(a b:List α)(ha:a.length<=9223372036854775807)(lvl:Nat)(S:Sto):Sem P fid lvl [.tr (.sl (a.map fun x=>[t x])),.tr (.sl (b.map fun x=>[t x]))] S (iB (decide (a=b))) S:=by
 refine Ze hc trivial ?_
 simp only[ZuG,List.length_map,EVA,seval,Zc,men]
 refine Zk (fun h=>?_) (fun h=>?_)
 ·have:¬ a=b:=fun e=>h (by rw[e])
  simp [this]
 have hlen:a.length=b.length:=by omega
 refine ZE (α:=Unit) a.length (fun j _=>[(13,iI j)]) (fun _ _=>[]) (fun j _=>a.take j=b.take j) () (by simp only[EVA,seval,Zc,men]) (by (simp only[EVA,seval,Zc,men]) <;> rfl) rfl ?_
 intro j _ hj hA
 simp only[List.length_map,EVA,seval,Zc,men]
 refine Zk (fun hlt=>?_) (fun hge=>?_)
 ·have hja:j<a.length:=by omega
  have hjb:j<b.length:=by omega
  have ga:=Xo (c:=fun x=>[t x]) hja
  have gb:=Xo (c:=fun x=>[t x]) hjb
  have hq:=hT.neq a[j] b[j]
  simp only[ga,gb,hq,EVA,seval,Zc,men]
  refine Zk (fun hne=>?_) (fun he=>?_)
  ·have:¬ a=b:=UC hja hjb (by simpa using hne)
   simp [this]
  ·exact⟨by rw[Zd];omega,Zf () hja rfl (Xd hja hjb hA (by simpa using he))⟩
 ·have:j=a.length:=by omega
  subst this
  have:a=b:=X6 hlen hA
  simp [this]
end
end Go.Fd

namespace Go.Fd
set_option maxRecDepth 20000
noncomputable def dc(p:Prop):Bool:=@decide p (Classical.propDecidable p)
theorem dc_iff{p:Prop}:dc p=true↔p:=by unfold dc;simp
theorem JF{p:Prop}(h:p):dc p=true:=dc_iff.2 h
theorem Zh{p:Prop}(h:¬ p):dc p=false:=by
 cases hh:dc p with
 | false=>rfl
 | true=>exact absurd (dc_iff.1 hh) h
theorem dc_not{p:Prop}:dc p=false ↔ ¬ p:=⟨fun h hp=>(by rw[JF hp] at h;cases h),Zh⟩
theorem JK{p q:Prop}(h:p↔q):dc p=dc q:=by rw[propext h]
theorem J2{p:Prop}[Decidable p]:dc p=decide p:=by
 by_cases h:p
 ·rw[JF h];simp [h]
 ·rw[Zh h];simp [h]
abbrev g0(l:List Int)(i:Nat):Int:=l.getD i 0
abbrev A3:=Int×Int×Int
abbrev g3(l:List A3)(i:Nat):A3:=l.getD i (0,0,0)
theorem DW{l:List Int}{i:Nat}(h:i<l.length):(rI l)[i]? = some [tv (g0 l i)]:=by simp [h]
def inB(n a b:Int):Bool:=decide (a<=n)&&decide (n<=b)
theorem inB_iff{n a b:Int}:inB n a b=true↔a<=n/\n<=b:=by simp [inB]
theorem inB_not{n a b:Int}:inB n a b=false ↔ ¬ (a<=n/\n<=b):=by
 rw[<-inB_iff];cases inB n a b <;> simp
theorem Jt(n a b:Int)(lvl:Nat)(S:Sto):Sem Proofs.Tryz.prog ZN lvl [iI n,iI a,iI b] S (iB (inB n a b)) S:=by
 refine Ze ZgJ trivial ?_
 simp only[Zcm,EVA,seval,Zc,men]
 refine Zk (fun h=>?_) (fun h=>?_) <;> simp [inB,h]
theorem Yy(n a b:Int)(lvl:Nat)(S:Sto):Sem Proofs.Tryz.prog ZQ lvl [iI n,iI a,iI b] S (iB (inB n a b)) S:=by
 refine Ze Zet trivial ?_
 simp only[DJ,EVA,seval,Zc,men]
 refine Zk (fun h=>?_) (fun h=>?_) <;> simp [inB,h]
end Go.Fd

namespace Go.Proofs
open Go.Shelf
def Tryz.lays160_ren:Go.Shelf.Ren:=⟨fun | 160=>117 | 232=>136 | 231=>135 | 227=>137 | 234=>139 | 233=>138 | 236=>141 | 235=>140 | 228=>151 | 271=>153 | 151=>152 | 197=>133 | 120=>161 | 152=>160 | 260=>150 | 137=>168 | 119=>169 | 224=>112 | 225=>111 | 217=>110 | 266=>130 | n=>n,fun | 9=>9 | 4=>4 | 3=>3 | 5=>5 | 117=>153 | 116=>152 | 0=>0 | 124=>156 | 21=>21 | 105=>148 | 46=>128 | 119=>178 | 139=>181 | 138=>180 | n=>n,fun | 3=>3 | 4=>4 | n=>n⟩
theorem Tryz.lays160:Go.Proofs.Lays.n160 Tryz.prog Tryz.lays160_ren:={
  mixed:=by kernel_rfl,
  f119:=Tryz.func169.trans (congrArg some (by kernel_rfl)),
  f120:=Tryz.func161.trans (congrArg some (by kernel_rfl)),
  f137:=Tryz.func168.trans (congrArg some (by kernel_rfl)),
  f151:=Tryz.func152.trans (congrArg some (by kernel_rfl)),
  f152:=Tryz.func160.trans (congrArg some (by kernel_rfl)),
  f160:=Tryz.func117.trans (congrArg some (by kernel_rfl)),
  f197:=Tryz.func133.trans (congrArg some (by kernel_rfl)),
  f217:=Tryz.func110.trans (congrArg some (by kernel_rfl)),
  f224:=Tryz.func112.trans (congrArg some (by kernel_rfl)),
  f225:=Tryz.func111.trans (congrArg some (by kernel_rfl)),
  f227:=Tryz.func137.trans (congrArg some (by kernel_rfl)),
  f228:=Tryz.func151.trans (congrArg some (by kernel_rfl)),
  f231:=Tryz.func135.trans (congrArg some (by kernel_rfl)),
  f232:=Tryz.func136.trans (congrArg some (by kernel_rfl)),
  f233:=Tryz.func138.trans (congrArg some (by kernel_rfl)),
  f234:=Tryz.func139.trans (congrArg some (by kernel_rfl)),
  f235:=Tryz.func140.trans (congrArg some (by kernel_rfl)),
  f236:=Tryz.func141.trans (congrArg some (by kernel_rfl)),
  f260:=Tryz.func150.trans (congrArg some (by kernel_rfl)),
  f266:=Tryz.func130.trans (congrArg some (by kernel_rfl)),
  f271:=Tryz.func153.trans (congrArg some (by kernel_rfl)),
  t0:=Tryz.underlying0,
  a0:=Tryz.isAgg0,
  z0:=Tryz.sizeOf0,
  v0:=Tryz.zeroValue0,
  t3:=Tryz.underlying3,
  a3:=Tryz.isAgg3,
  z3:=Tryz.sizeOf3,
  v3:=Tryz.zeroValue3,
  t4:=Tryz.underlying4,
  a4:=Tryz.isAgg4,
  z4:=Tryz.sizeOf4,
  v4:=Tryz.zeroValue4,
  t5:=Tryz.underlying5,
  a5:=Tryz.isAgg5,
  z5:=Tryz.sizeOf5,
  v5:=Tryz.zeroValue5,
  t9:=Tryz.underlying9,
  a9:=Tryz.isAgg9,
  z9:=Tryz.sizeOf9,
  v9:=Tryz.zeroValue9,
  t21:=Tryz.underlying21,
  a21:=Tryz.isAgg21,
  z21:=Tryz.sizeOf21,
  v21:=Tryz.zeroValue21,
  t46:=Tryz.underlying128,
  a46:=Tryz.isAgg128,
  z46:=Tryz.sizeOf128,
  v46:=Tryz.zeroValue128,
  t105:=Tryz.underlying148,
  a105:=Tryz.isAgg148,
  z105:=Tryz.sizeOf148,
  v105:=Tryz.zeroValue148,
  t116:=Tryz.underlying152,
  a116:=Tryz.isAgg152,
  z116:=Tryz.sizeOf152,
  t117:=Tryz.underlying153,
  a117:=Tryz.isAgg153,
  z117:=Tryz.sizeOf153,
  v117:=Tryz.zeroValue153,
  t119:=Tryz.underlying178,
  a119:=Tryz.isAgg178,
  z119:=Tryz.sizeOf178,
  t124:=Tryz.underlying156,
  a124:=Tryz.isAgg156,
  z124:=Tryz.sizeOf156,
  v124:=Tryz.zeroValue156,
  t138:=Tryz.underlying180,
  a138:=Tryz.isAgg180,
  z138:=Tryz.sizeOf180,
  v138:=Tryz.zeroValue180,
  t139:=Tryz.underlying181,
  a139:=Tryz.isAgg181,
  z139:=Tryz.sizeOf181,
  v139:=Tryz.zeroValue181,
  g3:=by kernel_rfl,
  g4:=by kernel_rfl }
end Go.Proofs

namespace Go.Fd
set_option maxRecDepth 20000
def Zqk(P:Program)(f:FuncId):Bool:=match P.funcs[f]? with | some fn=>fn.body.isSome && !(fn.name == "runtime.NumGoroutine") | none=>false
theorem Xp{P:Program}{f:FuncId}(h:Zqk P f=true):Dn P f:=by
 unfold Zqk at h
 split at h
 ·rename_i fn hf
  simp only[Bool.and_eq_true,Bool.not_eq_true'] at h
  exact⟨fn,hf,h.1,h.2⟩
 ·cases h
abbrev AZ:ByteArray:=⟨#[97,98,99,100,101,102,103,104,105,106,107,108,109,110,111,112,113,114,115,116,117,118,119,120,121,122]⟩
theorem Zk8(s:ByteArray)(hs:s.size<=9223372036854775807)(lvl:Nat)(S:Sto):Sem Proofs.Tryz.prog Wt lvl [iS s,iS AZ] S (iS ⟨(Lib.trimS s.data.toList AZ.data.toList).toArray⟩) S :=
 ZgH (xs:=[.string s,.string AZ]) (Xp (by kernel_rfl)) rfl (fun w=>Go.Proofs.Any.strings_Trim_laid Proofs.Tryz.lays160 (by kernel_rfl) s AZ w hs (by decide) (Go.Proofs.ascii_of_all (by decide)))
def Zdv(s:ByteArray):Prop:=(∀ b∈s.data.toList,97<=b.toNat/\b.toNat<=122)/\1<=s.size/\s.size<=4
theorem Zcs(s:ByteArray):s.size=s.data.toList.length:=by rw[Array.length_toList];rfl
theorem ZlM(b:UInt8):b∈AZ.data.toList↔97<=b.toNat/\b.toNat<=122:=by
 have:∀ n:Fin 256,(UInt8.ofNat n.val)∈AZ.data.toList↔97<=n.val/\n.val<=122:=by decide +kernel
 have h:UInt8.ofNat b.toNat∈AZ.data.toList↔97<=b.toNat/\b.toNat<=122:=this ⟨b.toNat,b.toNat_lt⟩
 rw[show UInt8.ofNat b.toNat=b from UInt8.ofNat_toNat] at h
 exact h
theorem ZjE{p:UInt8->Bool}:∀{l:List UInt8},l.dropWhile p=[]↔∀ b∈l,p b=true
 | []=>by simp
 | x::r=>by
  simp only[List.dropWhile_cons,List.mem_cons,forall_eq_or_imp]
  cases h:p x with
  | true=>simp [ZjE (l:=r)]
  | false=>simp
theorem ZlN{p:UInt8->Bool}{b:UInt8}:∀{l:List UInt8},b∈l.takeWhile p->p b=true
 | [],h=>by simp at h
 | x::r,h=>by
  rw[List.takeWhile_cons] at h
  split at h
  ·rename_i hx
   rcases List.mem_cons.1 h with rfl | h
   ·exact hx
   ·exact ZlN h
  ·cases h
theorem Zk9{l cs:List UInt8}(h:∀ b∈l,b∈cs):l.dropWhile (cs.contains ·)=[]:=by
 rw[ZjE]
 intro b hb
 simpa using h b hb
theorem trimS_nil{l cs:List UInt8}:Lib.trimS l cs=[]↔∀ b∈l,b∈cs:=by
 unfold Lib.trimS Lib.trimLeftS Lib.trimRightS
 constructor
 ·intro h b hb
  rw[ZjE] at h
  have hrev:∀ x∈(l.reverse.dropWhile (cs.contains ·)),x∈cs:=fun x hx=>by
   have:=h x (by simpa using hx)
   simpa using this
  have hsplit:l.reverse=l.reverse.takeWhile (cs.contains ·)++l.reverse.dropWhile (cs.contains ·):=(List.takeWhile_append_dropWhile).symm
  have hb2:b∈l.reverse:=by simpa using hb
  rw[hsplit] at hb2
  rcases List.mem_append.1 hb2 with h1 | h1
  ·have:=ZlN h1
   simpa using this
  ·exact hrev b h1
 ·intro h
  rw[Zk9 (l:=l.reverse) (fun b hb=>h b (by simpa using hb))]
  rfl
theorem Zdw(s:ByteArray)(hs:s.size<=9223372036854775807)(lvl:Nat)(S:Sto):Sem Proofs.Tryz.prog Vz lvl [iS s] S (iB (dc (Zdv s))) S:=by
 refine Ze Zeu trivial ?_
 simp only[DK,EVA,seval,Zc,men]
 refine ZE (α:=Unit) s.size (fun j _=>[(3,iI j)]) (fun _ _=>[]) (fun j _=>∀ b∈s.data.toList.take j,97<=b.toNat/\b.toNat<=122) () (by simp only[EVA,seval,Zc,men]) (by (simp only[EVA,seval,Zc,men]) <;> rfl) (fun b hb=>by simp at hb) ?_
 intro j _ hj hA
 simp only[EVA,seval,Zc,men]
 refine Zk (fun hlt=>?_) (fun hge=>?_)
 ·have hja:j<s.data.toList.length:=by rw[<-Zcs];omega
  have ga:s.data.toList[j]? = some (s.data.toList[j]):=List.getElem?_eq_getElem hja
  have hno:¬ (97<=(s.data.toList[j]).toNat/\(s.data.toList[j]).toNat<=122) -> ¬ Zdv s:=fun h hn=>h (hn.1 _ (List.getElem_mem hja))
  by_cases h1:((s.data.toList[j]).toNat:Int)<97
  ·simp only[ga,h1,EVA,seval,Zc,men]
   rw[Zh (hno (by omega))]
  by_cases h2:(122:Int)<(s.data.toList[j]).toNat
  ·simp only[ga,h1,h2,EVA,seval,Zc,men]
   rw[Zh (hno (by omega))]
  ·simp only[ga,h1,h2,EVA,seval,Zc,men]
   refine⟨by rw[Zd];omega,Zf () (by omega) rfl ?_⟩
   intro b hb
   rw[List.take_succ_eq_append_getElem hja] at hb
   rcases List.mem_append.1 hb with h | h
   ·exact hA b h
   ·have:b=s.data.toList[j]:=by simpa using h
    subst this
    omega
 ·have:j=s.size:=by omega
  subst this
  rw[Zcs,List.take_length] at hA
  refine Za (Jt s.size 1 4) ?_
  simp only[EVA,seval,Zc,men]
  rw[JK (q:=1<=s.size/\s.size<=4) ⟨fun h=>h.2,fun h=>⟨hA,h⟩⟩]
  by_cases h:1<=s.size/\s.size<=4
  ·rw[JF h,inB_iff.2 (by omega)]
  ·rw[Zh h,inB_not.2 (by omega)]
theorem Zdx(s:ByteArray)(hs:s.size<=9223372036854775807)(lvl:Nat)(S:Sto):Sem Proofs.Tryz.prog VC lvl [iS s] S (iB (dc (Zdv s))) S:=by
 refine Ze Zex trivial ?_
 simp only[DN,EVA,seval,Zc,men]
 refine Za (Yy s.size 1 4) ?_
 simp only[EVA,seval,Zc,men]
 cases hin:inB (s.size:Int) 1 4 with
 | false =>
  have:¬ Zdv s:=fun h=>(inB_not.1 hin) (by have:=h.2;omega)
  rw[Zh this]
  simp only[EVA,seval,Zc,men]
 | true =>
  have hin':=inB_iff.1 hin
  simp only[EVA,seval,Zc,men]
  refine Za (Zk8 s hs) ?_
  simp only[EVA,seval,Zc,men]
  by_cases h:Zdv s
  ·have:Lib.trimS s.data.toList AZ.data.toList=[]:=trimS_nil.2 (fun b hb=>(ZlM b).2 (h.1 b hb))
   rw[JF h,this]
   rfl
  ·have:¬ Lib.trimS s.data.toList AZ.data.toList=[]:=fun e=>h ⟨fun b hb=>(ZlM b).1 (trimS_nil.1 e b hb),by omega,by omega⟩
   rw[Zh h]
   have h2:¬ (⟨(Lib.trimS s.data.toList AZ.data.toList).toArray⟩:ByteArray)=⟨#[]⟩:=fun e=>this (by
    have:=congrArg (fun b:ByteArray=>b.data.toList) e
    simpa using this)
   simp [h2]
def Zng(c:TControl):Prop:=Zdv c.name/\(0<=c.ports/\c.ports<=3)/\0<=c.kind_/\c.kind_<=2
def ZjF(sig:List TControl)(i:Nat):Prop:=∀ h:i<sig.length,Zng sig[i]/\∀ k (hk:k<i),(sig[k]'(by omega)).name≠sig[i].name
def XC(sig:List TControl):Prop:=(∀ i,ZjF sig i)/\1<=sig.length/\sig.length<=6
theorem ZaL(c d:TControl)(lvl:Nat)(S:Sto):Sem Proofs.Tryz.prog Js lvl [.ag ((Zg d).map .tr),.ta (Zg c)] S (iB (decide (d.name=c.name))) S:=by
 refine Ze UK trivial ?_
 simp only[Qo,Zg,EVA,seval,Zc,men]
theorem Zba:Z3 Proofs.Tryz.prog ZD (Zk6 3 (some 3))=true:=by kernel_rfl
theorem ZfP:Z3 Proofs.Tryz.prog ZV (Zne ZD)=true:=by kernel_rfl
theorem DX(sig:List TControl)(hl:sig.length<=9223372036854775807)(hb:∀ y∈sig,Zz 9223372036854775807 y)(lvl:Nat)(S:Sto):Sem Proofs.Tryz.prog VZ lvl [.tr (.sl (sig.map Zg))] S (iB (dc (XC sig))) S:=by
 refine Ze ZfM trivial ?_
 simp only[Za8,List.length_map,EVA,seval,Zc,men]
 refine ZE (α:=Unit) sig.length (fun j _=>[(3,iI j)]) (fun _ _=>[]) (fun j _=>∀ i,i<j->ZjF sig i) () (by simp only[EVA,seval,Zc,men]) (by (simp only[EVA,seval,Zc,men]) <;> rfl) (fun i hi=>by omega) ?_
 intro j _ hj hA
 simp only[List.length_map,EVA,seval,Zc,men]
 refine Zk (fun hlt=>?_) (fun hge=>?_)
 ·have hja:j<sig.length:=by omega
  have ga:=Xo (c:=Zg) hja
  have hbj:sig[j].name.size<=9223372036854775807:=hb _ (List.getElem_mem hja)
  have hno:¬ Zng sig[j] -> ¬ XC sig:=fun h hs=>h (hs.1 j hja).1
  simp only[ga,Zg,EVA,seval,Zc,men]
  refine Za (Zdw sig[j].name hbj) ?_
  simp only[ga,Zg,EVA,seval,Zc,men]
  cases hn:dc (Zdv sig[j].name) with
  | false =>
   simp only[EVA,seval,Zc,men]
   rw[Zh (hno fun h=>dc_not.1 hn h.1)]
  | true =>
   have hn':=dc_iff.1 hn
   simp only[ga,Zg,EVA,seval,Zc,men]
   refine Za (Jt sig[j].ports 0 3) ?_
   simp only[ga,Zg,EVA,seval,Zc,men]
   cases hp:inB sig[j].ports 0 3 with
   | false =>
    simp only[EVA,seval,Zc,men]
    rw[Zh (hno fun h=>inB_not.1 hp h.2.1)]
   | true =>
    have hp':=inB_iff.1 hp
    simp only[ga,Zg,EVA,seval,Zc,men]
    refine Za (Jt sig[j].kind_ 0 2) ?_
    simp only[ga,Zg,EVA,seval,Zc,men]
    cases hk:inB sig[j].kind_ 0 2 with
    | false =>
     simp only[EVA,seval,Zc,men]
     rw[Zh (hno fun h=>inB_not.1 hk h.2.2)]
    | true =>
     have hk':=inB_iff.1 hk
     simp only[EVA,seval,Zc,men]
     refine ZE (α:=Unit) j (fun k _=>[(4,iI k)]) (fun _ _=>[]) (fun k _=>∀ i (hi:i<k),k<=j->∀ hi2:i<sig.length,(sig[i]'hi2).name≠sig[j].name) () (by simp only[EVA,seval,Zc,men]) (by (simp only[EVA,seval,Zc,men]) <;> rfl) (fun i hi=>by omega) ?_
     intro k _ hkj hB
     simp only[List.length_map,EVA,seval,Zc,men]
     refine Zk (fun hlt2=>?_) (fun hge2=>?_)
     ·have hka:k<sig.length:=by omega
      have gb:=Xo (c:=Zg) hka
      simp only[ga,gb,Zg,EVA,seval,Zc,men]
      refine Zk (fun he=>?_) (fun hne=>?_)
      ·rw[Zh (fun hs:XC sig=>(hs.1 j hja).2 k (by omega) he)]
      ·refine⟨by rw[Zd];omega,Zf () (by omega) rfl (fun i hi _ hi2=>?_)⟩
       by_cases e:i=k
       ·subst e;exact hne
       ·exact hB i (by omega) (by omega) hi2
     ·have:k=j:=by omega
      subst this
      refine⟨by rw[Zd];omega,Zf () hja rfl (fun i hi=>?_)⟩
      by_cases e:i=k
      ·subst e
       exact fun h=>⟨⟨hn',hp',hk'⟩,fun q hq=>hB q hq (Nat.le_refl _) (by omega)⟩
      ·exact hA i (by omega)
 ·have:j=sig.length:=by omega
  subst this
  refine Za (Jt sig.length 1 6) ?_
  simp only[EVA,seval,Zc,men]
  have hall:∀ i,ZjF sig i:=fun i h=>hA i h h
  rw[JK (q:=1<=sig.length/\sig.length<=6) ⟨fun h=>h.2,fun h=>⟨hall,h⟩⟩]
  by_cases h:1<=sig.length/\sig.length<=6
  ·rw[JF h,inB_iff.2 (by omega)]
  ·rw[Zh h,inB_not.2 (by omega)]
theorem YI(sig:List TControl)(hl:sig.length<=9223372036854775807)(hb:∀ y∈sig,Zz 9223372036854775807 y)(lvl:Nat)(S:Sto):Sem Proofs.Tryz.prog JI lvl [.tr (.sl (sig.map Zg))] S (iB (dc (XC sig))) S:=by
 refine Ze DG trivial ?_
 simp only[Xh,List.length_map,EVA,seval,Zc,men]
 refine Za (Yy sig.length 1 6) ?_
 simp only[List.length_map,EVA,seval,Zc,men]
 refine Zk (fun h=>?_) (fun h=>?_)
 ·rw[Zh (fun hs:XC sig=>(inB_not.1 h) (by have:=hs.2;omega))]
 have hln:=inB_iff.1 (by simpa using h)
 refine ZE (α:=Unit) sig.length (fun j _=>[(11,iI j)]) (fun _ _=>[]) (fun j _=>∀ i,i<j->ZjF sig i) () (by simp only[EVA,seval,Zc,men]) (by (simp only[EVA,seval,Zc,men]) <;> rfl) (fun i hi=>by omega) ?_
 intro j _ hj hA
 simp only[List.length_map,EVA,seval,Zc,men]
 refine Zk (fun hlt=>?_) (fun hge=>?_)
 ·have hja:j<sig.length:=by omega
  have ga:=Xo (c:=Zg) hja
  have hbj:sig[j].name.size<=9223372036854775807:=hb _ (List.getElem_mem hja)
  have hno:¬ Zng sig[j] -> ¬ XC sig:=fun h hs=>h (hs.1 j hja).1
  simp only[ga,Zg,EVA,seval,Zc,men]
  refine Za (Zdx sig[j].name hbj) ?_
  simp only[ga,Zg,EVA,seval,Zc,men]
  cases hn:dc (Zdv sig[j].name) with
  | false =>
   simp only[EVA,seval,Zc,men]
   rw[Zh (hno fun h=>dc_not.1 hn h.1)]
  | true =>
   have hn':=dc_iff.1 hn
   simp only[ga,Zg,EVA,seval,Zc,men]
   refine Za (Yy sig[j].ports 0 3) ?_
   simp only[ga,Zg,EVA,seval,Zc,men]
   cases hp:inB sig[j].ports 0 3 with
   | false =>
    simp only[EVA,seval,Zc,men]
    rw[Zh (hno fun h=>inB_not.1 hp h.2.1)]
   | true =>
    have hp':=inB_iff.1 hp
    simp only[ga,Zg,EVA,seval,Zc,men]
    refine Za (Yy sig[j].kind_ 0 2) ?_
    simp only[ga,Zg,EVA,seval,Zc,men]
    cases hk:inB sig[j].kind_ 0 2 with
    | false =>
     simp only[EVA,seval,Zc,men]
     rw[Zh (hno fun h=>inB_not.1 hk h.2.2)]
    | true =>
     have hk':=inB_iff.1 hk
     have hjl:j<=sig.length:=by omega
     simp only[List.length_map,hjl,EVA,seval,Zc,men]
     have hc:=ZhB (P:=Proofs.Tryz.prog) ZfP Zba W6 (f:=fun d:TControl=>decide (d.name=sig[j].name)) (fe:=Js) (cs:=[Zg sig[j]]) (sig.take j) (by rw[List.length_take];omega) (fun d _ lvl S=>ZaL sig[j] d lvl S)
     rw[<-ZjB] at hc
     refine⟨fun h=>h.elim,Nat.zero_le _,Za hc ?_⟩
     simp only[EVA,seval,Zc,men]
     cases ha:(sig.take j).any (fun d:TControl=>decide (d.name=sig[j].name)) with
     | true =>
      simp only[EVA,seval,Zc,men]
      obtain⟨d,hd,he⟩:=List.any_eq_true.1 ha
      obtain⟨q,hq,rfl⟩:=List.getElem_of_mem hd
      rw[List.length_take] at hq
      rw[Zh (fun hs:XC sig=>(hs.1 j hja).2 q (by omega) (by simpa using he))]
     | false =>
      simp only[EVA,seval,Zc,men]
      refine⟨by rw[Zd];omega,Zf () hja rfl (fun i hi=>?_)⟩
      by_cases e:i=j
      ·subst e
       refine fun h=>⟨⟨hn',hp',hk'⟩,fun q hq=>?_⟩
       have:=(List.any_eq_false.1 ha) sig[q] (by
        rw[List.mem_take_iff_getElem]
        exact⟨q,by omega,rfl⟩)
       simpa using this
      ·exact hA i (by omega)
 ·have:j=sig.length:=by omega
  subst this
  have hall:∀ i,ZjF sig i:=fun i h=>hA i h h
  rw[JF (p:=XC sig) ⟨hall,by omega,by omega⟩]
theorem Zdy(a b:List Int):rI (a++b)=rI a++rI b:=List.map_append
theorem ZjG:Z3 Proofs.Tryz.prog Yb (Zk6 1 none)=true:=by kernel_rfl
theorem ZjH:Z3 Proofs.Tryz.prog ZS (Zne Yb)=true:=by kernel_rfl
end Go.Fd

namespace Go.Fd
def Zm(s:Int->Int)(P:Prop):Prop:=∀ l:Int,0<=l->l<=1048576->s l<=l/\(0<=s l->P)
theorem ZuI:Zm (fun l=>l) True:=fun _ _ _=>⟨Int.le_refl _,fun _=>trivial⟩
theorem ZuJ{s g:Int->Int}{P Q:Prop}(hs:Zm s P)(hg:Zm g Q):Zm (fun l=>Zjz (s l) g) (P/\Q):=fun l h0 h1=>by
 have a:=hs l h0 h1
 by_cases h:s l<0
 ·simp only[Zjz,if_pos h]
  exact⟨by omega,fun h=>by omega⟩
 ·simp only[Zjz,if_neg h]
  have b:=hg (s l) (by omega) (by omega)
  exact⟨by omega,fun h2=>⟨a.2 (by omega),b.2 h2⟩⟩
theorem Zql(n:Nat):Zm (fun l=>l-n) (n<=4294967296):=fun l h0 h1=>⟨by simp only;omega,fun h=>by simp only at h;omega⟩
theorem Zvh{α:Type}{f:α->Int->Int}{P:α->Prop}(hf:∀ x,Zm (f x) (P x)):∀(a:List α),Zm (fun l=>szF f a l) (∀ y∈a,P y)
 | []=>fun l _ _=>⟨Int.le_refl l,fun _ y hy=>by cases hy⟩
 | x::r=>fun l h0 h1=>by
  simp only[szF]
  have a:=hf x l h0 h1
  split
  ·exact⟨by omega,fun h=>by omega⟩
  ·have b:=Zvh hf r (f x l) (by omega) (by omega)
   refine⟨by simp only at b;omega,fun h y hy=>?_⟩
   cases hy with
   | head=>exact a.2 (by omega)
   | tail _ hy=>exact b.2 h y hy
theorem ZwE{α:Type}{f:α->Int->Int}{P:α->Prop}(hf:∀ x,Zm (f x) (P x))(a:List α):Zm (fun l=>szL f a l) (a.length<=4294967296/\∀ y∈a,P y):=fun l h0 h1=>by
 simp only[szL]
 split
 ·exact⟨by omega,fun h=>by omega⟩
 ·have b:=Zvh hf a (l-a.length) (by omega) (by omega)
  simp only at b
  exact⟨by omega,fun h=>⟨by omega,b.2 h⟩⟩
theorem Zqm{s:Int->Int}{P Q:Prop}(h:Zm s P)(hq:P->Q):Zm s Q:=fun l h0 h1=>⟨(h l h0 h1).1,fun h2=>hq ((h l h0 h1).2 h2)⟩
theorem ZjI(x:TControl):Zm (fun l=>J0 x l) (Zz 4294967296 x):=by
 unfold J0
 exact Zqm (ZuJ (Zql _) ZuI) (fun h=>by unfold Zz;simp only[and_assoc,and_true,true_and,implies_true,forall_const] at h ⊢;try exact h)
theorem Wc{a:Nat}(h:a<=4294967296):a<=9223372036854775807:=by omega
theorem Zct{x:TControl}(h:Zz 4294967296 x):Zz 9223372036854775807 x:=by
 exact(Wc h)
theorem Zla{x:TNode}(h:Za6 4294967296 x):Za6 9223372036854775807 x:=by
 exact(Wc h)
theorem Zlb{x:TWire}(h:UR 4294967296 x):UR 9223372036854775807 x:=by
 exact(Wc h)
theorem Zcu{x:TBigraph}(h:ZP 4294967296 x):ZP 9223372036854775807 x:=by
 obtain⟨b0,b1,b2,b3,b4,b5,b6⟩:=h
 exact⟨(Wc b0),(fun y0 hy0=>(Zla (b1 y0 hy0))),(Wc b2),(Wc b3),(fun y0 hy0=>(Wc (b4 y0 hy0))),(Wc b5),(fun y0 hy0=>(Zlb (b6 y0 hy0)))⟩
theorem ZeC{x:TRule}(h:Ws 4294967296 x):Ws 9223372036854775807 x:=by
 obtain⟨b0,b1,b2⟩:=h
 exact⟨(Zcu b0),(Zcu b1),(Wc b2)⟩
end Go.Fd

namespace Go.Fd
set_option maxRecDepth 20000
theorem Yn{es:Row}{n:Nat}(h:es.length=n):cut es 0 n=es:=by
 simp only[cut,List.drop_zero]
 exact List.take_of_length_le (by omega)
end Go.Fd

namespace Go.Fd
set_option maxRecDepth 20000
end Go.Fd

namespace Go.Fd
set_option maxRecDepth 20000
end Go.Fd

namespace Go.Fd
set_option maxRecDepth 20000
def bl(s:ByteArray):List UInt8:=s.data.toList
theorem JO(a b:ByteArray):bl (a++b)=bl a++bl b:=by simp [bl,ByteArray.data_append]
theorem Xq{a b:ByteArray}(h:bl a=bl b):a=b:=by
 cases a with | mk a=>cases b with | mk b=>exact congrArg ByteArray.mk (Array.toList_inj.1 h)
theorem Db(l:List UInt8):bl ⟨l.toArray⟩=l:=by simp [bl]
theorem ZO(a:ByteArray):(bl a).length=a.size:=(Zcs a).symm
def Zbb(n:Int):ByteArray:=⟨(Lib.decDigits n.toNat).toArray⟩
theorem dd1{u:Nat}(h:u<10):Lib.decDigits u=[UInt8.ofNat (48+u)]:=by rw[Lib.decDigits,dif_pos h]
theorem dd2{u:Nat}(h0:10<=u)(h:u<100):Lib.decDigits u=[UInt8.ofNat (48+u / 10),UInt8.ofNat (48+u % 10)]:=by
 rw[Lib.decDigits,dif_neg (by omega),dd1 (by omega)]
 rfl
theorem Zcv{n:Int}(h0:0<=n)(h1:n<100):(Zbb n).size<=2:=by
 rw[<-ZO,Zbb,Db]
 by_cases h:n.toNat<10
 ·rw[dd1 h];simp
 ·rw[dd2 (by omega) (by omega)];simp
abbrev DIG:ByteArray:=⟨#[48,49,50,51,52,53,54,55,56,57]⟩
theorem ZqO:∀ n:Fin 10,bl (DIG.extract n.val (n.val+1))=[UInt8.ofNat (48+n.val)]:=by decide +kernel
theorem ZwF{n:Nat}(h:n<10):DIG.extract n (n+1)=Zbb n:=Xq (by
 rw[ZqO ⟨n,h⟩,Zbb,Db,Int.toNat_natCast,dd1 h])
theorem ZwG{n:Nat}(h0:10<=n)(h:n<100):Zbb ((n / 10:Nat):Int)++DIG.extract (n % 10) (n % 10+1)=Zbb n:=Xq (by
 rw[JO,ZqO ⟨n % 10,by omega⟩,Zbb,Db,Int.toNat_natCast,dd1 (by omega),Zbb,Db,Int.toNat_natCast,dd2 h0 h]
 rfl)
def YJ(f:Int->ByteArray)(w:ByteArray)(l:List Int):ByteArray:=l.foldl (fun w k=>w++f k) w
theorem Zdz{f:Int->ByteArray}{w:ByteArray}{l:List Int}{j:Nat}(h:j<l.length):YJ f w (l.take (j+1))=YJ f w (l.take j)++f (g0 l j):=by
 have e:g0 l j=l[j]:=by simp [h]
 unfold YJ
 rw[List.take_succ_eq_append_getElem h,List.foldl_append,e]
 rfl
theorem Wd(f:Int->ByteArray):∀(l:List Int) (w:ByteArray),bl (YJ f w l)=bl w++l.flatMap fun k=>bl (f k)
 | [],w=>by simp [YJ]
 | k::r,w=>by
  have:=Wd f r (w++f k)
  unfold YJ at this ⊢
  rw[List.foldl_cons,this,JO,List.flatMap_cons,List.append_assoc]
theorem Yz{f:Int->ByteArray}{B:Nat}:∀(l:List Int) (w:ByteArray),(∀ k∈l,(f k).size<=B)->(YJ f w l).size<=w.size+l.length*B
 | [],w,_=>by simp [YJ]
 | k::r,w,h=>by
  have ih:=Yz (f:=f) (B:=B) r (w++f k) fun q hq=>h q (by simp [hq])
  have h1:=h k (by simp)
  unfold YJ at ih ⊢
  rw[List.foldl_cons]
  rw[ByteArray.size_append] at ih
  rw[List.length_cons,Nat.succ_mul]
  omega
def Xr(sig:List TControl)(k:Int):ByteArray:=((sig[k.toNat]?).map TControl.name).getD ⟨#[]⟩
theorem DY{sig:List TControl}{k:Nat}(h:k<sig.length):Xr sig k=sig[k].name:=by simp [Xr,h]
theorem Dc{sig:List TControl}(h:XC sig)(k:Int):(Xr sig k).size<=4:=by
 unfold Xr
 cases e:sig[k.toNat]? with
 | none=>decide
 | some x =>
  obtain⟨hl,rfl⟩:=List.getElem?_eq_some_iff.1 e
  exact((h.1 _ hl).1).1.2.2
end Go.Fd

namespace Go.Proofs
open Go.Shelf
end Go.Proofs

namespace Go.Proofs
open Go.Shelf
def Tryz.lays156_ren:Go.Shelf.Ren:=⟨fun | 156=>98 | 165=>124 | 166=>125 | 169=>126 | 240=>148 | 241=>149 | 276=>158 | 277=>159 | n=>n,fun | 31=>26 | 9=>9 | 3=>3 | 4=>4 | 0=>0 | 20=>20 | 72=>136 | 76=>110 | 70=>134 | 37=>90 | 75=>109 | 127=>163 | 164=>175 | 5=>5 | 80=>138 | n=>n,fun | n=>n⟩
theorem Tryz.lays156:Go.Proofs.Lays.n156 Tryz.prog Tryz.lays156_ren:={
  mixed:=by kernel_rfl,
  f156:=Tryz.func98.trans (congrArg some (by kernel_rfl)),
  f165:=Tryz.func124.trans (congrArg some (by kernel_rfl)),
  f166:=Tryz.func125.trans (congrArg some (by kernel_rfl)),
  f169:=Tryz.func126.trans (congrArg some (by kernel_rfl)),
  f240:=Tryz.func148.trans (congrArg some (by kernel_rfl)),
  f241:=Tryz.func149.trans (congrArg some (by kernel_rfl)),
  f276:=Tryz.func158.trans (congrArg some (by kernel_rfl)),
  f277:=Tryz.func159.trans (congrArg some (by kernel_rfl)),
  t0:=Tryz.underlying0,
  a0:=Tryz.isAgg0,
  z0:=Tryz.sizeOf0,
  v0:=Tryz.zeroValue0,
  t3:=Tryz.underlying3,
  a3:=Tryz.isAgg3,
  z3:=Tryz.sizeOf3,
  v3:=Tryz.zeroValue3,
  t4:=Tryz.underlying4,
  a4:=Tryz.isAgg4,
  z4:=Tryz.sizeOf4,
  v4:=Tryz.zeroValue4,
  t9:=Tryz.underlying9,
  a9:=Tryz.isAgg9,
  z9:=Tryz.sizeOf9,
  v9:=Tryz.zeroValue9,
  t20:=Tryz.underlying20,
  a20:=Tryz.isAgg20,
  z20:=Tryz.sizeOf20,
  v20:=Tryz.zeroValue20,
  t31:=Tryz.underlying26,
  a31:=Tryz.isAgg26,
  z31:=Tryz.sizeOf26,
  v31:=Tryz.zeroValue26,
  t37:=Tryz.underlying90,
  a37:=Tryz.isAgg90,
  z37:=Tryz.sizeOf90,
  v37:=Tryz.zeroValue90,
  t70:=Tryz.underlying134,
  a70:=Tryz.isAgg134,
  z70:=Tryz.sizeOf134,
  v70:=Tryz.zeroValue134,
  t72:=Tryz.underlying136,
  a72:=Tryz.isAgg136,
  z72:=Tryz.sizeOf136,
  v72:=Tryz.zeroValue136,
  t75:=Tryz.underlying109,
  a75:=Tryz.isAgg109,
  z75:=Tryz.sizeOf109,
  v75:=Tryz.zeroValue109,
  t76:=Tryz.underlying110,
  a76:=Tryz.isAgg110,
  z76:=Tryz.sizeOf110,
  v76:=Tryz.zeroValue110,
  t127:=Tryz.underlying163,
  a127:=Tryz.isAgg163,
  z127:=Tryz.sizeOf163,
  v127:=Tryz.zeroValue163,
  t164:=Tryz.underlying175,
  a164:=Tryz.isAgg175,
  z164:=Tryz.sizeOf175,
  v164:=Tryz.zeroValue175 }
end Go.Proofs

namespace Go.Fd
open Go.RowKit
set_option maxRecDepth 20000
theorem ZlO:Go.Proofs.Builder.Extra Proofs.Tryz.prog Proofs.Tryz.lays156_ren where
 sizeBuilder:=by kernel_rfl
 liesBuilder:=by kernel_rfl
 t5:=Proofs.Tryz.underlying5
 a5:=Proofs.Tryz.isAgg5
 z5:=Proofs.Tryz.sizeOf5
 v5:=Proofs.Tryz.zeroValue5
 infoByte:=by kernel_rfl
 cellsByte:=by kernel_rfl
 sizeByte:=by kernel_rfl
 neB5:=by decide
def Zdc(xs:List ByteArray)(sep:ByteArray):ByteArray:=⟨(Lib.join (xs.map fun x=>x.data.toList) sep.data.toList).toArray⟩
theorem DZ{x:ByteArray}{r:List ByteArray}{sep:ByteArray}:bl (Zdc (x::r) sep)=bl x++r.flatMap fun y=>bl sep++bl y:=by
 unfold Zdc
 rw[Db,List.map_cons,Lib.join_cons,Lib.joinTail,List.map_map,List.flatMap_def]
 rfl
theorem ZhC(xs:List ByteArray)(sep:ByteArray)(hN:xs.length<=4294967296)(hlen:(Zdc xs sep).size<=140737488355328)(lvl:Nat)(S:Sto):Sem Proofs.Tryz.prog YX lvl [tS xs,iS sep] S (iS (Zdc xs sep)) S:=by
 have hlen':(Lib.join (xs.map fun x=>x.data.toList) sep.data.toList).length<=140737488355328:=by
  rw[<-ZO,Zdc,Db] at hlen
  exact hlen
 refine ZaG (Xp (by kernel_rfl)) rfl trivial fun _ G w vs hok hv=>?_
 simp only[VRs] at hv
 obtain⟨v,vr,rfl,h1,v2,vr2,rfl,h2,rfl⟩:=hv
 have h2':Rds w (Av G S w) v2 (.v (.string sep)):=h2
 cases h2'
 have h1':Rds w (Av G S w) v (.sl (rS xs)):=h1
 generalize hes:rS xs=es at h1'
 have hnil:xs=[]->∀ a c,Calls Proofs.Tryz.prog YX #[.slice a 0 c,.string sep] w fun e w' => ∃ v,e = .returned v/\VR G S w' (iS (Zdc xs sep)) v/\Below w.heap.size w w':=by
  rintro rfl a c
  refine(Go.Proofs.Any.strings_Join_none Proofs.Tryz.lays156 ZlO a c sep w).mono fun e w' ⟨he,hw⟩=>⟨_,he,?_,hw ▸ Below.refl _ _⟩
  exact Rds.v _ rfl
 cases h1' with
 | nil a c=>exact hnil (by cases xs with | nil=>rfl | cons x r=>cases hes) a c
 | sl b o c k _ f hA hk hl hc hr =>
  subst hes
  by_cases hx:xs=[]
  ·subst hx
   exact hnil rfl _ _
  obtain⟨x0,r0,hxs⟩:∃ x r,xs=x::r:=by
   cases xs with
   | nil=>exact absurd rfl hx
   | cons x r=>exact⟨x,r,rfl⟩
  have hk1:k=1:=(hk [ts x0] (by simp [hxs])).symm
  subst hk1
  rw[List.length_map] at hl ⊢
  refine(Go.Proofs.Any.strings_Join Proofs.Tryz.lays156 ZlO b o c xs sep w ?_ hA.1 (by omega) hl hlen').mono fun e w' ⟨he,hw⟩=>⟨_,he,Rds.v _ rfl,hw⟩
  intro j x hj
  have e1:(rS xs)[j]? = some [ts x]:=by simp [hj]
  have e2:=hc j _ 0 _ e1 rfl
  have e3:=hr j _ 0 _ e1 rfl
  rw[show o+j*1+0=o+j by omega] at e2
  rw[e2]
  generalize f j 0=y at e3
  cases e3
  rfl
theorem ZaM{n:Nat}(h:n<10)(lvl:Nat)(S:Sto):Sem Proofs.Tryz.prog ZB lvl [iI n] S (iS (Zbb n)) S:=by
 refine Ze V5 trivial ?_
 have h0:¬ (n:Int)<0:=by omega
 have h1:(n:Int)<10:=by omega
 have h2:((n:Int)+1).toNat=n+1:=by omega
 simp only[Vb,h0,h1,h2,EVA,seval,Zc,men]
 refine⟨by rw[Zd];omega,by omega,by omega,?_,?_⟩
 ·show n+1<=10
  omega
 ·rw[<-ZwF h]
theorem Zif{n:Nat}(h0:10<=n)(h:n<100)(lvl:Nat)(S:Sto):Sem Proofs.Tryz.prog ZB lvl [iI n] S (iS (Zbb n)) S:=by
 refine Ze V5 trivial ?_
 have g0:¬ (n:Int)<0:=by omega
 have g1:¬ (n:Int)<10:=by omega
 have e1:(n:Int) / 10=((n / 10:Nat):Int):=by omega
 have e2:(n:Int) % 10=((n % 10:Nat):Int):=by omega
 have e3:(((n % 10:Nat):Int)+1).toNat=n % 10+1:=by omega
 simp only[Vb,g0,g1,e1,e2,e3,EVA,seval,Zc,men]
 refine⟨by rw[Zd];omega,?_⟩
 refine Za (ZaM (n:=n / 10) (by omega)) ?_
 simp only[e2,e3,EVA,seval,Zc,men]
 have s1:=Zcv (n:=((n / 10:Nat):Int)) (by omega) (by omega)
 have d2:=ZwG h0 h
 refine⟨by rw[Zd];omega,by omega,by omega,?_,?_,?_⟩
 ·show n % 10+1<=10
  omega
 ·have:=congrArg ByteArray.size d2
  rw[ByteArray.size_append] at this
  have s2:=Zcv (n:=(n:Int)) (by omega) (by omega)
  show (Zbb ((n / 10:Nat):Int)).size+(DIG.extract (n % 10) (n % 10+1)).size<=4294967296
  omega
 ·rw[<-d2]
theorem ZfQ{n:Int}(h0:0<=n)(h1:n<100)(lvl:Nat)(S:Sto):Sem Proofs.Tryz.prog ZB lvl [iI n] S (iS (Zbb n)) S:=by
 obtain⟨u,rfl⟩:=Int.eq_ofNat_of_zero_le h0
 by_cases h:u<10
 ·exact ZaM h lvl S
 ·exact Zif (by omega) (by omega) lvl S
theorem ZqP:(⟨#[32]⟩:ByteArray).size=1:=rfl
end Go.Fd

namespace Go.Proofs
open Go.Shelf
def Tryz.laysM171_ren:Go.Shelf.Ren:=⟨fun | 171=>121 | 243=>147 | 246=>157 | 283=>164 | 284=>165 | 285=>166 | 286=>167 | 129=>171 | 317=>170 | 318=>172 | 319=>173 | 320=>174 | 337=>175 | 338=>176 | n=>n,fun | 3=>3 | 9=>9 | 2=>2 | 4=>4 | 171=>187 | 0=>0 | 53=>167 | 37=>90 | 5=>5 | 173=>190 | 212=>194 | 51=>144 | 20=>20 | 213=>195 | 46=>128 | 232=>198 | 233=>199 | n=>n,fun | 17=>5 | 18=>6 | 19=>7 | n=>n⟩
theorem Tryz.laysM171:Go.Proofs.LaysM.n171 Tryz.prog Tryz.laysM171_ren:={
  mixed:=by kernel_rfl,
  f129:=Tryz.func171.trans (congrArg some (by kernel_rfl)),
  f171:=Tryz.func121.trans (congrArg some (by kernel_rfl)),
  f243:=Tryz.func147.trans (congrArg some (by kernel_rfl)),
  f246:=Tryz.func157.trans (congrArg some (by kernel_rfl)),
  f283:=Tryz.func164.trans (congrArg some (by kernel_rfl)),
  f284:=Tryz.func165.trans (congrArg some (by kernel_rfl)),
  f285:=Tryz.func166.trans (congrArg some (by kernel_rfl)),
  f286:=Tryz.func167.trans (congrArg some (by kernel_rfl)),
  f317:=Tryz.func170.trans (congrArg some (by kernel_rfl)),
  f318:=Tryz.func172.trans (congrArg some (by kernel_rfl)),
  f319:=Tryz.func173.trans (congrArg some (by kernel_rfl)),
  f320:=Tryz.func174.trans (congrArg some (by kernel_rfl)),
  f337:=Tryz.func175.trans (congrArg some (by kernel_rfl)),
  f338:=Tryz.func176.trans (congrArg some (by kernel_rfl)),
  t0:=Tryz.underlying0,
  a0:=Tryz.isAgg0,
  z0:=Tryz.sizeOf0,
  v0:=Tryz.zeroValue0,
  t2:=Tryz.underlying2,
  a2:=Tryz.isAgg2,
  z2:=Tryz.sizeOf2,
  v2:=Tryz.zeroValue2,
  t3:=Tryz.underlying3,
  a3:=Tryz.isAgg3,
  z3:=Tryz.sizeOf3,
  v3:=Tryz.zeroValue3,
  t4:=Tryz.underlying4,
  a4:=Tryz.isAgg4,
  z4:=Tryz.sizeOf4,
  v4:=Tryz.zeroValue4,
  t5:=Tryz.underlying5,
  a5:=Tryz.isAgg5,
  z5:=Tryz.sizeOf5,
  v5:=Tryz.zeroValue5,
  t9:=Tryz.underlying9,
  a9:=Tryz.isAgg9,
  z9:=Tryz.sizeOf9,
  v9:=Tryz.zeroValue9,
  t20:=Tryz.underlying20,
  a20:=Tryz.isAgg20,
  z20:=Tryz.sizeOf20,
  v20:=Tryz.zeroValue20,
  t37:=Tryz.underlying90,
  a37:=Tryz.isAgg90,
  z37:=Tryz.sizeOf90,
  v37:=Tryz.zeroValue90,
  t46:=Tryz.underlying128,
  a46:=Tryz.isAgg128,
  z46:=Tryz.sizeOf128,
  v46:=Tryz.zeroValue128,
  t51:=Tryz.underlying144,
  a51:=Tryz.isAgg144,
  z51:=Tryz.sizeOf144,
  v51:=Tryz.zeroValue144,
  t53:=Tryz.underlying167,
  a53:=Tryz.isAgg167,
  z53:=Tryz.sizeOf167,
  v53:=Tryz.zeroValue167,
  t171:=Tryz.underlying187,
  a171:=Tryz.isAgg187,
  z171:=Tryz.sizeOf187,
  v171:=Tryz.zeroValue187,
  t173:=Tryz.underlying190,
  a173:=Tryz.isAgg190,
  z173:=Tryz.sizeOf190,
  v173:=Tryz.zeroValue190,
  t212:=Tryz.underlying194,
  a212:=Tryz.isAgg194,
  z212:=Tryz.sizeOf194,
  v212:=Tryz.zeroValue194,
  t213:=Tryz.underlying195,
  a213:=Tryz.isAgg195,
  z213:=Tryz.sizeOf195,
  t232:=Tryz.underlying198,
  a232:=Tryz.isAgg198,
  z232:=Tryz.sizeOf198,
  v232:=Tryz.zeroValue198,
  t233:=Tryz.underlying199,
  a233:=Tryz.isAgg199,
  z233:=Tryz.sizeOf199,
  v233:=Tryz.zeroValue199,
  g17:=by kernel_rfl,
  g18:=by kernel_rfl,
  g19:=by kernel_rfl,
  i0:=by kernel_rfl,
  i2:=by kernel_rfl,
  i3:=by kernel_rfl,
  i4:=by kernel_rfl,
  i5:=by kernel_rfl,
  i9:=by kernel_rfl,
  i20:=by kernel_rfl,
  i37:=by kernel_rfl,
  i46:=by kernel_rfl,
  i51:=by kernel_rfl,
  i53:=by kernel_rfl,
  i171:=by kernel_rfl,
  i173:=by kernel_rfl,
  i212:=by kernel_rfl,
  i232:=by kernel_rfl,
  i233:=by kernel_rfl,
  m17:=by kernel_rfl,
  m18:=by kernel_rfl,
  m19:=by kernel_rfl }
end Go.Proofs

namespace Go.Fd
set_option maxRecDepth 20000
def ZH(n:Int):ByteArray:=⟨(Lib.itoa n).toArray⟩
theorem ZbN{n:Int}(h:0<=n):ZH n=Zbb n:=by unfold ZH Zbb Lib.itoa;rw[if_neg (by omega)]
theorem D0{n:Int}(h:n<0):ZH n=⟨#[45]⟩++Zbb (-n):=Xq (by
 rw[JO]
 unfold ZH Zbb Lib.itoa
 rw[if_pos h,Db,Db,show (-n).toNat=n.natAbs by omega]
 rfl)
def smN(n:Int):Prop:=-100<n/\n<100
theorem Jg{n:Int}(h:smN n):(ZH n).size<=3:=by
 obtain⟨h1,h2⟩:=h
 by_cases h0:0<=n
 ·rw[ZbN h0]
  have:=Zcv h0 h2
  omega
 ·rw[D0 (by omega),ByteArray.size_append]
  have:=Zcv (n:=-n) (by omega) (by omega)
  have e:(⟨#[45]⟩:ByteArray).size=1:=rfl
  omega
theorem Znh{G:Gh}{S:Sto}{w:World}(h:Fix G S w):Lib.TabIs Proofs.Tryz.prog w "internal/strconv.uint64pow10" .u64 Lib.pow10Tab:=by
 obtain⟨w0,hg,hs,hb⟩:=h
 have hg':Lib.TabIs Proofs.Tryz.prog w0 "internal/strconv.uint64pow10" .u64 Lib.pow10Tab:=And.left hg
 unfold Lib.TabIs World.var? at hg' ⊢
 generalize Proofs.Tryz.prog.globalNamed "internal/strconv.uint64pow10" = o at hg' ⊢
 cases o with
 | none=>exact hg'
 | some g =>
  simp only[Option.bind_some] at hg' ⊢
  rcases Nat.lt_or_ge g w0.heap.size with hl | hl
  ·rw[(hb g hl).2];exact hg'
  ·rw[Array.getElem?_eq_none hl] at hg';cases hg'
theorem ZjJ(n:Int)(hn:smN n)(lvl:Nat)(S:Sto):Sem Proofs.Tryz.prog Ql lvl [iI n] S (iS (ZH n)) S:=by
 obtain⟨h0,h1⟩:=hn
 refine VN (Xp (by kernel_rfl)) rfl trivial fun _ G w vs _ hv hf=>?_
 rw[Xc (xs:=[.int .i64 n]) hv]
 exact(Go.Proofs.Any.strconv_Itoa Proofs.Tryz.laysM171 n (by omega) (by omega) w (Znh hf)).mono fun e w' ⟨h,k,os,h'⟩=>⟨_,h,.v _ rfl,h' ▸ Go.Lib.below_grow _ w (Nat.le_refl _) k os⟩
theorem D7(n:Int)(hn:smN n)(lvl:Nat)(S:Sto):Sem Proofs.Tryz.prog JD lvl [iI n] S (iS (ZH n)) S:=by
 refine Ze Zdu trivial ?_
 simp only[ZaK,EVA,seval,Zc,men]
 refine Za (ZjJ n hn) ?_
 simp only[EVA,seval,Zc,men]
theorem XO(n:Int)(hn:smN n)(lvl:Nat)(S:Sto):Sem Proofs.Tryz.prog ZB lvl [iI n] S (iS (ZH n)) S:=by
 obtain⟨h0,h1⟩:=hn
 by_cases h:0<=n
 ·rw[ZbN h]
  exact ZfQ h h1 lvl S
 ·rw[D0 (by omega)]
  refine Ze V5 trivial ?_
  have hlt:n<0:=by omega
  have z:=Zcv (n:=-n) (by omega) (by omega)
  have e:(⟨#[45]⟩:ByteArray).size=1:=rfl
  have hz:(0:Int)-n = -n:=by omega
  simp only[Vb,hlt,hz,EVA,seval,Zc,men]
  refine⟨by rw[Zd];omega,Za (ZfQ (n:=-n) (by omega) (by omega)) ?_⟩
  simp only[e,EVA,seval,Zc,men]
  try omega
abbrev spI(k:Int):ByteArray:=⟨#[32]⟩++ZH k
theorem Xs{k:Int}(h:smN k):(spI k).size<=4:=by
 have:=Jg h
 rw[ByteArray.size_append,ZqP]
 omega
def smL(l:List Int):Prop:=∀ k∈l,smN k
theorem We(word:ByteArray)(l:List Int)(hl:smL l)(hw:word.size<=100000000)(hL:l.length<=1000)(lvl:Nat)(S:Sto):Sem Proofs.Tryz.prog JN lvl [iS word,tI l] S (iS (YJ spI word l)) S:=by
 refine Ze Zcq trivial ?_
 simp only[Ub,List.length_map,EVA,seval,Zc,men]
 refine ZE (α:=Unit) l.length (fun j _=>[(0,iS (YJ spI word (l.take j))),(9,iI j)]) (fun j _=>[]) (fun _ _=>True) () (by simp only[EVA,seval,Zc,men]) (by (simp only[EVA,seval,Zc,men]) <;> rfl) trivial ?_
 intro j _ hj _
 simp only[List.length_map,EVA,seval,Zc,men]
 refine Zk (fun hlt=>?_) (fun hge=>?_)
 ·have hja:j<l.length:=by omega
  have ga:=DW hja
  have e:g0 l j=l[j]:=by simp [hja]
  have hk:=hl l[j] (List.getElem_mem hja)
  rw[<-e] at hk
  have z1:=Yz (f:=spI) (B:=4) (l.take j) word fun k hk=>Xs (hl k (List.mem_of_mem_take hk))
  have z2:(l.take j).length=j:=by rw[List.length_take];omega
  have z3:=Jg hk
  rw[z2] at z1
  simp only[ga,List.length_map,EVA,seval,Zc,men]
  refine Za (D7 _ hk) ?_
  simp only[ByteArray.size_append,ZqP,EVA,seval,Zc,men]
  exact⟨by omega,by omega,by rw[Zd];omega,Zf () hja (by rw[Zdz hja];rfl) trivial⟩
 ·have:j=l.length:=by omega
  subst this
  rw[List.take_length]
theorem Uf(l:List Int)(hl:smL l)(hL:l.length<=1000)(lvl:Nat)(S:Sto):Sem Proofs.Tryz.prog J1 lvl [tI l] S (iS (YJ spI ⟨#[]⟩ l)) S:=by
 refine Ze Zc3 trivial ?_
 simp only[UW,List.length_map,EVA,seval,Zc,men]
 refine ZE (α:=Unit) l.length (fun j _=>[(3,iS (YJ spI ⟨#[]⟩ (l.take j))),(4,iI j)]) (fun j _=>[]) (fun _ _=>True) () (by simp only[EVA,seval,Zc,men]) (by (simp only[EVA,seval,Zc,men]) <;> rfl) trivial ?_
 intro j _ hj _
 simp only[List.length_map,EVA,seval,Zc,men]
 refine Zk (fun hlt=>?_) (fun hge=>?_)
 ·have hja:j<l.length:=by omega
  have ga:=DW hja
  have e:g0 l j=l[j]:=by simp [hja]
  have hk:=hl l[j] (List.getElem_mem hja)
  rw[<-e] at hk
  have z1:=Yz (f:=spI) (B:=4) (l.take j) ⟨#[]⟩ fun k hk=>Xs (hl k (List.mem_of_mem_take hk))
  have z2:(l.take j).length=j:=by rw[List.length_take];omega
  have z3:=Jg hk
  rw[z2,show (⟨#[]⟩:ByteArray).size=0 from rfl] at z1
  simp only[ga,List.length_map,ByteArray.size_append,ZqP,EVA,seval,Zc,men]
  refine⟨by omega,Za (XO _ hk) ?_⟩
  simp only[ByteArray.size_append,ZqP,EVA,seval,Zc,men]
  exact⟨by omega,by rw[Zd];omega,Zf () hja (by rw[Zdz hja,spI,<-ByteArray.append_assoc];rfl) trivial⟩
 ·have:j=l.length:=by omega
  subst this
  rw[List.take_length]
end Go.Fd

namespace Go.Fd
set_option maxRecDepth 20000
theorem ZfR{P:Nat->Prop}{j:Nat}(h:∀ k,k<j->P k)(hj:P j):∀ k,k<j+1->P k:=fun k hk=>by
 by_cases e:k=j
 ·subst e;exact hj
 ·exact h k (by omega)
theorem ZhD{n a b:Int}:inB n a b=dc (a<=n/\n<=b):=by
 unfold inB
 rw[J2,Bool.decide_and]
theorem ZlP:∀(x y:List UInt8),(!Op.bytesLess x y)=(Op.bytesLess y x || decide (x=y))
 | [],[]=>by simp [Op.bytesLess]
 | [],_::_=>by simp [Op.bytesLess]
 | _::_,[]=>by simp [Op.bytesLess]
 | a::x,b::y=>by
  have ih:=ZlP x y
  simp only[Op.bytesLess]
  by_cases h:a=b
  ·subst h
   have e:¬ a<a:=UInt8.lt_irrefl a
   simp [e,ih]
  ·by_cases h1:a<b
   ·have h2:¬ b<a:=fun h2=>UInt8.lt_irrefl a (UInt8.lt_trans h1 h2)
    have h3:¬ b=a:=fun e=>h e.symm
    simp [h,h1,h2,h3]
   ·have h2:b<a:=by
     rcases UInt8.lt_or_lt_of_ne h with h | h
     ·exact absurd h h1
     ·exact h
    simp [h,h1,h2]
def ltS(s t:ByteArray):Prop:=Op.bytesLess s.data.toList t.data.toList=true
theorem Zni{s t:ByteArray}:(!Op.bytesLess s.data.toList t.data.toList) = !dc (ltS s t):=by
 unfold ltS
 rw[J2,Bool.decide_eq_true]
theorem Znj{s t:ByteArray}:(Op.bytesLess t.data.toList s.data.toList || decide (t=s)) = !dc (ltS s t):=by
 rw[<-Zni,ZlP]
 congr 1
 have:t=s↔s.data.toList=t.data.toList:=⟨fun h=>by rw[h],fun h=>by
  cases s with | mk s=>cases t with | mk t=>exact congrArg ByteArray.mk (Array.toList_inj.1 h.symm)⟩
 simp only[this]
def Zqn(l:List ByteArray)(i:Nat):Prop:=∀ h:i<l.length,Zdv l[i]/\∀ _:0<i,ltS (l[i-1]'(by omega)) l[i]
def VH(l:List ByteArray):Prop:=(∀ i,Zqn l i)/\l.length<=16
theorem Zcw(l:List ByteArray)(hl:l.length<=4294967296)(hb:∀ y∈l,y.size<=4294967296)(lvl:Nat)(S:Sto):Sem Proofs.Tryz.prog YV lvl [.tr (.sl (rS l))] S (iB (dc (VH l))) S:=by
 refine Ze Zc6 trivial ?_
 simp only[UZ,List.length_map,EVA,seval,Zc,men]
 refine ZE (α:=Unit) l.length (fun j _=>[(3,iI j)]) (fun j _=>[]) (fun j _=>∀ k,k<j->Zqn l k) () (by simp only[EVA,seval,Zc,men]) (by (simp only[EVA,seval,Zc,men]) <;> rfl) (fun k hk=>absurd hk (Nat.not_lt_zero k)) ?_
 intro j _ hj hA
 simp only[List.length_map,EVA,seval,Zc,men]
 refine Zk (fun hlt=>?_) (fun hge=>?_)
 ·have hja:j<l.length:=by omega
  have ga:=Xo (c:=fun s=>[ts s]) hja
  have hno:¬ Zqn l j->dc (VH l)=false:=fun h=>Zh fun g=>h (g.1 j)
  simp only[ga,List.length_map,EVA,seval,Zc,men]
  refine Za (Zdw l[j] (by have:=hb _ (List.getElem_mem hja);omega)) ?_
  cases h1:dc (Zdv l[j])
  ·simp only[EVA,seval,Zc,men]
   rw[hno fun h=>dc_not.1 h1 (h hja).1]
  by_cases q:0<j
  ·have e1:((j:Int)-1).toNat=j-1:=by omega
   have e2:(0:Int)<=j-1:=by omega
   have q5:(0:Int)<j:=by omega
   have gb:=Xo (c:=fun s=>[ts s]) (l:=l) (j:=j-1) (by omega)
   simp only[q5,e1,e2,ga,gb,List.length_map,EVA,seval,Zc,men]
   cases hc:Op.bytesLess (l[j-1]'(by omega)).data.toList l[j].data.toList
   ·simp only[EVA,seval,Zc,men]
    exact⟨by rw[Zd];omega,by rw[hno fun h=>by have:=(h hja).2 q;unfold ltS at this;rw[this] at hc;cases hc]⟩
   ·simp only[EVA,seval,Zc,men]
    exact⟨by rw[Zd];omega,by rw[Zd];omega,Zf () hja rfl (ZfR hA fun _=>⟨dc_iff.1 h1,fun _=>hc⟩)⟩
  ·have q5:¬ (0:Int)<j:=by omega
   simp only[q5,ga,List.length_map,EVA,seval,Zc,men]
   exact⟨by rw[Zd];omega,Zf () hja rfl (ZfR hA fun _=>⟨dc_iff.1 h1,fun h=>absurd h q⟩)⟩
 ·have hj1:j=l.length:=by omega
  subst hj1
  rw[JK (p:=VH l) (q:=(l.length:Int)<=16) ⟨fun g=>by have:=g.2;omega,fun g=>⟨fun i h=>hA i h h,by omega⟩⟩,J2]
theorem Zbc(l:List ByteArray)(hl:l.length<=4294967296)(hb:∀ y∈l,y.size<=4294967296)(lvl:Nat)(S:Sto):Sem Proofs.Tryz.prog Yx lvl [.tr (.sl (rS l))] S (iB (dc (VH l))) S:=by
 refine Ze Zcr trivial ?_
 simp only[Uc,List.length_map,EVA,seval,Zc,men]
 refine ZE (α:=Unit) l.length (fun j _=>[(7,iI j)]) (fun j _=>[]) (fun j _=>∀ k,k<j->Zqn l k) () (by simp only[EVA,seval,Zc,men]) (by (simp only[EVA,seval,Zc,men]) <;> rfl) (fun k hk=>absurd hk (Nat.not_lt_zero k)) ?_
 intro j _ hj hA
 simp only[List.length_map,EVA,seval,Zc,men]
 refine Zk (fun hlt=>?_) (fun hge=>?_)
 ·have hja:j<l.length:=by omega
  have ga:=Xo (c:=fun s=>[ts s]) hja
  have hno:¬ Zqn l j->dc (VH l)=false:=fun h=>Zh fun g=>h (g.1 j)
  simp only[ga,List.length_map,EVA,seval,Zc,men]
  refine Za (Zdx l[j] (by have:=hb _ (List.getElem_mem hja);omega)) ?_
  cases h1:dc (Zdv l[j])
  ·simp only[EVA,seval,Zc,men]
   rw[hno fun h=>dc_not.1 h1 (h hja).1]
  by_cases q:0<j
  ·have e1:((j:Int)-1).toNat=j-1:=by omega
   have e2:(0:Int)<=j-1:=by omega
   have q5:(0:Int)<j:=by omega
   have gb:=Xo (c:=fun s=>[ts s]) (l:=l) (j:=j-1) (by omega)
   simp only[q5,e1,e2,ga,gb,List.length_map,EVA,seval,Zc,men]
   rw[Znj]
   cases hc:dc (ltS (l[j-1]'(by omega)) l[j])
   ·simp only[EVA,seval,Zc,men]
    exact⟨by rw[Zd];omega,by rw[hno fun h=>dc_not.1 hc ((h hja).2 q)]⟩
   ·simp only[EVA,seval,Zc,men]
    exact⟨by rw[Zd];omega,by rw[Zd];omega,Zf () hja rfl (ZfR hA fun _=>⟨dc_iff.1 h1,fun _=>dc_iff.1 hc⟩)⟩
  ·have q5:¬ (0:Int)<j:=by omega
   simp only[q5,ga,List.length_map,EVA,seval,Zc,men]
   exact⟨by rw[Zd];omega,Zf () hja rfl (ZfR hA fun _=>⟨dc_iff.1 h1,fun h=>absurd h q⟩)⟩
 ·have hj1:j=l.length:=by omega
  subst hj1
  rw[JK (p:=VH l) (q:=(l.length:Int)<=16) ⟨fun g=>by have:=g.2;omega,fun g=>⟨fun i h=>hA i h h,by omega⟩⟩,J2]
def QZ(b:TBigraph)(l:Int):Prop:=0<=l/\l<=b.edges+b.outer.length-1
theorem ZdA(b:TBigraph)(l:Int)(he:0<=b.edges/\b.edges<=8)(ho:b.outer.length<=4294967296)(lvl:Nat)(S:Sto):Sem Proofs.Tryz.prog VB lvl [.ag ((Zb b).map .tr),iI l] S (iB (dc (QZ b l))) S:=by
 refine Ze Zew trivial ?_
 simp only[DM,Zb,List.length_map,EVA,seval,Zc,men]
 refine⟨by rw[Zd];omega,by rw[Zd];omega,?_⟩
 refine Za (Jt l 0 (b.edges+b.outer.length-1)) ?_
 simp only[EVA,seval,Zc,men]
 rw[ZhD]
 rfl
theorem ZdB(b:TBigraph)(l:Int)(he:0<=b.edges/\b.edges<=8)(ho:b.outer.length<=4294967296)(lvl:Nat)(S:Sto):Sem Proofs.Tryz.prog Jn lvl [.ag ((Zb b).map .tr),iI l] S (iB (dc (QZ b l))) S:=by
 refine Ze Ud trivial ?_
 simp only[V6,Zb,List.length_map,EVA,seval,Zc,men]
 refine⟨by rw[Zd];omega,by rw[Zd];omega,?_⟩
 refine Za (Yy l 0 (b.edges+b.outer.length-1)) ?_
 simp only[EVA,seval,Zc,men]
 rw[ZhD]
 rfl
def ZfS(sig:List TControl)(c:Int):Int:=((sig[c.toNat]?).map TControl.kind_).getD 0
def Dd(sig:List TControl)(c:Int):Int:=((sig[c.toNat]?).map TControl.ports).getD 0
def ZjK(b:TBigraph)(p:Int):Int:=((b.nodes[p.toNat]?).map TNode.control).getD 0
def Ug(sig:List TControl)(b:TBigraph)(p Zbh:Int):Prop:=(p<0/\-b.roots<=p)\/(0<=p/\p<Zbh/\¬ ZfS sig (ZjK b p)=2)
def ZfT(sig:List TControl)(b:TBigraph)(n:Nat):Prop:=∀ i,i<n->∀ h:i<b.nodes.length,0<=b.nodes[i].control/\b.nodes[i].control<=(sig.length:Int)-1
theorem Zcx(sig:List TControl)(b:TBigraph)(p:Int)(k:Nat)(hp:WM .i64 p)(hr:0<=b.roots/\b.roots<=4)(hk:k<=b.nodes.length)(hc:ZfT sig b k)(lvl:Nat)(S:Sto):Sem Proofs.Tryz.prog YW lvl [.tr (.sl (sig.map Zg)),.ag ((Zb b).map .tr),iI p,iI k] S (iB (dc (Ug sig b p k))) S:=by
 rw[Zd] at hp
 refine Ze Zc8 trivial ?_
 simp only[U1,Zb,List.length_map,EVA,seval,Zc,men]
 refine Zk (fun hneg=>?_) (fun hpos=>?_)
 ·refine⟨by rw[Zd];omega,by rw[Zd];omega,?_⟩
  refine Za (Jt (-1-p) 0 (b.roots-1)) ?_
  simp only[EVA,seval,Zc,men]
  have hiff:(0 <= -1-p/\-1-p<=b.roots-1)↔Ug sig b p k:=⟨fun h=>.inl (by omega),fun h=>by rcases h with h | h <;> omega⟩
  rw[ZhD,JK hiff]
 ·refine Zk (fun hb=>?_) (fun hb=>?_)
  ·obtain⟨q,rfl⟩:∃ q:Nat,p=q:=⟨p.toNat,by omega⟩
   have hq:q<b.nodes.length:=by omega
   have ga:=Xo (c:=ZA) hq
   obtain⟨m1,m2⟩:=hc q (by omega) hq
   obtain⟨m,hm⟩:∃ m:Nat,b.nodes[q].control=m:=⟨b.nodes[q].control.toNat,by omega⟩
   have hms:m<sig.length:=by omega
   have gs:=Xo (c:=Zg) hms
   simp only[hb,ga,gs,ZA,Zg,hm,Int.toNat_natCast,Int.natCast_nonneg,List.length_map,EVA,seval,Zc,men]
   have e:ZfS sig (ZjK b q)=sig[m].kind_:=by simp [ZfS,ZjK,hq,hm,hms]
   have hiff:Ug sig b q k ↔ ¬ sig[m].kind_=2:=by
    constructor
    ·intro h
     rcases h with h | h
     ·omega
     ·rw[<-e];exact h.2.2
    ·intro h
     exact .inr ⟨by omega,hb,by rw[e];exact h⟩
   rw[JK hiff,J2]
  ·rw[Zh fun h:Ug sig b p k=>by rcases h with h | h <;> omega]
theorem Zbd(sig:List TControl)(b:TBigraph)(p:Int)(k:Nat)(hr:0<=b.roots/\b.roots<=4)(hk:k<=b.nodes.length)(hc:ZfT sig b k)(lvl:Nat)(S:Sto):Sem Proofs.Tryz.prog Jc lvl [.ag ((Zb b).map .tr),.tr (.sl (sig.map Zg)),iI p,iI k] S (iB (dc (Ug sig b p k))) S:=by
 refine Ze X9 trivial ?_
 simp only[VE,Zb,List.length_map,EVA,seval,Zc,men]
 refine Zk (fun hneg=>?_) (fun hpos=>?_)
 ·refine⟨by rw[Zd];omega,?_⟩
  have hiff:Ug sig b p k ↔ -b.roots<=p:=⟨fun h=>by rcases h with h | h <;> omega,fun h=>.inl (by omega)⟩
  rw[JK hiff,J2]
 ·refine Zk (fun hb=>?_) (fun hb=>?_)
  ·obtain⟨q,rfl⟩:∃ q:Nat,p=q:=⟨p.toNat,by omega⟩
   have hq:q<b.nodes.length:=by omega
   have ga:=Xo (c:=ZA) hq
   obtain⟨m1,m2⟩:=hc q (by omega) hq
   obtain⟨m,hm⟩:∃ m:Nat,b.nodes[q].control=m:=⟨b.nodes[q].control.toNat,by omega⟩
   have hms:m<sig.length:=by omega
   have gs:=Xo (c:=Zg) hms
   simp only[hb,ga,gs,ZA,Zg,hm,Int.toNat_natCast,Int.natCast_nonneg,List.length_map,EVA,seval,Zc,men]
   have e:ZfS sig (ZjK b q)=sig[m].kind_:=by simp [ZfS,ZjK,hq,hm,hms]
   have hiff:Ug sig b q k ↔ ¬ sig[m].kind_=2:=by
    constructor
    ·intro h
     rcases h with h | h
     ·omega
     ·rw[<-e];exact h.2.2
    ·intro h
     exact .inr ⟨by omega,hb,by rw[e];exact h⟩
   rw[JK hiff,J2]
  ·rw[Zh fun h:Ug sig b p k=>by rcases h with h | h <;> omega]
structure nodeOK (sig:List TControl) (b:TBigraph) (x:TNode) (i:Nat):Prop where
 ctl:0<=x.control/\x.control<=(sig.length:Int)-1
 par:Ug sig b x.parent i
 ports:(x.links.length:Int)=Dd sig x.control
 links:∀ l∈x.links,QZ b l
theorem Zig(sig:List TControl)(b:TBigraph)(i:Nat)(hi:i<b.nodes.length)(hn:sig.length<=4294967296)(hl:b.nodes[i].links.length<=4294967296)(hp:WM .i64 b.nodes[i].parent)(hr:0<=b.roots/\b.roots<=4)(he:0<=b.edges/\b.edges<=8)(ho:b.outer.length<=4294967296)(hc:ZfT sig b i)(lvl:Nat)(S:Sto):Sem Proofs.Tryz.prog QQ lvl [.tr (.sl (sig.map Zg)),.ag ((Zb b).map .tr),iI i] S (iB (dc (nodeOK sig b b.nodes[i] i))) S:=by
 refine Ze Zev trivial ?_
 have ga:=Xo (c:=ZA) hi
 simp only[DL,Zb,List.length_map,ga,ZA,EVA,seval,Zc,men]
 refine⟨by rw[Zd];omega,?_⟩
 refine Za (Jt b.nodes[i].control 0 ((sig.length:Int)-1)) ?_
 cases h1:inB b.nodes[i].control 0 ((sig.length:Int)-1)
 ·simp only[EVA,seval,Zc,men]
  rw[Zh fun h:nodeOK sig b b.nodes[i] i=>inB_not.1 h1 h.ctl]
 have r1:=inB_iff.1 h1
 simp only[Zb,List.length_map,ZA,EVA,seval,Zc,men]
 refine Za (Zcx sig b b.nodes[i].parent i hp hr (by omega) hc) ?_
 cases h2:dc (Ug sig b b.nodes[i].parent i)
 ·simp only[EVA,seval,Zc,men]
  rw[Zh fun h:nodeOK sig b b.nodes[i] i=>dc_not.1 h2 h.par]
 obtain⟨m,hm⟩:∃ m:Nat,b.nodes[i].control=m:=⟨b.nodes[i].control.toNat,by omega⟩
 have hms:m<sig.length:=by omega
 have gs:=Xo (c:=Zg) hms
 have e:Dd sig b.nodes[i].control=sig[m].ports:=by simp [Dd,hm,hms]
 simp only[hm,gs,Zg,Zb,List.length_map,ZA,EVA,seval,Zc,men]
 refine Zk (fun hne=>?_) (fun heq=>?_)
 ·rw[Zh fun h:nodeOK sig b b.nodes[i] i=>by have:=h.ports;rw[e] at this;exact hne this]
 refine ZE (α:=Unit) b.nodes[i].links.length (fun j _=>[(8,iI j)]) (fun j _=>[]) (fun j _=>∀ k,k<j->QZ b (g0 b.nodes[i].links k)) () (by simp only[EVA,seval,Zc,men]) (by (simp only[EVA,seval,Zc,men]) <;> rfl) (fun k hk=>absurd hk (Nat.not_lt_zero k)) ?_
 intro j _ hj hA
 simp only[List.length_map,EVA,seval,Zc,men]
 refine Zk (fun hlt=>?_) (fun hge=>?_)
 ·have hja:j<b.nodes[i].links.length:=by omega
  have gl:=DW hja
  simp only[gl,List.length_map,EVA,seval,Zc,men]
  refine Za (ZdA b (g0 b.nodes[i].links j) he ho) ?_
  cases hc:dc (QZ b (g0 b.nodes[i].links j))
  ·simp only[EVA,seval,Zc,men]
   rw[Zh fun h:nodeOK sig b b.nodes[i] i=>dc_not.1 hc (h.links _ (by simp [hja]))]
  ·simp only[EVA,seval,Zc,men]
   exact⟨by rw[Zd];omega,Zf () hja rfl (ZfR hA (dc_iff.1 hc))⟩
 ·have hj1:j=b.nodes[i].links.length:=by omega
  subst hj1
  have:nodeOK sig b b.nodes[i] i:=⟨r1,dc_iff.1 h2,by rw[e];omega,fun l hl=>by
   obtain⟨k,hk,rfl⟩:=List.getElem_of_mem hl
   have:=hA k hk
   simpa [hk] using this⟩
  rw[JF this]
def inn(b:TBigraph):List ByteArray:=b.inner.map TWire.name
theorem ZhE(a b:List ByteArray):rS (a++b)=rS a++rS b:=List.map_append
theorem ZgK(b:TBigraph)(hn:b.inner.length<=4294967296)(lvl:Nat)(S:Sto):Sem Proofs.Tryz.prog Qi lvl [.ag ((Zb b).map .tr)] S (.ow 1 (rS (inn b)) true) S:=by
 refine Ze Zc7 trivial ?_
 simp only[U0,List.length_map,Zb,EVA,seval,Zc,men]
 refine ZE (α:=Unit) b.inner.length (fun j _=>[(3,.hd (lvl,160) [] 0 j none j),(4,iI j)]) (fun j _=>[(160,.ar 1 (rS ((inn b).take j)) true j 0)]) (fun _ _=>True) () (by simp only[EVA,seval,Zc,men]) (by (simp only[EVA,seval,Zc,men]) <;> rfl) trivial ?_
 intro j _ hj _
 have hil:(inn b).length=b.inner.length:=by simp [inn]
 simp only[List.length_map,EVA,seval,Zc,men]
 refine Zk (fun hlt=>?_) (fun hge=>?_)
 ·have hja:j<b.inner.length:=by omega
  have ga:=Xo (c:=ZK) hja
  have hlN:(rS ((inn b).take j)).length=j:=by rw[List.length_map,List.length_take];omega
  simp only[ga,ZK,hlN,List.length_map,EVA,seval,Zc,men]
  have hstep:rS ((inn b).take j)++[[ts b.inner[j].name]]=rS ((inn b).take (j+1)):=by
   rw[List.take_succ_eq_append_getElem (by omega),ZhE]
   simp [inn]
  refine⟨by omega,by rw[Zd];omega,Zf () hja ?_ trivial⟩
  rw[<-hstep]
  rfl
 ·have:j=b.inner.length:=by omega
  subst this
  rw[List.take_of_length_le (by omega)]
  exact⟨hil.symm,rfl⟩
end Go.Fd

namespace Go.Fd
set_option maxRecDepth 20000
theorem Zdd(b:TBigraph)(hn:b.inner.length<=4294967296)(lvl:Nat)(S:Sto):Sem Proofs.Tryz.prog Jq lvl [.ag ((Zb b).map .tr)] S (.ow 1 (rS (inn b)) true) S:=by
 refine Ze XA trivial ?_
 simp only[YT,List.length_map,Zb,EVA,seval,Zc,men]
 refine ZE (α:=Unit) b.inner.length (fun j _=>[(3,.hd (lvl,192) [] 0 j none j),(10,iI j)]) (fun j _=>[(192,.ar 1 (rS ((inn b).take j)) true j 0)]) (fun _ _=>True) () (by simp only[EVA,seval,Zc,men]) (by (simp only[EVA,seval,Zc,men]) <;> rfl) trivial ?_
 intro j _ hj _
 have hil:(inn b).length=b.inner.length:=by simp [inn]
 simp only[List.length_map,EVA,seval,Zc,men]
 refine Zk (fun hlt=>?_) (fun hge=>?_)
 ·have hja:j<b.inner.length:=by omega
  have ga:=Xo (c:=ZK) hja
  have hlN:(rS ((inn b).take j)).length=j:=by rw[List.length_map,List.length_take];omega
  simp only[ga,ZK,hlN,List.length_map,EVA,seval,Zc,men]
  have hstep:rS ((inn b).take j)++[[ts b.inner[j].name]]=rS ((inn b).take (j+1)):=by
   rw[List.take_succ_eq_append_getElem (by omega),ZhE]
   simp [inn]
  refine⟨by omega,by rw[Zd];omega,Zf () hja ?_ trivial⟩
  rw[<-hstep]
  rfl
 ·have:j=b.inner.length:=by omega
  subst this
  rw[List.take_of_length_le (by omega)]
  exact⟨hil.symm,rfl⟩
def ZhF(sig:List TControl)(b:TBigraph)(i:Nat):Prop:=∀ h:i<b.nodes.length,nodeOK sig b b.nodes[i] i
structure bigOK (sig:List TControl) (b:TBigraph):Prop where
 sg:XC sig
 roots:0<=b.roots/\b.roots<=4
 nodesL:b.nodes.length<=8
 sitesL:b.sites.length<=4
 edges:0<=b.edges/\b.edges<=8
 outer:VH b.outer
 inn:VH (inn b)
 nodes:∀ i,ZhF sig b i
 sites:∀ p∈b.sites,Ug sig b p b.nodes.length
 inner:∀ w∈b.inner,QZ b w.link
theorem ZeD{sig:List TControl}{b:TBigraph}{j:Nat}(h:∀ k,k<j->ZhF sig b k):ZfT sig b j:=fun i hi hl=>(h i hi hl).ctl
theorem ZeE{b:TBigraph}:(inn b).length=b.inner.length:=by simp [inn]
theorem ZjL{b:TBigraph}{n:Nat}(h:∀ y∈b.inner,UR n y):∀ y∈inn b,y.size<=n:=fun y hy=>by
 obtain⟨w,hw,rfl⟩:=List.mem_map.1 hy
 exact h w hw
theorem ZaN(sig:List TControl)(b:TBigraph)(hn:sig.length<=4294967296)(hbs:∀ y∈sig,Zz 4294967296 y)(hb:ZP 4294967296 b)(hf:XK b)(lvl:Nat)(S:Sto):Sem Proofs.Tryz.prog Yl lvl [.tr (.sl (sig.map Zg)),.ag ((Zb b).map .tr)] S (iB (dc (bigOK sig b))) S:=by
 obtain⟨b1,b2,b3,b4,b5,b6,b7⟩:=hb
 obtain⟨f1,f2,f3,f4,f5⟩:=hf
 refine Ze Zeq trivial ?_
 simp only[DD,List.length_map,Zb,EVA,seval,Zc,men]
 refine Za (DX sig (by omega) (fun y hy=>Zct (hbs y hy))) ?_
 cases h1:dc (XC sig)
 ·simp only[EVA,seval,Zc,men]
  rw[Zh fun h:bigOK sig b=>dc_not.1 h1 h.sg]
 simp only[List.length_map,Zb,EVA,seval,Zc,men]
 refine Za (Jt b.roots 0 4) ?_
 cases h2:inB b.roots 0 4
 ·simp only[EVA,seval,Zc,men]
  rw[Zh fun h:bigOK sig b=>inB_not.1 h2 h.roots]
 by_cases h3:(8:Int)<b.nodes.length
 ·simp only[h3,List.length_map,Zb,EVA,seval,Zc,men]
  rw[Zh fun h:bigOK sig b=>by have:=h.nodesL;omega]
 by_cases h4:(4:Int)<b.sites.length
 ·simp only[h3,h4,List.length_map,Zb,EVA,seval,Zc,men]
  rw[Zh fun h:bigOK sig b=>by have:=h.sitesL;omega]
 simp only[h3,h4,List.length_map,Zb,EVA,seval,Zc,men]
 refine Za (Jt b.edges 0 8) ?_
 cases h5:inB b.edges 0 8
 ·simp only[EVA,seval,Zc,men]
  rw[Zh fun h:bigOK sig b=>inB_not.1 h5 h.edges]
 have r2:=inB_iff.1 h2
 have r5:=inB_iff.1 h5
 simp only[List.length_map,Zb,EVA,seval,Zc,men]
 refine Za (Zcw b.outer (by assumption) (by assumption)) ?_
 cases h6:dc (VH b.outer)
 ·simp only[EVA,seval,Zc,men]
  rw[Zh fun h:bigOK sig b=>dc_not.1 h6 h.outer]
 by_cases h7:(16:Int)<b.inner.length
 ·simp only[h7,List.length_map,Zb,EVA,seval,Zc,men]
  rw[Zh fun h:bigOK sig b=>by have:=h.inn.2;rw[ZeE] at this;omega]
 simp only[h7,List.length_map,Zb,EVA,seval,Zc,men]
 refine Za (ZgK b (by omega)) ?_
 simp only[List.length_map,Zb,EVA,seval,Zc,men]
 refine Za (Zcw (inn b) (by rw[ZeE];omega) (ZjL (by assumption))) ?_
 cases h8:dc (VH (inn b))
 ·simp only[EVA,seval,Zc,men]
  rw[Zh fun h:bigOK sig b=>dc_not.1 h8 h.inn]
 simp only[List.length_map,Zb,EVA,seval,Zc,men]
 have ho:=(dc_iff.1 h6).2
 refine ZE (α:=Unit) b.nodes.length (fun j _=>[(5,iI j)]) (fun j _=>[]) (fun j _=>∀ k,k<j->ZhF sig b k) () (by simp only[EVA,seval,Zc,men]) (by (simp only[EVA,seval,Zc,men]) <;> rfl) (fun k hk=>absurd hk (Nat.not_lt_zero k)) ?_
 intro j _ hj hA
 simp only[List.length_map,Zb,EVA,seval,Zc,men]
 refine Zk (fun hlt=>?_) (fun hge=>?_)
 ·have hja:j<b.nodes.length:=by omega
  have hm:=List.getElem_mem hja
  refine Za (Zig sig b j hja hn (by first | exact(b2 _ hm) | exact(b3 _ hm)) (by first | exact(f1 _ hm).2.1 | exact(f2 _ hm).2.1) r2 r5 (by omega) (ZeD hA)) ?_
  cases hc:dc (nodeOK sig b b.nodes[j] j)
  ·simp only[EVA,seval,Zc,men]
   rw[Zh fun h:bigOK sig b=>dc_not.1 hc (h.nodes j hja)]
  ·simp only[EVA,seval,Zc,men]
   exact⟨by rw[Zd];omega,Zf () hja rfl (ZfR hA fun _=>dc_iff.1 hc)⟩
 have hj1:j=b.nodes.length:=by omega
 subst hj1
 refine ZE (α:=Unit) b.sites.length (fun j _=>[(6,iI j)]) (fun j _=>[]) (fun j _=>∀ k,k<j->Ug sig b (g0 b.sites k) b.nodes.length) () (by simp only[EVA,seval,Zc,men]) (by (simp only[EVA,seval,Zc,men]) <;> rfl) (fun k hk=>absurd hk (Nat.not_lt_zero k)) ?_
 intro j _ hj hB
 simp only[List.length_map,Zb,EVA,seval,Zc,men]
 refine Zk (fun hlt=>?_) (fun hge=>?_)
 ·have hja:j<b.sites.length:=by omega
  have ga:=DW hja
  have hg:g0 b.sites j∈b.sites:=by simp [hja]
  simp only[ga,List.length_map,Zb,EVA,seval,Zc,men]
  refine Za (Zcx sig b (g0 b.sites j) b.nodes.length (by first | exact f3 _ hg | exact f2 _ hg | exact f4 _ hg) r2 (Nat.le_refl _) (ZeD hA)) ?_
  cases hc:dc (Ug sig b (g0 b.sites j) b.nodes.length)
  ·simp only[EVA,seval,Zc,men]
   rw[Zh fun h:bigOK sig b=>dc_not.1 hc (h.sites _ hg)]
  ·simp only[EVA,seval,Zc,men]
   exact⟨by rw[Zd];omega,Zf () hja rfl (ZfR hB (dc_iff.1 hc))⟩
 have hj1:j=b.sites.length:=by omega
 subst hj1
 refine ZE (α:=Unit) b.inner.length (fun j _=>[(7,iI j)]) (fun j _=>[]) (fun j _=>∀ k,k<j->∀ h:k<b.inner.length,QZ b b.inner[k].link) () (by simp only[EVA,seval,Zc,men]) (by (simp only[EVA,seval,Zc,men]) <;> rfl) (fun k hk=>absurd hk (Nat.not_lt_zero k)) ?_
 intro j _ hj hC
 simp only[List.length_map,Zb,EVA,seval,Zc,men]
 refine Zk (fun hlt=>?_) (fun hge=>?_)
 ·have hja:j<b.inner.length:=by omega
  have ga:=Xo (c:=ZK) hja
  simp only[ga,ZK,List.length_map,Zb,EVA,seval,Zc,men]
  refine Za (ZdA b b.inner[j].link r5 (by omega)) ?_
  cases hc:dc (QZ b b.inner[j].link)
  ·simp only[EVA,seval,Zc,men]
   rw[Zh fun h:bigOK sig b=>dc_not.1 hc (h.inner _ (List.getElem_mem hja))]
  ·simp only[EVA,seval,Zc,men]
   exact⟨by rw[Zd];omega,Zf () hja rfl (ZfR hC fun _=>dc_iff.1 hc)⟩
 have hj1:j=b.inner.length:=by omega
 subst hj1
 have:bigOK sig b:=⟨dc_iff.1 h1,r2,by omega,by omega,r5,dc_iff.1 h6,dc_iff.1 h8,fun i h=>hA i h h,fun p hp=>by
  obtain⟨k,hk,rfl⟩:=List.getElem_of_mem hp
  have:=hB k hk
  simpa [hk] using this,fun w hw=>by
  obtain⟨k,hk,rfl⟩:=List.getElem_of_mem hw
  exact hC k hk hk⟩
 rw[JF this]
theorem Zcy(l:Int)(b:TBigraph)(he:0<=b.edges/\b.edges<=8)(ho:b.outer.length<=4294967296)(lvl:Nat)(S:Sto):Sem Proofs.Tryz.prog YF lvl [iI l,.ta (Zb b)] S (iB (!dc (QZ b l))) S:=by
 refine Ze DO trivial ?_
 simp only[Xj,Zb,EVA,seval,Zc,men]
 refine Za (ZdB b l he ho) ?_
 simp only[EVA,seval,Zc,men]
theorem Zcz(p:Int)(sig:List TControl)(b:TBigraph)(hr:0<=b.roots/\b.roots<=4)(hc:ZfT sig b b.nodes.length)(lvl:Nat)(S:Sto):Sem Proofs.Tryz.prog YG lvl [iI p,.ta (Zb b),.ta [Tr.sl (sig.map Zg)]] S (iB (!dc (Ug sig b p b.nodes.length))) S:=by
 refine Ze DP trivial ?_
 simp only[Xk,Zb,List.length_map,EVA,seval,Zc,men]
 refine Za (Zbd sig b p b.nodes.length hr (Nat.le_refl _) hc) ?_
 simp only[EVA,seval,Zc,men]
theorem ZcA(w:TWire)(b:TBigraph)(he:0<=b.edges/\b.edges<=8)(ho:b.outer.length<=4294967296)(lvl:Nat)(S:Sto):Sem Proofs.Tryz.prog YH lvl [.ag ((ZK w).map .tr),.ta (Zb b)] S (iB (!dc (QZ b w.link))) S:=by
 refine Ze DQ trivial ?_
 simp only[Xl,Zb,ZK,EVA,seval,Zc,men]
 refine Za (ZdB b w.link he ho) ?_
 simp only[EVA,seval,Zc,men]
theorem Zqo:Z3 Proofs.Tryz.prog Ja (Zk6 2 (some 2))=true:=by kernel_rfl
theorem Zqp:Z3 Proofs.Tryz.prog Z4 (Zne Ja)=true:=by kernel_rfl
theorem any_no{α:Type}{l:List α}{p:α->Prop}:(l.any fun n=>!dc (p n))=false↔∀ n∈l,p n:=by
 simp only[List.any_eq_false,Bool.not_eq_true',Bool.not_eq_false,dc_iff]
theorem VI(sig:List TControl)(b:TBigraph)(hn:sig.length<=4294967296)(hbs:∀ y∈sig,Zz 4294967296 y)(hb:ZP 4294967296 b)(lvl:Nat)(S:Sto):Sem Proofs.Tryz.prog JC lvl [.tr (.sl (sig.map Zg)),.ag ((Zb b).map .tr)] S (iB (dc (bigOK sig b))) S:=by
 obtain⟨b1,b2,b3,b4,b5,b6,b7⟩:=hb
 refine Ze Zbn trivial ?_
 simp only[Wz,List.length_map,Zb,EVA,seval,Zc,men]
 refine Za (YI sig (by omega) (fun y hy=>Zct (hbs y hy))) ?_
 cases h1:dc (XC sig)
 ·simp only[EVA,seval,Zc,men]
  rw[Zh fun h:bigOK sig b=>dc_not.1 h1 h.sg]
 simp only[List.length_map,Zb,EVA,seval,Zc,men]
 refine Za (Yy b.roots 0 4) ?_
 cases h2:inB b.roots 0 4
 ·simp only[EVA,seval,Zc,men]
  rw[Zh fun h:bigOK sig b=>inB_not.1 h2 h.roots]
 by_cases h3:(8:Int)<b.nodes.length
 ·simp only[h3,List.length_map,Zb,EVA,seval,Zc,men]
  rw[Zh fun h:bigOK sig b=>by have:=h.nodesL;omega]
 by_cases h4:(4:Int)<b.sites.length
 ·simp only[h3,h4,List.length_map,Zb,EVA,seval,Zc,men]
  rw[Zh fun h:bigOK sig b=>by have:=h.sitesL;omega]
 simp only[h3,h4,List.length_map,Zb,EVA,seval,Zc,men]
 refine Za (Yy b.edges 0 8) ?_
 cases h5:inB b.edges 0 8
 ·simp only[EVA,seval,Zc,men]
  rw[Zh fun h:bigOK sig b=>inB_not.1 h5 h.edges]
 have r2:=inB_iff.1 h2
 have r5:=inB_iff.1 h5
 simp only[List.length_map,Zb,EVA,seval,Zc,men]
 refine Za (Zbc b.outer (by assumption) (by assumption)) ?_
 cases h6:dc (VH b.outer)
 ·simp only[EVA,seval,Zc,men]
  rw[Zh fun h:bigOK sig b=>dc_not.1 h6 h.outer]
 simp only[List.length_map,Zb,EVA,seval,Zc,men]
 refine Za (Zdd b (by omega)) ?_
 simp only[List.length_map,Zb,EVA,seval,Zc,men]
 refine Za (Zbc (inn b) (by rw[ZeE];omega) (ZjL (by assumption))) ?_
 cases h8:dc (VH (inn b))
 ·simp only[EVA,seval,Zc,men]
  rw[Zh fun h:bigOK sig b=>dc_not.1 h8 h.inn]
 simp only[List.length_map,Zb,EVA,seval,Zc,men]
 have ho:=(dc_iff.1 h6).2
 refine ZE (α:=Unit) b.nodes.length (fun j _=>[(49,iI j)]) (fun j _=>[]) (fun j _=>∀ k,k<j->ZhF sig b k) () (by simp only[EVA,seval,Zc,men]) (by (simp only[EVA,seval,Zc,men]) <;> rfl) (fun k hk=>absurd hk (Nat.not_lt_zero k)) ?_
 intro j _ hj hA
 simp only[List.length_map,Zb,EVA,seval,Zc,men]
 refine Zk (fun hlt=>?_) (fun hge=>?_)
 ·have hja:j<b.nodes.length:=by omega
  have hm:=List.getElem_mem hja
  have ga:=Xo (c:=ZA) hja
  have hll:b.nodes[j].links.length<=4294967296:=by first | exact(b2 _ hm) | exact(b3 _ hm)
  have hno:¬ nodeOK sig b b.nodes[j] j->dc (bigOK sig b)=false:=fun h=>Zh fun g=>h (g.nodes j hja)
  simp only[ga,ZA,List.length_map,Zb,EVA,seval,Zc,men]
  refine⟨by rw[Zd];omega,?_⟩
  refine Za (Yy b.nodes[j].control 0 ((sig.length:Int)-1)) ?_
  cases p1:inB b.nodes[j].control 0 ((sig.length:Int)-1)
  ·simp only[EVA,seval,Zc,men]
   rw[hno fun h=>inB_not.1 p1 h.ctl]
  have q1:=inB_iff.1 p1
  simp only[ZA,List.length_map,Zb,EVA,seval,Zc,men]
  refine Za (Zbd sig b b.nodes[j].parent j r2 (by omega) (ZeD hA)) ?_
  cases p2:dc (Ug sig b b.nodes[j].parent j)
  ·simp only[EVA,seval,Zc,men]
   rw[hno fun h=>dc_not.1 p2 h.par]
  obtain⟨m,hmm⟩:∃ m:Nat,b.nodes[j].control=m:=⟨b.nodes[j].control.toNat,by omega⟩
  have hms:m<sig.length:=by omega
  have gs:=Xo (c:=Zg) hms
  have e:Dd sig b.nodes[j].control=sig[m].ports:=by simp [Dd,hmm,hms]
  by_cases p3:(b.nodes[j].links.length:Int)=sig[m].ports
  case neg =>
   simp only[p3,hmm,gs,Int.toNat_natCast,Int.natCast_nonneg,Zg,ZA,List.length_map,Zb,EVA,seval,Zc,men]
   rw[hno fun h=>p3 (by rw[<-e];exact h.ports)]
  simp only[p3,hmm,gs,Int.toNat_natCast,Int.natCast_nonneg,Zg,ZA,List.length_map,Zb,EVA,seval,Zc,men]
  refine Za (ZeB (t:=tv) (cs:=[Zb b]) ZjH ZjG b.nodes[j].links (by omega) (fun x _ lvl S=>Zcy x b r5 (by omega) lvl S)) ?_
  cases p4:b.nodes[j].links.any fun l=>!dc (QZ b l)
  ·simp only[EVA,seval,Zc,men]
   exact⟨by rw[Zd];omega,Zf () hja rfl (ZfR hA fun _=>⟨q1,dc_iff.1 p2,by rw[e];exact p3,any_no.1 p4⟩)⟩
  ·simp only[EVA,seval,Zc,men]
   rw[hno fun h=>by rw[any_no.2 h.links] at p4;cases p4]
 have hj1:j=b.nodes.length:=by omega
 subst hj1
 refine Za (ZeB (t:=tv) (cs:=[Zb b,[Tr.sl (sig.map Zg)]]) ZjH ZjG b.sites (by omega) (fun x _ lvl S=>Zcz x sig b r2 (ZeD hA) lvl S)) ?_
 cases h9:b.sites.any fun p=>!dc (Ug sig b p b.nodes.length)
 case true =>
  simp only[EVA,seval,Zc,men]
  rw[Zh fun h:bigOK sig b=>by rw[any_no.2 h.sites] at h9;cases h9]
 simp only[List.length_map,Zb,EVA,seval,Zc,men]
 refine Za (ZhB (cs:=[Zb b]) Zqp Zqo (fun x=>rfl) b.inner (by omega) (fun x _ lvl S=>ZcA x b r5 (by omega) lvl S)) ?_
 cases h10:b.inner.any fun w=>!dc (QZ b w.link)
 case true =>
  simp only[EVA,seval,Zc,men]
  rw[Zh fun h:bigOK sig b=>by rw[(any_no (p:=fun w:TWire=>QZ b w.link)).2 h.inner] at h10;cases h10]
 simp only[EVA,seval,Zc,men]
 have:bigOK sig b:=⟨dc_iff.1 h1,r2,by omega,by omega,r5,dc_iff.1 h6,dc_iff.1 h8,fun i h=>hA i h h,any_no.1 h9,any_no.1 h10⟩
 rw[JF this]
end Go.Fd

namespace Go.Fd
set_option maxRecDepth 20000
def ZiH(f:Nat->Prop)[DecidablePred f]:Nat->List Int
 | 0=>[]
 | j+1=>if f j then ZiH f j++[(j:Int)] else ZiH f j
theorem ZcB{f:Nat->Prop}[DecidablePred f]:∀{j:Nat},(ZiH f j).length<=j
 | 0=>Nat.le_refl 0
 | j+1=>by
  unfold ZiH
  have:=ZcB (f:=f) (j:=j)
  split
  ·rw[List.length_append,List.length_singleton];omega
  ·omega
theorem ZbO{f:Nat->Prop}[DecidablePred f]{j:Nat}(h:f j):ZiH f (j+1)=ZiH f j++[(j:Int)]:=by rw[ZiH,if_pos h]
theorem ZeF{f:Nat->Prop}[DecidablePred f]{j:Nat}(h:¬ f j):ZiH f (j+1)=ZiH f j:=by rw[ZiH,if_neg h]
def Znk(b:TBigraph)(j:Nat):Int:=((b.nodes[j]?).map TNode.parent).getD 0
theorem ZbP{b:TBigraph}{j:Nat}(h:j<b.nodes.length):Znk b j=b.nodes[j].parent:=by simp [Znk,h]
abbrev De(b:TBigraph)(p:Int):Nat->List Int:=ZiH fun j=>Znk b j=p
abbrev Q0(b:TBigraph)(p:Int):Nat->List Int:=ZiH fun j=>g0 b.sites j=p
def ZiI(b:TBigraph)(p:Int):List Int:=De b p b.nodes.length
def D8(b:TBigraph)(p:Int):List Int:=Q0 b p b.sites.length
theorem Zih(b:TBigraph)(p:Int)(hl:b.nodes.length<=4294967296)(lvl:Nat)(S:Sto):Sem Proofs.Tryz.prog QU lvl [.ag ((Zb b).map .tr),iI p] S (.ow 1 (rI (ZiI b p)) true) S:=by
 refine Ze Zey trivial ?_
 simp only[DR,Zb,List.length_map,EVA,seval,Zc,men]
 refine ZE (α:=Unit) b.nodes.length (fun j _=>[(5,.hd (lvl,224) [] 0 (De b p j).length none (De b p j).length),(6,iI j)]) (fun j _=>[(224,.ar 1 (rI (De b p j)) true (De b p j).length 0)]) (fun _ _=>True) () (by simp only[EVA,seval,Zc,men]) (by (simp only[EVA,seval,Zc,men]) <;> rfl) trivial ?_
 intro j _ hj _
 simp only[List.length_map,EVA,seval,Zc,men]
 refine Zk (fun hlt=>?_) (fun hge=>?_)
 ·have hja:j<b.nodes.length:=by omega
  have ga:=Xo (c:=ZA) hja
  have hle:(De b p j).length<=j:=ZcB
  simp only[ga,ZA,List.length_map,EVA,seval,Zc,men]
  refine Zk (fun he=>?_) (fun hne=>?_)
  ·refine⟨by omega,by rw[Zd];omega,Zf () hja ?_ trivial⟩
   rw[De,ZbO (by rw[ZbP hja];exact he),List.length_append,Zdy]
   rfl
  ·refine⟨by rw[Zd];omega,Zf () hja ?_ trivial⟩
   rw[De,ZeF (by rw[ZbP hja];exact hne)]
   rfl
 ·have:j=b.nodes.length:=by omega
  subst this
  rfl
theorem ZcC(b:TBigraph)(p:Int)(hl:b.sites.length<=4294967296)(lvl:Nat)(S:Sto):Sem Proofs.Tryz.prog YY lvl [.ag ((Zb b).map .tr),iI p] S (.ow 1 (rI (D8 b p)) true) S:=by
 refine Ze Zda trivial ?_
 simp only[U3,Zb,List.length_map,EVA,seval,Zc,men]
 refine ZE (α:=Unit) b.sites.length (fun j _=>[(5,.hd (lvl,224) [] 0 (Q0 b p j).length none (Q0 b p j).length),(6,iI j)]) (fun j _=>[(224,.ar 1 (rI (Q0 b p j)) true (Q0 b p j).length 0)]) (fun _ _=>True) () (by simp only[EVA,seval,Zc,men]) (by (simp only[EVA,seval,Zc,men]) <;> rfl) trivial ?_
 intro j _ hj _
 simp only[List.length_map,EVA,seval,Zc,men]
 refine Zk (fun hlt=>?_) (fun hge=>?_)
 ·have hja:j<b.sites.length:=by omega
  have ga:=DW hja
  have hle:(Q0 b p j).length<=j:=ZcB
  simp only[ga,List.length_map,EVA,seval,Zc,men]
  refine Zk (fun he=>?_) (fun hne=>?_)
  ·refine⟨by omega,by rw[Zd];omega,Zf () hja ?_ trivial⟩
   rw[Q0,ZbO (f:=fun j=>g0 b.sites j=p) he,List.length_append,Zdy]
   rfl
  ·refine⟨by rw[Zd];omega,Zf () hja ?_ trivial⟩
   rw[Q0,ZeF (f:=fun j=>g0 b.sites j=p) hne]
   rfl
 ·have:j=b.sites.length:=by omega
  subst this
  rfl
theorem Zde(b:TBigraph)(p:Int)(hn:b.nodes.length<=4294967296)(hl:b.sites.length<=4294967296)(lvl:Nat)(S:Sto):Sem Proofs.Tryz.prog Jr lvl [.ag ((Zb b).map .tr),iI p] S (.tu [.ow 1 (rI (ZiI b p)) true,.ow 1 (rI (D8 b p)) true]) S:=by
 refine Ze XB ⟨trivial,trivial,trivial⟩ ?_
 simp only[YU,Zb,List.length_map,EVA,seval,Zc,men]
 refine ZE (α:=Unit) b.nodes.length (fun j _=>[(6,.hd (lvl,384) [] 0 (De b p j).length none (De b p j).length),(17,iI j)]) (fun j _=>[(384,.ar 1 (rI (De b p j)) true (De b p j).length 0)]) (fun _ _=>True) () (by simp only[EVA,seval,Zc,men]) (by (simp only[EVA,seval,Zc,men]) <;> rfl) trivial ?_
 intro j _ hj _
 simp only[List.length_map,EVA,seval,Zc,men]
 refine Zk (fun hlt=>?_) (fun hge=>?_)
 ·have hja:j<b.nodes.length:=by omega
  have ga:=Xo (c:=ZA) hja
  have hle:(De b p j).length<=j:=ZcB
  simp only[ga,ZA,List.length_map,EVA,seval,Zc,men]
  refine Zk (fun he=>?_) (fun hne=>?_)
  ·refine⟨by omega,by rw[Zd];omega,Zf () hja ?_ trivial⟩
   rw[De,ZbO (by rw[ZbP hja];exact he),List.length_append,Zdy]
   rfl
  ·refine⟨by rw[Zd];omega,Zf () hja ?_ trivial⟩
   rw[De,ZeF (by rw[ZbP hja];exact hne)]
   rfl
 have:j=b.nodes.length:=by omega
 subst this
 refine ZE (α:=Unit) b.sites.length (fun j _=>[(7,.hd (lvl,416) [] 0 (Q0 b p j).length none (Q0 b p j).length),(34,iI j)]) (fun j _=>[(416,.ar 1 (rI (Q0 b p j)) true (Q0 b p j).length 0)]) (fun _ _=>True) () (by simp only[EVA,seval,Zc,men]) (by (simp only[EVA,seval,Zc,men]) <;> rfl) trivial ?_
 intro j _ hj _
 simp only[List.length_map,EVA,seval,Zc,men]
 refine Zk (fun hlt=>?_) (fun hge=>?_)
 ·have hja:j<b.sites.length:=by omega
  have ga:=DW hja
  have hle:(Q0 b p j).length<=j:=ZcB
  simp only[ga,List.length_map,EVA,seval,Zc,men]
  refine Zk (fun he=>?_) (fun hne=>?_)
  ·refine⟨by omega,by rw[Zd];omega,Zf () hja ?_ trivial⟩
   rw[Q0,ZbO (f:=fun j=>g0 b.sites j=p) he,List.length_append,Zdy]
   rfl
  ·refine⟨by rw[Zd];omega,Zf () hja ?_ trivial⟩
   rw[Q0,ZeF (f:=fun j=>g0 b.sites j=p) hne]
   rfl
 ·have:j=b.sites.length:=by omega
  subst this
  rfl
def cP2(x:Int×Int):List Tr:=[tv x.1,tv x.2]
def Zdf(l:Int)(i:Nat)(ls:List Int):Nat->List (Int×Int)
 | 0=>[]
 | k+1=>if g0 ls k=l then Zdf l i ls k++[((i:Int),(k:Int))] else Zdf l i ls k
theorem ZeG{l:Int}{i:Nat}{ls:List Int}:∀{k:Nat},(Zdf l i ls k).length<=k
 | 0=>Nat.le_refl 0
 | k+1=>by
  unfold Zdf
  have:=ZeG (l:=l) (i:=i) (ls:=ls) (k:=k)
  split
  ·rw[List.length_append,List.length_singleton];omega
  ·omega
theorem ZhG{l:Int}{i:Nat}{ls:List Int}{k:Nat}(h:g0 ls k=l):Zdf l i ls (k+1)=Zdf l i ls k++[((i:Int),(k:Int))]:=by rw[Zdf,if_pos h]
theorem ZjM{l:Int}{i:Nat}{ls:List Int}{k:Nat}(h:¬ g0 ls k=l):Zdf l i ls (k+1)=Zdf l i ls k:=by rw[Zdf,if_neg h]
def ZaO(b:TBigraph)(j:Nat):List Int:=((b.nodes[j]?).map TNode.links).getD []
theorem ZaP{b:TBigraph}{j:Nat}(h:j<b.nodes.length):ZaO b j=b.nodes[j].links:=by simp [ZaO,h]
def Yd(b:TBigraph)(l:Int):Nat->List (Int×Int)
 | 0=>[]
 | i+1=>Yd b l i++Zdf l i (ZaO b i) (ZaO b i).length
def ports(b:TBigraph)(l:Int):List (Int×Int):=Yd b l b.nodes.length
theorem D9{b:TBigraph}{l:Int}(h:∀ x∈b.nodes,x.links.length<=1000):∀{j:Nat},j<=b.nodes.length->(Yd b l j).length<=j*1000
 | 0,_=>Nat.zero_le _
 | j+1,hj=>by
  have ih:=D9 h (l:=l) (j:=j) (by omega)
  have h1:=ZeG (l:=l) (i:=j) (ls:=ZaO b j) (k:=(ZaO b j).length)
  have h2:=h _ (List.getElem_mem (show j<b.nodes.length by omega))
  rw[Yd,List.length_append]
  rw[ZaP (by omega)] at h1 ⊢
  omega
def Zqq(b:TBigraph)(j:Nat):Int:=((b.inner[j]?).map TWire.link).getD 0
def ZqQ(b:TBigraph)(j:Nat):ByteArray:=((b.inner[j]?).map TWire.name).getD ⟨#[]⟩
theorem ZeH{b:TBigraph}{j:Nat}(h:j<b.inner.length):Zqq b j=b.inner[j].link:=by simp [Zqq,h]
theorem ZjN{b:TBigraph}{j:Nat}(h:j<b.inner.length):ZqQ b j=b.inner[j].name:=by simp [ZqQ,h]
def Wf(b:TBigraph)(l:Int):Nat->List ByteArray
 | 0=>[]
 | j+1=>if Zqq b j=l then Wf b l j++[ZqQ b j] else Wf b l j
theorem ZbQ{b:TBigraph}{l:Int}:∀{j:Nat},(Wf b l j).length<=j
 | 0=>Nat.le_refl 0
 | j+1=>by
  unfold Wf
  have:=ZbQ (b:=b) (l:=l) (j:=j)
  split
  ·rw[List.length_append,List.length_singleton];omega
  ·omega
theorem ZfU{b:TBigraph}{l:Int}{j:Nat}(h:Zqq b j=l):Wf b l (j+1)=Wf b l j++[ZqQ b j]:=by rw[Wf,if_pos h]
theorem ZhH{b:TBigraph}{l:Int}{j:Nat}(h:¬ Zqq b j=l):Wf b l (j+1)=Wf b l j:=by rw[Wf,if_neg h]
def ZnF(b:TBigraph)(l:Int):List ByteArray:=Wf b l b.inner.length
theorem ZjO(a b:List (Int×Int)):(a++b).map cP2=a.map cP2++b.map cP2:=List.map_append
theorem ZgL(b:TBigraph)(l:Int)(hn:b.nodes.length<=1000)(hk:∀ x∈b.nodes,x.links.length<=1000)(lvl:Nat)(S:Sto):Sem Proofs.Tryz.prog Qm lvl [.ag ((Zb b).map .tr),iI l] S (.ow 2 ((ports b l).map cP2) true) S:=by
 refine Ze Zdb trivial ?_
 simp only[U4,Zb,List.length_map,EVA,seval,Zc,men]
 refine ZE (α:=Unit) b.nodes.length (fun j _=>[(5,.hd (lvl,256) [] 0 (Yd b l j).length none (Yd b l j).length),(6,iI j)]) (fun j _=>[(256,.ar 2 ((Yd b l j).map cP2) true (Yd b l j).length 0)]) (fun _ _=>True) () (by simp only[EVA,seval,Zc,men]) (by (simp only[EVA,seval,Zc,men]) <;> rfl) trivial ?_
 intro j _ hj _
 simp only[List.length_map,EVA,seval,Zc,men]
 refine Zk (fun hlt=>?_) (fun hge=>?_)
 ·have hja:j<b.nodes.length:=by omega
  have ga:=Xo (c:=ZA) hja
  have hle:=D9 hk (l:=l) hj
  have hlk:=hk _ (List.getElem_mem hja)
  refine ZE (α:=Unit) b.nodes[j].links.length (fun k _=>[(5,.hd (lvl,256) [] 0 (Yd b l j++Zdf l j b.nodes[j].links k).length none (Yd b l j++Zdf l j b.nodes[j].links k).length),(7,iI k)]) (fun k _=>[(256,.ar 2 ((Yd b l j++Zdf l j b.nodes[j].links k).map cP2) true (Yd b l j++Zdf l j b.nodes[j].links k).length 0)]) (fun _ _=>True) () (by simp only[EVA,seval,Zc,men]) (by (simp only[Zdf,List.append_nil,EVA,seval,Zc,men]) <;> rfl) trivial ?_
  intro k _ hkk _
  simp only[ga,ZA,List.length_map,EVA,seval,Zc,men]
  refine Zk (fun hlt2=>?_) (fun hge2=>?_)
  ·have hka:k<b.nodes[j].links.length:=by omega
   have gl:=DW hka
   have hr:=ZeG (l:=l) (i:=j) (ls:=b.nodes[j].links) (k:=k)
   simp only[ga,gl,ZA,List.length_map,EVA,seval,Zc,men]
   refine Zk (fun he=>?_) (fun hne=>?_)
   ·refine⟨by rw[List.length_append];omega,by rw[Zd];omega,Zf () hka ?_ trivial⟩
    rw[ZhG he,<-List.append_assoc,List.length_append (bs:=[_]),ZjO (Yd b l j++_)]
    rfl
   ·refine⟨by rw[Zd];omega,Zf () hka ?_ trivial⟩
    rw[ZjM hne]
    rfl
  ·have:k=b.nodes[j].links.length:=by omega
   subst this
   refine⟨by rw[Zd];omega,Zf () hja ?_ trivial⟩
   rw[Yd,ZaP hja]
   rfl
 ·have:j=b.nodes.length:=by omega
  subst this
  rfl
theorem Zii(b:TBigraph)(l:Int)(hn:b.inner.length<=4294967296)(lvl:Nat)(S:Sto):Sem Proofs.Tryz.prog QW lvl [.ag ((Zb b).map .tr),iI l] S (.ow 1 (rS (ZnF b l)) true) S:=by
 refine Ze ZeA trivial ?_
 simp only[DU,Zb,List.length_map,EVA,seval,Zc,men]
 refine ZE (α:=Unit) b.inner.length (fun j _=>[(5,.hd (lvl,224) [] 0 (Wf b l j).length none (Wf b l j).length),(6,iI j)]) (fun j _=>[(224,.ar 1 (rS (Wf b l j)) true (Wf b l j).length 0)]) (fun _ _=>True) () (by simp only[EVA,seval,Zc,men]) (by (simp only[EVA,seval,Zc,men]) <;> rfl) trivial ?_
 intro j _ hj _
 simp only[List.length_map,EVA,seval,Zc,men]
 refine Zk (fun hlt=>?_) (fun hge=>?_)
 ·have hja:j<b.inner.length:=by omega
  have ga:=Xo (c:=ZK) hja
  have hle:=ZbQ (b:=b) (l:=l) (j:=j)
  simp only[ga,ZK,List.length_map,EVA,seval,Zc,men]
  refine Zk (fun he=>?_) (fun hne=>?_)
  ·refine⟨by omega,by rw[Zd];omega,Zf () hja ?_ trivial⟩
   rw[ZfU (by rw[ZeH hja];exact he),List.length_append,ZhE,ZjN hja]
   rfl
  ·refine⟨by rw[Zd];omega,Zf () hja ?_ trivial⟩
   rw[ZhH (by rw[ZeH hja];exact hne)]
   rfl
 ·have:j=b.inner.length:=by omega
  subst this
  rfl
theorem ZfV(b:TBigraph)(l:Int)(hn:b.nodes.length<=1000)(hk:∀ x∈b.nodes,x.links.length<=1000)(hi:b.inner.length<=4294967296)(lvl:Nat)(S:Sto):Sem Proofs.Tryz.prog JE lvl [.ag ((Zb b).map .tr),iI l] S (.tu [.ow 2 ((ports b l).map cP2) true,.ow 1 (rS (ZnF b l)) true]) S:=by
 refine Ze Wa ⟨trivial,trivial,trivial⟩ ?_
 simp only[VF,Zb,List.length_map,EVA,seval,Zc,men]
 refine ZE (α:=Unit) b.nodes.length (fun j _=>[(6,.hd (lvl,448) [] 0 (Yd b l j).length none (Yd b l j).length),(19,iI j)]) (fun j _=>[(448,.ar 2 ((Yd b l j).map cP2) true (Yd b l j).length 0)]) (fun _ _=>True) () (by simp only[EVA,seval,Zc,men]) (by (simp only[EVA,seval,Zc,men]) <;> rfl) trivial ?_
 intro j _ hj _
 simp only[List.length_map,EVA,seval,Zc,men]
 refine Zk (fun hlt=>?_) (fun hge=>?_)
 ·have hja:j<b.nodes.length:=by omega
  have ga:=Xo (c:=ZA) hja
  have hle:=D9 hk (l:=l) hj
  have hlk:=hk _ (List.getElem_mem hja)
  simp only[ga,ZA,List.length_map,EVA,seval,Zc,men]
  refine ZE (α:=Unit) b.nodes[j].links.length (fun k _=>[(6,.hd (lvl,448) [] 0 (Yd b l j++Zdf l j b.nodes[j].links k).length none (Yd b l j++Zdf l j b.nodes[j].links k).length),(27,iI k)]) (fun k _=>[(448,.ar 2 ((Yd b l j++Zdf l j b.nodes[j].links k).map cP2) true (Yd b l j++Zdf l j b.nodes[j].links k).length 0)]) (fun _ _=>True) () (by simp only[EVA,seval,Zc,men]) (by (simp only[Zdf,List.append_nil,EVA,seval,Zc,men]) <;> rfl) trivial ?_
  intro k _ hkk _
  simp only[ga,ZA,List.length_map,EVA,seval,Zc,men]
  refine Zk (fun hlt2=>?_) (fun hge2=>?_)
  ·have hka:k<b.nodes[j].links.length:=by omega
   have gl:=DW hka
   have hr:=ZeG (l:=l) (i:=j) (ls:=b.nodes[j].links) (k:=k)
   simp only[ga,gl,ZA,List.length_map,EVA,seval,Zc,men]
   refine Zk (fun he=>?_) (fun hne=>?_)
   ·refine⟨by rw[List.length_append];omega,by rw[Zd];omega,Zf () hka ?_ trivial⟩
    rw[ZhG he,<-List.append_assoc,List.length_append (bs:=[_]),ZjO (Yd b l j++_)]
    rfl
   ·refine⟨by rw[Zd];omega,Zf () hka ?_ trivial⟩
    rw[ZjM hne]
    rfl
  ·have:k=b.nodes[j].links.length:=by omega
   subst this
   refine⟨by rw[Zd];omega,Zf () hja ?_ trivial⟩
   rw[Yd,ZaP hja]
   rfl
 have:j=b.nodes.length:=by omega
 subst this
 refine ZE (α:=Unit) b.inner.length (fun j _=>[(7,.hd (lvl,480) [] 0 (Wf b l j).length none (Wf b l j).length),(46,iI j)]) (fun j _=>[(480,.ar 1 (rS (Wf b l j)) true (Wf b l j).length 0)]) (fun _ _=>True) () (by simp only[EVA,seval,Zc,men]) (by (simp only[EVA,seval,Zc,men]) <;> rfl) trivial ?_
 intro j _ hj _
 simp only[List.length_map,EVA,seval,Zc,men]
 refine Zk (fun hlt=>?_) (fun hge=>?_)
 ·have hja:j<b.inner.length:=by omega
  have ga:=Xo (c:=ZK) hja
  have hle:=ZbQ (b:=b) (l:=l) (j:=j)
  simp only[ga,ZK,List.length_map,EVA,seval,Zc,men]
  refine Zk (fun he=>?_) (fun hne=>?_)
  ·refine⟨by omega,by rw[Zd];omega,Zf () hja ?_ trivial⟩
   rw[ZfU (by rw[ZeH hja];exact he),List.length_append,ZhE,ZjN hja]
   rfl
  ·refine⟨by rw[Zd];omega,Zf () hja ?_ trivial⟩
   rw[ZhH (by rw[ZeH hja];exact hne)]
   rfl
 ·have:j=b.inner.length:=by omega
  subst this
  rfl
end Go.Fd

namespace Go.Fd
set_option maxRecDepth 20000
def idle(b:TBigraph)(l:Int):Prop:=(ports b l).length=0/\(ZnF b l).length=0
structure small (b:TBigraph):Prop where
 nodes:b.nodes.length<=8
 links:∀ x∈b.nodes,x.links.length<=1000
 sites:b.sites.length<=4
 outer:b.outer.length<=16
 inner:b.inner.length<=16
 roots:0<=b.roots/\b.roots<=4
 edges:0<=b.edges/\b.edges<=8
theorem Zij{sig:List TControl}(h:XC sig)(c:Int):Dd sig c<=3:=by
 unfold Dd
 cases e:sig[c.toNat]? with
 | none=>decide
 | some x =>
  obtain⟨hl,rfl⟩:=List.getElem?_eq_some_iff.1 e
  exact((h.1 _ hl).1).2.1.2
theorem bigOK.small{sig:List TControl}{b:TBigraph}(h:bigOK sig b):small b :=
 ⟨h.nodesL,fun x hx=>by
  obtain⟨k,hk,rfl⟩:=List.getElem_of_mem hx
  have h1:=(h.nodes k hk).ports
  have h2:=Zij h.sg b.nodes[k].control
  omega,h.sitesL,h.outer.2,by have:=h.inn.2;rw[ZeE] at this;exact this,h.roots,h.edges⟩
theorem Zik(b:TBigraph)(l:Int)(hs:small b)(lvl:Nat)(S:Sto):Sem Proofs.Tryz.prog QV lvl [.ag ((Zb b).map .tr),iI l] S (iB (dc (idle b l))) S:=by
 have s1:=hs.nodes
 have s2:=hs.inner
 refine Ze Zez trivial ?_
 simp only[DS,Zb,List.length_map,EVA,seval,Zc,men]
 refine Za (ZgL b l (by omega) hs.links) ?_
 by_cases h1:(ports b l).length=0
 ·have h1':((ports b l).length:Int)=0:=by omega
  simp only[h1,h1',Zb,List.length_map,EVA,seval,Zc,men]
  refine Za (Zii b l (by omega)) ?_
  simp only[List.length_map,EVA,seval,Zc,men]
  have hiff:idle b l↔((ZnF b l).length:Int)=0:=⟨fun h=>by have:=h.2;omega,fun h=>⟨h1,by omega⟩⟩
  rw[JK hiff,J2]
 ·have h1':¬ ((ports b l).length:Int)=0:=by omega
  simp only[h1',Zb,List.length_map,EVA,seval,Zc,men]
  rw[Zh fun h:idle b l=>h1 h.1]
theorem Zil(b:TBigraph)(l:Int)(hs:small b)(lvl:Nat)(S:Sto):Sem Proofs.Tryz.prog JX lvl [.ag ((Zb b).map .tr),iI l] S (iB (dc (idle b l))) S:=by
 have s1:=hs.nodes
 have s2:=hs.inner
 have e1:(ports b l).length<=b.nodes.length*1000:=D9 hs.links (Nat.le_refl _)
 have e2:(ZnF b l).length<=b.inner.length:=ZbQ
 refine Ze Ue trivial ?_
 simp only[V7,Zb,List.length_map,EVA,seval,Zc,men]
 refine Za (ZfV b l (by omega) hs.links (by omega)) ?_
 simp only[List.length_map,EVA,seval,Zc,men]
 refine⟨by rw[Zd];omega,?_⟩
 have hiff:idle b l↔((ports b l).length:Int)+(ZnF b l).length=0:=⟨fun h=>by have:=h.1;have:=h.2;omega,fun h=>⟨by omega,by omega⟩⟩
 rw[JK hiff,J2]
structure solid (b:TBigraph):Prop where
 inner:b.inner.length=0
 roots:¬ b.roots=0
 root:∀ r:Nat,(r:Int)<b.roots -> ¬ (ZiI b (-1-r)).length=0/\(D8 b (-1-r)).length=0
 node:∀ i:Nat,i<b.nodes.length->(D8 b i).length<=1
 link:∀ l:Nat,(l:Int)<b.edges+b.outer.length -> ¬ idle b l
theorem ZgM(b:TBigraph)(hs:small b)(lvl:Nat)(S:Sto):Sem Proofs.Tryz.prog Qj lvl [.ag ((Zb b).map .tr)] S (iB (dc (solid b))) S:=by
 have s1:=hs.nodes
 have s2:=hs.inner
 have s3:=hs.sites
 have s4:=hs.outer
 obtain⟨r1,r2⟩:=hs.roots
 obtain⟨e1,e2⟩:=hs.edges
 refine Ze Zc9 trivial ?_
 simp only[U2,Zb,List.length_map,EVA,seval,Zc,men]
 by_cases h1:(0:Int)<b.inner.length
 ·simp only[h1,List.length_map,EVA,seval,Zc,men]
  rw[Zh fun h:solid b=>by have:=h.inner;omega]
 by_cases h2:b.roots=0
 ·simp only[h1,h2,List.length_map,EVA,seval,Zc,men]
  rw[Zh fun h:solid b=>h.roots h2]
 simp only[h1,h2,List.length_map,EVA,seval,Zc,men]
 refine ZE (α:=Unit) b.roots.toNat (fun j _=>[(3,iI j)]) (fun j _=>[]) (fun j _=>∀ r,r<j -> ¬ (ZiI b (-1-(r:Nat))).length=0/\(D8 b (-1-(r:Nat))).length=0) () (by simp only[EVA,seval,Zc,men]) (by (simp only[EVA,seval,Zc,men]) <;> rfl) (fun k hk=>absurd hk (Nat.not_lt_zero k)) ?_
 intro j _ hj hA
 simp only[List.length_map,EVA,seval,Zc,men]
 refine Zk (fun hlt=>?_) (fun hge=>?_)
 ·have hja:j<b.roots.toNat:=by omega
  refine⟨by rw[Zd];omega,?_⟩
  refine Za (Zih b (-1-(j:Nat)) (by omega)) ?_
  by_cases p1:(ZiI b (-1-(j:Nat))).length=0
  ·have p1':((ZiI b (-1-(j:Nat))).length:Int)=0:=by omega
   simp only[p1,p1',List.length_map,EVA,seval,Zc,men]
   rw[Zh fun h:solid b=>(h.root j (by omega)).1 p1]
  have p1':¬ ((ZiI b (-1-(j:Nat))).length:Int)=0:=by omega
  simp only[p1',List.length_map,EVA,seval,Zc,men]
  refine⟨by rw[Zd];omega,?_⟩
  refine Za (ZcC b (-1-(j:Nat)) (by omega)) ?_
  simp only[List.length_map,EVA,seval,Zc,men]
  refine Zk (fun p2=>?_) (fun p2=>?_)
  ·rw[Zh fun h:solid b=>by have:=(h.root j (by omega)).2;omega]
  ·exact⟨by rw[Zd];omega,Zf () hja rfl (ZfR hA ⟨p1,by omega⟩)⟩
 have hj1:j=b.roots.toNat:=by omega
 subst hj1
 refine ZE (α:=Unit) b.nodes.length (fun j _=>[(4,iI j)]) (fun j _=>[]) (fun j _=>∀ i,i<j->(D8 b (i:Nat)).length<=1) () (by simp only[EVA,seval,Zc,men]) (by (simp only[EVA,seval,Zc,men]) <;> rfl) (fun k hk=>absurd hk (Nat.not_lt_zero k)) ?_
 intro j _ hj hB
 simp only[List.length_map,EVA,seval,Zc,men]
 refine Zk (fun hlt=>?_) (fun hge=>?_)
 ·have hja:j<b.nodes.length:=by omega
  refine Za (ZcC b (j:Nat) (by omega)) ?_
  simp only[List.length_map,EVA,seval,Zc,men]
  refine Zk (fun p2=>?_) (fun p2=>?_)
  ·rw[Zh fun h:solid b=>by have:=h.node j hja;omega]
  ·exact⟨by rw[Zd];omega,Zf () hja rfl (ZfR hB (by omega))⟩
 have hj1:j=b.nodes.length:=by omega
 subst hj1
 refine ZE (α:=Unit) (b.edges+b.outer.length).toNat (fun j _=>[(5,iI j)]) (fun j _=>[]) (fun j _=>∀ i,i<j -> ¬ idle b (i:Nat)) () (by simp only[EVA,seval,Zc,men]) (by (simp only[EVA,seval,Zc,men]) <;> rfl) (fun k hk=>absurd hk (Nat.not_lt_zero k)) ?_
 intro j _ hj hC
 simp only[List.length_map,EVA,seval,Zc,men]
 refine⟨by rw[Zd];omega,?_⟩
 refine Zk (fun hlt=>?_) (fun hge=>?_)
 ·have hja:j<(b.edges+b.outer.length).toNat:=by omega
  refine Za (Zik b (j:Nat) hs) ?_
  cases hc:dc (idle b (j:Nat))
  ·simp only[EVA,seval,Zc,men]
   exact⟨by rw[Zd];omega,Zf () hja rfl (ZfR hC (dc_not.1 hc))⟩
  ·simp only[EVA,seval,Zc,men]
   rw[Zh fun h:solid b=>h.link j (by omega) (dc_iff.1 hc)]
 have hj1:j=(b.edges+b.outer.length).toNat:=by omega
 subst hj1
 have:solid b:=⟨by omega,h2,fun r hr=>hA r (by omega),hB,fun l hl=>hC l (by omega)⟩
 rw[JF this]
theorem Zbq(b:TBigraph)(hs:small b)(lvl:Nat)(S:Sto):Sem Proofs.Tryz.prog Qf lvl [.ag ((Zb b).map .tr)] S (iB (dc (solid b))) S:=by
 have s1:=hs.nodes
 have s2:=hs.inner
 have s3:=hs.sites
 have s4:=hs.outer
 obtain⟨r1,r2⟩:=hs.roots
 obtain⟨e1,e2⟩:=hs.edges
 refine Ze Zc5 trivial ?_
 simp only[UY,Zb,List.length_map,EVA,seval,Zc,men]
 by_cases h1:(0:Int)<b.inner.length
 ·simp only[h1,List.length_map,EVA,seval,Zc,men]
  rw[Zh fun h:solid b=>by have:=h.inner;omega]
 by_cases h2:b.roots=0
 ·simp only[h1,h2,List.length_map,EVA,seval,Zc,men]
  rw[Zh fun h:solid b=>h.roots h2]
 simp only[h1,h2,List.length_map,EVA,seval,Zc,men]
 refine⟨by rw[Zd];omega,?_⟩
 refine ZE (α:=Unit) (b.roots+b.nodes.length).toNat (fun j _=>[(3,iI (-b.roots+j))]) (fun j _=>[]) (fun j _=>∀ r,r<j->((-b.roots+(r:Nat)<0 -> ¬ (ZiI b (-b.roots+(r:Nat))).length=0/\(D8 b (-b.roots+(r:Nat))).length=0)/\(D8 b (-b.roots+(r:Nat))).length<=1)) () (by simp only[EVA,seval,Zc,men]) (by (simp only[Int.natCast_zero,Int.cast_ofNat_Int,Int.add_zero,EVA,seval,Zc,men]) <;> rfl) (fun k hk=>absurd hk (Nat.not_lt_zero k)) ?_
 intro j _ hj hA
 simp only[List.length_map,EVA,seval,Zc,men]
 refine Zk (fun hlt=>?_) (fun hge=>?_)
 ·have hja:j<(b.roots+b.nodes.length).toNat:=by omega
  refine Za (Zde b (-b.roots+(j:Nat)) (by omega) (by omega)) ?_
  have hno:(solid b->False)->dc (solid b)=false:=fun h=>Zh h
  have hroot:solid b -> -b.roots+(j:Int)<0 -> ¬ (ZiI b (-b.roots+(j:Nat))).length=0/\(D8 b (-b.roots+(j:Nat))).length=0:=fun h hn=>by
   have:=h.root (b.roots-1-j).toNat (by omega)
   have e:(-1-((b.roots-1-j).toNat:Int)) = -b.roots+j:=by omega
   rw[e] at this
   exact this
  have hnode:solid b -> ¬ -b.roots+(j:Int)<0->(D8 b (-b.roots+(j:Nat))).length<=1:=fun h hn=>by
   have:=h.node (-b.roots+j).toNat (by omega)
   have e:(((-b.roots+j).toNat:Nat):Int) = -b.roots+j:=by omega
   rw[e] at this
   exact this
  have hnext:(-b.roots+(j:Int))+1 = -b.roots+((j+1:Nat):Int):=by omega
  by_cases q:-b.roots+(j:Int)<0
  ·by_cases k0:(ZiI b (-b.roots+(j:Nat))).length=0
   ·have k0':((ZiI b (-b.roots+(j:Nat))).length:Int)=0:=by omega
    simp only[q,k0,k0',List.length_map,EVA,seval,Zc,men]
    rw[hno fun h=>(hroot h q).1 k0]
   have k0':¬ ((ZiI b (-b.roots+(j:Nat))).length:Int)=0:=by omega
   by_cases k1:(D8 b (-b.roots+(j:Nat))).length=0
   ·have k1a:¬ (0:Int)<((D8 b (-b.roots+(j:Nat))).length:Int):=by omega
    have k1b:¬ (1:Int)<((D8 b (-b.roots+(j:Nat))).length:Int):=by omega
    simp only[q,k0',k1a,k1b,List.length_map,EVA,seval,Zc,men]
    refine⟨by rw[Zd];omega,?_⟩
    rw[hnext]
    exact Zf () hja rfl (ZfR hA ⟨fun _=>⟨k0,k1⟩,by omega⟩)
   ·have k1a:(0:Int)<((D8 b (-b.roots+(j:Nat))).length:Int):=by omega
    simp only[q,k0',k1a,List.length_map,EVA,seval,Zc,men]
    rw[hno fun h=>k1 (hroot h q).2]
  ·simp only[q,List.length_map,EVA,seval,Zc,men]
   refine Zk (fun k2=>?_) (fun k2=>?_)
   ·rw[hno fun h=>by have:=hnode h q;omega]
   ·refine⟨by rw[Zd];omega,?_⟩
    rw[hnext]
    exact Zf () hja rfl (ZfR hA ⟨fun h=>absurd h q,by omega⟩)
 have hj1:j=(b.roots+b.nodes.length).toNat:=by omega
 subst hj1
 refine⟨by rw[Zd];omega,?_⟩
 refine ZE (α:=Unit) (b.edges+b.outer.length).toNat (fun j _=>[(55,iI j)]) (fun j _=>[]) (fun j _=>∀ i,i<j -> ¬ idle b (i:Nat)) () (by simp only[EVA,seval,Zc,men]) (by (simp only[EVA,seval,Zc,men]) <;> rfl) (fun k hk=>absurd hk (Nat.not_lt_zero k)) ?_
 intro j _ hj hC
 simp only[List.length_map,EVA,seval,Zc,men]
 refine Zk (fun hlt=>?_) (fun hge=>?_)
 ·have hja:j<(b.edges+b.outer.length).toNat:=by omega
  refine Za (Zil b (j:Nat) hs) ?_
  cases hc:dc (idle b (j:Nat))
  ·simp only[EVA,seval,Zc,men]
   exact⟨by rw[Zd];omega,Zf () hja rfl (ZfR hC (dc_not.1 hc))⟩
  ·simp only[EVA,seval,Zc,men]
   rw[Zh fun h:solid b=>h.link j (by omega) (dc_iff.1 hc)]
 have hj1:j=(b.edges+b.outer.length).toNat:=by omega
 subst hj1
 have:solid b:=⟨by omega,h2,fun r hr=>by
  have:=(hA (b.roots-1-r).toNat (by omega)).1
  have e:-b.roots+((b.roots-1-r).toNat:Int) = -1-r:=by omega
  rw[e] at this
  exact this (by omega),fun i hi=>by
  have:=(hA (b.roots+i).toNat (by omega)).2
  have e:-b.roots+((b.roots+i).toNat:Int)=i:=by omega
  rw[e] at this
  exact this,fun l hl=>hC l (by omega)⟩
 rw[JF this]
end Go.Fd
