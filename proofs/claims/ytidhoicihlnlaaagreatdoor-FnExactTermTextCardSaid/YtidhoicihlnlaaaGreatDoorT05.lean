/-
  The annotated codes of the functions, printed by a program of mine (gen.py), and the check that they belong to the program.
-/
import Derived.Test.YtidhoicihlnlaaaGreatDoorT04
import Derived.KernelRfl
import Derived.Shelf.Sort.AssemblysIn
import Derived.Shelf.Strings.SlTrimAscii
import Derived.Test.YtidhoicihlnlaaaGreatDoorProg
set_option linter.all false
namespace Go.Fd
def ZaB:F2 :=
 { nt:=19,res:=[.t 4 [0],.t 5 [0]],body:=(.sq (rg [om 4 (.k (.string ⟨#[]⟩)),om 5 (.k (.bool false))]) (.sq (.sq (rg [qM 9 0,qM 10 1,oo 11 (.ca .pure true (.f Qx) [.t 9,.t 10]),qM 8 11,qE 12 0 8,qE 13 1 8,oo 6 (.al [.int .i64 0,.slice none 0 0,.slice none 0 0,.int .i64 0,.slice none 0 0,.slice none 0 0] []),on1 (.st 6 (.t 6) (.t 12)),qM 7 13]) (.sq (rg [qM 14 7,oo 15 (.nt (.t 14))]) (.cd (.t 15) (.sq (rg [om 4 (.k (.string ⟨#[]⟩)),om 5 (.k (.bool false))]) (.rt)) (.sk)))) (.sq (rg [qM 16 0,qM 17 1,oo 18 (.ca .pure false (.f WV) [.t 16,.t 17]),qM 4 18,om 5 (.k (.bool true))]) (.rt)))) }
theorem ZfH:ZK Proofs.Tryz.prog XL ZaB=true:=by kernel_rfl
def ZaC:F2 :=
 { nt:=19,res:=[.t 4 [0],.t 5 [0]],body:=(.sq (rg [om 4 (.k (.string ⟨#[]⟩)),om 5 (.k (.bool false))]) (.sq (.sq (rg [qM 9 0,qM 10 1,oo 11 (.ca .pure true (.f Vp) [.t 9,.t 10]),qM 8 11,qE 12 0 8,qE 13 1 8,oo 6 (.al [.int .i64 0,.slice none 0 0,.slice none 0 0,.int .i64 0,.slice none 0 0,.slice none 0 0] []),on1 (.st 6 (.t 6) (.t 12)),qM 7 13]) (.sq (rg [qM 14 7,oo 15 (.nt (.t 14))]) (.cd (.t 15) (.sq (rg [om 4 (.k (.string ⟨#[]⟩)),om 5 (.k (.bool false))]) (.rt)) (.sk)))) (.sq (rg [qM 16 0,qM 17 1,oo 18 (.ca .pure false (.f XO) [.t 16,.t 17]),qM 4 18,om 5 (.k (.bool true))]) (.rt)))) }
theorem ZfI:ZK Proofs.Tryz.prog XM ZaC=true:=by kernel_rfl
def D9:F2 :=
 { nt:=19,res:=[.t 4 [2],.t 5 [0]],body:=(.sq (rg [om 4 (.k (.slice none 0 0)),om 5 (.k (.bool false))]) (.sq (.sq (rg [qM 9 0,qM 10 1,oo 11 (.ca .pure true (.f Qx) [.t 9,.t 10]),qM 8 11,qE 12 0 8,qE 13 1 8,oo 6 (.al [.int .i64 0,.slice none 0 0,.slice none 0 0,.int .i64 0,.slice none 0 0,.slice none 0 0] []),on1 (.st 6 (.t 6) (.t 12)),qM 7 13]) (.sq (rg [qM 14 7,oo 15 (.nt (.t 14))]) (.cd (.t 15) (.sq (rg [oo 16 (.bs 1 0 [] []),qM 4 16,om 5 (.k (.bool false))]) (.rt)) (.sk)))) (.sq (rg [qM 17 1,oo 18 (.ca .pure true (.f XP) [.t 17]),qM 4 18,om 5 (.k (.bool true))]) (.rt)))) }
theorem ZeH:ZK Proofs.Tryz.prog Xf D9=true:=by kernel_rfl
def Zaa:F2 :=
 { nt:=18,res:=[.t 4 [2],.t 5 [0]],body:=(.sq (rg [om 4 (.k (.slice none 0 0)),om 5 (.k (.bool false))]) (.sq (.sq (rg [qM 9 0,qM 10 1,oo 11 (.ca .pure true (.f Vp) [.t 9,.t 10]),qM 8 11,qE 12 0 8,qE 13 1 8,oo 6 (.al [.int .i64 0,.slice none 0 0,.slice none 0 0,.int .i64 0,.slice none 0 0,.slice none 0 0] []),on1 (.st 6 (.t 6) (.t 12)),qM 7 13]) (.sq (rg [qM 14 7,oo 15 (.nt (.t 14))]) (.cd (.t 15) (.sq (rg [om 4 (.k (.slice none 0 0)),om 5 (.k (.bool false))]) (.rt)) (.sk)))) (.sq (rg [qM 16 1,oo 17 (.ca .pure true (.f Xj) [.t 16]),qM 4 17,om 5 (.k (.bool true))]) (.rt)))) }
theorem ZeI:ZK Proofs.Tryz.prog Vo Zaa=true:=by kernel_rfl
def ZbE:F2 :=
 { nt:=83,res:=[.c 4 (some 6) [0,4,2,0,2,3],.t 5 [0]],body:=(.sq (rg [oo 4 (.al [.int .i64 0,.slice none 0 0,.slice none 0 0,.int .i64 0,.slice none 0 0,.slice none 0 0] []),om 5 (.k (.bool false))]) (.sq (.sq (rg [qM 12 0,oo 13 (.ca .pure false (.f X0) [.t 12]),oo 14 (.nt (.t 13)),qM 15 14,og 16 15 false (.mv (.t 1) none),og 17 15 false (.ln (.t 16)),og 18 15 false (.bi .gtr 0 (.t 17) (i6 60)),oo 19 (.pk (.t 15) (.k (.bool true)) (.t 18))]) (.cd (.t 19) (.sq (rg [oo 20 (.bd [.int .i64 0,.slice none 0 0,.slice none 0 0,.int .i64 0,.slice none 0 0,.slice none 0 0] [] []),on1 (.st 6 (.t 4) (.t 20)),om 5 (.k (.bool false))]) (.rt)) (.sk))) (.sq (rg [qM 22 0,qM 23 1,oo 24 (.ca .pure false (.f UP) [.t 22,.t 23]),qM 21 24,qE 25 0 21,qE 26 1 21,qE 27 2 21,qM 6 25,qM 7 26,qM 8 27]) (.sq (.sq (.rg (some 0) [qM 28 8,oo 29 (.nt (.t 28)),qM 30 29,og 31 30 false (.mv (.t 6) none),og 32 30 false (.ln (.t 31)),og 33 30 false (.bi .neq 0 (.t 32) (i6 1)),oo 34 (.pk (.t 30) (.k (.bool true)) (.t 33)),qM 35 34,og 36 35 false (.mv (.t 6) none),og 37 35 false (.ia 7 (.t 36) (i6 0)),og 38 35 false (.fa 6 (.t 37)),og 39 35 false (.ld none (.t 38)),og 40 35 false (.mv (.t 6) none),og 41 35 false (.ia 7 (.t 40) (i6 0)),og 42 35 false (.fa 6 (.t 41)),og 43 35 false (.ld none (.t 42)),og 44 35 false (.ln (.t 43)),og 45 35 false (.ca .pure false (.f WW) [.t 39,.t 44]),og 46 35 false (.nt (.t 45)),oo 47 (.pk (.t 35) (.k (.bool true)) (.t 46))]) (.cd (.t 47) (.sq (rg [oo 48 (.bd [.int .i64 0,.slice none 0 0,.slice none 0 0,.int .i64 0,.slice none 0 0,.slice none 0 0] [] []),on1 (.st 6 (.t 4) (.t 48)),om 5 (.k (.bool false))]) (.rt)) (.sk))) (.sq (.rg (some 0) [qM 49 6,oo 50 (.ia 7 (.t 49) (i6 0)),qF 51 0 50,qS 52 6 51,oo 53 (.ca .pure true (.f Vg) [.t 52]),qM 54 6,oo 55 (.it 7 (.t 54) (i6 0)),qF 56 6 55,oo 57 (.lt none (.t 56)),qN 58 57,oo 59 (.ms 1 [.int .i64 0] (.t 58)),oo 9 (.al [.int .i64 0,.slice none 0 0,.slice none 0 0,.int .i64 0,.slice none 0 0,.slice none 0 0] []),on1 (.s0 6 (.t 9) (.t 53)),qM 10 59]) (.sq (.sq (rg [om 11 (i6 0)]) (.bl 0 (.lp [4,6,9,10,11] [128,288,1696,1697,1698,1699,1888] (.sq (.sq (rg [qM 60 11,qM 61 10,qN 62 61,qB 63 .lss 60 62]) (.cd (.t 63) (.sk) (.ex 0))) (.sq (.bl 1 (.rg (some 0) [qM 66 10,qM 67 6,oo 68 (.ia 7 (.t 67) (i6 0)),qF 69 6 68,qL 70 69,qM 71 11,qI 72 1 70 71,qL 73 72,qF 74 2 9,qL 75 74,qM 76 11,qI 77 1 75 76,qL 78 77,qI 79 1 66 73,on1 (.st 1 (.t 79) (.t 78))]))
 (rg [qM 64 11,oo 65 (.bi .add 0 (.t 64) (i6 1)),qM 11 65])))))) (.sq (rg [qM 80 10,qF 81 2 9,on1 (.st 1 (.t 81) (.t 80))]) (.sq (rg [qS 82 6 9,on1 (.st 6 (.t 4) (.t 82)),om 5 (.k (.bool true))]) (.rt))))))))) }
theorem ZgD:ZK Proofs.Tryz.prog Qx ZbE=true:=by kernel_rfl
def ZcF:F2 :=
 { nt:=26,res:=[.t 4 [0]],body:=(.sq (rg [om 4 (.k (.string ⟨#[]⟩))]) (.sq (rg [om 5 (.k (.string ⟨#[]⟩))]) (.sq (.sq (rg [om 6 (i6 0)]) (.bl 0 (.lp [0,1,5,6] [] (.sq (.sq (rg [qM 7 6,qM 8 1,qN 9 8,qB 10 .lss 7 9]) (.cd (.t 10) (.sk) (.ex 0))) (.sq (.bl 1 (.sq (.sq (rg [qM 13 6,oo 14 (.bi .gtr 0 (.t 13) (i6 0))]) (.cd (.t 14) (rg [qM 15 5,oo 16 (.bi .add 0 (.t 15) (.k (.string ⟨#[32]⟩))),qM 5 16]) (.sk)))
 (rg [qM 17 5,qM 18 0,qM 19 1,qM 20 6,qI 21 4 19 20,qS 22 4 21,oo 23 (.ca .pure false (.f WX) [.t 18,.t 22]),qB 24 .add 17 23,qM 5 24])))
 (rg [qM 11 6,oo 12 (.bi .add 0 (.t 11) (i6 1)),qM 6 12])))))) (.sq (rg [qM 25 5,qM 4 25]) (.rt))))) }
theorem Zii:ZK Proofs.Tryz.prog WV ZcF=true:=by kernel_rfl
def Zab:F2 :=
 { nt:=78,res:=[.c 4 (some 6) [0,4,2,0,2,3],.t 5 [0]],body:=(.sq (rg [oo 4 (.al [.int .i64 0,.slice none 0 0,.slice none 0 0,.int .i64 0,.slice none 0 0,.slice none 0 0] []),om 5 (.k (.bool false))]) (.sq (.sq (rg [qM 12 0,oo 13 (.ca .pure false (.f JV) [.t 12]),oo 14 (.nt (.t 13)),qM 15 14,og 16 15 false (.mv (.t 1) none),og 17 15 false (.ln (.t 16)),og 18 15 false (.bi .gtr 0 (.t 17) (i6 60)),oo 19 (.pk (.t 15) (.k (.bool true)) (.t 18))]) (.cd (.t 19) (.sq (rg [oo 20 (.bd [.int .i64 0,.slice none 0 0,.slice none 0 0,.int .i64 0,.slice none 0 0,.slice none 0 0] [] []),on1 (.st 6 (.t 4) (.t 20)),om 5 (.k (.bool false))]) (.rt)) (.sk))) (.sq (rg [qM 22 0,qM 23 1,oo 24 (.ca .pure false (.f Wm) [.t 22,.t 23]),qM 21 24,qE 25 0 21,qE 26 1 21,qE 27 2 21,qM 6 25,qM 7 26,qM 8 27]) (.sq (.sq (.rg (some 0) [qM 28 8,oo 29 (.nt (.t 28)),qM 30 29,og 31 30 false (.mv (.t 6) none),og 32 30 false (.ln (.t 31)),og 33 30 false (.bi .neq 0 (.t 32) (i6 1)),oo 34 (.pk (.t 30) (.k (.bool true)) (.t 33)),qM 35 34,og 36 35 false (.mv (.t 6) none),og 37 35 false (.ia 7 (.t 36) (i6 0)),og 38 35 false (.fa 6 (.t 37)),og 39 35 false (.ld none (.t 38)),og 40 35 false (.ln (.t 39)),og 41 35 false (.mv (.t 6) none),og 42 35 false (.ia 7 (.t 41) (i6 0)),og 43 35 false (.fa 6 (.t 42)),og 44 35 false (.ld none (.t 43)),og 45 35 false (.ca .pure false (.f Wl) [.t 40,.t 44]),og 46 35 false (.nt (.t 45)),oo 47 (.pk (.t 35) (.k (.bool true)) (.t 46))]) (.cd (.t 47) (.sq (rg [oo 48 (.bd [.int .i64 0,.slice none 0 0,.slice none 0 0,.int .i64 0,.slice none 0 0,.slice none 0 0] [] []),on1 (.st 6 (.t 4) (.t 48)),om 5 (.k (.bool false))]) (.rt)) (.sk))) (.sq (rg [qM 49 6,oo 50 (.ia 7 (.t 49) (i6 0)),qF 51 0 50,qS 52 6 51,oo 53 (.ca .pure true (.f JF) [.t 52]),oo 9 (.al [.int .i64 0,.slice none 0 0,.slice none 0 0,.int .i64 0,.slice none 0 0,.slice none 0 0] []),on1 (.st 6 (.t 9) (.t 53))]) (.sq (.sq (rg [qM 54 6,oo 55 (.ia 7 (.t 54) (i6 0)),qF 56 6 55,qL 57 56,qN 58 57,om 59 (i6 0)]) (.bl 0 (.lp [4,6,9,57,58,59] [128,288,1696,1697,1698,1699] (.sq (rg [qB 60 .lss 59 58]) (.sq (.cd (.t 60) (.sk) (.ex 0)) (.sq (.bl 1 (.sq (rg [qM 61 59,qI 62 1 57 59,qL 63 62,qM 10 61,qM 11 63]) (.rg (some 0) [qF 64 2 9,qL 65 64,qM 66 11,qM 67 6,oo 68 (.ia 7 (.t 67) (i6 0)),qF 69 0 68,qF 70 2 69,qL 71 70,qM 72 10,qI 73 1 71 72,qL 74 73,qI 75 1 65 66,on1 (.st 1 (.t 75) (.t 74))])))
 (rg [oo 76 (.bi .add 0 (.t 59) (i6 1)),qM 59 76]))))))) (.sq (rg [qS 77 6 9,on1 (.st 6 (.t 4) (.t 77)),om 5 (.k (.bool true))]) (.rt)))))))) }
theorem ZeJ:ZK Proofs.Tryz.prog Vp Zab=true:=by kernel_rfl
def ZaD:F2 :=
 { nt:=83,res:=[.t 4 [0]],body:=(.sq (rg [om 4 (.k (.string ⟨#[]⟩))]) (.sq (rg [oo 8 (.bs 1 0 [] []),qM 5 8]) (.sq (.sq (rg [qM 9 1,qN 10 9,om 11 (i6 0)]) (.bl 0 (.lp [0,5,9,10,11] [256,768,1088,1376,1888,2048,2208,2528] (.sq (rg [qB 12 .lss 11 10]) (.sq (.cd (.t 12) (.sk) (.ex 0)) (.sq (.bl 1 (.sq (rg [qI 13 4 9 11,qS 14 4 13,oo 7 (.al [.int .i64 0,.int .i64 0,.int .i64 0,.slice none 0 0] []),on1 (.st 4 (.t 7) (.t 14))]) (.sq (rg [qF 15 0 7,qL 16 15]) (.bl 2 (.sq (.sq (rg [oo 26 (.bi .eql 0 (.t 16) (i6 0)),qM 25 26]) (.cd (.t 25) (.sk)
 (rg [oo 27 (.bi .eql 0 (.t 16) (i6 1)),qM 25 27]))) (.cd (.t 25) (rg [qM 28 5,qF 29 0 7,qL 30 29,oo 31 (.bi .sub 0 (.t 30) (i6 0)),oo 32 (.ca .pure false (.f Uy) [.t 31]),oo 33 (.bs 1 1 [.string ⟨#[]⟩] [(0,.t 32)]),oo 34 (.ap 1 0 (.t 28) (.t 33)),qM 5 34]) (.sq (rg [oo 36 (.bi .eql 0 (.t 16) (i6 2)),qM 35 36]) (.cd (.t 35) (rg [qM 37 5,qF 38 2 7,qL 39 38,oo 40 (.ca .pure false (.f Uy) [.t 39]),oo 41 (.bi .add 0 (.k (.string ⟨#[64]⟩)) (.t 40)),oo 42 (.bs 1 1 [.string ⟨#[]⟩] [(0,.t 41)]),oo 43 (.ap 1 0 (.t 37) (.t 42)),qM 5 43]) (.sq (rg [oo 45 (.bi .eql 0 (.t 16) (i6 3)),qM 44 45]) (.cd (.t 44) (.rg (some 0) [qM 46 5,qM 47 0,qF 48 1 7,qL 49 48,qI 50 3 47 49,qF 51 0 50,qL 52 51,oo 53 (.bi .add 0 (.t 52) (.k (.string ⟨#[58]⟩))),qF 54 3 7,qL 55 54,oo 56 (.ca .pure false (.f Qy) [.t 55,.k (.string ⟨#[44]⟩)]),qB 57 .add 53 56,oo 58 (.bs 1 1 [.string ⟨#[]⟩] [(0,.t 57)]),oo 59 (.ap 1 0 (.t 46) (.t 58)),qM 5 59]) (.sq (rg [oo 61 (.bi .eql 0 (.t 16) (i6 4)),qM 60 61]) (.cd (.t 60) (rg [qM 62 5,oo 63 (.bs 1 1 [.string ⟨#[]⟩] [(0,.k (.string ⟨#[124]⟩))]),oo 64 (.ap 1 0 (.t 62) (.t 63)),qM 5 64]) (.sq (rg [oo 66 (.bi .eql 0 (.t 16) (i6 5)),qM 65 66]) (.cd (.t 65) (rg [qM 67 5,oo 68 (.bs 1 1 [.string ⟨#[]⟩] [(0,.k (.string ⟨#[124,124]⟩))]),oo 69 (.ap 1 0 (.t 67) (.t 68)),qM 5 69]) (.sq (rg [oo 71 (.bi .eql 0 (.t 16) (i6 6)),qM 70 71]) (.cd (.t 70) (rg [qM 72 5,qF 73 3 7,qL 74 73,oo 75 (.ia 1 (.t 74) (i6 0)),qL 76 75,oo 77 (.bi .add 0 (.k (.string ⟨#[47]⟩)) (.t 76)),oo 78 (.bs 1 1 [.string ⟨#[]⟩] [(0,.t 77)]),oo 79 (.ap 1 0 (.t 72) (.t 78)),qM 5 79])
 (rg [qM 17 5,qF 18 3 7,qL 19 18,oo 20 (.ia 1 (.t 19) (i6 0)),qL 21 20,oo 22 (.bi .add 0 (.k (.string ⟨#[43]⟩)) (.t 21)),oo 23 (.bs 1 1 [.string ⟨#[]⟩] [(0,.t 22)]),oo 24 (.ap 1 0 (.t 17) (.t 23)),qM 5 24])))))))))))))))))
 (rg [oo 80 (.bi .add 0 (.t 11) (i6 1)),qM 11 80]))))))) (.sq (rg [qM 81 5,oo 82 (.ca .pure false (.f Qy) [.t 81,.k (.string ⟨#[32]⟩)]),qM 4 82]) (.rt))))) }
theorem ZfJ:ZK Proofs.Tryz.prog XO ZaD=true:=by kernel_rfl
def ZaE:F2 :=
 { nt:=46,res:=[.t 2 [2]],body:=(.sq (rg [om 2 (.k (.slice none 0 0))]) (.sq (rg [oo 8 (.bs 1 0 [] []),oo 9 (.bs 1 0 [] []),qM 3 8,oo 4 (.fz (.t 9))]) (.sq (.sq (rg [om 5 (i6 0)]) (.bl 0 (.lp [0,3,4,5] [256,1408] (.sq (.sq (rg [qM 10 5,qM 11 0,qN 12 11,qB 13 .lss 10 12]) (.cd (.t 13) (.sk) (.ex 0))) (.sq (.bl 1 (.sq (rg [qM 16 4,qN 17 16,qM 18 0,qM 19 5,qI 20 4 18 19,qF 21 0 20,qL 22 21,oo 23 (.ca .pure false (.f Yo) [.t 22]),qB 24 .sub 17 23,qM 25 5,qM 6 24,qM 7 25]) (.sq (.sq (rg [qM 26 6,qM 27 4,qN 28 27,qB 29 .lss 26 28]) (.cd (.t 29) (rg [qM 30 4,qM 31 6,qI 32 1 30 31,qL 33 32,qM 7 33]) (.sk))) (.sq (rg [qM 34 4,qM 35 6,oo 36 (.sx 1 (.t 34) none (some (.t 35)) none),oo 37 (.ca .pure true (.f X1) [.t 36]),qM 38 7,oo 39 (.bs 1 1 [.int .i64 0] [(0,.t 38)]),oo 40 (.ap 1 0 (.t 37) (.t 39)),oo 4 (.fz (.t 40))])
 (rg [qM 41 3,qM 42 7,oo 43 (.bs 1 1 [.int .i64 0] [(0,.t 42)]),oo 44 (.ap 1 0 (.t 41) (.t 43)),qM 3 44])))))
 (rg [qM 14 5,oo 15 (.bi .add 0 (.t 14) (i6 1)),qM 5 15])))))) (.sq (rg [qM 45 3,qM 2 45]) (.rt))))) }
theorem ZfK:ZK Proofs.Tryz.prog XP ZaE=true:=by kernel_rfl
def Zac:F2 :=
 { nt:=46,res:=[.t 2 [2]],body:=(.sq (rg [om 2 (.k (.slice none 0 0))]) (.sq (rg [oo 9 (.bs 1 0 [] []),oo 10 (.bs 1 0 [] []),qM 3 9,qM 4 10]) (.sq (.sq (rg [qM 11 0,qN 12 11,om 13 (i6 0)]) (.bl 0 (.lp [3,4,11,12,13] [288,320,1248,1376] (.sq (rg [qB 14 .lss 13 12]) (.sq (.cd (.t 14) (.sk) (.ex 0)) (.sq (.bl 1 (.sq (rg [qM 15 13,qI 16 4 11 13,qS 17 4 16,oo 6 (.al [.int .i64 0,.int .i64 0,.int .i64 0,.slice none 0 0] []),qM 5 15,on1 (.st 4 (.t 6) (.t 17))]) (.sq (rg [qM 18 5,qM 7 18]) (.sq (.sq (rg [qS 19 4 6,oo 20 (.ca .pure false (.f Jd) [.t 19]),qM 8 20]) (.sq (rg [qM 21 8,oo 22 (.bi .gtr 0 (.t 21) (i6 0))]) (.cd (.t 22) (.sq (rg [qM 23 4,qM 24 4,qN 25 24,qM 26 8,qB 27 .sub 25 26,qI 28 1 23 27,qL 29 28,qM 7 29])
 (rg [qM 30 4,qM 31 4,qN 32 31,qM 33 8,qB 34 .sub 32 33,oo 35 (.sh 1 (.t 30) (.t 34)),qM 4 35])) (.sk)))) (.sq (rg [qM 36 4,qM 37 7,oo 38 (.bs 1 1 [.int .i64 0] [(0,.t 37)]),oo 39 (.ap 1 0 (.t 36) (.t 38)),qM 4 39])
 (rg [qM 40 3,qM 41 7,oo 42 (.bs 1 1 [.int .i64 0] [(0,.t 41)]),oo 43 (.ap 1 0 (.t 40) (.t 42)),qM 3 43]))))))
 (rg [oo 44 (.bi .add 0 (.t 13) (i6 1)),qM 13 44]))))))) (.sq (rg [qM 45 3,qM 2 45]) (.rt))))) }
theorem ZeK:ZK Proofs.Tryz.prog Xj Zac=true:=by kernel_rfl
def ZcG:F2 :=
 { nt:=19,res:=[.t 4 [0]],body:=(.sq (rg [om 4 (.k (.bool false))]) (.sq (.sq (rg [om 5 (i6 0)]) (.bl 0 (.lp [0,1,5] [] (.sq (.sq (rg [qM 6 5,qM 7 1,qB 8 .lss 6 7]) (.cd (.t 8) (.sk) (.ex 0))) (.sq (.bl 1 (.sq (rg [qM 11 0,qM 12 5,oo 13 (.ca .pure false (.f UQ) [.t 11,.t 12]),oo 14 (.nt (.t 13))]) (.cd (.t 14) (.sq (rg [om 4 (.k (.bool false))]) (.rt)) (.sk))))
 (rg [qM 9 5,oo 10 (.bi .add 0 (.t 9) (i6 1)),qM 5 10])))))) (.sq (rg [qM 15 0,qN 16 15,qM 17 1,qB 18 .eql 16 17,qM 4 18]) (.rt)))) }
theorem Zij:ZK Proofs.Tryz.prog WW ZcG=true:=by kernel_rfl
def Zel:F2 :=
 { nt:=34,res:=[.c 2 (some 6) [0,4,2,0,2,3]],body:=(.sq (rg [oo 1 (.bt (.t 0)),oo 2 (.al [.int .i64 0,.slice none 0 0,.slice none 0 0,.int .i64 0,.slice none 0 0,.slice none 0 0] [])]) (.sq (rg [oo 7 (.bs 1 0 [] []),oo 8 (.bs 1 0 [] []),qM 3 7,qM 4 8]) (.sq (.sq (rg [om 5 (i6 0)]) (.bl 0 (.lp [1,2,3,4,5] [64,224,256,608,928,1056,1057,1058,1059] (.sq (.sq (rg [qM 9 5,qF 10 1 1,qL 11 10,qN 12 11,qB 13 .lss 9 12]) (.cd (.t 13) (.sk) (.ex 0))) (.sq (.bl 1 (rg [qM 16 3,qM 17 5,oo 18 (.bs 1 1 [.int .i64 0] [(0,.t 17)]),oo 19 (.ap 1 0 (.t 16) (.t 18)),qM 3 19]))
 (rg [qM 14 5,oo 15 (.bi .add 0 (.t 14) (i6 1)),qM 5 15])))))) (.sq (.sq (rg [om 6 (i6 0)]) (.bl 2 (.lp [1,2,3,4,6] [64,224,256,608,928,1056,1057,1058,1059] (.sq (.sq (rg [qM 20 6,qF 21 3 1,qL 22 21,qB 23 .lss 20 22]) (.cd (.t 23) (.sk) (.ex 2))) (.sq (.bl 3 (rg [qM 26 4,qM 27 6,oo 28 (.bs 1 1 [.int .i64 0] [(0,.t 27)]),oo 29 (.ap 1 0 (.t 26) (.t 28)),qM 4 29]))
 (rg [qM 24 6,oo 25 (.bi .add 0 (.t 24) (i6 1)),qM 6 25])))))) (.sq (rg [qS 30 6 1,qM 31 3,qM 32 4,oo 33 (.ca .pure true (.f QL) [.t 30,.t 31,.t 32]),on1 (.st 6 (.t 2) (.t 33))]) (.rt)))))) }
theorem ZjP:ZK Proofs.Tryz.prog Vg Zel=true:=by kernel_rfl
def ZbF:F2 :=
 { nt:=27,res:=[.t 4 [0]],body:=(.sq (rg [om 4 (.k (.bool false))]) (.sq (rg [qM 8 1,oo 9 (.ca .pure true (.f Z7) [.t 8]),qM 5 9]) (.sq (rg [qM 10 5,oo 11 (.ca .any false (.f Y3) [.t 10])]) (.sq (.sq (rg [qM 12 5,qN 13 12,om 14 (i6 0)]) (.bl 0 (.lp [0,1,12,13,14] [288] (.sq (rg [qB 15 .lss 14 13]) (.sq (.cd (.t 15) (.sk) (.ex 0)) (.sq (.bl 1 (.sq (rg [qM 16 14,qI 17 1 12 14,qL 18 17,qM 6 16,qM 7 18]) (.sq (rg [qM 19 7,qM 20 6,qB 21 .neq 19 20]) (.cd (.t 21) (.sq (rg [om 4 (.k (.bool false))]) (.rt)) (.sk)))))
 (rg [oo 22 (.bi .add 0 (.t 14) (i6 1)),qM 14 22]))))))) (.sq (rg [qM 23 1,qN 24 23,qM 25 0,qB 26 .eql 24 25,qM 4 26]) (.rt)))))) }
theorem ZgE:ZK Proofs.Tryz.prog Wl ZbF=true:=by kernel_rfl
def Da:F2 :=
 { nt:=42,res:=[.c 2 (some 6) [0,4,2,0,2,3]],body:=(.sq (rg [oo 1 (.bt (.t 0)),oo 2 (.al [.int .i64 0,.slice none 0 0,.slice none 0 0,.int .i64 0,.slice none 0 0,.slice none 0 0] [])]) (.sq (.rg (some 0) [qF 6 0 1,qL 7 6,qF 8 2 1,qL 9 8,oo 10 (.ca .pure true (.f Z7) [.t 9]),qF 11 3 1,qL 12 11,qF 13 4 1,qL 14 13,oo 15 (.ca .pure true (.f ZJ) [.t 14]),qF 16 5 1,qL 17 16,oo 18 (.ca .pure true (.f Jm) [.t 17]),oo 19 (.bd [.int .i64 0,.slice none 0 0,.slice none 0 0,.int .i64 0,.slice none 0 0,.slice none 0 0] [(0,1,.t 7),(2,1,.t 10),(3,1,.t 12),(4,1,.t 15),(5,1,.t 18)] [(1,3)]),oo 3 (.al [.int .i64 0,.slice none 0 0,.slice none 0 0,.int .i64 0,.slice none 0 0,.slice none 0 0] []),on1 (.st 6 (.t 3) (.t 19))]) (.sq (.sq (rg [qF 20 1 1,qL 21 20,qN 22 21,om 23 (i6 0)]) (.bl 0 (.lp [2,3,21,22,23] [64,96,320,480,576,608,1216] (.sq (rg [qB 24 .lss 23 22]) (.sq (.cd (.t 24) (.sk) (.ex 0)) (.sq (.bl 1 (.sq (rg [qI 25 3 21 23,qS 26 3 25,oo 5 (.al [.int .i64 0,.int .i64 0,.slice none 0 0] []),on1 (.st 3 (.t 5) (.t 26))]) (.rg (some 0) [qF 27 1 3,qL 28 27,qF 29 0 5,qL 30 29,qF 31 1 5,qL 32 31,qF 33 2 5,qL 34 33,oo 35 (.ca .pure true (.f Z7) [.t 34]),oo 36 (.bd [.int .i64 0,.int .i64 0,.slice none 0 0] [(0,1,.t 30),(1,1,.t 32),(2,1,.t 35)] []),oo 37 (.bv 3 1 [.int .i64 0,.int .i64 0,.slice none 0 0] [(0,.t 36)]),oo 38 (.ap 3 2 (.t 28) (.t 37)),qF 39 1 3,on1 (.st 1 (.t 39) (.t 38))])))
 (rg [oo 40 (.bi .add 0 (.t 23) (i6 1)),qM 23 40]))))))) (.sq (rg [qS 41 6 3,on1 (.st 6 (.t 2) (.t 41))]) (.rt))))) }
theorem ZdO:ZK Proofs.Tryz.prog JF Da=true:=by kernel_rfl
def Zem:F2 :=
 { nt:=55,res:=[.t 2 [0]],body:=(.sq (rg [om 2 (.k (.bool false))]) (.sq (.sq (rg [om 3 (i6 0)]) (.bl 0 (.lp [0,3] [] (.sq (.sq (rg [qM 5 3,qM 6 0,qN 7 6,qB 8 .lss 5 7]) (.cd (.t 8) (.sk) (.ex 0))) (.sq (.bl 1 (.sq (.sq (rg [qM 11 0,qM 12 3,qI 13 3 11 12,qF 14 0 13,qL 15 14,oo 16 (.ca .pure false (.f Vz) [.t 15]),oo 17 (.nt (.t 16)),qM 18 17,og 19 18 false (.mv (.t 0) none),og 20 18 false (.mv (.t 3) none),og 21 18 false (.ia 3 (.t 19) (.t 20)),og 22 18 false (.fa 1 (.t 21)),og 23 18 false (.ld none (.t 22)),og 24 18 false (.ca .pure false (.f Z5) [.t 23,i6 0,i6 3]),og 25 18 false (.nt (.t 24)),oo 26 (.pk (.t 18) (.k (.bool true)) (.t 25)),qM 27 26,og 28 27 false (.mv (.t 0) none),og 29 27 false (.mv (.t 3) none),og 30 27 false (.ia 3 (.t 28) (.t 29)),og 31 27 false (.fa 2 (.t 30)),og 32 27 false (.ld none (.t 31)),og 33 27 false (.ca .pure false (.f Z5) [.t 32,i6 0,i6 2]),og 34 27 false (.nt (.t 33)),oo 35 (.pk (.t 27) (.k (.bool true)) (.t 34))]) (.cd (.t 35) (.sq (rg [om 2 (.k (.bool false))]) (.rt)) (.sk))) (.sq (rg [om 4 (i6 0)]) (.bl 2 (.lp [0,3,4] [] (.sq (.sq (rg [qM 36 4,qM 37 3,qB 38 .lss 36 37]) (.cd (.t 38) (.sk) (.ex 2))) (.sq (.bl 3 (.sq (.rg (some 0) [qM 41 0,qM 42 4,qI 43 3 41 42,qF 44 0 43,qL 45 44,qM 46 0,qM 47 3,qI 48 3 46 47,qF 49 0 48,qL 50 49,qB 51 .eql 45 50]) (.cd (.t 51) (.sq (rg [om 2 (.k (.bool false))]) (.rt)) (.sk))))
 (rg [qM 39 4,oo 40 (.bi .add 0 (.t 39) (i6 1)),qM 4 40]))))))))
 (rg [qM 9 3,oo 10 (.bi .add 0 (.t 9) (i6 1)),qM 3 10])))))) (.sq (rg [qM 52 0,qN 53 52,oo 54 (.ca .pure false (.f Z5) [.t 53,i6 1,i6 6]),qM 2 54]) (.rt)))) }
theorem ZjQ:ZK Proofs.Tryz.prog X0 Zem=true:=by kernel_rfl
def Zen:F2 :=
 { nt:=49,res:=[.t 4 [0],.t 5 [0],.t 6 [0]],body:=(.sq (rg [om 4 (.k (.slice none 0 0)),om 5 (i6 0),om 6 (.k (.bool false))]) (.sq (rg [oo 12 (.bs 7 0 [] []),oo 7 (.fz (.t 12)),om 8 (i6 0)]) (.sq (.sq (rg [om 9 (i6 0)]) (.bl 0 (.lp [0,1,7,8,9] [] (.sq (.sq (rg [qM 13 9,qM 14 1,qN 15 14,qB 16 .lss 13 15]) (.cd (.t 16) (.sk) (.ex 0))) (.sq (.bl 1 (.sq (.sq (rg [qM 19 0,qM 20 1,qM 21 9,qI 22 4 20 21,qS 23 4 22,oo 24 (.ca .pure false (.f WY) [.t 19,.t 23]),oo 25 (.nt (.t 24))]) (.cd (.t 25) (.sq (rg [qM 26 7,qM 27 8,qM 4 26,qM 5 27,om 6 (.k (.bool false))]) (.rt)) (.sk))) (.sq (rg [qM 29 0,qM 30 7,qM 31 1,qM 32 9,qI 33 4 31 32,qS 34 4 33,oo 35 (.ca .pure false (.f Xn) [.t 29,.t 30,.t 34]),qM 28 35,qE 36 0 28,qE 37 1 28,qM 10 36,qM 11 37]) (.sq (.sq (rg [qM 38 11,oo 39 (.nt (.t 38))]) (.cd (.t 39) (.sq (rg [qM 40 7,qM 41 8,qM 4 40,qM 5 41,om 6 (.k (.bool false))]) (.rt)) (.sk))) (.sq (rg [qM 42 10,qM 7 42])
 (rg [qM 43 8,qM 44 7,qN 45 44,oo 46 (.ca .pure false (.f WZ) [.t 43,.t 45]),qM 8 46]))))))
 (rg [qM 17 9,oo 18 (.bi .add 0 (.t 17) (i6 1)),qM 9 18])))))) (.sq (rg [qM 47 7,qM 48 8,qM 4 47,qM 5 48,om 6 (.k (.bool true))]) (.rt))))) }
theorem ZjR:ZK Proofs.Tryz.prog UP Zen=true:=by kernel_rfl
def J0:F2 :=
 { nt:=63,res:=[.t 4 [0]],body:=(.sq (rg [oo 3 (.bt (.t 1)),om 4 (.k (.string ⟨#[]⟩))]) (.sq (.sq (rg [qF 7 0 3,qL 8 7]) (.bl 0 (.sq (rg [oo 10 (.bi .eql 0 (.t 8) (i6 0)),qM 9 10]) (.cd (.t 9) (.sq (rg [om 4 (.k (.string ⟨#[48]⟩))]) (.rt)) (.sq (rg [oo 12 (.bi .eql 0 (.t 8) (i6 1)),qM 11 12]) (.cd (.t 11) (.sq (rg [om 4 (.k (.string ⟨#[49]⟩))]) (.rt)) (.sq (rg [oo 14 (.bi .eql 0 (.t 8) (i6 2)),qM 13 14]) (.cd (.t 13) (.sq (rg [qF 15 2 3,qL 16 15,oo 17 (.ca .pure false (.f YE) [.t 16]),oo 18 (.bi .add 0 (.k (.string ⟨#[64]⟩)) (.t 17)),qM 4 18]) (.rt)) (.sq (rg [oo 20 (.bi .eql 0 (.t 8) (i6 4)),qM 19 20]) (.cd (.t 19) (.sq (rg [om 4 (.k (.string ⟨#[124]⟩))]) (.rt)) (.sq (rg [oo 22 (.bi .eql 0 (.t 8) (i6 5)),qM 21 22]) (.cd (.t 21) (.sq (rg [om 4 (.k (.string ⟨#[124,124]⟩))]) (.rt)) (.sq (rg [oo 24 (.bi .eql 0 (.t 8) (i6 6)),qM 23 24]) (.cd (.t 23) (.sq (rg [qF 25 3 3,qL 26 25,oo 27 (.ia 1 (.t 26) (i6 0)),qL 28 27,oo 29 (.bi .add 0 (.k (.string ⟨#[47]⟩)) (.t 28)),qM 4 29]) (.rt)) (.sq (rg [oo 31 (.bi .eql 0 (.t 8) (i6 7)),qM 30 31]) (.cd (.t 30) (.sq (rg [qF 32 3 3,qL 33 32,oo 34 (.ia 1 (.t 33) (i6 0)),qL 35 34,oo 36 (.bi .add 0 (.k (.string ⟨#[43]⟩)) (.t 35)),qM 4 36]) (.rt)) (.sk))))))))))))))))) (.sq (rg [qM 37 0,qF 38 1 3,qL 39 38,qI 40 3 37 39,qF 41 0 40,qL 42 41,oo 43 (.bi .add 0 (.t 42) (.k (.string ⟨#[58]⟩))),qM 5 43]) (.sq (.sq (rg [om 6 (i6 0)]) (.bl 1 (.lp [3,5,6] [] (.sq (.sq (rg [qM 44 6,qF 45 3 3,qL 46 45,qN 47 46,qB 48 .lss 44 47]) (.cd (.t 48) (.sk) (.ex 1))) (.sq (.bl 2 (.sq (.sq (rg [qM 51 6,oo 52 (.bi .gtr 0 (.t 51) (i6 0))]) (.cd (.t 52) (rg [qM 53 5,oo 54 (.bi .add 0 (.t 53) (.k (.string ⟨#[44]⟩))),qM 5 54]) (.sk)))
 (rg [qM 55 5,qF 56 3 3,qL 57 56,qM 58 6,qI 59 1 57 58,qL 60 59,qB 61 .add 55 60,qM 5 61])))
 (rg [qM 49 6,oo 50 (.bi .add 0 (.t 49) (i6 1)),qM 6 50])))))) (.sq (rg [qM 62 5,qM 4 62]) (.rt)))))) }
theorem Zik:ZK Proofs.Tryz.prog WX J0=true:=by kernel_rfl
def Uz:F2 :=
 { nt:=40,res:=[.t 2 [0]],body:=(.sq (rg [om 2 (.k (.bool false))]) (.sq (.sq (rg [qM 5 0,qN 6 5,oo 7 (.ca .pure false (.f ZU) [.t 6,i6 1,i6 6]),oo 8 (.nt (.t 7))]) (.cd (.t 8) (.sq (rg [om 2 (.k (.bool false))]) (.rt)) (.sk))) (.sq (.sq (rg [qM 9 0,qN 10 9,om 11 (i6 0)]) (.bl 0 (.lp [0,9,10,11] [] (.sq (rg [qB 12 .lss 11 10]) (.sq (.cd (.t 12) (.sk) (.ex 0)) (.sq (.bl 1 (.sq (rg [qM 13 11,qI 14 3 9 11,qS 15 3 14,oo 4 (.al [.string ⟨#[]⟩,.int .i64 0,.int .i64 0] []),qM 3 13,on1 (.st 3 (.t 4) (.t 15))]) (.sq (rg [qF 16 0 4,qL 17 16,oo 18 (.ca .pure false (.f Ye) [.t 17]),oo 19 (.nt (.t 18)),qM 20 19,og 21 20 false (.fa 1 (.t 4)),og 22 20 false (.ld none (.t 21)),og 23 20 false (.ca .pure false (.f ZU) [.t 22,i6 0,i6 3]),og 24 20 false (.nt (.t 23)),oo 25 (.pk (.t 20) (.k (.bool true)) (.t 24)),qM 26 25,og 27 26 false (.fa 2 (.t 4)),og 28 26 false (.ld none (.t 27)),og 29 26 false (.ca .pure false (.f ZU) [.t 28,i6 0,i6 2]),og 30 26 false (.nt (.t 29)),oo 31 (.pk (.t 26) (.k (.bool true)) (.t 30)),qM 32 31,og 33 32 false (.mv (.t 0) none),og 34 32 false (.mv (.t 3) none),og 35 32 false (.sx 3 (.t 33) none (some (.t 34)) none),og 36 32 false (.mf Yi [.t 4]),og 37 32 false (.ca .pure false (.f Jh) [.t 35,.t 36]),oo 38 (.pk (.t 32) (.k (.bool true)) (.t 37))]) (.cd (.t 38) (.sq (rg [om 2 (.k (.bool false))]) (.rt)) (.sk)))))
 (rg [oo 39 (.bi .add 0 (.t 11) (i6 1)),qM 11 39]))))))) (.sq (rg [om 2 (.k (.bool true))]) (.rt))))) }
theorem ZcH:ZK Proofs.Tryz.prog JV Uz=true:=by kernel_rfl
def ZbG:F2 :=
 { nt:=62,res:=[.t 4 [0],.t 5 [0],.t 6 [0]],body:=(.sq (rg [om 4 (.k (.slice none 0 0)),om 5 (i6 0),om 6 (.k (.bool false))]) (.sq (rg [oo 14 (.bs 7 0 [] []),oo 7 (.fz (.t 14))]) (.sq (rg [om 8 (i6 0)]) (.sq (.sq (rg [qM 15 1,qN 16 15,om 17 (i6 0)]) (.bl 0 (.lp [0,7,8,15,16,17] [] (.sq (rg [qB 18 .lss 17 16]) (.sq (.cd (.t 18) (.sk) (.ex 0)) (.sq (.bl 1 (.sq (rg [qI 19 4 15 17,qS 20 4 19,oo 10 (.al [.int .i64 0,.int .i64 0,.int .i64 0,.slice none 0 0] []),on1 (.st 4 (.t 10) (.t 20))]) (.sq (.sq (rg [qM 21 0,qS 22 4 10,oo 23 (.ca .pure false (.f W0) [.t 21,.t 22]),oo 24 (.nt (.t 23)),qM 25 24,og 26 25 false (.ld (some 4) (.t 10)),og 27 25 false (.ca .pure false (.f Jd) [.t 26]),og 28 25 false (.mv (.t 7) none),og 29 25 false (.ln (.t 28)),og 30 25 false (.bi .gtr 0 (.t 27) (.t 29)),oo 31 (.pk (.t 25) (.k (.bool true)) (.t 30))]) (.cd (.t 31) (.sq (rg [om 4 (.k (.slice none 0 0)),om 5 (i6 0),om 6 (.k (.bool false))]) (.rt)) (.sk))) (.sq (rg [qM 32 7,qN 33 32,qS 34 4 10,oo 35 (.ca .pure false (.f Jd) [.t 34]),qB 36 .sub 33 35,qM 11 36]) (.sq (.rg (some 0) [qM 38 0,qS 39 4 10,qM 40 7,qM 41 11,oo 42 (.sx 7 (.t 40) (some (.t 41)) none none),oo 43 (.ca .pure false (.f DF) [.t 38,.t 39,.t 42]),qM 37 43,qE 44 0 37,qE 45 1 37,oo 12 (.al [.int .i64 0,.slice none 0 0,.slice none 0 0,.int .i64 0,.slice none 0 0,.slice none 0 0,.slice none 0 0] []),on1 (.s0 7 (.t 12) (.t 44)),qM 13 45]) (.sq (.sq (rg [qM 46 13,oo 47 (.nt (.t 46))]) (.cd (.t 47) (.sq (rg [om 4 (.k (.slice none 0 0)),om 5 (i6 0),om 6 (.k (.bool false))]) (.rt)) (.sk))) (.sq (.rg (some 0) [qM 48 7,qM 49 11,qM 50 11,oo 51 (.sx 7 (.t 48) none (some (.t 49)) (some (.t 50))),qS 52 7 12,oo 53 (.bv 7 1 [.int .i64 0,.slice none 0 0,.slice none 0 0,.int .i64 0,.slice none 0 0,.slice none 0 0,.slice none 0 0] [(0,.t 52)]),oo 54 (.ap 7 2 (.t 51) (.t 53)),oo 7 (.fz (.t 54))])
 (rg [qM 55 8,qM 56 7,qN 57 56,oo 58 (.mm true (.t 55) (.t 57)),qM 8 58]))))))))
 (rg [oo 59 (.bi .add 0 (.t 17) (i6 1)),qM 17 59]))))))) (.sq (rg [qM 60 7,qM 61 8,qM 4 60,qM 5 61,om 6 (.k (.bool true))]) (.rt)))))) }
theorem ZgF:ZK Proofs.Tryz.prog Wm ZbG=true:=by kernel_rfl
def Zhm:F2 :=
 { nt:=5,res:=[.t 2 [0]],body:=(.sq (rg [om 2 (.k (.string ⟨#[]⟩))]) (.sq (rg [qM 3 0,oo 4 (.ca .pure false (.f D7) [.t 3]),qM 2 4]) (.rt))) }
theorem Zm0:ZK Proofs.Tryz.prog Uy Zhm=true:=by kernel_rfl
def YF:F2 :=
 { nt:=11,res:=[.t 2 [0]],body:=(.sq (rg [om 2 (i6 0)]) (.sq (.sq (rg [qM 3 0]) (.bl 0 (.sq (.sq (rg [oo 5 (.bi .eql 0 (.t 3) (i6 4)),qM 4 5]) (.cd (.t 4) (.sk)
 (rg [oo 6 (.bi .eql 0 (.t 3) (i6 5)),qM 4 6]))) (.cd (.t 4) (.sq (rg [om 2 (i6 2)]) (.rt)) (.sq (.sq (rg [oo 8 (.bi .eql 0 (.t 3) (i6 3)),qM 7 8]) (.cd (.t 7) (.sk) (.sq (rg [oo 9 (.bi .eql 0 (.t 3) (i6 6)),qM 7 9]) (.cd (.t 7) (.sk)
 (rg [oo 10 (.bi .eql 0 (.t 3) (i6 7)),qM 7 10]))))) (.cd (.t 7) (.sq (rg [om 2 (i6 1)]) (.rt)) (.sk))))))) (.sq (rg [om 2 (i6 0)]) (.rt)))) }
theorem ZgG:ZK Proofs.Tryz.prog Yo YF=true:=by kernel_rfl
def Zeo:F2 :=
 { nt:=6,res:=[.t 2 [2]],body:=(.sq (rg [om 2 (.k (.slice none 0 0))]) (.sq (rg [oo 3 (.bs 1 0 [] []),qM 4 0,oo 5 (.ap 1 0 (.t 3) (.t 4)),qM 2 5]) (.rt))) }
theorem ZjS:ZK Proofs.Tryz.prog X1 Zeo=true:=by kernel_rfl
def ZD:F2 :=
 { nt:=16,res:=[.t 2 [0]],body:=(.sq (rg [oo 1 (.bt (.t 0)),om 2 (i6 0)]) (.sq (.sq (rg [qF 3 0 1,qL 4 3]) (.bl 0 (.sq (.sq (rg [oo 6 (.bi .eql 0 (.t 4) (i6 0)),qM 5 6]) (.cd (.t 5) (.sk) (.sq (rg [oo 7 (.bi .eql 0 (.t 4) (i6 1)),qM 5 7]) (.cd (.t 5) (.sk)
 (rg [oo 8 (.bi .eql 0 (.t 4) (i6 2)),qM 5 8]))))) (.cd (.t 5) (.sq (rg [om 2 (i6 0)]) (.rt)) (.sq (.sq (rg [oo 10 (.bi .eql 0 (.t 4) (i6 3)),qM 9 10]) (.cd (.t 9) (.sk) (.sq (rg [oo 11 (.bi .eql 0 (.t 4) (i6 6)),qM 9 11]) (.cd (.t 9) (.sk)
 (rg [oo 12 (.bi .eql 0 (.t 4) (i6 7)),qM 9 12]))))) (.cd (.t 9) (.sq (rg [om 2 (i6 1)]) (.rt)) (.sq (.sq (rg [oo 14 (.bi .eql 0 (.t 4) (i6 4)),qM 13 14]) (.cd (.t 13) (.sk)
 (rg [oo 15 (.bi .eql 0 (.t 4) (i6 5)),qM 13 15]))) (.cd (.t 13) (.sq (rg [om 2 (i6 2)]) (.rt)) (.sk))))))))) (.sq (rg [om 2 (i6 (-1))]) (.rt)))) }
theorem ZaF:ZK Proofs.Tryz.prog Jd ZD=true:=by kernel_rfl
def ZcI:F2 :=
 { nt:=98,res:=[.t 4 [0]],body:=(.sq (rg [oo 3 (.bt (.t 1)),om 4 (.k (.bool false))]) (.sq (.sq (rg [qM 8 0,oo 9 (.ca .pure false (.f X0) [.t 8]),oo 10 (.nt (.t 9)),qM 11 10,og 12 11 false (.fa 0 (.t 3)),og 13 11 false (.ld none (.t 12)),og 14 11 false (.ca .pure false (.f Z5) [.t 13,i6 0,i6 4]),og 15 11 false (.nt (.t 14)),oo 16 (.pk (.t 11) (.k (.bool true)) (.t 15)),qM 17 16,og 18 17 false (.fa 1 (.t 3)),og 19 17 false (.ld none (.t 18)),og 20 17 false (.ln (.t 19)),og 21 17 false (.bi .gtr 0 (.t 20) (i6 8)),oo 22 (.pk (.t 17) (.k (.bool true)) (.t 21)),qM 23 22,og 24 23 false (.fa 2 (.t 3)),og 25 23 false (.ld none (.t 24)),og 26 23 false (.ln (.t 25)),og 27 23 false (.bi .gtr 0 (.t 26) (i6 4)),oo 28 (.pk (.t 23) (.k (.bool true)) (.t 27)),qM 29 28,og 30 29 false (.fa 3 (.t 3)),og 31 29 false (.ld none (.t 30)),og 32 29 false (.ca .pure false (.f Z5) [.t 31,i6 0,i6 8]),og 33 29 false (.nt (.t 32)),oo 34 (.pk (.t 29) (.k (.bool true)) (.t 33))]) (.cd (.t 34) (.sq (rg [om 4 (.k (.bool false))]) (.rt)) (.sk))) (.sq (.sq (rg [qF 35 4 3,qL 36 35,oo 37 (.ca .pure false (.f Qz) [.t 36]),oo 38 (.nt (.t 37)),qM 39 38,og 40 39 false (.fa 5 (.t 3)),og 41 39 false (.ld none (.t 40)),og 42 39 false (.ln (.t 41)),og 43 39 false (.bi .gtr 0 (.t 42) (i6 16)),oo 44 (.pk (.t 39) (.k (.bool true)) (.t 43)),qM 45 44,og 46 45 false (.ld (some 6) (.t 3)),og 47 45 false (.ca .pure false (.f Wn) [.t 46]),og 48 45 false (.ca .pure false (.f Qz) [.t 47]),og 49 45 false (.nt (.t 48)),oo 50 (.pk (.t 45) (.k (.bool true)) (.t 49))]) (.cd (.t 50) (.sq (rg [om 4 (.k (.bool false))]) (.rt)) (.sk))) (.sq (.sq (rg [om 5 (i6 0)]) (.bl 0 (.lp [0,3,5] [] (.sq (.sq (rg [qM 51 5,qF 52 1 3,qL 53 52,qN 54 53,qB 55 .lss 51 54]) (.cd (.t 55) (.sk) (.ex 0))) (.sq (.bl 1 (.sq (rg [qM 58 0,qS 59 6 3,qM 60 5,oo 61 (.ca .pure false (.f W1) [.t 58,.t 59,.t 60]),oo 62 (.nt (.t 61))]) (.cd (.t 62) (.sq (rg [om 4 (.k (.bool false))]) (.rt)) (.sk))))
 (rg [qM 56 5,oo 57 (.bi .add 0 (.t 56) (i6 1)),qM 5 57])))))) (.sq (.sq (rg [om 6 (i6 0)]) (.bl 2 (.lp [0,3,6] [] (.sq (.sq (rg [qM 63 6,qF 64 2 3,qL 65 64,qN 66 65,qB 67 .lss 63 66]) (.cd (.t 67) (.sk) (.ex 2))) (.sq (.bl 3 (.sq (.rg (some 0) [qM 70 0,qS 71 6 3,qF 72 2 3,qL 73 72,qM 74 6,qI 75 1 73 74,qL 76 75,qF 77 1 3,qL 78 77,qN 79 78,oo 80 (.ca .pure false (.f QA) [.t 70,.t 71,.t 76,.t 79]),oo 81 (.nt (.t 80))]) (.cd (.t 81) (.sq (rg [om 4 (.k (.bool false))]) (.rt)) (.sk))))
 (rg [qM 68 6,oo 69 (.bi .add 0 (.t 68) (i6 1)),qM 6 69])))))) (.sq (.sq (rg [om 7 (i6 0)]) (.bl 4 (.lp [3,7] [] (.sq (.sq (rg [qM 82 7,qF 83 5 3,qL 84 83,qN 85 84,qB 86 .lss 82 85]) (.cd (.t 86) (.sk) (.ex 4))) (.sq (.bl 5 (.sq (.rg (some 0) [qS 89 6 3,qF 90 5 3,qL 91 90,qM 92 7,qI 93 2 91 92,qF 94 1 93,qL 95 94,oo 96 (.ca .pure false (.f Xo) [.t 89,.t 95]),oo 97 (.nt (.t 96))]) (.cd (.t 97) (.sq (rg [om 4 (.k (.bool false))]) (.rt)) (.sk))))
 (rg [qM 87 7,oo 88 (.bi .add 0 (.t 87) (i6 1)),qM 7 88])))))) (.sq (rg [om 4 (.k (.bool true))]) (.rt)))))))) }
theorem Zil:ZK Proofs.Tryz.prog Yd ZcI=true:=by kernel_rfl
def Zep:F2 :=
 { nt:=18,res:=[.t 4 [0]],body:=(.sq (rg [om 4 (.k (.bool false))]) (.sq (.sq (rg [om 5 (i6 0)]) (.bl 0 (.lp [0,1,5] [] (.sq (.sq (rg [qM 6 5,qM 7 0,qN 8 7,qB 9 .lss 6 8]) (.cd (.t 9) (.sk) (.ex 0))) (.sq (.bl 1 (.sq (rg [qM 12 0,qM 13 5,qI 14 1 12 13,qL 15 14,qM 16 1,qB 17 .eql 15 16]) (.cd (.t 17) (.sq (rg [om 4 (.k (.bool true))]) (.rt)) (.sk))))
 (rg [qM 10 5,oo 11 (.bi .add 0 (.t 10) (i6 1)),qM 5 11])))))) (.sq (rg [om 4 (.k (.bool false))]) (.rt)))) }
theorem ZjT:ZK Proofs.Tryz.prog UQ Zep=true:=by kernel_rfl
def Db:F2 :=
 { nt:=131,res:=[.c 6 (some 6) [0,4,2,0,2,3]],body:=(.sq (rg [oo 3 (.bt (.t 0)),oo 6 (.al [.int .i64 0,.slice none 0 0,.slice none 0 0,.int .i64 0,.slice none 0 0,.slice none 0 0] [])]) (.sq (.rg (some 0) [qF 13 0 3,oo 14 (.lt none (.t 13)),qF 15 1 3,oo 16 (.lt none (.t 15)),qN 17 16,oo 18 (.ms 3 [.int .i64 0,.int .i64 0,.slice none 0 0] (.t 17)),qF 19 3 3,oo 20 (.lt none (.t 19)),oo 21 (.bs 1 0 [] []),qF 22 4 3,qL 23 22,oo 24 (.a0 1 (.t 21) (.t 23)),oo 25 (.bd [.int .i64 0,.slice none 0 0,.slice none 0 0,.int .i64 0,.slice none 0 0,.slice none 0 0] [(0,1,.t 14),(1,1,.t 18),(3,1,.t 20),(4,1,.t 24)] [(2,1),(5,2)]),oo 7 (.al [.int .i64 0,.slice none 0 0,.slice none 0 0,.int .i64 0,.slice none 0 0,.slice none 0 0] []),on1 (.st 6 (.t 7) (.t 25))]) (.sq (.sq (rg [om 8 (i6 0)]) (.bl 0 (.lp [1,2,3,6,7,8] [192,224,576,672,768,800,801,1056,1888,3200,4096] (.sq (.sq (rg [qM 26 8,qF 27 1 3,qL 28 27,qN 29 28,qB 30 .lss 26 29]) (.cd (.t 30) (.sk) (.ex 0))) (.sq (.bl 1 (.sq (rg [oo 33 (.bs 1 0 [] []),qM 9 33]) (.sq (.sq (rg [om 10 (i6 0)]) (.bl 2 (.lp [1,2,3,6,7,8,9,10] [192,224,576,672,768,800,801,1056,1888,3200,4096] (.sq (.sq (rg [qM 34 10,qF 35 1 3,qL 36 35,qM 37 8,qI 38 3 36 37,qF 39 2 38,qL 40 39,qN 41 40,qB 42 .lss 34 41]) (.cd (.t 42) (.sk) (.ex 2))) (.sq (.bl 3 (.rg (some 0) [qM 45 9,qS 46 6 3,qF 47 1 3,qL 48 47,qM 49 8,qI 50 3 48 49,qF 51 2 50,qL 52 51,qM 53 10,qI 54 1 52 53,qL 55 54,qM 56 2,oo 57 (.ca .pure false (.f X2) [.t 46,.t 55,.t 56]),oo 58 (.bs 1 1 [.int .i64 0] [(0,.t 57)]),oo 59 (.ap 1 0 (.t 45) (.t 58)),qM 9 59]))
 (rg [qM 43 10,oo 44 (.bi .add 0 (.t 43) (i6 1)),qM 10 44])))))) (.rg (some 0) [qF 60 1 7,qL 61 60,qM 62 1,qM 63 8,qI 64 1 62 63,qL 65 64,qF 66 1 3,qL 67 66,qM 68 8,qI 69 3 67 68,qF 70 0 69,qL 71 70,qF 72 1 3,qL 73 72,qM 74 8,qI 75 3 73 74,qF 76 1 75,qL 77 76,qM 78 1,oo 79 (.ca .pure false (.f Xp) [.t 77,.t 78]),qM 80 9,oo 81 (.bd [.int .i64 0,.int .i64 0,.slice none 0 0] [(0,1,.t 71),(1,1,.t 79),(2,1,.t 80)] []),qI 82 3 61 65,on1 (.st 3 (.t 82) (.t 81))]))))
 (rg [qM 31 8,oo 32 (.bi .add 0 (.t 31) (i6 1)),qM 8 32])))))) (.sq (.sq (rg [om 11 (i6 0)]) (.bl 4 (.lp [1,2,3,6,7,11] [192,224,576,672,768,800,801,1056,1888,3200,4096] (.sq (.sq (rg [qM 83 11,qF 84 2 3,qL 85 84,qN 86 85,qB 87 .lss 83 86]) (.cd (.t 87) (.sk) (.ex 4))) (.sq (.bl 5 (.rg (some 0) [qF 90 2 7,qL 91 90,qF 92 2 3,qL 93 92,qM 94 11,qI 95 1 93 94,qL 96 95,qM 97 1,oo 98 (.ca .pure false (.f Xp) [.t 96,.t 97]),oo 99 (.bs 1 1 [.int .i64 0] [(0,.t 98)]),oo 100 (.ap 1 0 (.t 91) (.t 99)),qF 101 2 7,on1 (.st 1 (.t 101) (.t 100))]))
 (rg [qM 88 11,oo 89 (.bi .add 0 (.t 88) (i6 1)),qM 11 89])))))) (.sq (.sq (rg [om 12 (i6 0)]) (.bl 6 (.lp [2,3,6,7,12] [192,224,576,672,768,800,801,1056,1888,3200,4096] (.sq (.sq (rg [qM 102 12,qF 103 5 3,qL 104 103,qN 105 104,qB 106 .lss 102 105]) (.cd (.t 106) (.sk) (.ex 6))) (.sq (.bl 7 (.rg (some 0) [qF 109 5 7,qL 110 109,qF 111 5 3,qL 112 111,qM 113 12,qI 114 2 112 113,qF 115 0 114,qL 116 115,qS 117 6 3,qF 118 5 3,qL 119 118,qM 120 12,qI 121 2 119 120,qF 122 1 121,qL 123 122,qM 124 2,oo 125 (.ca .pure false (.f X2) [.t 117,.t 123,.t 124]),oo 126 (.bd [.string ⟨#[]⟩,.int .i64 0] [(0,1,.t 116),(1,1,.t 125)] []),oo 127 (.bs 2 1 [.string ⟨#[]⟩,.int .i64 0] [(0,.t 126)]),oo 128 (.ap 2 0 (.t 110) (.t 127)),qF 129 5 7,on1 (.st 1 (.t 129) (.t 128))]))
 (rg [qM 107 12,oo 108 (.bi .add 0 (.t 107) (i6 1)),qM 12 108])))))) (.sq (rg [qS 130 6 7,on1 (.st 6 (.t 6) (.t 130))]) (.rt))))))) }
theorem ZdP:ZK Proofs.Tryz.prog QL Db=true:=by kernel_rfl
def ZcJ:F2 :=
 { nt:=15,res:=[.t 6 [0]],body:=(.sq (rg [om 6 (.k (.bool false))]) (.sq (rg [qM 7 0,qM 8 1,qB 9 .geq 7 8,qM 10 9,og 11 10 true (.mv (.t 0) none),og 12 10 true (.mv (.t 2) none),og 13 10 true (.bi .leq 0 (.t 11) (.t 12)),oo 14 (.pk (.t 10) (.t 13) (.k (.bool false))),qM 6 14]) (.rt))) }
theorem Zim:ZK Proofs.Tryz.prog ZU ZcJ=true:=by kernel_rfl
def XG:F2 :=
 { nt:=8,res:=[.t 2 [2]],body:=(.sq (rg [om 2 (.k (.slice none 0 0))]) (.sq (.sq (rg [qM 3 0,oo 4 (.nl false (.t 3))]) (.cd (.t 4) (.sq (rg [om 2 (.k (.slice none 0 0))]) (.rt)) (.sk))) (.sq (rg [oo 5 (.bs 1 0 [] []),qM 6 0,oo 7 (.ap 1 0 (.t 5) (.t 6)),qM 2 7]) (.rt)))) }
theorem Zal:ZK Proofs.Tryz.prog Z7 XG=true:=by kernel_rfl
def Wa:F2 :=
 { nt:=11,res:=[],body:=(.sq (rg [qM 3 0,qN 4 3,qM 2 4])
 (rg [qM 5 0,qM 6 2,qM 7 2,oo 8 (.cv (.int .u64) (.t 7)),oo 9 (.ca .pure false (.f YO) [.t 8]),oo 10 (.ca .any false (.f ZZ) [.t 5,i6 0,.t 6,.t 9])])) }
theorem ZaG:ZK Proofs.Tryz.prog Y3 Wa=true:=by kernel_rfl
def Vr:F2 :=
 { nt:=8,res:=[.t 2 [2]],body:=(.sq (rg [om 2 (.k (.slice none 0 0))]) (.sq (.sq (rg [qM 3 0,oo 4 (.nl false (.t 3))]) (.cd (.t 4) (.sq (rg [om 2 (.k (.slice none 0 0))]) (.rt)) (.sk))) (.sq (rg [oo 5 (.bs 1 0 [] []),qM 6 0,oo 7 (.ap 1 0 (.t 5) (.t 6)),qM 2 7]) (.rt)))) }
theorem WF:ZK Proofs.Tryz.prog ZJ Vr=true:=by kernel_rfl
def Ym:F2 :=
 { nt:=8,res:=[.t 2 [3]],body:=(.sq (rg [om 2 (.k (.slice none 0 0))]) (.sq (.sq (rg [qM 3 0,oo 4 (.nl false (.t 3))]) (.cd (.t 4) (.sq (rg [om 2 (.k (.slice none 0 0))]) (.rt)) (.sk))) (.sq (rg [oo 5 (.bs 2 0 [] []),qM 6 0,oo 7 (.ap 2 0 (.t 5) (.t 6)),qM 2 7]) (.rt)))) }
theorem Q1:ZK Proofs.Tryz.prog Jm Ym=true:=by kernel_rfl
def ZcK:F2 :=
 { nt:=23,res:=[.t 2 [0]],body:=(.sq (rg [om 2 (.k (.bool false))]) (.sq (.sq (rg [om 3 (i6 0)]) (.bl 0 (.lp [0,3] [] (.sq (.sq (rg [qM 4 3,qM 5 0,oo 6 (.lg (.t 5)),qB 7 .lss 4 6]) (.cd (.t 7) (.sk) (.ex 0))) (.sq (.bl 1 (.sq (rg [qM 10 0,qM 11 3,oo 12 (.ix (.t 10) (.t 11)),oo 13 (.bi .lss 0 (.t 12) (.k (.int .u8 97))),qM 14 13,og 15 14 false (.mv (.t 0) none),og 16 14 false (.mv (.t 3) none),og 17 14 false (.ix (.t 15) (.t 16)),og 18 14 false (.bi .gtr 0 (.t 17) (.k (.int .u8 122))),oo 19 (.pk (.t 14) (.k (.bool true)) (.t 18))]) (.cd (.t 19) (.sq (rg [om 2 (.k (.bool false))]) (.rt)) (.sk))))
 (rg [qM 8 3,oo 9 (.bi .add 0 (.t 8) (i6 1)),qM 3 9])))))) (.sq (rg [qM 20 0,oo 21 (.lg (.t 20)),oo 22 (.ca .pure false (.f Z5) [.t 21,i6 1,i6 4]),qM 2 22]) (.rt)))) }
theorem Zin:ZK Proofs.Tryz.prog Vz ZcK=true:=by kernel_rfl
def ZfL:F2 :=
 { nt:=15,res:=[.t 6 [0]],body:=(.sq (rg [om 6 (.k (.bool false))]) (.sq (rg [qM 7 0,qM 8 1,qB 9 .geq 7 8,qM 10 9,og 11 10 true (.mv (.t 0) none),og 12 10 true (.mv (.t 2) none),og 13 10 true (.bi .leq 0 (.t 11) (.t 12)),oo 14 (.pk (.t 10) (.t 13) (.k (.bool false))),qM 6 14]) (.rt))) }
theorem Zk3:ZK Proofs.Tryz.prog Z5 ZfL=true:=by kernel_rfl
def J1:F2 :=
 { nt:=82,res:=[.t 4 [0]],body:=(.sq (rg [oo 3 (.bt (.t 1)),om 4 (.k (.bool false))]) (.sq (.sq (rg [qF 5 0 3,qL 6 5,oo 7 (.bi .neq 0 (.t 6) (i6 3)),qM 8 7,og 9 8 true (.fa 1 (.t 3)),og 10 8 true (.ld none (.t 9)),og 11 8 true (.bi .neq 0 (.t 10) (i6 0)),oo 12 (.pk (.t 8) (.t 11) (.k (.bool false))),qM 13 12,og 14 13 false (.fa 0 (.t 3)),og 15 13 false (.ld none (.t 14)),og 16 13 false (.bi .neq 0 (.t 15) (i6 2)),og 17 13 false (.mv (.t 16) none),og 18 17 true (.fa 2 (.t 3)),og 19 17 true (.ld none (.t 18)),og 20 17 true (.bi .neq 0 (.t 19) (i6 0)),og 21 13 false (.pk (.t 17) (.t 20) (.k (.bool false))),oo 22 (.pk (.t 13) (.k (.bool true)) (.t 21))]) (.cd (.t 22) (.sq (rg [om 4 (.k (.bool false))]) (.rt)) (.sk))) (.sq (.sq (rg [qF 23 0 3,qL 24 23]) (.bl 0 (.sq (rg [oo 26 (.bi .eql 0 (.t 24) (i6 2)),qM 25 26]) (.cd (.t 25) (.sq (rg [qF 27 2 3,qL 28 27,oo 29 (.ca .pure false (.f Z5) [.t 28,i6 0,i6 3]),qM 30 29,og 31 30 true (.fa 3 (.t 3)),og 32 30 true (.ld none (.t 31)),og 33 30 true (.ln (.t 32)),og 34 30 true (.bi .eql 0 (.t 33) (i6 0)),oo 35 (.pk (.t 30) (.t 34) (.k (.bool false))),qM 4 35]) (.rt)) (.sq (rg [oo 37 (.bi .eql 0 (.t 24) (i6 3)),qM 36 37]) (.cd (.t 36) (.sq (.rg (some 0) [qF 38 1 3,qL 39 38,qM 40 0,qN 41 40,oo 42 (.bi .sub 0 (.t 41) (i6 1)),oo 43 (.ca .pure false (.f Z5) [.t 39,i6 0,.t 42]),qM 44 43,og 45 44 true (.fa 3 (.t 3)),og 46 44 true (.ld none (.t 45)),og 47 44 true (.ln (.t 46)),og 48 44 true (.mv (.t 0) none),og 49 44 true (.fa 1 (.t 3)),og 50 44 true (.ld none (.t 49)),og 51 44 true (.ia 3 (.t 48) (.t 50)),og 52 44 true (.fa 1 (.t 51)),og 53 44 true (.ld none (.t 52)),og 54 44 true (.bi .eql 0 (.t 47) (.t 53)),oo 55 (.pk (.t 44) (.t 54) (.k (.bool false))),qM 56 55,og 57 56 true (.fa 3 (.t 3)),og 58 56 true (.ld none (.t 57)),og 59 56 true (.ca .pure false (.f QB) [.t 58]),oo 60 (.pk (.t 56) (.t 59) (.k (.bool false))),qM 4 60]) (.rt)) (.sq (.sq (rg [oo 62 (.bi .eql 0 (.t 24) (i6 6)),qM 61 62]) (.cd (.t 61) (.sk)
 (rg [oo 63 (.bi .eql 0 (.t 24) (i6 7)),qM 61 63]))) (.cd (.t 61) (.sq (rg [qF 64 3 3,qL 65 64,qN 66 65,oo 67 (.bi .eql 0 (.t 66) (i6 1)),qM 68 67,og 69 68 true (.fa 3 (.t 3)),og 70 68 true (.ld none (.t 69)),og 71 68 true (.ca .pure false (.f QB) [.t 70]),oo 72 (.pk (.t 68) (.t 71) (.k (.bool false))),qM 4 72]) (.rt)) (.sk))))))))) (.sq (rg [qF 73 0 3,qL 74 73,oo 75 (.ca .pure false (.f Z5) [.t 74,i6 0,i6 5]),qM 76 75,og 77 76 true (.fa 3 (.t 3)),og 78 76 true (.ld none (.t 77)),og 79 76 true (.ln (.t 78)),og 80 76 true (.bi .eql 0 (.t 79) (i6 0)),oo 81 (.pk (.t 76) (.t 80) (.k (.bool false))),qM 4 81]) (.rt))))) }
theorem Zio:ZK Proofs.Tryz.prog WY J1=true:=by kernel_rfl
def V1:F2 :=
 { nt:=80,res:=[.t 6 [0],.t 7 [0]],body:=(.sq (rg [oo 5 (.bt (.t 2)),om 6 (.k (.slice none 0 0)),om 7 (.k (.bool false))]) (.sq (rg [qM 11 1,qN 12 11,qF 13 0 5,qL 14 13,oo 15 (.ca .pure false (.f Yo) [.t 14]),qB 16 .sub 12 15,qM 8 16]) (.sq (.sq (rg [qM 17 8,oo 18 (.bi .lss 0 (.t 17) (i6 0))]) (.cd (.t 18) (.sq (rg [qM 19 1,qM 6 19,om 7 (.k (.bool false))]) (.rt)) (.sk))) (.sq (rg [qS 20 4 5,oo 21 (.ca .pure false (.f W2) [.t 20]),oo 9 (.al [.int .i64 0,.slice none 0 0,.slice none 0 0,.int .i64 0,.slice none 0 0,.slice none 0 0,.slice none 0 0] []),on1 (.st 7 (.t 9) (.t 21)),om 10 (.k (.bool true))]) (.sq (.bl 0 (.sq (rg [qF 23 0 5,qL 24 23,oo 25 (.bi .eql 0 (.t 24) (i6 3)),qM 22 25]) (.cd (.t 22) (.rg (some 0) [qM 27 0,qS 28 4 5,qM 29 1,qM 30 8,qI 31 7 29 30,qS 32 7 31,oo 33 (.ca .pure false (.f W3) [.t 27,.t 28,.t 32]),qM 26 33,qE 34 0 26,qE 35 1 26,on1 (.s0 7 (.t 9) (.t 34)),qM 10 35]) (.sq (rg [qF 37 0 5,qL 38 37,oo 39 (.ca .pure false (.f Yo) [.t 38]),oo 40 (.bi .eql 0 (.t 39) (i6 1)),qM 36 40]) (.cd (.t 36) (.rg (some 0) [qM 42 0,qS 43 4 5,qM 44 1,qM 45 8,qI 46 7 44 45,qS 47 7 46,oo 48 (.ca .pure false (.f Wo) [.t 42,.t 43,.t 47]),qM 41 48,qE 49 0 41,qE 50 1 41,on1 (.s0 7 (.t 9) (.t 49)),qM 10 50]) (.sq (rg [qF 52 0 5,qL 53 52,oo 54 (.ca .pure false (.f Yo) [.t 53]),oo 55 (.bi .eql 0 (.t 54) (i6 2)),qM 51 55]) (.cd (.t 51) (.rg (some 0) [qM 57 0,qS 58 4 5,qM 59 1,qM 60 8,qI 61 7 59 60,qS 62 7 61,qM 63 1,qM 64 8,oo 65 (.bi .add 0 (.t 64) (i6 1)),qI 66 7 63 65,qS 67 7 66,oo 68 (.ca .pure false (.f W4) [.t 57,.t 58,.t 62,.t 67]),qM 56 68,qE 69 0 56,qE 70 1 56,on1 (.s0 7 (.t 9) (.t 69)),qM 10 70]) (.sk)))))))) (.sq (.rg (some 0) [oo 71 (.bs 7 0 [] []),qM 72 1,qM 73 8,oo 74 (.sx 7 (.t 72) none (some (.t 73)) none),oo 75 (.a1 7 (.t 71) (.t 74)),oo 76 (.lb (some 7) (.t 9)),oo 77 (.bs 7 1 [.int .i64 0,.slice none 0 0,.slice none 0 0,.int .i64 0,.slice none 0 0,.slice none 0 0,.slice none 0 0] [(0,.t 76)]),oo 78 (.a2 7 (.t 75) (.t 77)),qM 79 10,qM 6 78,qM 7 79]) (.rt))))))) }
theorem Xu:ZK Proofs.Tryz.prog Xn V1=true:=by kernel_rfl
def DH:F2 :=
 { nt:=10,res:=[.t 4 [0]],body:=(.sq (rg [om 4 (i6 0)]) (.sq (.sq (rg [qM 5 0,qM 6 1,qB 7 .gtr 5 6]) (.cd (.t 7) (.sq (rg [qM 8 0,qM 4 8]) (.rt)) (.sk))) (.sq (rg [qM 9 1,qM 4 9]) (.rt)))) }
theorem Zip:ZK Proofs.Tryz.prog WZ DH=true:=by kernel_rfl
def ZaH:F2 :=
 { nt:=25,res:=[.t 2 [0]],body:=(.sq (rg [om 2 (.k (.string ⟨#[]⟩))]) (.sq (.sq (rg [qM 3 0,oo 4 (.bi .lss 0 (.t 3) (i6 0))]) (.cd (.t 4) (.sq (rg [qM 5 0,oo 6 (.ng (.t 5)),oo 7 (.ca .pure false (.f YE) [.t 6]),oo 8 (.bi .add 0 (.k (.string ⟨#[45]⟩)) (.t 7)),qM 2 8]) (.rt)) (.sk))) (.sq (.sq (rg [qM 9 0,oo 10 (.bi .lss 0 (.t 9) (i6 10))]) (.cd (.t 10) (.sq (rg [qM 11 0,qM 12 0,oo 13 (.bi .add 0 (.t 12) (i6 1)),oo 14 (.ss (.k (.string ⟨#[48,49,50,51,52,53,54,55,56,57]⟩)) (some (.t 11)) (some (.t 13))),qM 2 14]) (.rt)) (.sk))) (.sq (.rg (some 0) [qM 15 0,oo 16 (.bi .quo 0 (.t 15) (i6 10)),oo 17 (.ca .pure false (.f YE) [.t 16]),qM 18 0,oo 19 (.bi .rem 0 (.t 18) (i6 10)),qM 20 0,oo 21 (.bi .rem 0 (.t 20) (i6 10)),oo 22 (.bi .add 0 (.t 21) (i6 1)),oo 23 (.ss (.k (.string ⟨#[48,49,50,51,52,53,54,55,56,57]⟩)) (some (.t 19)) (some (.t 22))),qB 24 .add 17 23,qM 2 24]) (.rt))))) }
theorem Zeq:ZK Proofs.Tryz.prog YE ZaH=true:=by kernel_rfl
def ZcL:F2 :=
 { nt:=11,res:=[.t 2 [0]],body:=(.sq (rg [om 2 (.k (.bool false))]) (.sq (rg [qM 3 0,oo 4 (.lg (.t 3)),oo 5 (.ca .pure false (.f ZU) [.t 4,i6 1,i6 4]),qM 6 5,og 7 6 true (.mv (.t 0) none),og 8 6 true (.ca .pure false (.f D8) [.t 7,.k (.string ⟨#[97,98,99,100,101,102,103,104,105,106,107,108,109,110,111,112,113,114,115,116,117,118,119,120,121,122]⟩)]),og 9 6 true (.bi .eql 0 (.t 8) (.k (.string ⟨#[]⟩))),oo 10 (.pk (.t 6) (.t 9) (.k (.bool false))),qM 2 10]) (.rt))) }
theorem Ziq:ZK Proofs.Tryz.prog Ye ZcL=true:=by kernel_rfl
def Ww:F2 :=
 { nt:=9,res:=[.t 3 [0]],body:=(.sq (rg [oo 2 (.bt (.t 0)),om 3 (.k (.bool false))]) (.sq (rg [qF 4 0 2,qL 5 4,qF 6 0 1,qL 7 6,qB 8 .eql 5 7,qM 3 8]) (.rt))) }
theorem Zbq:ZK Proofs.Tryz.prog Yi Ww=true:=by kernel_rfl
def ZcM:F2 :=
 { nt:=61,res:=[.t 4 [0]],body:=(.sq (rg [oo 3 (.bt (.t 1)),om 4 (.k (.bool false))]) (.sq (.sq (rg [qF 5 3 3,qL 6 5,oo 7 (.ca .pure false (.f ZC) [.t 6,.f VV])]) (.cd (.t 7) (.sq (rg [om 4 (.k (.bool false))]) (.rt)) (.sk))) (.sq (.sq (rg [qF 8 0 3,qL 9 8]) (.bl 0 (.sq (rg [oo 11 (.bi .eql 0 (.t 9) (i6 2)),qM 10 11]) (.cd (.t 10) (.sq (rg [qS 12 4 3,oo 13 (.ca .pure false (.f ZQ) [.t 12,.k (.bool false),.k (.bool true),.k (.bool false)]),qM 14 13,og 15 14 true (.fa 2 (.t 3)),og 16 14 true (.ld none (.t 15)),og 17 14 true (.ca .pure false (.f ZU) [.t 16,i6 0,i6 3]),oo 18 (.pk (.t 14) (.t 17) (.k (.bool false))),qM 4 18]) (.rt)) (.sq (rg [oo 20 (.bi .eql 0 (.t 9) (i6 3)),qM 19 20]) (.cd (.t 19) (.sq (.rg (some 0) [qS 21 4 3,oo 22 (.ca .pure false (.f ZQ) [.t 21,.k (.bool true),.k (.bool false),.k (.bool true)]),qM 23 22,og 24 23 true (.fa 1 (.t 3)),og 25 23 true (.ld none (.t 24)),og 26 23 true (.mv (.t 0) none),og 27 23 true (.ln (.t 26)),og 28 23 true (.bi .sub 0 (.t 27) (i6 1)),og 29 23 true (.ca .pure false (.f ZU) [.t 25,i6 0,.t 28]),oo 30 (.pk (.t 23) (.t 29) (.k (.bool false))),qM 31 30,og 32 31 true (.fa 3 (.t 3)),og 33 31 true (.ld none (.t 32)),og 34 31 true (.ln (.t 33)),og 35 31 true (.mv (.t 0) none),og 36 31 true (.fa 1 (.t 3)),og 37 31 true (.ld none (.t 36)),og 38 31 true (.ia 3 (.t 35) (.t 37)),og 39 31 true (.fa 1 (.t 38)),og 40 31 true (.ld none (.t 39)),og 41 31 true (.bi .eql 0 (.t 34) (.t 40)),oo 42 (.pk (.t 31) (.t 41) (.k (.bool false))),qM 4 42]) (.rt)) (.sq (.sq (rg [oo 44 (.bi .eql 0 (.t 9) (i6 6)),qM 43 44]) (.cd (.t 43) (.sk)
 (rg [oo 45 (.bi .eql 0 (.t 9) (i6 7)),qM 43 45]))) (.cd (.t 43) (.sq (rg [qS 46 4 3,oo 47 (.ca .pure false (.f ZQ) [.t 46,.k (.bool false),.k (.bool false),.k (.bool true)]),qM 48 47,og 49 48 true (.fa 3 (.t 3)),og 50 48 true (.ld none (.t 49)),og 51 48 true (.ln (.t 50)),og 52 48 true (.bi .eql 0 (.t 51) (i6 1)),oo 53 (.pk (.t 48) (.t 52) (.k (.bool false))),qM 4 53]) (.rt)) (.sk))))))))) (.sq (rg [qS 54 4 3,oo 55 (.ca .pure false (.f Jd) [.t 54]),oo 56 (.bi .geq 0 (.t 55) (i6 0)),qM 57 56,og 58 57 true (.ld (some 4) (.t 3)),og 59 57 true (.ca .pure false (.f ZQ) [.t 58,.k (.bool false),.k (.bool false),.k (.bool false)]),oo 60 (.pk (.t 57) (.t 59) (.k (.bool false))),qM 4 60]) (.rt))))) }
theorem Zir:ZK Proofs.Tryz.prog W0 ZcM=true:=by kernel_rfl
def QP:F2 :=
 { nt:=109,res:=[.c 6 (some 7) [0,0,0,0,0,0,0],.t 7 [0]],body:=(.sq (rg [oo 4 (.bt (.t 1)),oo 6 (.al [.int .i64 0,.slice none 0 0,.slice none 0 0,.int .i64 0,.slice none 0 0,.slice none 0 0,.slice none 0 0] []),om 7 (.k (.bool false))]) (.sq (rg [oo 12 (.bd [.int .i64 0,.slice none 0 0,.slice none 0 0,.int .i64 0,.slice none 0 0,.slice none 0 0,.slice none 0 0] [] [(6,1)]),oo 8 (.al [.int .i64 0,.slice none 0 0,.slice none 0 0,.int .i64 0,.slice none 0 0,.slice none 0 0,.slice none 0 0] []),on1 (.st 7 (.t 8) (.t 12)),om 9 (.k (.bool true))]) (.sq (.sq (rg [qF 13 0 4,qL 14 13]) (.bl 0 (.sq (rg [oo 18 (.bi .eql 0 (.t 14) (i6 3)),qM 17 18]) (.cd (.t 17) (.rg (some 0) [qM 20 0,qS 21 4 4,qM 22 2,oo 23 (.ia 7 (.t 22) (i6 0)),qF 24 0 23,qS 25 6 24,oo 26 (.ca .pure false (.f W5) [.t 20,.t 21,.t 25]),qM 19 26,qE 27 0 19,qE 28 1 19,qF 29 0 8,on1 (.s0 6 (.t 29) (.t 27)),qM 9 28]) (.sq (rg [oo 31 (.bi .eql 0 (.t 14) (i6 4)),qM 30 31]) (.cd (.t 30) (.rg (some 0) [qM 33 0,qM 34 2,oo 35 (.ia 7 (.t 34) (i6 0)),qF 36 0 35,qS 37 6 36,qM 38 2,oo 39 (.ia 7 (.t 38) (i6 1)),qF 40 0 39,qS 41 6 40,oo 42 (.ca .pure false (.f Yt) [.t 33,.t 37,.t 41]),qM 32 42,qE 43 0 32,qE 44 1 32,qF 45 0 8,on1 (.s0 6 (.t 45) (.t 43)),qM 9 44]) (.sq (rg [oo 47 (.bi .eql 0 (.t 14) (i6 5)),qM 46 47]) (.cd (.t 46) (.rg (some 0) [qM 49 0,qM 50 2,oo 51 (.ia 7 (.t 50) (i6 0)),qF 52 0 51,qS 53 6 52,qM 54 2,oo 55 (.ia 7 (.t 54) (i6 1)),qF 56 0 55,qS 57 6 56,oo 58 (.ca .pure false (.f JO) [.t 49,.t 53,.t 57]),qM 48 58,qE 59 0 48,qE 60 1 48,qF 61 0 8,on1 (.s0 6 (.t 61) (.t 59)),qM 9 60]) (.sq (rg [oo 63 (.bi .eql 0 (.t 14) (i6 6)),qM 62 63]) (.cd (.t 62) (.rg (some 0) [qM 65 0,qM 66 2,oo 67 (.ia 7 (.t 66) (i6 0)),qF 68 0 67,qS 69 6 68,qF 70 3 4,qL 71 70,oo 72 (.ia 1 (.t 71) (i6 0)),qL 73 72,oo 74 (.ca .pure false (.f Xq) [.t 65,.t 69,.t 73]),qM 64 74,qE 75 0 64,qE 76 1 64,qF 77 0 8,on1 (.s0 6 (.t 77) (.t 75)),qM 9 76]) (.sq (rg [oo 79 (.bi .eql 0 (.t 14) (i6 7)),qM 78 79]) (.cd (.t 78) (.rg (some 0) [qM 81 0,qM 82 2,oo 83 (.ia 7 (.t 82) (i6 0)),qF 84 0 83,qS 85 6 84,qF 86 3 4,qL 87 86,oo 88 (.ia 1 (.t 87) (i6 0)),qL 89 88,oo 90 (.ca .pure false (.f Wp) [.t 81,.t 85,.t 89]),qM 80 90,qE 91 0 80,qE 92 1 80,qF 93 0 8,on1 (.s0 6 (.t 93) (.t 91)),qM 9 92]) (.sq (rg [qS 15 4 4,oo 16 (.ca .pure false (.f DG) [.t 15]),on1 (.st 7 (.t 6) (.t 16)),om 7 (.k (.bool true))]) (.rt)))))))))))))) (.sq (.sq (rg [qM 94 2,qN 95 94,om 96 (i6 0)]) (.bl 1 (.lp [6,8,9,94,95,96] [192,256,384,3328] (.sq (rg [qB 97 .lss 96 95]) (.sq (.cd (.t 97) (.sk) (.ex 1)) (.sq (.bl 2 (.sq (rg [qI 98 7 94 96,qS 99 7 98,oo 11 (.al [.int .i64 0,.slice none 0 0,.slice none 0 0,.int .i64 0,.slice none 0 0,.slice none 0 0,.slice none 0 0] []),on1 (.st 7 (.t 11) (.t 99))])
 (rg [qF 100 6 8,qL 101 100,qF 102 6 11,qL 103 102,oo 104 (.ap 1 0 (.t 101) (.t 103)),qF 105 6 8,on1 (.st 1 (.t 105) (.t 104))])))
 (rg [oo 106 (.bi .add 0 (.t 96) (i6 1)),qM 96 106]))))))) (.sq (rg [qS 107 7 8,qM 108 9,on1 (.st 7 (.t 6) (.t 107)),qM 7 108]) (.rt)))))) }
theorem Zk4:ZK Proofs.Tryz.prog DF QP=true:=by kernel_rfl
def ZbH:F2 :=
 { nt:=35,res:=[.t 2 [0]],body:=(.sq (rg [om 2 (.k (.bool false))]) (.sq (.sq (rg [om 3 (i6 0)]) (.bl 0 (.lp [0,3] [] (.sq (.sq (rg [qM 4 3,qM 5 0,qN 6 5,qB 7 .lss 4 6]) (.cd (.t 7) (.sk) (.ex 0))) (.sq (.bl 1 (.sq (.rg (some 0) [qM 10 0,qM 11 3,qI 12 1 10 11,qL 13 12,oo 14 (.ca .pure false (.f Vz) [.t 13]),oo 15 (.nt (.t 14)),qM 16 15,og 17 16 false (.mv (.t 3) none),og 18 16 false (.bi .gtr 0 (.t 17) (i6 0)),og 19 16 false (.mv (.t 18) none),og 20 19 true (.mv (.t 0) none),og 21 19 true (.mv (.t 3) none),og 22 19 true (.bi .sub 0 (.t 21) (i6 1)),og 23 19 true (.ia 1 (.t 20) (.t 22)),og 24 19 true (.ld none (.t 23)),og 25 19 true (.mv (.t 0) none),og 26 19 true (.mv (.t 3) none),og 27 19 true (.ia 1 (.t 25) (.t 26)),og 28 19 true (.ld none (.t 27)),og 29 19 true (.bi .geq 0 (.t 24) (.t 28)),og 30 16 false (.pk (.t 19) (.t 29) (.k (.bool false))),oo 31 (.pk (.t 16) (.k (.bool true)) (.t 30))]) (.cd (.t 31) (.sq (rg [om 2 (.k (.bool false))]) (.rt)) (.sk))))
 (rg [qM 8 3,oo 9 (.bi .add 0 (.t 8) (i6 1)),qM 3 9])))))) (.sq (rg [qM 32 0,qN 33 32,oo 34 (.bi .leq 0 (.t 33) (i6 16)),qM 2 34]) (.rt)))) }
theorem ZgH:ZK Proofs.Tryz.prog Qz ZbH=true:=by kernel_rfl
def ZbI:F2 :=
 { nt:=23,res:=[.t 2 [2]],body:=(.sq (rg [oo 1 (.bt (.t 0)),om 2 (.k (.slice none 0 0))]) (.sq (rg [oo 5 (.bs 1 0 [] []),qM 3 5]) (.sq (.sq (rg [om 4 (i6 0)]) (.bl 0 (.lp [1,3,4] [160,672] (.sq (.sq (rg [qM 6 4,qF 7 5 1,qL 8 7,qN 9 8,qB 10 .lss 6 9]) (.cd (.t 10) (.sk) (.ex 0))) (.sq (.bl 1 (rg [qM 13 3,qF 14 5 1,qL 15 14,qM 16 4,qI 17 2 15 16,qF 18 0 17,qL 19 18,oo 20 (.bs 1 1 [.string ⟨#[]⟩] [(0,.t 19)]),oo 21 (.ap 1 0 (.t 13) (.t 20)),qM 3 21]))
 (rg [qM 11 4,oo 12 (.bi .add 0 (.t 11) (i6 1)),qM 4 12])))))) (.sq (rg [qM 22 3,qM 2 22]) (.rt))))) }
theorem ZgI:ZK Proofs.Tryz.prog Wn ZbI=true:=by kernel_rfl
def ZcN:F2 :=
 { nt:=57,res:=[.t 6 [0]],body:=(.sq (rg [oo 4 (.bt (.t 1)),om 6 (.k (.bool false))]) (.sq (rg [qF 9 1 4,qL 10 9,qM 11 2,qI 12 3 10 11,qS 13 3 12,oo 7 (.al [.int .i64 0,.int .i64 0,.slice none 0 0] []),on1 (.st 3 (.t 7) (.t 13))]) (.sq (.sq (.rg (some 0) [qF 14 0 7,qL 15 14,qM 16 0,qN 17 16,oo 18 (.bi .sub 0 (.t 17) (i6 1)),oo 19 (.ca .pure false (.f Z5) [.t 15,i6 0,.t 18]),oo 20 (.nt (.t 19)),qM 21 20,og 22 21 false (.mv (.t 0) none),og 23 21 false (.ld (some 6) (.t 4)),og 24 21 false (.fa 1 (.t 7)),og 25 21 false (.ld none (.t 24)),og 26 21 false (.mv (.t 2) none),og 27 21 false (.ca .pure false (.f QA) [.t 22,.t 23,.t 25,.t 26]),og 28 21 false (.nt (.t 27)),oo 29 (.pk (.t 21) (.k (.bool true)) (.t 28)),qM 30 29,og 31 30 false (.fa 2 (.t 7)),og 32 30 false (.ld none (.t 31)),og 33 30 false (.ln (.t 32)),og 34 30 false (.mv (.t 0) none),og 35 30 false (.fa 0 (.t 7)),og 36 30 false (.ld none (.t 35)),og 37 30 false (.ia 3 (.t 34) (.t 36)),og 38 30 false (.fa 1 (.t 37)),og 39 30 false (.ld none (.t 38)),og 40 30 false (.bi .neq 0 (.t 33) (.t 39)),oo 41 (.pk (.t 30) (.k (.bool true)) (.t 40))]) (.cd (.t 41) (.sq (rg [om 6 (.k (.bool false))]) (.rt)) (.sk))) (.sq (.sq (rg [om 8 (i6 0)]) (.bl 0 (.lp [4,7,8] [224] (.sq (.sq (rg [qM 42 8,qF 43 2 7,qL 44 43,qN 45 44,qB 46 .lss 42 45]) (.cd (.t 46) (.sk) (.ex 0))) (.sq (.bl 1 (.sq (.rg (some 0) [qS 49 6 4,qF 50 2 7,qL 51 50,qM 52 8,qI 53 1 51 52,qL 54 53,oo 55 (.ca .pure false (.f Xo) [.t 49,.t 54]),oo 56 (.nt (.t 55))]) (.cd (.t 56) (.sq (rg [om 6 (.k (.bool false))]) (.rt)) (.sk))))
 (rg [qM 47 8,oo 48 (.bi .add 0 (.t 47) (i6 1)),qM 8 48])))))) (.sq (rg [om 6 (.k (.bool true))]) (.rt)))))) }
theorem Zis:ZK Proofs.Tryz.prog W1 ZcN=true:=by kernel_rfl
def ZbJ:F2 :=
 { nt:=33,res:=[.t 8 [0]],body:=(.sq (rg [oo 5 (.bt (.t 1)),om 8 (.k (.bool false))]) (.sq (.sq (rg [qM 9 2,oo 10 (.bi .lss 0 (.t 9) (i6 0))]) (.cd (.t 10) (.sq (rg [qM 11 2,oo 12 (.bi .sub 0 (i6 (-1)) (.t 11)),qF 13 0 5,qL 14 13,oo 15 (.bi .sub 0 (.t 14) (i6 1)),oo 16 (.ca .pure false (.f Z5) [.t 12,i6 0,.t 15]),qM 8 16]) (.rt)) (.sk))) (.sq (rg [qM 17 2,qM 18 3,qB 19 .lss 17 18,qM 20 19,og 21 20 true (.mv (.t 0) none),og 22 20 true (.fa 1 (.t 5)),og 23 20 true (.ld none (.t 22)),og 24 20 true (.mv (.t 2) none),og 25 20 true (.ia 3 (.t 23) (.t 24)),og 26 20 true (.fa 0 (.t 25)),og 27 20 true (.ld none (.t 26)),og 28 20 true (.ia 3 (.t 21) (.t 27)),og 29 20 true (.fa 2 (.t 28)),og 30 20 true (.ld none (.t 29)),og 31 20 true (.bi .neq 0 (.t 30) (i6 2)),oo 32 (.pk (.t 20) (.t 31) (.k (.bool false))),qM 8 32]) (.rt)))) }
theorem ZgJ:ZK Proofs.Tryz.prog QA ZbJ=true:=by kernel_rfl
def ZcO:F2 :=
 { nt:=14,res:=[.t 4 [0]],body:=(.sq (rg [oo 2 (.bt (.t 0)),om 4 (.k (.bool false))]) (.sq (rg [qM 5 1,qF 6 3 2,qL 7 6,qF 8 4 2,qL 9 8,qN 10 9,qB 11 .add 7 10,oo 12 (.bi .sub 0 (.t 11) (i6 1)),oo 13 (.ca .pure false (.f Z5) [.t 5,i6 0,.t 12]),qM 4 13]) (.rt))) }
theorem Zit:ZK Proofs.Tryz.prog Xo ZcO=true:=by kernel_rfl
end Go.Fd

/-
  The annotated codes of the functions, printed by a program of mine (gen.py), and the check that they belong to the program.
-/
namespace Go.Fd
def Zer:F2 :=
 { nt:=16,res:=[.t 6 [0]],body:=(.sq (rg [oo 3 (.bt (.t 0)),om 6 (i6 0)]) (.sq (.sq (rg [qM 7 1,qF 8 3 3,qL 9 8,qB 10 .geq 7 9]) (.cd (.t 10) (.sq (rg [qM 11 1,qM 6 11]) (.rt)) (.sk))) (.sq (rg [qM 12 2,qM 13 1,qI 14 1 12 13,qL 15 14,qM 6 15]) (.rt)))) }
theorem ZjU:ZK Proofs.Tryz.prog X2 Zer=true:=by kernel_rfl
def ZcP:F2 :=
 { nt:=12,res:=[.t 4 [0]],body:=(.sq (rg [om 4 (i6 0)]) (.sq (.sq (rg [qM 5 0,oo 6 (.bi .lss 0 (.t 5) (i6 0))]) (.cd (.t 6) (.sq (rg [qM 7 0,qM 4 7]) (.rt)) (.sk))) (.sq (rg [qM 8 1,qM 9 0,qI 10 1 8 9,qL 11 10,qM 4 11]) (.rt)))) }
theorem Ziu:ZK Proofs.Tryz.prog Xp ZcP=true:=by kernel_rfl
def Zad:F2 :=
 { nt:=101,res:=[.t 4 [0]],body:=(.sq (rg [oo 2 (.bt (.t 0)),oo 3 (.bt (.t 1)),om 4 (.k (.bool false))]) (.sq (.sq (rg [qL 7 2,oo 8 (.ca .pure false (.f JV) [.t 7]),oo 9 (.nt (.t 8)),qM 10 9,og 11 10 false (.fa 0 (.t 3)),og 12 10 false (.ld none (.t 11)),og 13 10 false (.ca .pure false (.f ZU) [.t 12,i6 0,i6 4]),og 14 10 false (.nt (.t 13)),oo 15 (.pk (.t 10) (.k (.bool true)) (.t 14)),qM 16 15,og 17 16 false (.fa 1 (.t 3)),og 18 16 false (.ld none (.t 17)),og 19 16 false (.ln (.t 18)),og 20 16 false (.bi .gtr 0 (.t 19) (i6 8)),oo 21 (.pk (.t 16) (.k (.bool true)) (.t 20)),qM 22 21,og 23 22 false (.fa 2 (.t 3)),og 24 22 false (.ld none (.t 23)),og 25 22 false (.ln (.t 24)),og 26 22 false (.bi .gtr 0 (.t 25) (i6 4)),oo 27 (.pk (.t 22) (.k (.bool true)) (.t 26)),qM 28 27,og 29 28 false (.fa 3 (.t 3)),og 30 28 false (.ld none (.t 29)),og 31 28 false (.ca .pure false (.f ZU) [.t 30,i6 0,i6 8]),og 32 28 false (.nt (.t 31)),oo 33 (.pk (.t 28) (.k (.bool true)) (.t 32)),qM 34 33,og 35 34 false (.fa 4 (.t 3)),og 36 34 false (.ld none (.t 35)),og 37 34 false (.ca .pure false (.f VW) [.t 36]),og 38 34 false (.nt (.t 37)),oo 39 (.pk (.t 34) (.k (.bool true)) (.t 38)),qM 40 39,og 41 40 false (.ld (some 6) (.t 3)),og 42 40 false (.ca .pure false (.f Ja) [.t 41]),og 43 40 false (.ca .pure false (.f VW) [.t 42]),og 44 40 false (.nt (.t 43)),oo 45 (.pk (.t 40) (.k (.bool true)) (.t 44))]) (.cd (.t 45) (.sq (rg [om 4 (.k (.bool false))]) (.rt)) (.sk))) (.sq (.sq (rg [qF 46 1 3,qL 47 46,qN 48 47,om 49 (i6 0)]) (.bl 0 (.lp [2,3,47,48,49] [] (.sq (rg [qB 50 .lss 49 48]) (.sq (.cd (.t 50) (.sk) (.ex 0)) (.sq (.bl 1 (.sq (rg [qM 51 49,qI 52 3 47 49,qS 53 3 52,oo 6 (.al [.int .i64 0,.int .i64 0,.slice none 0 0] []),qM 5 51,on1 (.st 3 (.t 6) (.t 53))]) (.sq (.rg (some 0) [qF 54 0 6,qL 55 54,qL 56 2,qN 57 56,oo 58 (.bi .sub 0 (.t 57) (i6 1)),oo 59 (.ca .pure false (.f ZU) [.t 55,i6 0,.t 58]),oo 60 (.nt (.t 59)),qM 61 60,og 62 61 false (.ld (some 6) (.t 3)),og 63 61 false (.ld none (.t 2)),og 64 61 false (.fa 1 (.t 6)),og 65 61 false (.ld none (.t 64)),og 66 61 false (.mv (.t 5) none),og 67 61 false (.ca .pure false (.f JK) [.t 62,.t 63,.t 65,.t 66]),og 68 61 false (.nt (.t 67)),oo 69 (.pk (.t 61) (.k (.bool true)) (.t 68)),qM 70 69,og 71 70 false (.fa 2 (.t 6)),og 72 70 false (.ld none (.t 71)),og 73 70 false (.ln (.t 72)),og 74 70 false (.ld none (.t 2)),og 75 70 false (.fa 0 (.t 6)),og 76 70 false (.ld none (.t 75)),og 77 70 false (.ia 3 (.t 74) (.t 76)),og 78 70 false (.fa 1 (.t 77)),og 79 70 false (.ld none (.t 78)),og 80 70 false (.bi .neq 0 (.t 73) (.t 79)),oo 81 (.pk (.t 70) (.k (.bool true)) (.t 80)),qM 82 81,og 83 82 false (.fa 2 (.t 6)),og 84 82 false (.ld none (.t 83)),og 85 82 false (.mf V8 [.t 3]),og 86 82 false (.ca .pure false (.f JG) [.t 84,.t 85]),oo 87 (.pk (.t 82) (.k (.bool true)) (.t 86))]) (.cd (.t 87) (.sq (rg [om 4 (.k (.bool false))]) (.rt)) (.sk)))))
 (rg [oo 88 (.bi .add 0 (.t 49) (i6 1)),qM 49 88]))))))) (.sq (rg [qF 89 2 3,qL 90 89,oo 91 (.mf V9 [.t 3,.t 2]),oo 92 (.ca .pure false (.f JG) [.t 90,.t 91]),oo 93 (.nt (.t 92)),qM 94 93,og 95 94 true (.fa 5 (.t 3)),og 96 94 true (.ld none (.t 95)),og 97 94 true (.mf Qa [.t 3]),og 98 94 true (.ca .pure false (.f Jw) [.t 96,.t 97]),og 99 94 true (.nt (.t 98)),oo 100 (.pk (.t 94) (.t 99) (.k (.bool false))),qM 4 100]) (.rt))))) }
theorem ZeL:ZK Proofs.Tryz.prog Z6 Zad=true:=by kernel_rfl
def VF:F2 :=
 { nt:=134,res:=[],body:=(.sq (rg [om 8 (.k (.bool true))]) (.sq (rg [om 9 (.k (.bool true))]) (.bl 0 (.lp [0,1,2,3,8,9] [] (.bl 1 (.sq (rg [qM 19 2,qM 20 1,qB 21 .sub 19 20,qM 10 21]) (.sq (.sq (rg [qM 22 10,oo 23 (.bi .leq 0 (.t 22) (i6 12))]) (.cd (.t 23) (.sq (rg [qM 24 0,qM 25 1,qM 26 2,oo 27 (.ca .any false (.f Jr) [.t 24,.t 25,.t 26])]) (.rt)) (.sk))) (.sq (.sq (rg [qM 28 3,oo 29 (.bi .eql 0 (.t 28) (i6 0))]) (.cd (.t 29) (.sq (rg [qM 30 0,qM 31 1,qM 32 2,oo 33 (.ca .pure false (.f X9) [.t 30,.t 31,.t 32])]) (.rt)) (.sk))) (.sq (.sq (rg [qM 34 8,oo 35 (.nt (.t 34))]) (.cd (.t 35) (.sq (rg [qM 36 0,qM 37 1,qM 38 2,oo 39 (.ca .pure false (.f QM) [.t 36,.t 37,.t 38])])
 (rg [qM 40 3,oo 41 (.bi .sub 0 (.t 40) (i6 1)),qM 3 41])) (.sk))) (.sq (rg [qM 43 0,qM 44 1,qM 45 2,oo 46 (.ca .pure false (.f Xr) [.t 43,.t 44,.t 45]),qM 42 46,qE 47 0 42,qE 48 1 42,qM 11 47,qM 12 48]) (.sq (.sq (rg [qM 49 12,oo 50 (.bi .eql 0 (.t 49) (i6 2))]) (.cd (.t 50) (.sq (rg [qM 51 0,qM 52 1,qM 53 2,oo 54 (.ca .pure false (.f QZ) [.t 51,.t 52,.t 53])]) (.sq (rg [qM 55 2,oo 56 (.bi .sub 0 (.t 55) (i6 1)),qM 57 11,qM 58 1,qB 59 .sub 57 58,qB 60 .sub 56 59,qM 11 60])
 (rg [om 12 (i6 1)]))) (.sk))) (.sq (.sq (rg [qM 61 8,qM 62 61,og 63 62 true (.mv (.t 9) none),oo 64 (.pk (.t 62) (.t 63) (.k (.bool false))),qM 65 64,og 66 65 true (.mv (.t 12) none),og 67 65 true (.bi .eql 0 (.t 66) (i6 1)),oo 68 (.pk (.t 65) (.t 67) (.k (.bool false)))]) (.cd (.t 68) (.sq (rg [qM 69 0,qM 70 1,qM 71 2,oo 72 (.ca .pure false (.f Vc) [.t 69,.t 70,.t 71])]) (.cd (.t 72) (.rt) (.sk))) (.sk))) (.sq (.sq (.rg (some 0) [qM 73 1,oo 74 (.bi .gtr 0 (.t 73) (i6 0)),qM 75 74,og 76 75 true (.mv (.t 0) none),og 77 75 true (.mv (.t 1) none),og 78 75 true (.bi .sub 0 (.t 77) (i6 1)),og 79 75 true (.ia 1 (.t 76) (.t 78)),og 80 75 true (.ld none (.t 79)),og 81 75 true (.mv (.t 0) none),og 82 75 true (.mv (.t 11) none),og 83 75 true (.ia 1 (.t 81) (.t 82)),og 84 75 true (.ld none (.t 83)),og 85 75 true (.ca .pure false (.f QC) [.t 80,.t 84]),og 86 75 true (.nt (.t 85)),oo 87 (.pk (.t 75) (.t 86) (.k (.bool false)))]) (.cd (.t 87) (.sq (rg [qM 88 0,qM 89 1,qM 90 2,qM 91 11,oo 92 (.ca .pure false (.f Qn) [.t 88,.t 89,.t 90,.t 91]),qM 13 92]) (.sq (rg [qM 93 13,qM 1 93]) (.ex 1))) (.sk))) (.sq (rg [qM 95 0,qM 96 1,qM 97 2,qM 98 11,oo 99 (.ca .pure false (.f XQ) [.t 95,.t 96,.t 97,.t 98]),qM 94 99,qE 100 0 94,qE 101 1 94,qM 14 100,qM 15 101]) (.sq (rg [qM 102 15,qM 9 102]) (.sq (rg [qM 103 14,qM 104 1,qB 105 .sub 103 104,qM 106 2,qM 107 14,qB 108 .sub 106 107,qM 16 105,qM 17 108]) (.sq (rg [qM 109 10,oo 110 (.bi .quo 0 (.t 109) (i6 8)),qM 18 110]) (.sq (rg [qM 111 16,qM 112 17,qB 113 .lss 111 112]) (.cd (.t 113) (.sq (rg [qM 114 16,qM 115 18,qB 116 .geq 114 115,qM 8 116]) (.sq (rg [qM 117 0,qM 118 1,qM 119 14,qM 120 3,oo 121 (.ca .any false (.f ZZ) [.t 117,.t 118,.t 119,.t 120])])
 (rg [qM 122 14,oo 123 (.bi .add 0 (.t 122) (i6 1)),qM 1 123]))) (.sq (rg [qM 124 17,qM 125 18,qB 126 .geq 124 125,qM 8 126]) (.sq (rg [qM 127 0,qM 128 14,oo 129 (.bi .add 0 (.t 128) (i6 1)),qM 130 2,qM 131 3,oo 132 (.ca .any false (.f ZZ) [.t 127,.t 129,.t 130,.t 131])])
 (rg [qM 133 14,qM 2 133])))))))))))))))))))))) }
theorem Ua:ZK Proofs.Tryz.prog ZZ VF=true:=by kernel_rfl
def ZaI:F2 :=
 { nt:=8,res:=[.t 2 [0]],body:=(.sq (rg [om 2 (i6 0)]) (.sq (.cd (.k (.bool false)) (.sq (rg [qM 3 0,oo 4 (.cv (.int .u32) (.t 3)),oo 5 (.ca .pure false (.f Zb7) [.t 4]),qM 2 5]) (.rt)) (.sk)) (.sq (rg [qM 6 0,oo 7 (.ca .pure false (.f QN) [.t 6]),qM 2 7]) (.rt)))) }
theorem ZfM:ZK Proofs.Tryz.prog YO ZaI=true:=by kernel_rfl
def ZbK:F2 :=
 { nt:=16,res:=[.t 2 [0]],body:=(.sq (rg [om 2 (.k (.bool false))]) (.sq (.sq (rg [om 3 (i6 0)]) (.bl 0 (.lp [0,3] [] (.sq (.sq (rg [qM 4 3,qM 5 0,qN 6 5,qB 7 .lss 4 6]) (.cd (.t 7) (.sk) (.ex 0))) (.sq (.bl 1 (.sq (rg [qM 10 0,qM 11 3,qI 12 1 10 11,qL 13 12,oo 14 (.ca .pure false (.f Vz) [.t 13]),oo 15 (.nt (.t 14))]) (.cd (.t 15) (.sq (rg [om 2 (.k (.bool false))]) (.rt)) (.sk))))
 (rg [qM 8 3,oo 9 (.bi .add 0 (.t 8) (i6 1)),qM 3 9])))))) (.sq (rg [om 2 (.k (.bool true))]) (.rt)))) }
theorem ZgK:ZK Proofs.Tryz.prog QB ZbK=true:=by kernel_rfl
def WG:F2 :=
 { nt:=19,res:=[.c 2 (some 7) [0,0,0,0,0,0,0]],body:=(.sq (rg [oo 1 (.bt (.t 0)),oo 2 (.al [.int .i64 0,.slice none 0 0,.slice none 0 0,.int .i64 0,.slice none 0 0,.slice none 0 0,.slice none 0 0] [])]) (.sq (.sq (rg [qF 3 0 1,qL 4 3]) (.bl 0 (.sq (rg [oo 6 (.bi .eql 0 (.t 4) (i6 0)),qM 5 6]) (.cd (.t 5) (.sq (rg [oo 7 (.bd [.int .i64 0,.slice none 0 0,.slice none 0 0,.int .i64 0,.slice none 0 0,.slice none 0 0] [] []),oo 8 (.bd [.int .i64 0,.slice none 0 0,.slice none 0 0,.int .i64 0,.slice none 0 0,.slice none 0 0,.slice none 0 0] [(0,6,.t 7)] []),on1 (.st 7 (.t 2) (.t 8))]) (.rt)) (.sq (rg [oo 10 (.bi .eql 0 (.t 4) (i6 1)),qM 9 10]) (.cd (.t 9) (.sq (rg [oo 11 (.bd [.int .i64 0,.slice none 0 0,.slice none 0 0,.int .i64 0,.slice none 0 0,.slice none 0 0] [(0,1,i6 1)] []),oo 12 (.bd [.int .i64 0,.slice none 0 0,.slice none 0 0,.int .i64 0,.slice none 0 0,.slice none 0 0,.slice none 0 0] [(0,6,.t 11)] []),on1 (.st 7 (.t 2) (.t 12))]) (.rt)) (.sk))))))) (.sq (rg [oo 13 (.bs 1 1 [.int .i64 0] [(0,i6 (-1))]),oo 14 (.bd [.int .i64 0,.slice none 0 0,.slice none 0 0,.int .i64 0,.slice none 0 0,.slice none 0 0] [(0,1,i6 1),(2,1,.t 13)] []),qF 15 2 1,qL 16 15,oo 17 (.bs 1 1 [.int .i64 0] [(0,.t 16)]),oo 18 (.bd [.int .i64 0,.slice none 0 0,.slice none 0 0,.int .i64 0,.slice none 0 0,.slice none 0 0,.slice none 0 0] [(0,6,.t 14),(6,1,.t 17)] []),on1 (.st 7 (.t 2) (.t 18))]) (.rt)))) }
theorem Ziv:ZK Proofs.Tryz.prog W2 WG=true:=by kernel_rfl
def ZcQ:F2 :=
 { nt:=63,res:=[.c 6 (some 7) [0,0,0,0,0,0,0],.t 7 [0]],body:=(.sq (rg [oo 4 (.bt (.t 1)),oo 5 (.bt (.t 2)),oo 6 (.al [.int .i64 0,.slice none 0 0,.slice none 0 0,.int .i64 0,.slice none 0 0,.slice none 0 0,.slice none 0 0] []),om 7 (.k (.bool false))]) (.sq (.sq (rg [qF 10 0 5,qF 11 0 10,qL 12 11,oo 13 (.bi .neq 0 (.t 12) (i6 1)),qM 14 13,og 15 14 false (.mv (.t 0) none),og 16 14 false (.fa 1 (.t 4)),og 17 14 false (.ld none (.t 16)),og 18 14 false (.ia 3 (.t 15) (.t 17)),og 19 14 false (.fa 2 (.t 18)),og 20 14 false (.ld none (.t 19)),og 21 14 false (.bi .eql 0 (.t 20) (i6 2)),og 22 14 false (.mv (.t 21) none),og 23 22 true (.fa 0 (.t 5)),og 24 22 true (.fa 1 (.t 23)),og 25 22 true (.ld none (.t 24)),og 26 22 true (.ln (.t 25)),og 27 22 true (.fa 0 (.t 5)),og 28 22 true (.fa 2 (.t 27)),og 29 22 true (.ld none (.t 28)),og 30 22 true (.ln (.t 29)),og 31 22 true (.bi .add 0 (.t 26) (.t 30)),og 32 22 true (.bi .gtr 0 (.t 31) (i6 0)),og 33 14 false (.pk (.t 22) (.t 32) (.k (.bool false))),oo 34 (.pk (.t 14) (.k (.bool true)) (.t 33))]) (.cd (.t 34) (.sq (rg [oo 35 (.bd [.int .i64 0,.slice none 0 0,.slice none 0 0,.int .i64 0,.slice none 0 0,.slice none 0 0,.slice none 0 0] [] []),on1 (.st 7 (.t 6) (.t 35)),om 7 (.k (.bool false))]) (.rt)) (.sk))) (.sq (rg [qF 36 3 4,qL 37 36,oo 38 (.ca .pure true (.f J8) [.t 37]),oo 39 (.bd [.int .i64 0,.slice none 0 0,.slice none 0 0,.int .i64 0,.slice none 0 0,.slice none 0 0] [(0,1,i6 1),(4,1,.t 38)] []),oo 8 (.al [.int .i64 0,.slice none 0 0,.slice none 0 0,.int .i64 0,.slice none 0 0,.slice none 0 0] []),on1 (.st 6 (.t 8) (.t 39))]) (.sq (.rg (some 0) [qF 40 1 4,qL 41 40,qF 42 3 4,qL 43 42,qF 44 4 8,qL 45 44,oo 46 (.ca .pure true (.f JQ) [.t 43,i6 0,.t 45]),oo 47 (.bd [.int .i64 0,.int .i64 0,.slice none 0 0] [(0,1,.t 41),(1,1,i6 (-1)),(2,1,.t 46)] []),oo 48 (.bw 3 1 [.int .i64 0,.int .i64 0,.slice none 0 0] [(0,.t 47)]),qF 49 1 8,on1 (.st 1 (.t 49) (.t 48))]) (.sq (rg [oo 50 (.bs 1 1 [.int .i64 0] [(0,i6 0)]),qF 51 2 8,on1 (.st 1 (.t 51) (.t 50))]) (.sq (rg [oo 52 (.lz 6 (.t 8)),qF 53 0 5,qS 54 6 53,oo 55 (.ca .pure false (.f W6) [.t 52,.t 54]),oo 9 (.al [.int .i64 0,.slice none 0 0,.slice none 0 0,.int .i64 0,.slice none 0 0,.slice none 0 0] []),on1 (.st 6 (.t 9) (.t 55))]) (.sq (.rg (some 0) [qS 56 6 9,qF 57 6 5,qL 58 57,oo 59 (.bd [.int .i64 0,.slice none 0 0,.slice none 0 0,.int .i64 0,.slice none 0 0,.slice none 0 0,.slice none 0 0] [(0,6,.t 56),(6,1,.t 58)] []),qM 60 0,qS 61 6 9,oo 62 (.ca .pure false (.f Yd) [.t 60,.t 61]),on1 (.st 7 (.t 6) (.t 59)),qM 7 62]) (.rt)))))))) }
theorem Ziw:ZK Proofs.Tryz.prog W3 ZcQ=true:=by kernel_rfl
def Qq:F2 :=
 { nt:=47,res:=[.c 6 (some 7) [0,0,0,0,0,0,0],.t 7 [0]],body:=(.sq (rg [oo 4 (.bt (.t 1)),oo 5 (.bt (.t 2)),oo 6 (.al [.int .i64 0,.slice none 0 0,.slice none 0 0,.int .i64 0,.slice none 0 0,.slice none 0 0,.slice none 0 0] []),om 7 (.k (.bool false))]) (.sq (.sq (rg [qF 12 0 4,qL 13 12,oo 14 (.bi .eql 0 (.t 13) (i6 6))]) (.cd (.t 14) (.sq (.rg (some 0) [qM 16 0,qF 17 0 5,qS 18 6 17,qF 19 3 4,qL 20 19,oo 21 (.ia 1 (.t 20) (i6 0)),qL 22 21,oo 23 (.ca .pure false (.f JP) [.t 16,.t 18,.t 22]),qM 15 23,qE 24 0 15,qE 25 1 15,oo 8 (.al [.int .i64 0,.slice none 0 0,.slice none 0 0,.int .i64 0,.slice none 0 0,.slice none 0 0] []),on1 (.s0 6 (.t 8) (.t 24)),qM 9 25]) (.sq (rg [qS 26 6 8,qF 27 6 5,qL 28 27,oo 29 (.bd [.int .i64 0,.slice none 0 0,.slice none 0 0,.int .i64 0,.slice none 0 0,.slice none 0 0,.slice none 0 0] [(0,6,.t 26),(6,1,.t 28)] []),qM 30 9,on1 (.st 7 (.t 6) (.t 29)),qM 7 30]) (.rt))) (.sk))) (.sq (.rg (some 0) [qM 32 0,qF 33 0 5,qS 34 6 33,qF 35 3 4,qL 36 35,oo 37 (.ia 1 (.t 36) (i6 0)),qL 38 37,oo 39 (.ca .pure false (.f Wq) [.t 32,.t 34,.t 38]),qM 31 39,qE 40 0 31,qE 41 1 31,oo 10 (.al [.int .i64 0,.slice none 0 0,.slice none 0 0,.int .i64 0,.slice none 0 0,.slice none 0 0] []),on1 (.s0 6 (.t 10) (.t 40)),qM 11 41]) (.sq (rg [qS 42 6 10,qF 43 6 5,qL 44 43,oo 45 (.bd [.int .i64 0,.slice none 0 0,.slice none 0 0,.int .i64 0,.slice none 0 0,.slice none 0 0,.slice none 0 0] [(0,6,.t 42),(6,1,.t 44)] []),qM 46 11,on1 (.st 7 (.t 6) (.t 45)),qM 7 46]) (.rt))))) }
theorem X4:ZK Proofs.Tryz.prog Wo Qq=true:=by kernel_rfl
def ZcR:F2 :=
 { nt:=34,res:=[.c 8 (some 7) [0,0,0,0,0,0,0],.t 9 [0]],body:=(.sq (rg [oo 5 (.bt (.t 1)),oo 6 (.bt (.t 2)),oo 7 (.bt (.t 3)),oo 8 (.al [.int .i64 0,.slice none 0 0,.slice none 0 0,.int .i64 0,.slice none 0 0,.slice none 0 0,.slice none 0 0] []),om 9 (.k (.bool false))]) (.sq (rg [qF 11 0 6,qS 12 6 11,qF 13 0 7,qS 14 6 13,oo 15 (.ca .pure false (.f W7) [.t 12,.t 14]),oo 10 (.al [.int .i64 0,.slice none 0 0,.slice none 0 0,.int .i64 0,.slice none 0 0,.slice none 0 0] []),on1 (.st 6 (.t 10) (.t 15))]) (.sq (.sq (rg [qM 16 0,qS 17 6 10,oo 18 (.ca .pure false (.f Yd) [.t 16,.t 17]),oo 19 (.nt (.t 18))]) (.cd (.t 19) (.sq (rg [oo 20 (.bd [.int .i64 0,.slice none 0 0,.slice none 0 0,.int .i64 0,.slice none 0 0,.slice none 0 0,.slice none 0 0] [] []),on1 (.st 7 (.t 8) (.t 20)),om 9 (.k (.bool false))]) (.rt)) (.sk))) (.sq (.sq (rg [qF 21 0 5,qL 22 21,oo 23 (.bi .eql 0 (.t 22) (i6 4))]) (.cd (.t 23) (rg [qS 24 6 10,oo 25 (.ca .pure false (.f UR) [.t 24]),on1 (.st 6 (.t 10) (.t 25))]) (.sk))) (.sq (.rg (some 0) [oo 26 (.lb (some 6) (.t 10)),qF 27 6 6,qL 28 27,oo 29 (.ca .pure true (.f X1) [.t 28]),qF 30 6 7,qL 31 30,oo 32 (.a0 1 (.t 29) (.t 31)),oo 33 (.bd [.int .i64 0,.slice none 0 0,.slice none 0 0,.int .i64 0,.slice none 0 0,.slice none 0 0,.slice none 0 0] [(0,6,.t 26),(6,1,.t 32)] []),on1 (.st 7 (.t 8) (.t 33)),om 9 (.k (.bool true))]) (.rt)))))) }
theorem Zix:ZK Proofs.Tryz.prog W4 ZcR=true:=by kernel_rfl
def ZaJ:F2 :=
 { nt:=6,res:=[.t 2 [0]],body:=(.sq (rg [om 2 (.k (.bool false))]) (.sq (rg [qM 3 0,oo 4 (.ca .pure false (.f Ye) [.t 3]),oo 5 (.nt (.t 4)),qM 2 5]) (.rt))) }
theorem ZfN:ZK Proofs.Tryz.prog VV ZaJ=true:=by kernel_rfl
def Xv:F2 :=
 { nt:=32,res:=[.t 8 [0]],body:=(.sq (rg [oo 4 (.bt (.t 0)),om 8 (.k (.bool false))]) (.sq (rg [qM 9 1,qM 10 9,og 11 10 false (.fa 1 (.t 4)),og 12 10 false (.ld none (.t 11)),og 13 10 false (.bi .eql 0 (.t 12) (i6 0)),oo 14 (.pk (.t 10) (.k (.bool true)) (.t 13)),qM 15 14,og 16 15 true (.mv (.t 2) none),og 17 15 true (.mv (.t 16) none),og 18 17 false (.fa 2 (.t 4)),og 19 17 false (.ld none (.t 18)),og 20 17 false (.bi .eql 0 (.t 19) (i6 0)),og 21 15 true (.pk (.t 17) (.k (.bool true)) (.t 20)),oo 22 (.pk (.t 15) (.t 21) (.k (.bool false))),qM 23 22,og 24 23 true (.mv (.t 3) none),og 25 23 true (.mv (.t 24) none),og 26 25 false (.fa 3 (.t 4)),og 27 25 false (.ld none (.t 26)),og 28 25 false (.ln (.t 27)),og 29 25 false (.bi .eql 0 (.t 28) (i6 0)),og 30 23 true (.pk (.t 25) (.k (.bool true)) (.t 29)),oo 31 (.pk (.t 23) (.t 30) (.k (.bool false))),qM 8 31]) (.rt))) }
theorem DI:ZK Proofs.Tryz.prog ZQ Xv=true:=by kernel_rfl
def ZcS:F2 :=
 { nt:=62,res:=[.c 6 (some 6) [0,4,2,0,2,3],.t 7 [0]],body:=(.sq (rg [oo 4 (.bt (.t 1)),oo 5 (.bt (.t 2)),oo 6 (.al [.int .i64 0,.slice none 0 0,.slice none 0 0,.int .i64 0,.slice none 0 0,.slice none 0 0] []),om 7 (.k (.bool false))]) (.sq (.sq (rg [qF 12 0 5,qL 13 12,oo 14 (.bi .neq 0 (.t 13) (i6 1))]) (.cd (.t 14) (.sq (rg [oo 15 (.bd [.int .i64 0,.slice none 0 0,.slice none 0 0,.int .i64 0,.slice none 0 0,.slice none 0 0] [] []),on1 (.st 6 (.t 6) (.t 15)),om 7 (.k (.bool false))]) (.rt)) (.sk))) (.sq (.sq (rg [qM 16 0,qF 17 1 4,qL 18 17,qI 19 3 16 18,qF 20 2 19,qL 21 20,oo 22 (.bi .neq 0 (.t 21) (i6 2))]) (.cd (.t 22) (.sq (rg [qM 24 0,qF 25 1 4,qL 26 25,qF 27 3 4,qL 28 27,oo 29 (.ca .pure true (.f US) [.t 24,.t 26,.t 28]),qM 23 29,qE 30 0 23,qE 31 1 23,oo 8 (.al [.int .i64 0,.slice none 0 0,.slice none 0 0,.int .i64 0,.slice none 0 0,.slice none 0 0] []),on1 (.st 6 (.t 8) (.t 30)),qM 9 31]) (.sq (rg [qM 32 0,qS 33 6 8,qS 34 6 5,oo 35 (.ca .pure true (.f VA) [.t 32,.t 33,.t 34]),qE 36 0 35,qE 37 1 35,on1 (.st 6 (.t 6) (.t 36)),qM 7 37]) (.rt))) (.sk))) (.sq (.sq (rg [qF 38 1 5,qL 39 38,qN 40 39,qF 41 2 5,qL 42 41,qN 43 42,qB 44 .add 40 43,oo 45 (.bi .gtr 0 (.t 44) (i6 0))]) (.cd (.t 45) (.sq (rg [oo 46 (.bd [.int .i64 0,.slice none 0 0,.slice none 0 0,.int .i64 0,.slice none 0 0,.slice none 0 0] [] []),on1 (.st 6 (.t 6) (.t 46)),om 7 (.k (.bool false))]) (.rt)) (.sk))) (.sq (rg [qM 48 0,qF 49 1 4,qL 50 49,qF 51 3 4,qL 52 51,oo 53 (.ca .pure true (.f W8) [.t 48,.t 50,.t 52]),qM 47 53,qE 54 0 47,qE 55 1 47,oo 10 (.al [.int .i64 0,.slice none 0 0,.slice none 0 0,.int .i64 0,.slice none 0 0,.slice none 0 0] []),on1 (.st 6 (.t 10) (.t 54)),qM 11 55]) (.sq (rg [qM 56 0,qS 57 6 10,qS 58 6 5,oo 59 (.ca .pure true (.f Yt) [.t 56,.t 57,.t 58]),qE 60 0 59,qE 61 1 59,on1 (.st 6 (.t 6) (.t 60)),qM 7 61]) (.rt))))))) }
theorem Ziy:ZK Proofs.Tryz.prog W5 ZcS=true:=by kernel_rfl
def Ub:F2 :=
 { nt:=22,res:=[.c 6 (some 6) [0,4,2,0,2,3],.t 7 [0]],body:=(.sq (rg [oo 4 (.bt (.t 1)),oo 5 (.bt (.t 2)),oo 6 (.al [.int .i64 0,.slice none 0 0,.slice none 0 0,.int .i64 0,.slice none 0 0,.slice none 0 0] []),om 7 (.k (.bool false))]) (.sq (rg [qM 11 0,qS 12 6 4,qS 13 6 5,oo 14 (.ca .pure true (.f JO) [.t 11,.t 12,.t 13]),qM 10 14,qE 15 0 10,qE 16 1 10,oo 8 (.al [.int .i64 0,.slice none 0 0,.slice none 0 0,.int .i64 0,.slice none 0 0,.slice none 0 0] []),on1 (.st 6 (.t 8) (.t 15)),qM 9 16]) (.sq (.sq (rg [qM 17 9,oo 18 (.nt (.t 17))]) (.cd (.t 18) (.sq (rg [oo 19 (.bd [.int .i64 0,.slice none 0 0,.slice none 0 0,.int .i64 0,.slice none 0 0,.slice none 0 0] [] []),on1 (.st 6 (.t 6) (.t 19)),om 7 (.k (.bool false))]) (.rt)) (.sk))) (.sq (rg [qS 20 6 8,oo 21 (.ca .pure true (.f JY) [.t 20]),on1 (.st 6 (.t 6) (.t 21)),om 7 (.k (.bool true))]) (.rt))))) }
theorem Zb8:ZK Proofs.Tryz.prog Yt Ub=true:=by kernel_rfl
def XH:F2 :=
 { nt:=33,res:=[.c 6 (some 6) [0,4,2,0,2,3],.t 7 [0]],body:=(.sq (rg [oo 4 (.bt (.t 1)),oo 5 (.bt (.t 2)),oo 6 (.al [.int .i64 0,.slice none 0 0,.slice none 0 0,.int .i64 0,.slice none 0 0,.slice none 0 0] []),om 7 (.k (.bool false))]) (.sq (.sq (.rg (some 0) [qM 8 0,qS 9 6 4,oo 10 (.ca .pure false (.f Z6) [.t 8,.t 9]),oo 11 (.nt (.t 10)),qM 12 11,og 13 12 false (.mv (.t 0) none),og 14 12 false (.ld (some 6) (.t 5)),og 15 12 false (.ca .pure false (.f Z6) [.t 13,.t 14]),og 16 12 false (.nt (.t 15)),oo 17 (.pk (.t 12) (.k (.bool true)) (.t 16)),qM 18 17,og 19 18 false (.ld (some 6) (.t 4)),og 20 18 false (.ca .pure false (.f Ja) [.t 19]),og 21 18 false (.ld (some 6) (.t 5)),og 22 18 false (.ca .pure false (.f Ja) [.t 21]),og 23 18 false (.ca .pure false (.f QO) [.t 20,.t 22]),oo 24 (.pk (.t 18) (.k (.bool true)) (.t 23))]) (.cd (.t 24) (.sq (rg [oo 25 (.bd [.int .i64 0,.slice none 0 0,.slice none 0 0,.int .i64 0,.slice none 0 0,.slice none 0 0] [] []),on1 (.st 6 (.t 6) (.t 25)),om 7 (.k (.bool false))]) (.rt)) (.sk))) (.sq (rg [qM 26 0,qS 27 6 4,qS 28 6 5,oo 29 (.ca .pure false (.f XR) [.t 27,.t 28]),oo 30 (.ca .pure true (.f Vh) [.t 26,.t 29]),qE 31 0 30,qE 32 1 30,on1 (.st 6 (.t 6) (.t 31)),qM 7 32]) (.rt)))) }
theorem Zam:ZK Proofs.Tryz.prog JO XH=true:=by kernel_rfl
def Zae:F2 :=
 { nt:=27,res:=[.c 6 (some 6) [0,4,2,0,2,3],.t 7 [0]],body:=(.sq (rg [oo 4 (.bt (.t 1)),oo 6 (.al [.int .i64 0,.slice none 0 0,.slice none 0 0,.int .i64 0,.slice none 0 0,.slice none 0 0] []),om 7 (.k (.bool false))]) (.sq (.sq (rg [qM 8 0,qS 9 6 4,oo 10 (.ca .pure false (.f Z6) [.t 8,.t 9]),oo 11 (.nt (.t 10)),qM 12 11,og 13 12 false (.fa 4 (.t 4)),og 14 12 false (.ld none (.t 13)),og 15 12 false (.mv (.t 2) none),og 16 12 false (.ca .pure false (.f ZL) [.t 14,.t 15]),og 17 12 false (.nt (.t 16)),oo 18 (.pk (.t 12) (.k (.bool true)) (.t 17))]) (.cd (.t 18) (.sq (rg [oo 19 (.bd [.int .i64 0,.slice none 0 0,.slice none 0 0,.int .i64 0,.slice none 0 0,.slice none 0 0] [] []),on1 (.st 6 (.t 6) (.t 19)),om 7 (.k (.bool false))]) (.rt)) (.sk))) (.sq (rg [qM 20 0,qS 21 6 4,qM 22 2,oo 23 (.ca .pure false (.f Yf) [.t 21,.t 22]),oo 24 (.ca .pure true (.f Vh) [.t 20,.t 23]),qE 25 0 24,qE 26 1 24,on1 (.st 6 (.t 6) (.t 25)),qM 7 26]) (.rt)))) }
theorem ZeM:ZK Proofs.Tryz.prog Xq Zae=true:=by kernel_rfl
def ZbL:F2 :=
 { nt:=38,res:=[.c 6 (some 6) [0,4,2,0,2,3],.t 7 [0]],body:=(.sq (rg [oo 4 (.bt (.t 1)),oo 6 (.al [.int .i64 0,.slice none 0 0,.slice none 0 0,.int .i64 0,.slice none 0 0,.slice none 0 0] []),om 7 (.k (.bool false))]) (.sq (.sq (rg [qM 8 0,qS 9 6 4,oo 10 (.ca .pure false (.f Z6) [.t 8,.t 9]),oo 11 (.nt (.t 10)),qM 12 11,og 13 12 false (.mv (.t 2) none),og 14 12 false (.ca .pure false (.f Ye) [.t 13]),og 15 12 false (.nt (.t 14)),oo 16 (.pk (.t 12) (.k (.bool true)) (.t 15)),qM 17 16,og 18 17 false (.fa 4 (.t 4)),og 19 17 false (.ld none (.t 18)),og 20 17 false (.mv (.t 2) none),og 21 17 false (.ca .pure false (.f ZL) [.t 19,.t 20]),oo 22 (.pk (.t 17) (.k (.bool true)) (.t 21))]) (.cd (.t 22) (.sq (rg [oo 23 (.bd [.int .i64 0,.slice none 0 0,.slice none 0 0,.int .i64 0,.slice none 0 0,.slice none 0 0] [] []),on1 (.st 6 (.t 6) (.t 23)),om 7 (.k (.bool false))]) (.rt)) (.sk))) (.sq (.rg (some 0) [qM 24 0,oo 25 (.lt (some 6) (.t 4)),qF 26 3 4,oo 27 (.lt none (.t 26)),qF 28 4 4,qL 29 28,oo 30 (.ca .pure true (.f ZJ) [.t 29]),qM 31 2,oo 32 (.bs 1 1 [.string ⟨#[]⟩] [(0,.t 31)]),oo 33 (.a0 1 (.t 30) (.t 32)),oo 34 (.ca .pure false (.f Zy) [.t 25,.t 27,.t 33,.f WE]),oo 35 (.ca .pure true (.f Vh) [.t 24,.t 34]),qE 36 0 35,qE 37 1 35,on1 (.st 6 (.t 6) (.t 36)),qM 7 37]) (.rt)))) }
theorem ZgL:ZK Proofs.Tryz.prog Wp ZbL=true:=by kernel_rfl
def DJ:F2 :=
 { nt:=18,res:=[.c 2 (some 7) [0,0,0,0,0,0,0]],body:=(.sq (rg [oo 1 (.bt (.t 0)),oo 2 (.al [.int .i64 0,.slice none 0 0,.slice none 0 0,.int .i64 0,.slice none 0 0,.slice none 0 0,.slice none 0 0] [])]) (.sq (.sq (rg [qF 3 0 1,qL 4 3]) (.bl 0 (.sq (rg [oo 6 (.bi .eql 0 (.t 4) (i6 1)),qM 5 6]) (.cd (.t 5) (.sq (rg [oo 7 (.bd [.int .i64 0,.slice none 0 0,.slice none 0 0,.int .i64 0,.slice none 0 0,.slice none 0 0] [(0,1,i6 1)] []),oo 8 (.bd [.int .i64 0,.slice none 0 0,.slice none 0 0,.int .i64 0,.slice none 0 0,.slice none 0 0,.slice none 0 0] [(0,6,.t 7)] []),on1 (.st 7 (.t 2) (.t 8))]) (.rt)) (.sq (rg [oo 10 (.bi .eql 0 (.t 4) (i6 2)),qM 9 10]) (.cd (.t 9) (.sq (rg [oo 11 (.bs 1 1 [.int .i64 0] [(0,i6 (-1))]),oo 12 (.bd [.int .i64 0,.slice none 0 0,.slice none 0 0,.int .i64 0,.slice none 0 0,.slice none 0 0] [(0,1,i6 1),(2,1,.t 11)] []),qF 13 2 1,qL 14 13,oo 15 (.bs 1 1 [.int .i64 0] [(0,.t 14)]),oo 16 (.bd [.int .i64 0,.slice none 0 0,.slice none 0 0,.int .i64 0,.slice none 0 0,.slice none 0 0,.slice none 0 0] [(0,6,.t 12),(6,1,.t 15)] []),on1 (.st 7 (.t 2) (.t 16))]) (.rt)) (.sk))))))) (.sq (rg [oo 17 (.bd [.int .i64 0,.slice none 0 0,.slice none 0 0,.int .i64 0,.slice none 0 0,.slice none 0 0,.slice none 0 0] [] []),on1 (.st 7 (.t 2) (.t 17))]) (.rt)))) }
theorem Zk5:ZK Proofs.Tryz.prog DG DJ=true:=by kernel_rfl
def ZaK:F2 :=
 { nt:=32,res:=[.t 2 [0]],body:=(.sq (rg [om 2 (.k (.bool false))]) (.sq (.sq (rg [qM 5 0,qN 6 5,om 7 (i6 0)]) (.bl 0 (.lp [0,5,6,7] [] (.sq (rg [qB 8 .lss 7 6]) (.sq (.cd (.t 8) (.sk) (.ex 0)) (.sq (.bl 1 (.sq (rg [qM 9 7,qI 10 1 5 7,qL 11 10,qM 3 9,qM 4 11]) (.sq (rg [qM 12 4,oo 13 (.ca .pure false (.f Ye) [.t 12]),oo 14 (.nt (.t 13)),qM 15 14,og 16 15 false (.mv (.t 3) none),og 17 15 false (.bi .gtr 0 (.t 16) (i6 0)),og 18 15 false (.mv (.t 17) none),og 19 18 true (.mv (.t 4) none),og 20 18 true (.mv (.t 0) none),og 21 18 true (.mv (.t 3) none),og 22 18 true (.bi .sub 0 (.t 21) (i6 1)),og 23 18 true (.ia 1 (.t 20) (.t 22)),og 24 18 true (.ld none (.t 23)),og 25 18 true (.bi .leq 0 (.t 19) (.t 24)),og 26 15 false (.pk (.t 18) (.t 25) (.k (.bool false))),oo 27 (.pk (.t 15) (.k (.bool true)) (.t 26))]) (.cd (.t 27) (.sq (rg [om 2 (.k (.bool false))]) (.rt)) (.sk)))))
 (rg [oo 28 (.bi .add 0 (.t 7) (i6 1)),qM 7 28]))))))) (.sq (rg [qM 29 0,qN 30 29,oo 31 (.bi .leq 0 (.t 30) (i6 16)),qM 2 31]) (.rt)))) }
theorem ZfO:ZK Proofs.Tryz.prog VW ZaK=true:=by kernel_rfl
def Qr:F2 :=
 { nt:=21,res:=[.t 2 [2]],body:=(.sq (rg [oo 1 (.bt (.t 0)),om 2 (.k (.slice none 0 0))]) (.sq (rg [oo 6 (.bs 1 0 [] []),qM 3 6]) (.sq (.sq (rg [qF 7 5 1,qL 8 7,qN 9 8,om 10 (i6 0)]) (.bl 0 (.lp [3,8,9,10] [192,576] (.sq (rg [qB 11 .lss 10 9]) (.sq (.cd (.t 11) (.sk) (.ex 0)) (.sq (.bl 1 (.sq (rg [qI 12 2 8 10,qS 13 2 12,oo 5 (.al [.string ⟨#[]⟩,.int .i64 0] []),on1 (.st 2 (.t 5) (.t 13))])
 (rg [qM 14 3,qF 15 0 5,qL 16 15,oo 17 (.bs 1 1 [.string ⟨#[]⟩] [(0,.t 16)]),oo 18 (.ap 1 0 (.t 14) (.t 17)),qM 3 18])))
 (rg [oo 19 (.bi .add 0 (.t 10) (i6 1)),qM 10 19]))))))) (.sq (rg [qM 20 3,qM 2 20]) (.rt))))) }
theorem UT:ZK Proofs.Tryz.prog Ja Qr=true:=by kernel_rfl
def Xw:F2 :=
 { nt:=32,res:=[.t 8 [0]],body:=(.sq (rg [oo 4 (.bt (.t 0)),om 8 (.k (.bool false))]) (.sq (.sq (rg [qM 9 2,oo 10 (.bi .lss 0 (.t 9) (i6 0))]) (.cd (.t 10) (.sq (rg [qM 11 2,qF 12 0 4,qL 13 12,oo 14 (.ng (.t 13)),qB 15 .geq 11 14,qM 8 15]) (.rt)) (.sk))) (.sq (rg [qM 16 2,qM 17 3,qB 18 .lss 16 17,qM 19 18,og 20 19 true (.mv (.t 1) none),og 21 19 true (.fa 1 (.t 4)),og 22 19 true (.ld none (.t 21)),og 23 19 true (.mv (.t 2) none),og 24 19 true (.ia 3 (.t 22) (.t 23)),og 25 19 true (.fa 0 (.t 24)),og 26 19 true (.ld none (.t 25)),og 27 19 true (.ia 3 (.t 20) (.t 26)),og 28 19 true (.fa 2 (.t 27)),og 29 19 true (.ld none (.t 28)),og 30 19 true (.bi .neq 0 (.t 29) (i6 2)),oo 31 (.pk (.t 19) (.t 30) (.k (.bool false))),qM 8 31]) (.rt)))) }
theorem DK:ZK Proofs.Tryz.prog JK Xw=true:=by kernel_rfl
def UA:F2 :=
 { nt:=8,res:=[.t 3 [0]],body:=(.sq (rg [om 3 (.k (.bool false))]) (.sq (rg [qS 4 6 1,qM 5 0,oo 6 (.ca .pure false (.f JX) [.t 4,.t 5]),oo 7 (.nt (.t 6)),qM 3 7]) (.rt))) }
theorem ZcT:ZK Proofs.Tryz.prog V8 UA=true:=by kernel_rfl
def Wb:F2 :=
 { nt:=14,res:=[.t 4 [0]],body:=(.sq (rg [oo 2 (.bt (.t 0)),om 4 (.k (.bool false))]) (.sq (rg [qM 5 1,qF 6 3 2,qL 7 6,qF 8 4 2,qL 9 8,qN 10 9,qB 11 .add 7 10,oo 12 (.bi .sub 0 (.t 11) (i6 1)),oo 13 (.ca .pure false (.f ZU) [.t 5,i6 0,.t 12]),qM 4 13]) (.rt))) }
theorem ZaL:ZK Proofs.Tryz.prog JX Wb=true:=by kernel_rfl
def UB:F2 :=
 { nt:=13,res:=[.t 4 [0]],body:=(.sq (rg [om 4 (.k (.bool false))]) (.sq (rg [qS 5 6 1,qL 6 2,qM 7 0,qF 8 1 1,qL 9 8,qN 10 9,oo 11 (.ca .pure false (.f JK) [.t 5,.t 6,.t 7,.t 10]),oo 12 (.nt (.t 11)),qM 4 12]) (.rt))) }
theorem ZcU:ZK Proofs.Tryz.prog V9 UB=true:=by kernel_rfl
def UC:F2 :=
 { nt:=9,res:=[.t 3 [0]],body:=(.sq (rg [oo 2 (.bt (.t 0)),om 3 (.k (.bool false))]) (.sq (rg [qS 4 6 1,qF 5 1 2,qL 6 5,oo 7 (.ca .pure false (.f JX) [.t 4,.t 6]),oo 8 (.nt (.t 7)),qM 3 8]) (.rt))) }
theorem ZcV:ZK Proofs.Tryz.prog Qa UC=true:=by kernel_rfl
def Yx:F2 :=
 { nt:=49,res:=[],body:=(.sq (rg [qM 8 1,oo 9 (.bi .add 0 (.t 8) (i6 1)),qM 6 9]) (.bl 0 (.lp [0,1,2,6] [] (.sq (.sq (rg [qM 10 6,qM 11 2,qB 12 .lss 10 11]) (.cd (.t 12) (.sk) (.ex 0))) (.sq (.bl 1 (.sq (rg [qM 15 6,qM 7 15]) (.bl 2 (.lp [0,1,2,6,7] [] (.sq (.sq (.rg (some 0) [qM 16 7,qM 17 1,qB 18 .gtr 16 17,qM 19 18,og 20 19 true (.mv (.t 0) none),og 21 19 true (.mv (.t 7) none),og 22 19 true (.ia 1 (.t 20) (.t 21)),og 23 19 true (.ld none (.t 22)),og 24 19 true (.mv (.t 0) none),og 25 19 true (.mv (.t 7) none),og 26 19 true (.bi .sub 0 (.t 25) (i6 1)),og 27 19 true (.ia 1 (.t 24) (.t 26)),og 28 19 true (.ld none (.t 27)),og 29 19 true (.ca .pure false (.f QC) [.t 23,.t 28]),oo 30 (.pk (.t 19) (.t 29) (.k (.bool false)))]) (.cd (.t 30) (.sk) (.ex 2))) (.sq (.bl 3 (.rg (some 0) [qM 33 0,qM 34 7,qM 35 0,qM 36 7,oo 37 (.bi .sub 0 (.t 36) (i6 1)),qM 38 0,qM 39 7,oo 40 (.bi .sub 0 (.t 39) (i6 1)),qI 41 1 38 40,qL 42 41,qM 43 0,qM 44 7,qI 45 1 43 44,qL 46 45,qI 47 1 33 34,on1 (.s0 1 (.t 47) (.t 42)),qI 48 1 35 37,on1 (.st 1 (.t 48) (.t 46))]))
 (rg [qM 31 7,oo 32 (.bi .sub 0 (.t 31) (i6 1)),qM 7 32])))))))
 (rg [qM 13 6,oo 14 (.bi .add 0 (.t 13) (i6 1)),qM 6 14])))))) }
theorem Xx:ZK Proofs.Tryz.prog Jr Yx=true:=by kernel_rfl
def ZbM:F2 :=
 { nt:=17,res:=[.t 4 [0]],body:=(.sq (rg [om 4 (.k (.bool false))]) (.sq (rg [qM 5 0,oo 6 (.ca .pure false (.f VX) [.t 5]),qM 7 6,og 8 7 true (.mv (.t 1) none),og 9 7 true (.ca .pure false (.f VX) [.t 8]),og 10 7 true (.nt (.t 9)),oo 11 (.pk (.t 7) (.t 10) (.k (.bool false))),qM 12 11,og 13 12 false (.mv (.t 0) none),og 14 12 false (.mv (.t 1) none),og 15 12 false (.bi .lss 0 (.t 13) (.t 14)),oo 16 (.pk (.t 12) (.k (.bool true)) (.t 15)),qM 4 16]) (.rt))) }
theorem ZgM:ZK Proofs.Tryz.prog QC ZbM=true:=by kernel_rfl
def ZA:F2 :=
 { nt:=25,res:=[.t 2 [0]],body:=(.sq (rg [om 2 (i6 0)]) (.sq (.sq (rg [qM 3 0,oo 4 (.bi .geq 0 (.t 3) (.k (.int .u64 4294967296)))]) (.cd (.t 4) (.sq (rg [qM 5 0,oo 6 (.bi .shr 0 (.t 5) (.k (.int .u64 32))),qM 0 6])
 (rg [om 2 (i6 32)])) (.sk))) (.sq (.sq (rg [qM 7 0,oo 8 (.bi .geq 0 (.t 7) (.k (.int .u64 65536)))]) (.cd (.t 8) (.sq (rg [qM 9 0,oo 10 (.bi .shr 0 (.t 9) (.k (.int .u64 16))),qM 0 10])
 (rg [qM 11 2,oo 12 (.bi .add 0 (.t 11) (i6 16)),qM 2 12])) (.sk))) (.sq (.sq (rg [qM 13 0,oo 14 (.bi .geq 0 (.t 13) (.k (.int .u64 256)))]) (.cd (.t 14) (.sq (rg [qM 15 0,oo 16 (.bi .shr 0 (.t 15) (.k (.int .u64 8))),qM 0 16])
 (rg [qM 17 2,oo 18 (.bi .add 0 (.t 17) (i6 8)),qM 2 18])) (.sk))) (.sq (rg [qM 19 2,qM 20 0,oo 21 (.cv (.int .u8) (.t 20)),oo 22 (.ix (.k (.string ⟨#[0,1,2,2,3,3,3,3,4,4,4,4,4,4,4,4,5,5,5,5,5,5,5,5,5,5,5,5,5,5,5,5,6,6,6,6,6,6,6,6,6,6,6,6,6,6,6,6,6,6,6,6,6,6,6,6,6,6,6,6,6,6,6,6,7,7,7,7,7,7,7,7,7,7,7,7,7,7,7,7,7,7,7,7,7,7,7,7,7,7,7,7,7,7,7,7,7,7,7,7,7,7,7,7,7,7,7,7,7,7,7,7,7,7,7,7,7,7,7,7,7,7,7,7,7,7,7,7,8,8,8,8,8,8,8,8,8,8,8,8,8,8,8,8,8,8,8,8,8,8,8,8,8,8,8,8,8,8,8,8,8,8,8,8,8,8,8,8,8,8,8,8,8,8,8,8,8,8,8,8,8,8,8,8,8,8,8,8,8,8,8,8,8,8,8,8,8,8,8,8,8,8,8,8,8,8,8,8,8,8,8,8,8,8,8,8,8,8,8,8,8,8,8,8,8,8,8,8,8,8,8,8,8,8,8,8,8,8,8,8,8,8,8,8,8,8,8,8,8,8,8,8,8,8,8,8]⟩)) (.t 21)),oo 23 (.cv (.int .i64) (.t 22)),qB 24 .add 19 23,qM 2 24]) (.rt)))))) }
theorem ZE:ZK Proofs.Tryz.prog QN ZA=true:=by kernel_rfl
def ZaM:F2 :=
 { nt:=61,res:=[.t 2 [2]],body:=(.sq (rg [om 2 (.k (.slice none 0 0))]) (.sq (rg [oo 6 (.bs 1 0 [] []),oo 3 (.rk (.t 6))]) (.sq (.sq (rg [om 4 (i6 0)]) (.bl 0 (.lp [0,3,4] [96] (.sq (.sq (rg [qM 7 4,qM 8 0,qN 9 8,qB 10 .lss 7 9]) (.cd (.t 10) (.sk) (.ex 0))) (.sq (.bl 1 (.sq (rg [om 5 (i6 0)]) (.sq (.bl 2 (.lp [0,3,4,5] [96] (.sq (.sq (.rg (some 0) [qM 13 5,qM 14 3,qN 15 14,qB 16 .lss 13 15,qM 17 16,og 18 17 true (.mv (.t 3) none),og 19 17 true (.mv (.t 5) none),og 20 17 true (.ia 1 (.t 18) (.t 19)),og 21 17 true (.ld none (.t 20)),og 22 17 true (.mv (.t 0) none),og 23 17 true (.mv (.t 4) none),og 24 17 true (.ia 1 (.t 22) (.t 23)),og 25 17 true (.ld none (.t 24)),og 26 17 true (.bi .lss 0 (.t 21) (.t 25)),oo 27 (.pk (.t 17) (.t 26) (.k (.bool false)))]) (.cd (.t 27) (.sk) (.ex 2))) (.bl 3 (rg [qM 28 5,oo 29 (.bi .add 0 (.t 28) (i6 1)),qM 5 29]))))) (.sq (.rg (some 0) [qM 30 5,qM 31 3,qN 32 31,qB 33 .eql 30 32,qM 34 33,og 35 34 false (.mv (.t 3) none),og 36 34 false (.mv (.t 5) none),og 37 34 false (.ia 1 (.t 35) (.t 36)),og 38 34 false (.ld none (.t 37)),og 39 34 false (.mv (.t 0) none),og 40 34 false (.mv (.t 4) none),og 41 34 false (.ia 1 (.t 39) (.t 40)),og 42 34 false (.ld none (.t 41)),og 43 34 false (.bi .neq 0 (.t 38) (.t 42)),oo 44 (.pk (.t 34) (.k (.bool true)) (.t 43))]) (.cd (.t 44) (.rg (some 0) [oo 45 (.bs 1 0 [] []),qM 46 3,qM 47 5,oo 48 (.sx 1 (.t 46) none (some (.t 47)) none),oo 49 (.a0 1 (.t 45) (.t 48)),qM 50 0,qM 51 4,oo 52 (.it 1 (.t 50) (.t 51)),oo 53 (.lt none (.t 52)),oo 54 (.bs 1 1 [.string ⟨#[]⟩] [(0,.t 53)]),oo 55 (.a0 1 (.t 49) (.t 54)),qM 56 3,qM 57 5,oo 58 (.sw 1 (.t 56) (some (.t 57)) none none),oo 59 (.ap 1 0 (.t 55) (.t 58)),oo 3 (.rk (.t 59))]) (.sk))))))
 (rg [qM 11 4,oo 12 (.bi .add 0 (.t 11) (i6 1)),qM 4 12])))))) (.sq (rg [qM 60 3,qM 2 60]) (.rt))))) }
theorem ZfP:ZK Proofs.Tryz.prog J8 ZaM=true:=by kernel_rfl
def ZbN:F2 :=
 { nt:=28,res:=[.t 6 [2]],body:=(.sq (rg [om 6 (.k (.slice none 0 0))]) (.sq (rg [oo 9 (.bs 1 0 [] []),qM 7 9]) (.sq (.sq (rg [om 8 (i6 0)]) (.bl 0 (.lp [0,1,2,7,8] [288,832] (.sq (.sq (rg [qM 10 8,qM 11 0,qN 12 11,qB 13 .lss 10 12]) (.cd (.t 13) (.sk) (.ex 0))) (.sq (.bl 1 (rg [qM 16 7,qM 17 1,qM 18 2,qM 19 0,qM 20 8,qI 21 1 19 20,qL 22 21,oo 23 (.ca .pure false (.f Yu) [.t 18,.t 22]),qB 24 .add 17 23,oo 25 (.bs 1 1 [.int .i64 0] [(0,.t 24)]),oo 26 (.ap 1 0 (.t 16) (.t 25)),qM 7 26]))
 (rg [qM 14 8,oo 15 (.bi .add 0 (.t 14) (i6 1)),qM 8 15])))))) (.sq (rg [qM 27 7,qM 6 27]) (.rt))))) }
theorem ZgN:ZK Proofs.Tryz.prog JQ ZbN=true:=by kernel_rfl
def ZcW:F2 :=
 { nt:=34,res:=[.c 4 (some 6) [0,4,2,0,2,3]],body:=(.sq (rg [oo 2 (.bt (.t 0)),oo 3 (.bt (.t 1)),oo 4 (.al [.int .i64 0,.slice none 0 0,.slice none 0 0,.int .i64 0,.slice none 0 0,.slice none 0 0] [])]) (.sq (.rg (some 0) [oo 7 (.bs 1 0 [] []),qF 8 4 2,qL 9 8,oo 10 (.a0 1 (.t 7) (.t 9)),qF 11 4 3,oo 12 (.lt none (.t 11)),oo 13 (.a0 1 (.t 10) (.t 12)),oo 14 (.ca .pure false (.f J8) [.t 13]),qF 15 3 2,oo 16 (.lt none (.t 15)),qF 17 3 3,oo 18 (.lt none (.t 17)),qB 19 .add 16 18,qM 5 14,qM 6 19]) (.sq (.rg (some 0) [qS 20 6 2,qS 21 6 3,qM 22 5,qF 23 4 2,qL 24 23,qM 25 6,qM 26 5,oo 27 (.ca .pure false (.f JQ) [.t 24,.t 25,.t 26]),qF 28 4 3,qL 29 28,qM 30 6,qM 31 5,oo 32 (.ca .pure false (.f JQ) [.t 29,.t 30,.t 31]),oo 33 (.ca .pure true (.f Wr) [.t 20,.t 21,.t 22,.t 27,.t 32]),on1 (.st 6 (.t 4) (.t 33))]) (.rt)))) }
theorem Ziz:ZK Proofs.Tryz.prog W6 ZcW=true:=by kernel_rfl
def Wt:F2 :=
 { nt:=72,res:=[.c 6 (some 6) [0,4,2,0,2,3],.t 7 [0]],body:=(.sq (rg [oo 4 (.bt (.t 1)),oo 6 (.al [.int .i64 0,.slice none 0 0,.slice none 0 0,.int .i64 0,.slice none 0 0,.slice none 0 0] []),om 7 (.k (.bool false))]) (.sq (rg [qF 12 4 4,qL 13 12,qM 14 2,oo 15 (.ca .pure false (.f Yu) [.t 13,.t 14]),qM 8 15]) (.sq (.sq (rg [qM 16 0,qS 17 6 4,oo 18 (.ca .pure false (.f Yd) [.t 16,.t 17]),oo 19 (.nt (.t 18)),qM 20 19,og 21 20 false (.mv (.t 8) none),og 22 20 false (.bi .lss 0 (.t 21) (i6 0)),oo 23 (.pk (.t 20) (.k (.bool true)) (.t 22))]) (.cd (.t 23) (.sq (rg [oo 24 (.bd [.int .i64 0,.slice none 0 0,.slice none 0 0,.int .i64 0,.slice none 0 0,.slice none 0 0] [] []),on1 (.st 6 (.t 6) (.t 24)),om 7 (.k (.bool false))]) (.rt)) (.sk))) (.sq (.rg (some 0) [qF 25 4 4,qL 26 25,qM 27 2,oo 28 (.ca .pure false (.f W9) [.t 26,.t 27]),qF 29 3 4,qL 30 29,oo 31 (.ca .pure true (.f JR) [i6 0,.t 30]),qM 9 28,qM 10 31]) (.sq (.sq (rg [om 11 (i6 0)]) (.bl 0 (.lp [0,4,6,8,9,10,11] [192,992,1472,1920,2208,2209,2210,2211] (.sq (.sq (rg [qM 32 11,qF 33 4 4,qL 34 33,qN 35 34,qB 36 .lss 32 35]) (.cd (.t 36) (.sk) (.ex 0))) (.sq (.bl 1 (.sq (rg [qM 39 11,qM 40 8,qB 41 .eql 39 40]) (.cd (.t 41) (rg [qM 42 10,qF 43 3 4,qL 44 43,oo 45 (.bs 1 1 [.int .i64 0] [(0,.t 44)]),oo 46 (.ap 1 0 (.t 42) (.t 45)),qM 10 46]) (.rg (some 0) [qM 47 10,qF 48 3 4,qL 49 48,oo 50 (.bi .add 0 (.t 49) (i6 1)),qM 51 9,qF 52 4 4,qL 53 52,qM 54 11,qI 55 1 53 54,qL 56 55,oo 57 (.ca .pure false (.f Yu) [.t 51,.t 56]),qB 58 .add 50 57,oo 59 (.bs 1 1 [.int .i64 0] [(0,.t 58)]),oo 60 (.ap 1 0 (.t 47) (.t 59)),qM 10 60]))))
 (rg [qM 37 11,oo 38 (.bi .add 0 (.t 37) (i6 1)),qM 11 38])))))) (.sq (rg [qM 61 0,qS 62 6 4,qM 63 10,qF 64 3 4,qL 65 64,oo 66 (.bi .add 0 (.t 65) (i6 1)),qM 67 9,oo 68 (.ca .pure false (.f XT) [.t 62,.t 63,.t 66,.t 67]),oo 69 (.ca .pure true (.f VB) [.t 61,.t 68]),qE 70 0 69,qE 71 1 69,on1 (.st 6 (.t 6) (.t 70)),qM 7 71]) (.rt))))))) }
theorem Zaf:ZK Proofs.Tryz.prog JP Wt=true:=by kernel_rfl
def ZbO:F2 :=
 { nt:=38,res:=[.c 6 (some 6) [0,4,2,0,2,3],.t 7 [0]],body:=(.sq (rg [oo 4 (.bt (.t 1)),oo 6 (.al [.int .i64 0,.slice none 0 0,.slice none 0 0,.int .i64 0,.slice none 0 0,.slice none 0 0] []),om 7 (.k (.bool false))]) (.sq (.sq (rg [qM 9 0,qS 10 6 4,oo 11 (.ca .pure false (.f Yd) [.t 9,.t 10]),oo 12 (.nt (.t 11)),qM 13 12,og 14 13 false (.fa 4 (.t 4)),og 15 13 false (.ld none (.t 14)),og 16 13 false (.mv (.t 2) none),og 17 13 false (.ca .pure false (.f Yu) [.t 15,.t 16]),og 18 13 false (.bi .geq 0 (.t 17) (i6 0)),oo 19 (.pk (.t 13) (.k (.bool true)) (.t 18))]) (.cd (.t 19) (.sq (rg [oo 20 (.bd [.int .i64 0,.slice none 0 0,.slice none 0 0,.int .i64 0,.slice none 0 0,.slice none 0 0] [] []),on1 (.st 6 (.t 6) (.t 20)),om 7 (.k (.bool false))]) (.rt)) (.sk))) (.sq (rg [oo 21 (.bs 1 0 [] []),qF 22 4 4,qL 23 22,oo 24 (.ap 1 0 (.t 21) (.t 23)),qM 25 2,oo 26 (.bs 1 1 [.string ⟨#[]⟩] [(0,.t 25)]),oo 27 (.ap 1 0 (.t 24) (.t 26)),oo 28 (.ca .pure false (.f J8) [.t 27]),qM 8 28]) (.sq (rg [qM 29 0,qS 30 6 4,qF 31 4 4,qL 32 31,qM 33 8,oo 34 (.ca .pure false (.f QD) [.t 30,.t 32,.t 33]),oo 35 (.ca .pure true (.f VB) [.t 29,.t 34]),qE 36 0 35,qE 37 1 35,on1 (.st 6 (.t 6) (.t 36)),qM 7 37]) (.rt))))) }
theorem ZgO:ZK Proofs.Tryz.prog Wq ZbO=true:=by kernel_rfl
def ZcX:F2 :=
 { nt:=89,res:=[.c 4 (some 6) [0,4,2,0,2,3]],body:=(.sq (rg [oo 2 (.bt (.t 0)),oo 3 (.bt (.t 1)),oo 4 (.al [.int .i64 0,.slice none 0 0,.slice none 0 0,.int .i64 0,.slice none 0 0,.slice none 0 0] [])]) (.sq (.rg (some 0) [oo 11 (.bs 1 0 [] []),qF 12 4 2,qL 13 12,oo 14 (.a0 1 (.t 11) (.t 13)),qF 15 4 3,oo 16 (.lt none (.t 15)),oo 17 (.a0 1 (.t 14) (.t 16)),oo 18 (.ca .pure true (.f J8) [.t 17]),qF 19 3 2,oo 20 (.lt none (.t 19)),qF 21 3 3,oo 22 (.lt none (.t 21)),qB 23 .add 20 22,qM 5 18,qM 6 23]) (.sq (.rg (some 0) [qF 24 3 2,qL 25 24,oo 26 (.ca .pure true (.f JR) [i6 0,.t 25]),qF 27 4 2,qL 28 27,qM 29 6,qM 30 5,oo 31 (.ca .pure false (.f JQ) [.t 28,.t 29,.t 30]),oo 32 (.ap 1 0 (.t 26) (.t 31)),qM 7 32]) (.sq (.rg (some 0) [qF 33 3 2,qL 34 33,qF 35 3 3,qL 36 35,oo 37 (.ca .pure true (.f JR) [.t 34,.t 36]),qF 38 4 3,qL 39 38,qM 40 6,qM 41 5,oo 42 (.ca .pure false (.f JQ) [.t 39,.t 40,.t 41]),oo 43 (.ap 1 0 (.t 37) (.t 42)),qM 8 43]) (.sq (.rg (some 0) [qF 44 0 2,qL 45 44,oo 46 (.ca .pure false (.f Yp) [i6 0,.t 45]),qF 47 0 2,qL 48 47,qF 49 0 3,qL 50 49,oo 51 (.ca .pure false (.f Yp) [.t 48,.t 50]),qM 9 46,qM 10 51]) (.sq (.rg (some 0) [qF 52 0 2,oo 53 (.lt none (.t 52)),qF 54 0 3,oo 55 (.lt none (.t 54)),qB 56 .add 53 55,qS 57 6 2,qM 58 9,qM 59 7,oo 60 (.ca .pure true (.f JS) [.t 57,i6 0,.t 58,.t 59]),qS 61 6 3,qF 62 1 2,qL 63 62,qN 64 63,qM 65 10,qM 66 8,oo 67 (.ca .pure false (.f JS) [.t 61,.t 64,.t 65,.t 66]),oo 68 (.a1 3 (.t 60) (.t 67)),oo 69 (.lt (some 6) (.t 2)),qM 70 9,oo 71 (.ca .pure true (.f JA) [.t 69,i6 0,.t 70]),oo 72 (.lt (some 6) (.t 3)),qF 73 1 2,oo 74 (.lt none (.t 73)),qN 75 74,qM 76 10,oo 77 (.ca .pure false (.f JA) [.t 72,.t 75,.t 76]),oo 78 (.a0 1 (.t 71) (.t 77)),qM 79 6,qM 80 5,oo 81 (.lt (some 6) (.t 2)),qM 82 7,oo 83 (.ca .pure false (.f Yq) [.t 81,.t 82]),oo 84 (.lt (some 6) (.t 3)),qM 85 8,oo 86 (.ca .pure false (.f Yq) [.t 84,.t 85]),oo 87 (.ca .pure true (.f Ws) [.t 83,.t 86]),oo 88 (.bd [.int .i64 0,.slice none 0 0,.slice none 0 0,.int .i64 0,.slice none 0 0,.slice none 0 0] [(0,1,.t 56),(1,1,.t 68),(2,1,.t 78),(3,1,.t 79),(4,1,.t 80),(5,1,.t 87)] []),on1 (.st 6 (.t 4) (.t 88))]) (.rt))))))) }
theorem ZiA:ZK Proofs.Tryz.prog W7 ZcX=true:=by kernel_rfl
def Zes:F2 :=
 { nt:=45,res:=[.c 2 (some 6) [0,4,2,0,2,3]],body:=(.sq (rg [oo 1 (.bt (.t 0)),oo 2 (.al [.int .i64 0,.slice none 0 0,.slice none 0 0,.int .i64 0,.slice none 0 0,.slice none 0 0] [])]) (.sq (rg [qS 7 6 1,oo 8 (.ca .pure true (.f Vg) [.t 7]),oo 9 (.bs 1 0 [] []),oo 3 (.al [.int .i64 0,.slice none 0 0,.slice none 0 0,.int .i64 0,.slice none 0 0,.slice none 0 0] []),on1 (.st 6 (.t 3) (.t 8)),qM 4 9]) (.sq (.sq (rg [om 5 (i6 0)]) (.bl 0 (.lp [1,2,3,4,5] [64,96,256,257,258,259,288,576,1344] (.sq (.sq (rg [qM 10 5,qF 11 0 1,qL 12 11,qB 13 .lss 10 12]) (.cd (.t 13) (.sk) (.ex 0))) (.sq (.bl 1 (rg [qM 16 4,oo 17 (.bs 1 1 [.int .i64 0] [(0,i6 (-1))]),oo 18 (.ap 1 0 (.t 16) (.t 17)),qM 4 18]))
 (rg [qM 14 5,oo 15 (.bi .add 0 (.t 14) (i6 1)),qM 5 15])))))) (.sq (rg [qF 19 0 3,on1 (.st 1 (.t 19) (i6 1))]) (.sq (.sq (rg [om 6 (i6 0)]) (.bl 2 (.lp [1,2,3,4,6] [64,96,256,257,258,259,288,576,1344] (.sq (.sq (rg [qM 20 6,qF 21 1 3,qL 22 21,qN 23 22,qB 24 .lss 20 23]) (.cd (.t 24) (.sk) (.ex 2))) (.sq (.bl 3 (.rg (some 0) [qF 27 1 3,qL 28 27,qM 29 6,qF 30 1 3,qL 31 30,qM 32 6,qI 33 3 31 32,qF 34 1 33,qL 35 34,qM 36 4,oo 37 (.ca .pure false (.f YP) [.t 35,i6 0,.t 36]),qI 38 3 28 29,qF 39 1 38,on1 (.st 1 (.t 39) (.t 37))]))
 (rg [qM 25 6,oo 26 (.bi .add 0 (.t 25) (i6 1)),qM 6 26])))))) (.sq (rg [qS 40 6 1,qM 41 4,oo 42 (.ca .pure true (.f JA) [.t 40,i6 0,.t 41]),qF 43 2 3,on1 (.st 1 (.t 43) (.t 42))]) (.sq (rg [qS 44 6 3,on1 (.st 6 (.t 2) (.t 44))]) (.rt)))))))) }
theorem ZjV:ZK Proofs.Tryz.prog UR Zes=true:=by kernel_rfl
def Zet:F2 :=
 { nt:=31,res:=[.c 6 (some 6) [0,4,2,0,2,3],.t 7 [0]],body:=(.sq (rg [oo 6 (.al [.int .i64 0,.slice none 0 0,.slice none 0 0,.int .i64 0,.slice none 0 0,.slice none 0 0] []),om 7 (.k (.bool false))]) (.sq (rg [qM 11 0,qM 12 1,qM 13 2,oo 14 (.ca .pure true (.f Xs) [.t 11,.t 12,.t 13]),qM 10 14,qE 15 0 10,qE 16 1 10,oo 8 (.al [.int .i64 0,.slice none 0 0,.slice none 0 0,.int .i64 0,.slice none 0 0,.slice none 0 0] []),on1 (.st 6 (.t 8) (.t 15)),qM 9 16]) (.sq (.sq (rg [qM 17 9,oo 18 (.nt (.t 17)),qM 19 18,og 20 19 false (.mv (.t 0) none),og 21 19 false (.mv (.t 1) none),og 22 19 false (.ia 3 (.t 20) (.t 21)),og 23 19 false (.fa 2 (.t 22)),og 24 19 false (.ld none (.t 23)),og 25 19 false (.bi .eql 0 (.t 24) (i6 2)),oo 26 (.pk (.t 19) (.k (.bool true)) (.t 25))]) (.cd (.t 26) (.sq (rg [oo 27 (.bd [.int .i64 0,.slice none 0 0,.slice none 0 0,.int .i64 0,.slice none 0 0,.slice none 0 0] [] []),on1 (.st 6 (.t 6) (.t 27)),om 7 (.k (.bool false))]) (.rt)) (.sk))) (.sq (rg [oo 28 (.bs 1 1 [.int .i64 0] [(0,i6 0)]),qF 29 2 8,on1 (.st 1 (.t 29) (.t 28))]) (.sq (rg [qS 30 6 8,on1 (.st 6 (.t 6) (.t 30)),om 7 (.k (.bool true))]) (.rt)))))) }
theorem ZjW:ZK Proofs.Tryz.prog US Zet=true:=by kernel_rfl
def Uc:F2 :=
 { nt:=49,res:=[.c 6 (some 6) [0,4,2,0,2,3],.t 7 [0]],body:=(.sq (rg [oo 4 (.bt (.t 1)),oo 5 (.bt (.t 2)),oo 6 (.al [.int .i64 0,.slice none 0 0,.slice none 0 0,.int .i64 0,.slice none 0 0,.slice none 0 0] []),om 7 (.k (.bool false))]) (.sq (.sq (rg [qM 8 0,qS 9 6 4,oo 10 (.ca .pure false (.f Z6) [.t 8,.t 9]),oo 11 (.nt (.t 10)),qM 12 11,og 13 12 false (.mv (.t 0) none),og 14 12 false (.ld (some 6) (.t 5)),og 15 12 false (.ca .pure false (.f Z6) [.t 13,.t 14]),og 16 12 false (.nt (.t 15)),oo 17 (.pk (.t 12) (.k (.bool true)) (.t 16)),qM 18 17,og 19 18 false (.fa 5 (.t 4)),og 20 18 false (.ld none (.t 19)),og 21 18 false (.ln (.t 20)),og 22 18 false (.bi .gtr 0 (.t 21) (i6 0)),oo 23 (.pk (.t 18) (.k (.bool true)) (.t 22)),qM 24 23,og 25 24 false (.fa 2 (.t 4)),og 26 24 false (.ld none (.t 25)),og 27 24 false (.ln (.t 26)),og 28 24 false (.fa 0 (.t 5)),og 29 24 false (.ld none (.t 28)),og 30 24 false (.bi .neq 0 (.t 27) (.t 29)),oo 31 (.pk (.t 24) (.k (.bool true)) (.t 30))]) (.cd (.t 31) (.sq (rg [oo 32 (.bd [.int .i64 0,.slice none 0 0,.slice none 0 0,.int .i64 0,.slice none 0 0,.slice none 0 0] [] []),on1 (.st 6 (.t 6) (.t 32)),om 7 (.k (.bool false))]) (.rt)) (.sk))) (.sq (.rg (some 0) [qM 33 0,qS 34 6 4,qS 35 6 5,qF 36 0 4,qL 37 36,qF 38 4 4,qL 39 38,qF 40 4 5,qL 41 40,oo 42 (.bs 1 2 [.slice none 0 0] [(0,.t 39),(1,.t 41)]),oo 43 (.ca .pure false (.f Je) [.t 42]),oo 44 (.mf JZ [.t 4]),oo 45 (.ca .pure false (.f VC) [.t 34,.t 35,.t 37,.k (.slice none 0 0),.t 43,.t 44,.f YQ]),oo 46 (.ca .pure true (.f Vh) [.t 33,.t 45]),qE 47 0 46,qE 48 1 46,on1 (.st 6 (.t 6) (.t 47)),qM 7 48]) (.rt)))) }
theorem Zb9:ZK Proofs.Tryz.prog VA Uc=true:=by kernel_rfl
def ZcY:F2 :=
 { nt:=14,res:=[.c 6 (some 6) [0,4,2,0,2,3],.t 7 [0]],body:=(.sq (rg [oo 6 (.al [.int .i64 0,.slice none 0 0,.slice none 0 0,.int .i64 0,.slice none 0 0,.slice none 0 0] []),om 7 (.k (.bool false))]) (.sq (rg [qM 8 0,qM 9 1,qM 10 2,oo 11 (.ca .pure true (.f Xs) [.t 8,.t 9,.t 10]),qE 12 0 11,qE 13 1 11,on1 (.st 6 (.t 6) (.t 12)),qM 7 13]) (.rt))) }
theorem ZiB:ZK Proofs.Tryz.prog W8 ZcY=true:=by kernel_rfl
def V4:F2 :=
 { nt:=44,res:=[.c 2 (some 6) [0,4,2,0,2,3]],body:=(.sq (rg [oo 1 (.bt (.t 0)),oo 2 (.al [.int .i64 0,.slice none 0 0,.slice none 0 0,.int .i64 0,.slice none 0 0,.slice none 0 0] [])]) (.sq (rg [qS 8 6 1,oo 9 (.ca .pure true (.f JF) [.t 8]),oo 3 (.al [.int .i64 0,.slice none 0 0,.slice none 0 0,.int .i64 0,.slice none 0 0,.slice none 0 0] []),on1 (.st 6 (.t 3) (.t 9))]) (.sq (rg [qF 10 0 3,on1 (.st 1 (.t 10) (i6 1))]) (.sq (.sq (rg [qF 11 1 3,qL 12 11,qN 13 12,om 14 (i6 0)]) (.bl 0 (.lp [2,3,12,13,14] [64,96,288,289,290,291] (.sq (rg [qB 15 .lss 14 13]) (.sq (.cd (.t 15) (.sk) (.ex 0)) (.sq (.bl 1 (.sq (rg [qM 16 14,qI 17 3 12 14,qS 18 3 17,oo 5 (.al [.int .i64 0,.int .i64 0,.slice none 0 0] []),qM 4 16,on1 (.st 3 (.t 5) (.t 18))])
 (rg [qF 19 1 3,qL 20 19,qM 21 4,qF 22 1 5,qL 23 22,oo 24 (.mm true (i6 (-1)) (.t 23)),qI 25 3 20 21,qF 26 1 25,on1 (.st 1 (.t 26) (.t 24))])))
 (rg [oo 27 (.bi .add 0 (.t 14) (i6 1)),qM 14 27]))))))) (.sq (.sq (rg [qF 28 2 3,qL 29 28,qN 30 29,om 31 (i6 0)]) (.bl 2 (.lp [2,3,29,30,31] [64,96,288,289,290,291] (.sq (rg [qB 32 .lss 31 30]) (.sq (.cd (.t 32) (.sk) (.ex 2)) (.sq (.bl 3 (.sq (rg [qM 33 31,qI 34 1 29 31,qL 35 34,qM 6 33,qM 7 35])
 (rg [qF 36 2 3,qL 37 36,qM 38 6,qM 39 7,oo 40 (.mm true (i6 (-1)) (.t 39)),qI 41 1 37 38,on1 (.st 1 (.t 41) (.t 40))])))
 (rg [oo 42 (.bi .add 0 (.t 31) (i6 1)),qM 31 42]))))))) (.sq (rg [qS 43 6 3,on1 (.st 6 (.t 2) (.t 43))]) (.rt))))))) }
theorem Up:ZK Proofs.Tryz.prog JY V4=true:=by kernel_rfl
def Dc:F2 :=
 { nt:=8,res:=[.t 4 [0]],body:=(.sq (rg [oo 3 (.bt (.t 1)),om 4 (.k (.bool false))]) (.sq (rg [qM 5 0,oo 6 (.mf Yv [.t 3]),oo 7 (.ca .pure false (.f ZC) [.t 5,.t 6]),qM 4 7]) (.rt))) }
theorem ZdQ:ZK Proofs.Tryz.prog QO Dc=true:=by kernel_rfl
def Zeu:F2 :=
 { nt:=13,res:=[.c 4 (some 6) [0,4,2,0,2,3],.t 5 [0]],body:=(.sq (rg [oo 3 (.bt (.t 1)),oo 4 (.al [.int .i64 0,.slice none 0 0,.slice none 0 0,.int .i64 0,.slice none 0 0,.slice none 0 0] []),om 5 (.k (.bool false))]) (.sq (.sq (rg [qM 6 0,qS 7 6 3,oo 8 (.ca .pure false (.f Z6) [.t 6,.t 7]),oo 9 (.nt (.t 8))]) (.cd (.t 9) (.sq (rg [oo 10 (.bd [.int .i64 0,.slice none 0 0,.slice none 0 0,.int .i64 0,.slice none 0 0,.slice none 0 0] [] []),on1 (.st 6 (.t 4) (.t 10)),om 5 (.k (.bool false))]) (.rt)) (.sk))) (.sq (rg [qS 11 6 3,oo 12 (.ca .pure true (.f JF) [.t 11]),on1 (.st 6 (.t 4) (.t 12)),om 5 (.k (.bool true))]) (.rt)))) }
theorem ZjX:ZK Proofs.Tryz.prog Vh Zeu=true:=by kernel_rfl
def ZaN:F2 :=
 { nt:=41,res:=[.c 4 (some 6) [0,4,2,0,2,3]],body:=(.sq (rg [oo 2 (.bt (.t 0)),oo 3 (.bt (.t 1)),oo 4 (.al [.int .i64 0,.slice none 0 0,.slice none 0 0,.int .i64 0,.slice none 0 0,.slice none 0 0] [])]) (.sq (rg [qF 8 4 2,qL 9 8,qF 10 4 3,qL 11 10,oo 12 (.bs 1 2 [.slice none 0 0] [(0,.t 9),(1,.t 11)]),oo 13 (.ca .pure false (.f Je) [.t 12]),qM 5 13]) (.sq (rg [qS 14 6 2,qS 15 6 3,qF 16 0 2,qL 17 16,qF 18 0 3,qL 19 18,qB 20 .add 17 19,qF 21 2 2,qL 22 21,qM 23 5,oo 24 (.mf Y4 [.t 2]),oo 25 (.ca .pure true (.f VC) [.t 14,.t 15,.t 20,.t 22,.t 23,.t 24,.f YQ]),oo 6 (.al [.int .i64 0,.slice none 0 0,.slice none 0 0,.int .i64 0,.slice none 0 0,.slice none 0 0] []),on1 (.st 6 (.t 6) (.t 25))]) (.sq (rg [qS 26 6 2,qF 27 3 6,qL 28 27,qM 29 5,oo 30 (.ca .pure true (.f Zy) [.t 26,.t 28,.t 29,.f Y5]),oo 7 (.al [.int .i64 0,.slice none 0 0,.slice none 0 0,.int .i64 0,.slice none 0 0,.slice none 0 0] []),on1 (.st 6 (.t 7) (.t 30))]) (.sq (rg [qF 31 5 7,qL 32 31,qF 33 5 6,qL 34 33,oo 35 (.ap 2 0 (.t 32) (.t 34)),qF 36 5 6,on1 (.st 1 (.t 36) (.t 35))]) (.sq (rg [qF 37 5 6,qL 38 37,oo 39 (.ca .any false (.f ZM) [.t 38,.f Js])]) (.sq (rg [qS 40 6 6,on1 (.st 6 (.t 4) (.t 40))]) (.rt)))))))) }
theorem ZfQ:ZK Proofs.Tryz.prog XR ZaN=true:=by kernel_rfl
def Qs:F2 :=
 { nt:=15,res:=[.c 4 (some 6) [0,4,2,0,2,3]],body:=(.sq (rg [oo 2 (.bt (.t 0)),oo 3 (.bt (.t 1)),oo 4 (.al [.int .i64 0,.slice none 0 0,.slice none 0 0,.int .i64 0,.slice none 0 0,.slice none 0 0] [])]) (.sq (.rg (some 0) [qS 5 6 2,qF 6 3 2,qL 7 6,oo 8 (.bi .add 0 (.t 7) (i6 1)),qF 9 4 2,qL 10 9,qL 11 3,oo 12 (.ca .pure false (.f Qb) [.t 10,.t 11]),oo 13 (.mf Jo [.t 3,.t 2]),oo 14 (.ca .pure true (.f Zy) [.t 5,.t 8,.t 12,.t 13]),on1 (.st 6 (.t 4) (.t 14))]) (.rt))) }
theorem UU:ZK Proofs.Tryz.prog Yf Qs=true:=by kernel_rfl
def Xy:F2 :=
 { nt:=68,res:=[.c 8 (some 6) [0,4,2,0,2,3]],body:=(.sq (rg [oo 4 (.bt (.t 0)),oo 5 (.bt (.t 1)),oo 7 (.bx (.t 3)),oo 8 (.al [.int .i64 0,.slice none 0 0,.slice none 0 0,.int .i64 0,.slice none 0 0,.slice none 0 0] [])]) (.sq (rg [qS 17 6 4,oo 18 (.ca .pure true (.f JF) [.t 17]),oo 9 (.al [.int .i64 0,.slice none 0 0,.slice none 0 0,.int .i64 0,.slice none 0 0,.slice none 0 0] []),on1 (.st 6 (.t 9) (.t 18))]) (.sq (.rg (some 0) [qL 19 5,qM 20 2,oo 21 (.ca .pure true (.f YM) [.t 20]),qF 22 3 9,on1 (.st 1 (.t 22) (.t 19)),qF 23 4 9,on1 (.st 1 (.t 23) (.t 21))]) (.sq (rg [oo 24 (.mf Jx [.t 7,.t 4,.t 5,.t 9]),qM 10 24]) (.sq (.sq (rg [qF 25 1 9,qL 26 25,qN 27 26,om 28 (i6 0)]) (.bl 0 (.lp [8,9,10,26,27,28] [224,256,288,576,577,578,579,672] (.sq (rg [qB 29 .lss 28 27]) (.sq (.cd (.t 29) (.sk) (.ex 0)) (.sq (.bl 1 (.sq (rg [qI 30 3 26 28,qS 31 3 30,oo 12 (.al [.int .i64 0,.int .i64 0,.slice none 0 0] []),on1 (.st 3 (.t 12) (.t 31))]) (.sq (rg [qF 32 2 12,qL 33 32,qN 34 33,om 35 (i6 0)]) (.bl 2 (.lp [8,9,10,12,26,27,28,33,34,35] [224,256,288,384,576,577,578,579,672] (.sq (rg [qB 36 .lss 35 34]) (.sq (.cd (.t 36) (.sk) (.ex 2)) (.sq (.bl 3 (.sq (rg [qM 37 35,qI 38 1 33 35,qL 39 38,qM 13 37,qM 14 39]) (.rg (some 0) [qF 40 2 12,qL 41 40,qM 42 13,qM 43 10,qM 44 14,oo 45 (.ca .see false (.t 43) [.t 44]),qI 46 1 41 42,on1 (.st 1 (.t 46) (.t 45))])))
 (rg [oo 47 (.bi .add 0 (.t 35) (i6 1)),qM 35 47])))))))))
 (rg [oo 48 (.bi .add 0 (.t 28) (i6 1)),qM 28 48]))))))) (.sq (.sq (rg [qF 49 5 9,qL 50 49,qN 51 50,om 52 (i6 0)]) (.bl 4 (.lp [8,9,10,50,51,52] [224,256,288,576,577,578,579,672] (.sq (rg [qB 53 .lss 52 51]) (.sq (.cd (.t 53) (.sk) (.ex 4)) (.sq (.bl 5 (.sq (rg [qM 54 52,qI 55 2 50 52,qS 56 2 55,oo 16 (.al [.string ⟨#[]⟩,.int .i64 0] []),qM 15 54,on1 (.st 2 (.t 16) (.t 56))]) (.rg (some 0) [qF 57 5 9,qL 58 57,qM 59 15,qM 60 10,qF 61 1 16,qL 62 61,oo 63 (.ca .see false (.t 60) [.t 62]),qI 64 2 58 59,qF 65 1 64,on1 (.st 1 (.t 65) (.t 63))])))
 (rg [oo 66 (.bi .add 0 (.t 52) (i6 1)),qM 52 66]))))))) (.sq (rg [qS 67 6 9,on1 (.st 6 (.t 8) (.t 67))]) (.rt)))))))) }
theorem DL:ZK Proofs.Tryz.prog Zy Xy=true:=by kernel_rfl
def ZfR:F2 :=
 { nt:=4,res:=[.c 2 (some 2) [0,0]],body:=(.sq (rg [oo 1 (.bt (.t 0)),oo 2 (.al [.int .i64 0,.string ⟨#[]⟩] [])]) (.sq (rg [qS 3 2 1,on1 (.st 2 (.t 2) (.t 3))]) (.rt))) }
theorem Zk6:ZK Proofs.Tryz.prog WE ZfR=true:=by kernel_rfl
end Go.Fd

/-
  The annotated codes of the functions, printed by a program of mine (gen.py), and the check that they belong to the program.
-/
namespace Go.Fd
def ZaO:F2 :=
 { nt:=6,res:=[.t 2 [0]],body:=(.sq (rg [om 2 (.k (.bool false))]) (.sq (rg [qM 3 0,qM 4 0,qB 5 .neq 3 4,qM 2 5]) (.rt))) }
theorem ZfS:ZK Proofs.Tryz.prog VX ZaO=true:=by kernel_rfl
def ZfT:F2 :=
 { nt:=19,res:=[.t 4 [0]],body:=(.sq (rg [om 4 (i6 0)]) (.sq (.sq (rg [om 5 (i6 0)]) (.bl 0 (.lp [0,1,5] [] (.sq (.sq (rg [qM 6 5,qM 7 0,qN 8 7,qB 9 .lss 6 8]) (.cd (.t 9) (.sk) (.ex 0))) (.sq (.bl 1 (.sq (rg [qM 12 0,qM 13 5,qI 14 1 12 13,qL 15 14,qM 16 1,qB 17 .eql 15 16]) (.cd (.t 17) (.sq (rg [qM 18 5,qM 4 18]) (.rt)) (.sk))))
 (rg [qM 10 5,oo 11 (.bi .add 0 (.t 10) (i6 1)),qM 5 11])))))) (.sq (rg [om 4 (i6 (-1))]) (.rt)))) }
theorem Zk7:ZK Proofs.Tryz.prog Yu ZfT=true:=by kernel_rfl
def ZbP:F2 :=
 { nt:=65,res:=[.c 10 (some 6) [0,4,2,0,2,3]],body:=(.sq (rg [oo 5 (.bt (.t 0)),oo 6 (.bt (.t 1)),oo 10 (.al [.int .i64 0,.slice none 0 0,.slice none 0 0,.int .i64 0,.slice none 0 0,.slice none 0 0] [])]) (.sq (rg [qF 15 0 5,qL 16 15,oo 17 (.ca .pure false (.f Yp) [i6 0,.t 16]),qM 11 17]) (.sq (.rg (some 0) [qF 18 3 5,qL 19 18,oo 20 (.ca .pure true (.f JR) [i6 0,.t 19]),qM 21 3,oo 22 (.a0 1 (.t 20) (.t 21)),qF 23 3 5,oo 24 (.lt none (.t 23)),qF 25 3 6,oo 26 (.lt none (.t 25)),oo 27 (.ca .pure true (.f JR) [.t 24,.t 26]),qM 28 4,oo 29 (.ap 1 0 (.t 27) (.t 28)),qM 12 22,qM 13 29]) (.sq (rg [qS 30 6 5,qM 31 11,oo 32 (.ca .pure false (.f JA) [.t 30,i6 0,.t 31]),qM 14 32]) (.sq (.rg (some 0) [qF 33 0 5,oo 34 (.lt none (.t 33)),qS 35 6 5,qM 36 11,qM 37 12,oo 38 (.ca .pure true (.f JS) [.t 35,i6 0,.t 36,.t 37]),qS 39 6 6,qF 40 1 5,qL 41 40,qN 42 41,qM 43 14,qM 44 13,oo 45 (.ca .pure false (.f JS) [.t 39,.t 42,.t 43,.t 44]),oo 46 (.a1 3 (.t 38) (.t 45)),oo 47 (.lt (some 6) (.t 6)),qF 48 1 5,oo 49 (.lt none (.t 48)),qN 50 49,qM 51 14,oo 52 (.ca .pure true (.f JA) [.t 47,.t 50,.t 51]),qF 53 3 5,oo 54 (.lt none (.t 53)),qF 55 3 6,oo 56 (.lt none (.t 55)),qB 57 .add 54 56,oo 58 (.bs 1 0 [] []),qM 59 2,oo 60 (.a0 1 (.t 58) (.t 59)),oo 61 (.lt (some 6) (.t 6)),qM 62 13,oo 63 (.ca .pure true (.f Yq) [.t 61,.t 62]),oo 64 (.bd [.int .i64 0,.slice none 0 0,.slice none 0 0,.int .i64 0,.slice none 0 0,.slice none 0 0] [(0,1,.t 34),(1,1,.t 46),(2,1,.t 52),(3,1,.t 57),(4,1,.t 60),(5,1,.t 63)] []),on1 (.st 6 (.t 10) (.t 64))]) (.rt)))))) }
theorem ZgP:ZK Proofs.Tryz.prog Wr ZbP=true:=by kernel_rfl
def ZcZ:F2 :=
 { nt:=28,res:=[.t 4 [2]],body:=(.sq (rg [om 4 (.k (.slice none 0 0))]) (.sq (rg [oo 7 (.bs 1 0 [] []),qM 5 7]) (.sq (.sq (rg [om 6 (i6 0)]) (.bl 0 (.lp [0,1,5,6] [224,832] (.sq (.sq (rg [qM 8 6,qM 9 0,qN 10 9,qB 11 .lss 8 10]) (.cd (.t 11) (.sk) (.ex 0))) (.sq (.bl 1 (.sq (rg [qM 14 0,qM 15 6,qI 16 1 14 15,qL 17 16,qM 18 1,qB 19 .neq 17 18]) (.cd (.t 19) (rg [qM 20 5,qM 21 0,qM 22 6,qI 23 1 21 22,qL 24 23,oo 25 (.bs 1 1 [.string ⟨#[]⟩] [(0,.t 24)]),oo 26 (.ap 1 0 (.t 20) (.t 25)),qM 5 26]) (.sk))))
 (rg [qM 12 6,oo 13 (.bi .add 0 (.t 12) (i6 1)),qM 6 13])))))) (.sq (rg [qM 27 5,qM 4 27]) (.rt))))) }
theorem ZiC:ZK Proofs.Tryz.prog W9 ZcZ=true:=by kernel_rfl
def ZbQ:F2 :=
 { nt:=20,res:=[.t 4 [2]],body:=(.sq (rg [om 4 (.k (.slice none 0 0))]) (.sq (rg [oo 7 (.bs 1 0 [] []),qM 5 7]) (.sq (.sq (rg [om 6 (i6 0)]) (.bl 0 (.lp [0,1,5,6] [224,576] (.sq (.sq (rg [qM 8 6,qM 9 1,qB 10 .lss 8 9]) (.cd (.t 10) (.sk) (.ex 0))) (.sq (.bl 1 (rg [qM 13 5,qM 14 0,qM 15 6,qB 16 .add 14 15,oo 17 (.bs 1 1 [.int .i64 0] [(0,.t 16)]),oo 18 (.ap 1 0 (.t 13) (.t 17)),qM 5 18]))
 (rg [qM 11 6,oo 12 (.bi .add 0 (.t 11) (i6 1)),qM 6 12])))))) (.sq (rg [qM 19 5,qM 4 19]) (.rt))))) }
theorem ZgQ:ZK Proofs.Tryz.prog JR ZbQ=true:=by kernel_rfl
def DM:F2 :=
 { nt:=12,res:=[.c 4 (some 6) [0,4,2,0,2,3],.t 5 [0]],body:=(.sq (rg [oo 3 (.bt (.t 1)),oo 4 (.al [.int .i64 0,.slice none 0 0,.slice none 0 0,.int .i64 0,.slice none 0 0,.slice none 0 0] []),om 5 (.k (.bool false))]) (.sq (.sq (rg [qM 6 0,qS 7 6 3,oo 8 (.ca .pure false (.f Yd) [.t 6,.t 7]),oo 9 (.nt (.t 8))]) (.cd (.t 9) (.sq (rg [oo 10 (.bd [.int .i64 0,.slice none 0 0,.slice none 0 0,.int .i64 0,.slice none 0 0,.slice none 0 0] [] []),on1 (.st 6 (.t 4) (.t 10)),om 5 (.k (.bool false))]) (.rt)) (.sk))) (.sq (rg [qS 11 6 3,on1 (.st 6 (.t 4) (.t 11)),om 5 (.k (.bool true))]) (.rt)))) }
theorem Zc0:ZK Proofs.Tryz.prog VB DM=true:=by kernel_rfl
def ZaP:F2 :=
 { nt:=30,res:=[.c 8 (some 6) [0,4,2,0,2,3]],body:=(.sq (rg [oo 4 (.bt (.t 0)),oo 8 (.al [.int .i64 0,.slice none 0 0,.slice none 0 0,.int .i64 0,.slice none 0 0,.slice none 0 0] [])]) (.sq (rg [qF 10 0 4,qL 11 10,oo 12 (.ca .pure false (.f Yp) [i6 0,.t 11]),qM 9 12]) (.sq (.rg (some 0) [qF 13 0 4,oo 14 (.lt none (.t 13)),qS 15 6 4,qM 16 9,qM 17 1,oo 18 (.ca .pure true (.f JS) [.t 15,i6 0,.t 16,.t 17]),qS 19 6 4,qM 20 9,oo 21 (.ca .pure true (.f JA) [.t 19,i6 0,.t 20]),qM 22 2,oo 23 (.bs 1 0 [] []),qM 24 3,oo 25 (.a0 1 (.t 23) (.t 24)),oo 26 (.lt (some 6) (.t 4)),qM 27 1,oo 28 (.ca .pure true (.f Yq) [.t 26,.t 27]),oo 29 (.bd [.int .i64 0,.slice none 0 0,.slice none 0 0,.int .i64 0,.slice none 0 0,.slice none 0 0] [(0,1,.t 14),(1,1,.t 18),(2,1,.t 21),(3,1,.t 22),(4,1,.t 25),(5,1,.t 28)] []),on1 (.st 6 (.t 8) (.t 29))]) (.rt)))) }
theorem ZfU:ZK Proofs.Tryz.prog XT ZaP=true:=by kernel_rfl
def ZbR:F2 :=
 { nt:=105,res:=[.c 6 (some 6) [0,4,2,0,2,3]],body:=(.sq (rg [oo 3 (.bt (.t 0)),oo 6 (.al [.int .i64 0,.slice none 0 0,.slice none 0 0,.int .i64 0,.slice none 0 0,.slice none 0 0] [])]) (.sq (rg [qS 13 6 3,oo 14 (.ca .pure true (.f Vg) [.t 13]),oo 7 (.al [.int .i64 0,.slice none 0 0,.slice none 0 0,.int .i64 0,.slice none 0 0,.slice none 0 0] []),on1 (.st 6 (.t 7) (.t 14))]) (.sq (rg [oo 15 (.bs 1 0 [] []),qM 16 2,oo 17 (.ap 1 0 (.t 15) (.t 16)),qF 18 4 7,on1 (.st 1 (.t 18) (.t 17))]) (.sq (.sq (rg [om 8 (i6 0)]) (.bl 0 (.lp [1,2,3,6,7,8] [192,224,448,449,450,451,480,544] (.sq (.sq (rg [qM 19 8,qF 20 1 7,qL 21 20,qN 22 21,qB 23 .lss 19 22]) (.cd (.t 23) (.sk) (.ex 0))) (.sq (.bl 1 (.sq (rg [om 9 (i6 0)]) (.bl 2 (.lp [1,2,3,6,7,8,9] [192,224,448,449,450,451,480,544] (.sq (.sq (rg [qM 26 9,qF 27 1 7,qL 28 27,qM 29 8,qI 30 3 28 29,qF 31 2 30,qL 32 31,qN 33 32,qB 34 .lss 26 33]) (.cd (.t 34) (.sk) (.ex 2))) (.sq (.bl 3 (.sq (rg [qF 37 1 7,qL 38 37,qM 39 8,qI 40 3 38 39,qF 41 2 40,qL 42 41,qM 43 9,qI 44 1 42 43,qL 45 44,qM 10 45]) (.sq (rg [qM 46 10,qF 47 3 3,qL 48 47,qB 49 .geq 46 48]) (.cd (.t 49) (.rg (some 0) [qF 50 1 7,qL 51 50,qM 52 8,qI 53 3 51 52,qF 54 2 53,qL 55 54,qM 56 9,qF 57 3 3,qL 58 57,qM 59 2,qM 60 1,qM 61 10,qF 62 3 3,qL 63 62,qB 64 .sub 61 63,qI 65 1 60 64,qL 66 65,oo 67 (.ca .pure false (.f Yu) [.t 59,.t 66]),qB 68 .add 58 67,qI 69 1 55 56,on1 (.st 1 (.t 69) (.t 68))]) (.sk)))))
 (rg [qM 35 9,oo 36 (.bi .add 0 (.t 35) (i6 1)),qM 9 36])))))))
 (rg [qM 24 8,oo 25 (.bi .add 0 (.t 24) (i6 1)),qM 8 25])))))) (.sq (.sq (rg [om 11 (i6 0)]) (.bl 4 (.lp [1,2,3,6,7,11] [192,224,448,449,450,451,480,544] (.sq (.sq (rg [qM 70 11,qF 71 5 7,qL 72 71,qN 73 72,qB 74 .lss 70 73]) (.cd (.t 74) (.sk) (.ex 4))) (.sq (.bl 5 (.sq (rg [qF 77 5 7,qL 78 77,qM 79 11,qI 80 2 78 79,qF 81 1 80,qL 82 81,qM 12 82]) (.sq (rg [qM 83 12,qF 84 3 3,qL 85 84,qB 86 .geq 83 85]) (.cd (.t 86) (.rg (some 0) [qF 87 5 7,qL 88 87,qM 89 11,qF 90 3 3,qL 91 90,qM 92 2,qM 93 1,qM 94 12,qF 95 3 3,qL 96 95,qB 97 .sub 94 96,qI 98 1 93 97,qL 99 98,oo 100 (.ca .pure false (.f Yu) [.t 92,.t 99]),qB 101 .add 91 100,qI 102 2 88 89,qF 103 1 102,on1 (.st 1 (.t 103) (.t 101))]) (.sk)))))
 (rg [qM 75 11,oo 76 (.bi .add 0 (.t 75) (i6 1)),qM 11 76])))))) (.sq (rg [qS 104 6 7,on1 (.st 6 (.t 6) (.t 104))]) (.rt))))))) }
theorem ZgR:ZK Proofs.Tryz.prog QD ZbR=true:=by kernel_rfl
def ZbS:F2 :=
 { nt:=21,res:=[.t 4 [2]],body:=(.sq (rg [om 4 (.k (.slice none 0 0))]) (.sq (rg [oo 7 (.bs 1 0 [] []),qM 5 7]) (.sq (.sq (rg [om 6 (i6 0)]) (.bl 0 (.lp [0,1,5,6] [224,608] (.sq (.sq (rg [qM 8 6,qM 9 1,qB 10 .lss 8 9]) (.cd (.t 10) (.sk) (.ex 0))) (.sq (.bl 1 (rg [qM 13 5,qM 14 0,oo 15 (.bi .sub 0 (i6 (-1)) (.t 14)),qM 16 6,qB 17 .sub 15 16,oo 18 (.bs 1 1 [.int .i64 0] [(0,.t 17)]),oo 19 (.ap 1 0 (.t 13) (.t 18)),qM 5 19]))
 (rg [qM 11 6,oo 12 (.bi .add 0 (.t 11) (i6 1)),qM 6 12])))))) (.sq (rg [qM 20 5,qM 4 20]) (.rt))))) }
theorem ZgS:ZK Proofs.Tryz.prog Yp ZbS=true:=by kernel_rfl
def ZbT:F2 :=
 { nt:=69,res:=[.t 8 [4]],body:=(.sq (rg [oo 4 (.bt (.t 0)),om 8 (.k (.slice none 0 0))]) (.sq (rg [oo 13 (.bs 3 0 [] []),qM 9 13]) (.sq (.sq (rg [om 10 (i6 0)]) (.bl 0 (.lp [1,2,3,4,9,10] [416,2144] (.sq (.sq (rg [qM 14 10,qF 15 1 4,qL 16 15,qN 17 16,qB 18 .lss 14 17]) (.cd (.t 18) (.sk) (.ex 0))) (.sq (.bl 1 (.sq (rg [oo 21 (.bs 1 0 [] []),qM 11 21]) (.sq (.sq (rg [om 12 (i6 0)]) (.bl 2 (.lp [1,2,3,4,9,10,11,12] [416,672,1504,2144] (.sq (.sq (rg [qM 22 12,qF 23 1 4,qL 24 23,qM 25 10,qI 26 3 24 25,qF 27 2 26,qL 28 27,qN 29 28,qB 30 .lss 22 29]) (.cd (.t 30) (.sk) (.ex 2))) (.sq (.bl 3 (rg [qM 33 11,qM 34 3,qF 35 1 4,qL 36 35,qM 37 10,qI 38 3 36 37,qF 39 2 38,qL 40 39,qM 41 12,qI 42 1 40 41,qL 43 42,qI 44 1 34 43,qL 45 44,oo 46 (.bs 1 1 [.int .i64 0] [(0,.t 45)]),oo 47 (.ap 1 0 (.t 33) (.t 46)),qM 11 47]))
 (rg [qM 31 12,oo 32 (.bi .add 0 (.t 31) (i6 1)),qM 12 32])))))) (.rg (some 0) [qM 48 9,qF 49 1 4,qL 50 49,qM 51 10,qI 52 3 50 51,qF 53 0 52,qL 54 53,qF 55 1 4,qL 56 55,qM 57 10,qI 58 3 56 57,qF 59 1 58,qL 60 59,qM 61 1,qM 62 2,oo 63 (.ca .pure false (.f YP) [.t 60,.t 61,.t 62]),qM 64 11,oo 65 (.bd [.int .i64 0,.int .i64 0,.slice none 0 0] [(0,1,.t 54),(1,1,.t 63),(2,1,.t 64)] []),oo 66 (.bv 3 1 [.int .i64 0,.int .i64 0,.slice none 0 0] [(0,.t 65)]),oo 67 (.ap 3 2 (.t 48) (.t 66)),qM 9 67]))))
 (rg [qM 19 10,oo 20 (.bi .add 0 (.t 19) (i6 1)),qM 10 20])))))) (.sq (rg [qM 68 9,qM 8 68]) (.rt))))) }
theorem ZgT:ZK Proofs.Tryz.prog JS ZbT=true:=by kernel_rfl
def ZbU:F2 :=
 { nt:=29,res:=[.t 6 [2]],body:=(.sq (rg [oo 3 (.bt (.t 0)),om 6 (.k (.slice none 0 0))]) (.sq (rg [oo 9 (.bs 1 0 [] []),qM 7 9]) (.sq (.sq (rg [om 8 (i6 0)]) (.bl 0 (.lp [1,2,3,7,8] [288,864] (.sq (.sq (rg [qM 10 8,qF 11 2 3,qL 12 11,qN 13 12,qB 14 .lss 10 13]) (.cd (.t 14) (.sk) (.ex 0))) (.sq (.bl 1 (rg [qM 17 7,qF 18 2 3,qL 19 18,qM 20 8,qI 21 1 19 20,qL 22 21,qM 23 1,qM 24 2,oo 25 (.ca .pure false (.f YP) [.t 22,.t 23,.t 24]),oo 26 (.bs 1 1 [.int .i64 0] [(0,.t 25)]),oo 27 (.ap 1 0 (.t 17) (.t 26)),qM 7 27]))
 (rg [qM 15 8,oo 16 (.bi .add 0 (.t 15) (i6 1)),qM 8 16])))))) (.sq (rg [qM 28 7,qM 6 28]) (.rt))))) }
theorem ZgU:ZK Proofs.Tryz.prog JA ZbU=true:=by kernel_rfl
def ZbV:F2 :=
 { nt:=52,res:=[.t 4 [3]],body:=(.sq (rg [om 4 (.k (.slice none 0 0))]) (.sq (rg [oo 8 (.bs 2 0 [] []),qM 9 0,oo 10 (.ap 2 0 (.t 8) (.t 9)),oo 5 (.rk (.t 10))]) (.sq (.sq (rg [om 6 (i6 0)]) (.bl 0 (.lp [1,5,6] [160] (.sq (.sq (rg [qM 11 6,qM 12 1,qN 13 12,qB 14 .lss 11 13]) (.cd (.t 14) (.sk) (.ex 0))) (.sq (.bl 1 (.sq (rg [om 7 (i6 0)]) (.sq (.bl 2 (.lp [1,5,6,7] [160] (.sq (.sq (.rg (some 0) [qM 17 7,qM 18 5,qN 19 18,qB 20 .lss 17 19,qM 21 20,og 22 21 true (.mv (.t 5) none),og 23 21 true (.mv (.t 7) none),og 24 21 true (.ia 2 (.t 22) (.t 23)),og 25 21 true (.fa 0 (.t 24)),og 26 21 true (.ld none (.t 25)),og 27 21 true (.mv (.t 1) none),og 28 21 true (.mv (.t 6) none),og 29 21 true (.ia 2 (.t 27) (.t 28)),og 30 21 true (.fa 0 (.t 29)),og 31 21 true (.ld none (.t 30)),og 32 21 true (.bi .lss 0 (.t 26) (.t 31)),oo 33 (.pk (.t 21) (.t 32) (.k (.bool false)))]) (.cd (.t 33) (.sk) (.ex 2))) (.bl 3 (rg [qM 34 7,oo 35 (.bi .add 0 (.t 34) (i6 1)),qM 7 35]))))) (.rg (some 0) [oo 36 (.bs 2 0 [] []),qM 37 5,qM 38 7,oo 39 (.sx 2 (.t 37) none (some (.t 38)) none),oo 40 (.a0 2 (.t 36) (.t 39)),qM 41 1,qM 42 6,oo 43 (.it 2 (.t 41) (.t 42)),oo 44 (.lt (some 2) (.t 43)),oo 45 (.bs 2 1 [.string ⟨#[]⟩,.int .i64 0] [(0,.t 44)]),oo 46 (.a0 2 (.t 40) (.t 45)),qM 47 5,qM 48 7,oo 49 (.sw 2 (.t 47) (some (.t 48)) none none),oo 50 (.ap 2 0 (.t 46) (.t 49)),oo 5 (.rk (.t 50))]))))
 (rg [qM 15 6,oo 16 (.bi .add 0 (.t 15) (i6 1)),qM 6 16])))))) (.sq (rg [qM 51 5,qM 4 51]) (.rt))))) }
theorem ZgV:ZK Proofs.Tryz.prog Ws ZbV=true:=by kernel_rfl
def ZbW:F2 :=
 { nt:=35,res:=[.t 4 [3]],body:=(.sq (rg [oo 2 (.bt (.t 0)),om 4 (.k (.slice none 0 0))]) (.sq (rg [oo 7 (.bs 2 0 [] []),qM 5 7]) (.sq (.sq (rg [om 6 (i6 0)]) (.bl 0 (.lp [1,2,5,6] [224,1056] (.sq (.sq (rg [qM 8 6,qF 9 5 2,qL 10 9,qN 11 10,qB 12 .lss 8 11]) (.cd (.t 12) (.sk) (.ex 0))) (.sq (.bl 1 (.rg (some 0) [qM 15 5,qF 16 5 2,qL 17 16,qM 18 6,qI 19 2 17 18,qF 20 0 19,qL 21 20,qM 22 1,qF 23 5 2,qL 24 23,qM 25 6,qI 26 2 24 25,qF 27 1 26,qL 28 27,qI 29 1 22 28,qL 30 29,oo 31 (.bd [.string ⟨#[]⟩,.int .i64 0] [(0,1,.t 21),(1,1,.t 30)] []),oo 32 (.bs 2 1 [.string ⟨#[]⟩,.int .i64 0] [(0,.t 31)]),oo 33 (.ap 2 0 (.t 15) (.t 32)),qM 5 33]))
 (rg [qM 13 6,oo 14 (.bi .add 0 (.t 13) (i6 1)),qM 6 14])))))) (.sq (rg [qM 34 5,qM 4 34]) (.rt))))) }
theorem ZgW:ZK Proofs.Tryz.prog Yq ZbW=true:=by kernel_rfl
def ZaQ:F2 :=
 { nt:=17,res:=[.t 6 [0]],body:=(.sq (rg [om 6 (i6 0)]) (.sq (.sq (rg [qM 7 0,oo 8 (.bi .lss 0 (.t 7) (i6 0))]) (.cd (.t 8) (.sq (rg [qM 9 2,qM 10 0,oo 11 (.bi .sub 0 (i6 (-1)) (.t 10)),qI 12 1 9 11,qL 13 12,qM 6 13]) (.rt)) (.sk))) (.sq (rg [qM 14 0,qM 15 1,qB 16 .add 14 15,qM 6 16]) (.rt)))) }
theorem ZfV:ZK Proofs.Tryz.prog YP ZaQ=true:=by kernel_rfl
def Zc1:F2 :=
 { nt:=63,res:=[.c 6 (some 6) [0,4,2,0,2,3],.t 7 [0]],body:=(.sq (rg [oo 6 (.al [.int .i64 0,.slice none 0 0,.slice none 0 0,.int .i64 0,.slice none 0 0,.slice none 0 0] []),om 7 (.k (.bool false))]) (.sq (.sq (rg [qM 12 0,oo 13 (.ca .pure false (.f JV) [.t 12]),oo 14 (.nt (.t 13)),qM 15 14,og 16 15 false (.mv (.t 1) none),og 17 15 false (.mv (.t 0) none),og 18 15 false (.ln (.t 17)),og 19 15 false (.bi .sub 0 (.t 18) (i6 1)),og 20 15 false (.ca .pure false (.f ZU) [.t 16,i6 0,.t 19]),og 21 15 false (.nt (.t 20)),oo 22 (.pk (.t 15) (.k (.bool true)) (.t 21)),qM 23 22,og 24 23 false (.mv (.t 2) none),og 25 23 false (.ln (.t 24)),og 26 23 false (.mv (.t 0) none),og 27 23 false (.mv (.t 1) none),og 28 23 false (.ia 3 (.t 26) (.t 27)),og 29 23 false (.fa 1 (.t 28)),og 30 23 false (.ld none (.t 29)),og 31 23 false (.bi .neq 0 (.t 25) (.t 30)),oo 32 (.pk (.t 23) (.k (.bool true)) (.t 31)),qM 33 32,og 34 33 false (.mv (.t 2) none),og 35 33 false (.ca .pure false (.f ZC) [.t 34,.f VY]),oo 36 (.pk (.t 33) (.k (.bool true)) (.t 35))]) (.cd (.t 36) (.sq (rg [oo 37 (.bd [.int .i64 0,.slice none 0 0,.slice none 0 0,.int .i64 0,.slice none 0 0,.slice none 0 0] [] []),on1 (.st 6 (.t 6) (.t 37)),om 7 (.k (.bool false))]) (.rt)) (.sk))) (.sq (rg [qM 38 2,oo 39 (.ca .pure true (.f YM) [.t 38]),oo 40 (.bd [.int .i64 0,.slice none 0 0,.slice none 0 0,.int .i64 0,.slice none 0 0,.slice none 0 0] [(0,1,i6 1),(4,1,.t 39)] []),oo 8 (.al [.int .i64 0,.slice none 0 0,.slice none 0 0,.int .i64 0,.slice none 0 0,.slice none 0 0] []),on1 (.st 6 (.t 8) (.t 40))]) (.sq (rg [qM 41 1,oo 42 (.bd [.int .i64 0,.int .i64 0,.slice none 0 0] [(0,1,.t 41),(1,1,i6 (-1))] [(2,1)]),oo 9 (.al [.int .i64 0,.int .i64 0,.slice none 0 0] []),on1 (.st 3 (.t 9) (.t 42))]) (.sq (.sq (rg [qM 43 2,qN 44 43,om 45 (i6 0)]) (.bl 0 (.lp [6,8,9,43,44,45] [192,256,288,1248,1344,1792,1920] (.sq (rg [qB 46 .lss 45 44]) (.sq (.cd (.t 46) (.sk) (.ex 0)) (.sq (.bl 1 (.sq (rg [qI 47 1 43 45,qL 48 47,qM 11 48]) (.rg (some 0) [qF 49 2 9,qL 50 49,qF 51 4 8,qL 52 51,qM 53 11,oo 54 (.ca .pure false (.f ZW) [.t 52,.t 53]),oo 55 (.bs 1 1 [.int .i64 0] [(0,.t 54)]),oo 56 (.ap 1 0 (.t 50) (.t 55)),qF 57 2 9,on1 (.st 1 (.t 57) (.t 56))])))
 (rg [oo 58 (.bi .add 0 (.t 45) (i6 1)),qM 45 58]))))))) (.sq (rg [qS 59 3 9,oo 60 (.bw 3 1 [.int .i64 0,.int .i64 0,.slice none 0 0] [(0,.t 59)]),qF 61 1 8,on1 (.st 1 (.t 61) (.t 60))]) (.sq (rg [qS 62 6 8,on1 (.st 6 (.t 6) (.t 62)),om 7 (.k (.bool true))]) (.rt)))))))) }
theorem ZiD:ZK Proofs.Tryz.prog Xs Zc1=true:=by kernel_rfl
def Zc2:F2 :=
 { nt:=86,res:=[.c 14 (some 6) [0,4,2,0,2,0]],body:=(.sq (rg [oo 7 (.bt (.t 0)),oo 8 (.bt (.t 1)),oo 13 (.bx (.t 6)),oo 14 (.al [.int .i64 0,.slice none 0 0,.slice none 0 0,.int .i64 0,.slice none 0 0,.slice none 0 0] [])]) (.sq (rg [qF 23 3 7,qL 24 23,qF 25 3 8,qL 26 25,qB 27 .add 24 26,qM 15 27]) (.sq (rg [qS 28 6 7,qM 29 15,qM 30 4,oo 31 (.ca .pure true (.f Zy) [.t 28,.t 29,.t 30,.f VZ]),oo 16 (.al [.int .i64 0,.slice none 0 0,.slice none 0 0,.int .i64 0,.slice none 0 0,.slice none 0 0] []),on1 (.st 6 (.t 16) (.t 31))]) (.sq (rg [qS 32 6 8,qM 33 15,qM 34 4,oo 35 (.mf J9 [.t 7,.t 13]),oo 36 (.ca .see false (.f Zy) [.t 32,.t 33,.t 34,.t 35]),oo 17 (.al [.int .i64 0,.slice none 0 0,.slice none 0 0,.int .i64 0,.slice none 0 0,.slice none 0 0] []),on1 (.st 6 (.t 17) (.t 36))]) (.sq (.rg (some 0) [qM 37 2,qF 38 1 16,qL 39 38,qM 40 3,oo 41 (.ca .pure true (.f Z7) [.t 40]),qM 42 15,qF 43 4 16,qL 44 43,qF 45 5 17,qL 46 45,oo 47 (.bd [.int .i64 0,.slice none 0 0,.slice none 0 0,.int .i64 0,.slice none 0 0,.slice none 0 0] [(0,1,.t 37),(1,1,.t 39),(2,1,.t 41),(3,1,.t 42),(4,1,.t 44),(5,1,.t 46)] []),oo 18 (.al [.int .i64 0,.slice none 0 0,.slice none 0 0,.int .i64 0,.slice none 0 0,.slice none 0 0] []),on1 (.st 6 (.t 18) (.t 47))]) (.sq (.sq (rg [qF 48 1 17,qL 49 48,qN 50 49,om 51 (i6 0)]) (.bl 0 (.lp [5,7,8,14,18,49,50,51] [448,512,544,576,992,993,994,995,1312,2080,2624] (.sq (rg [qB 52 .lss 51 50]) (.sq (.cd (.t 52) (.sk) (.ex 0)) (.sq (.bl 1 (.sq (rg [qI 53 3 49 51,qS 54 3 53,oo 20 (.al [.int .i64 0,.int .i64 0,.slice none 0 0] []),on1 (.st 3 (.t 20) (.t 54))]) (.sq (rg [qS 55 6 7,qF 56 1 20,qL 57 56,qM 58 5,oo 59 (.ca .pure false (.f X3) [.t 55,.t 57,.t 58]),qF 60 1 20,on1 (.st 1 (.t 60) (.t 59))])
 (rg [qF 61 1 18,qL 62 61,qS 63 3 20,oo 64 (.bw 3 1 [.int .i64 0,.int .i64 0,.slice none 0 0] [(0,.t 63)]),oo 65 (.ap 3 2 (.t 62) (.t 64)),qF 66 1 18,on1 (.st 1 (.t 66) (.t 65))]))))
 (rg [oo 67 (.bi .add 0 (.t 51) (i6 1)),qM 51 67]))))))) (.sq (.sq (rg [qF 68 2 8,qL 69 68,qN 70 69,om 71 (i6 0)]) (.bl 2 (.lp [5,7,14,18,69,70,71] [448,512,544,576,992,993,994,995,1312,2080,2624] (.sq (rg [qB 72 .lss 71 70]) (.sq (.cd (.t 72) (.sk) (.ex 2)) (.sq (.bl 3 (.sq (rg [qI 73 1 69 71,qL 74 73,qM 22 74]) (.rg (some 0) [qF 75 2 18,qL 76 75,qS 77 6 7,qM 78 22,qM 79 5,oo 80 (.ca .pure false (.f X3) [.t 77,.t 78,.t 79]),oo 81 (.bs 1 1 [.int .i64 0] [(0,.t 80)]),oo 82 (.ap 1 0 (.t 76) (.t 81)),qF 83 2 18,on1 (.st 1 (.t 83) (.t 82))])))
 (rg [oo 84 (.bi .add 0 (.t 71) (i6 1)),qM 71 84]))))))) (.sq (rg [qS 85 6 18,on1 (.st 6 (.t 14) (.t 85))]) (.rt))))))))) }
theorem ZiE:ZK Proofs.Tryz.prog VC Zc2=true:=by kernel_rfl
def Ve:F2 :=
 { nt:=36,res:=[.t 2 [2]],body:=(.sq (rg [om 2 (.k (.slice none 0 0))]) (.sq (rg [om 3 (i6 0)]) (.sq (.sq (rg [qM 9 0,qN 10 9,om 11 (i6 0)]) (.bl 0 (.lp [0,3,9,10,11] [] (.sq (rg [qB 12 .lss 11 10]) (.sq (.cd (.t 12) (.sk) (.ex 0)) (.sq (.bl 1 (.sq (rg [qI 13 1 9 11,qL 14 13,qM 5 14]) (.sq (rg [qM 15 3,qM 16 5,qN 17 16,qB 18 .add 15 17,qM 3 18]) (.sq (rg [qM 19 3,oo 20 (.bi .lss 0 (.t 19) (i6 0))]) (.cd (.t 20) (rg [oo 21 (.xx),on1 (.xx)]) (.sk))))))
 (rg [oo 22 (.bi .add 0 (.t 11) (i6 1)),qM 11 22]))))))) (.sq (rg [qM 23 3,oo 24 (.ca .keep true (.f JT) [.k (.slice none 0 0),.t 23]),qM 6 24]) (.sq (.sq (rg [qM 25 0,qN 26 25,om 27 (i6 0)]) (.bl 2 (.lp [6,25,26,27] [768,1056] (.sq (rg [qB 28 .lss 27 26]) (.sq (.cd (.t 28) (.sk) (.ex 2)) (.sq (.bl 3 (.sq (rg [qI 29 1 25 27,qL 30 29,qM 8 30])
 (rg [qM 31 6,qM 32 8,oo 33 (.ap 1 0 (.t 31) (.t 32)),qM 6 33])))
 (rg [oo 34 (.bi .add 0 (.t 27) (i6 1)),qM 27 34]))))))) (.sq (rg [qM 35 6,qM 2 35]) (.rt))))))) }
theorem Wu:ZK Proofs.Tryz.prog Je Ve=true:=by kernel_rfl
def Wc:F2 :=
 { nt:=10,res:=[.t 3 [0]],body:=(.sq (rg [om 3 (i6 0)]) (.sq (rg [qF 4 2 1,qL 5 4,qM 6 0,oo 7 (.bi .sub 0 (i6 (-1)) (.t 6)),qI 8 1 5 7,qL 9 8,qM 3 9]) (.rt))) }
theorem ZaR:ZK Proofs.Tryz.prog JZ Wc=true:=by kernel_rfl
def Zc3:F2 :=
 { nt:=5,res:=[.c 2 (some 2) [0,0]],body:=(.sq (rg [oo 2 (.al [.int .i64 0,.string ⟨#[]⟩] [])]) (.sq (rg [qM 3 0,oo 4 (.bd [.int .i64 0,.string ⟨#[]⟩] [(1,1,.t 3)] []),on1 (.st 2 (.t 2) (.t 4))]) (.rt))) }
theorem ZiF:ZK Proofs.Tryz.prog YQ Zc3=true:=by kernel_rfl
def Ud:F2 :=
 { nt:=7,res:=[.t 3 [0]],body:=(.sq (rg [om 3 (.k (.bool false))]) (.sq (rg [qL 4 1,qM 5 0,oo 6 (.ca .pure false (.f ZL) [.t 4,.t 5]),qM 3 6]) (.rt))) }
theorem Zca:ZK Proofs.Tryz.prog Yv Ud=true:=by kernel_rfl
def Dd:F2 :=
 { nt:=8,res:=[.t 3 [0]],body:=(.sq (rg [om 3 (i6 0)]) (.sq (rg [qM 4 0,qF 5 0 1,qL 6 5,qB 7 .sub 4 6,qM 3 7]) (.rt))) }
theorem ZdR:ZK Proofs.Tryz.prog Y4 Dd=true:=by kernel_rfl
def De:F2 :=
 { nt:=4,res:=[.c 2 (some 2) [0,0]],body:=(.sq (rg [oo 1 (.bt (.t 0)),oo 2 (.al [.int .i64 0,.string ⟨#[]⟩] [])]) (.sq (rg [qS 3 2 1,on1 (.st 2 (.t 2) (.t 3))]) (.rt))) }
theorem ZdS:ZK Proofs.Tryz.prog Y5 De=true:=by kernel_rfl
def JW:F2 :=
 { nt:=14,res:=[],body:=(.sq (rg [qM 5 0,qN 6 5,qM 4 6])
 (rg [qM 7 0,qM 8 4,qM 9 4,oo 10 (.cv (.int .u64) (.t 9)),oo 11 (.ca .pure false (.f YO) [.t 10]),qM 12 1,oo 13 (.ca .any false (.f ZI) [.t 7,i6 0,.t 8,.t 11,.t 12])])) }
theorem Qe:ZK Proofs.Tryz.prog ZM JW=true:=by kernel_rfl
def UD:F2 :=
 { nt:=9,res:=[.t 4 [2]],body:=(.sq (rg [oo 3 (.bt (.t 1)),om 4 (.k (.slice none 0 0))]) (.sq (rg [qM 5 0,oo 6 (.ca .pure true (.f ZJ) [.t 5]),oo 7 (.mf Yj [.t 3]),oo 8 (.ca .any false (.f Jt) [.t 6,.t 7]),qM 4 8]) (.rt))) }
theorem Zc4:ZK Proofs.Tryz.prog Qb UD=true:=by kernel_rfl
def VG:F2 :=
 { nt:=13,res:=[.c 4 (some 2) [0,0]],body:=(.sq (rg [oo 3 (.bt (.t 0)),oo 4 (.al [.int .i64 0,.string ⟨#[]⟩] [])]) (.sq (.sq (rg [qF 5 1 3,qL 6 5,qL 7 1,qB 8 .eql 6 7]) (.cd (.t 8) (.sq (rg [qF 9 3 2,qL 10 9,oo 11 (.bd [.int .i64 0,.string ⟨#[]⟩] [(0,1,.t 10)] []),on1 (.st 2 (.t 4) (.t 11))]) (.rt)) (.sk))) (.sq (rg [qS 12 2 3,on1 (.st 2 (.t 4) (.t 12))]) (.rt)))) }
theorem Ue:ZK Proofs.Tryz.prog Jo VG=true:=by kernel_rfl
def UE:F2 :=
 { nt:=10,res:=[.t 2 [2]],body:=(.sq (rg [om 2 (.k (.slice none 0 0))]) (.sq (rg [qM 4 0,oo 5 (.ca .pure true (.f ZJ) [.t 4]),qM 3 5]) (.sq (rg [qM 6 3,oo 7 (.ca .any false (.f Z2) [.t 6])]) (.sq (rg [qM 8 3,oo 9 (.ca .any false (.f JC) [.t 8]),qM 2 9]) (.rt))))) }
theorem Zc5:ZK Proofs.Tryz.prog YM UE=true:=by kernel_rfl
def Qt:F2 :=
 { nt:=25,res:=[.t 6 [0]],body:=(.sq (rg [om 6 (i6 0)]) (.sq (.rg (some 0) [qL 8 1,qS 9 6 2,qM 10 0,oo 11 (.ca .pure false (.f Vk) [.t 9,.t 10]),oo 12 (.ca .see false (.t 8) [.t 11]),oo 7 (.al [.int .i64 0,.string ⟨#[]⟩] []),on1 (.st 2 (.t 7) (.t 12))]) (.sq (.sq (rg [qF 13 1 7,qL 14 13,oo 15 (.bi .eql 0 (.t 14) (.k (.string ⟨#[]⟩)))]) (.cd (.t 15) (.sq (rg [qF 16 0 7,qL 17 16,qM 6 17]) (.rt)) (.sk))) (.sq (.rg (some 0) [qL 18 3,qF 19 4 4,qL 20 19,qF 21 1 7,qL 22 21,oo 23 (.ca .pure false (.f ZW) [.t 20,.t 22]),qB 24 .add 18 23,qM 6 24]) (.rt))))) }
theorem UV:ZK Proofs.Tryz.prog Jx Qt=true:=by kernel_rfl
def Wx:F2 :=
 { nt:=20,res:=[.c 4 (some 2) [0,0]],body:=(.sq (rg [oo 2 (.bt (.t 0)),oo 4 (.al [.int .i64 0,.string ⟨#[]⟩] [])]) (.sq (.sq (rg [qM 5 1,qF 6 3 2,qL 7 6,qB 8 .lss 5 7]) (.cd (.t 8) (.sq (rg [qM 9 1,oo 10 (.bd [.int .i64 0,.string ⟨#[]⟩] [(0,1,.t 9)] []),on1 (.st 2 (.t 4) (.t 10))]) (.rt)) (.sk))) (.sq (rg [qF 11 4 2,qL 12 11,qM 13 1,qF 14 3 2,qL 15 14,qB 16 .sub 13 15,qI 17 1 12 16,qL 18 17,oo 19 (.bd [.int .i64 0,.string ⟨#[]⟩] [(1,1,.t 18)] []),on1 (.st 2 (.t 4) (.t 19))]) (.rt)))) }
theorem Zbr:ZK Proofs.Tryz.prog Vk Wx=true:=by kernel_rfl
def ZaS:F2 :=
 { nt:=6,res:=[.t 2 [0]],body:=(.sq (rg [om 2 (.k (.bool false))]) (.sq (rg [qM 3 0,oo 4 (.ca .pure false (.f Ye) [.t 3]),oo 5 (.nt (.t 4)),qM 2 5]) (.rt))) }
theorem ZfW:ZK Proofs.Tryz.prog VY ZaS=true:=by kernel_rfl
def ZaT:F2 :=
 { nt:=4,res:=[.c 2 (some 2) [0,0]],body:=(.sq (rg [oo 1 (.bt (.t 0)),oo 2 (.al [.int .i64 0,.string ⟨#[]⟩] [])]) (.sq (rg [qS 3 2 1,on1 (.st 2 (.t 2) (.t 3))]) (.rt))) }
theorem ZfX:ZK Proofs.Tryz.prog VZ ZaT=true:=by kernel_rfl
def ZaU:F2 :=
 { nt:=18,res:=[.c 4 (some 2) [0,0]],body:=(.sq (rg [oo 3 (.bt (.t 0)),oo 4 (.al [.int .i64 0,.string ⟨#[]⟩] [])]) (.sq (.sq (rg [qF 5 1 3,qL 6 5,oo 7 (.bi .eql 0 (.t 6) (.k (.string ⟨#[]⟩)))]) (.cd (.t 7) (.sq (rg [qF 8 0 3,qL 9 8,qF 10 3 1,qL 11 10,qB 12 .add 9 11,oo 13 (.bd [.int .i64 0,.string ⟨#[]⟩] [(0,1,.t 12)] []),on1 (.st 2 (.t 4) (.t 13))]) (.rt)) (.sk))) (.sq (rg [qL 14 2,qF 15 1 3,qL 16 15,oo 17 (.ca .pure false (.t 14) [.t 16]),on1 (.st 2 (.t 4) (.t 17))]) (.rt)))) }
theorem ZfY:ZK Proofs.Tryz.prog J9 ZaU=true:=by kernel_rfl
def Zev:F2 :=
 { nt:=17,res:=[.t 6 [0]],body:=(.sq (rg [oo 3 (.bt (.t 0)),om 6 (i6 0)]) (.sq (.sq (rg [qM 7 1,oo 8 (.bi .geq 0 (.t 7) (i6 0))]) (.cd (.t 8) (.sq (rg [qM 9 1,qF 10 1 3,qL 11 10,qN 12 11,qB 13 .add 9 12,qM 6 13]) (.rt)) (.sk))) (.sq (rg [qM 14 2,qM 15 1,oo 16 (.ca .pure false (.t 14) [.t 15]),qM 6 16]) (.rt)))) }
theorem ZjY:ZK Proofs.Tryz.prog X3 Zev=true:=by kernel_rfl
def VH:F2 :=
 { nt:=27,res:=[.t 4 [2]],body:=(.sq (rg [om 4 (.k (.slice none 0 0))]) (.sq (.sq (rg [qM 5 1,oo 6 (.bi .lss 0 (.t 5) (i6 0))]) (.cd (.t 6) (rg [oo 7 (.xx),on1 (.xx)]) (.sk))) (.sq (.sq (rg [qM 8 1,qM 9 0,oo 10 (.cp (.t 9)),qM 11 0,qN 12 11,qB 13 .sub 10 12,qB 14 .sub 8 13,qM 1 14]) (.sq (rg [qM 15 1,oo 16 (.bi .gtr 0 (.t 15) (i6 0))]) (.cd (.t 16) (rg [qM 17 0,qM 18 0,oo 19 (.cp (.t 18)),oo 20 (.sh 1 (.t 17) (.t 19)),qM 21 1,oo 22 (.az 1 [.string ⟨#[]⟩] (.t 20) (.t 21)),qM 23 0,qN 24 23,oo 25 (.sh 1 (.t 22) (.t 24)),qM 0 25]) (.sk)))) (.sq (rg [qM 26 0,qM 4 26]) (.rt))))) }
theorem Uf:ZK Proofs.Tryz.prog JT VH=true:=by kernel_rfl
def Yy:F2 :=
 { nt:=148,res:=[],body:=(.sq (rg [om 10 (.k (.bool true))]) (.sq (rg [om 11 (.k (.bool true))]) (.bl 0 (.lp [0,1,2,3,4,10,11] [] (.bl 1 (.sq (rg [qM 21 2,qM 22 1,qB 23 .sub 21 22,qM 12 23]) (.sq (.sq (rg [qM 24 12,oo 25 (.bi .leq 0 (.t 24) (i6 12))]) (.cd (.t 25) (.sq (rg [qM 26 0,qM 27 1,qM 28 2,qM 29 4,oo 30 (.ca .any false (.f Z4) [.t 26,.t 27,.t 28,.t 29])]) (.rt)) (.sk))) (.sq (.sq (rg [qM 31 3,oo 32 (.bi .eql 0 (.t 31) (i6 0))]) (.cd (.t 32) (.sq (rg [qM 33 0,qM 34 1,qM 35 2,qM 36 4,oo 37 (.ca .any false (.f Qo) [.t 33,.t 34,.t 35,.t 36])]) (.rt)) (.sk))) (.sq (.sq (rg [qM 38 10,oo 39 (.nt (.t 38))]) (.cd (.t 39) (.sq (rg [qM 40 0,qM 41 1,qM 42 2,qM 43 4,oo 44 (.ca .any false (.f Vl) [.t 40,.t 41,.t 42,.t 43])])
 (rg [qM 45 3,oo 46 (.bi .sub 0 (.t 45) (i6 1)),qM 3 46])) (.sk))) (.sq (rg [qM 48 0,qM 49 1,qM 50 2,qM 51 4,oo 52 (.ca .pure false (.f VD) [.t 48,.t 49,.t 50,.t 51]),qM 47 52,qE 53 0 47,qE 54 1 47,qM 13 53,qM 14 54]) (.sq (.sq (rg [qM 55 14,oo 56 (.bi .eql 0 (.t 55) (i6 2))]) (.cd (.t 56) (.sq (rg [qM 57 0,qM 58 1,qM 59 2,qM 60 4,oo 61 (.ca .any false (.f Vu) [.t 57,.t 58,.t 59,.t 60])]) (.sq (rg [qM 62 2,oo 63 (.bi .sub 0 (.t 62) (i6 1)),qM 64 13,qM 65 1,qB 66 .sub 64 65,qB 67 .sub 63 66,qM 13 67])
 (rg [om 14 (i6 1)]))) (.sk))) (.sq (.sq (rg [qM 68 10,qM 69 68,og 70 69 true (.mv (.t 11) none),oo 71 (.pk (.t 69) (.t 70) (.k (.bool false))),qM 72 71,og 73 72 true (.mv (.t 14) none),og 74 72 true (.bi .eql 0 (.t 73) (i6 1)),oo 75 (.pk (.t 72) (.t 74) (.k (.bool false)))]) (.cd (.t 75) (.sq (rg [qM 76 0,qM 77 1,qM 78 2,qM 79 4,oo 80 (.ca .any false (.f Yw) [.t 76,.t 77,.t 78,.t 79])]) (.cd (.t 80) (.rt) (.sk))) (.sk))) (.sq (.sq (.rg (some 0) [qM 81 1,oo 82 (.bi .gtr 0 (.t 81) (i6 0)),qM 83 82,og 84 83 true (.mv (.t 4) none),og 85 83 true (.mv (.t 0) none),og 86 83 true (.mv (.t 1) none),og 87 83 true (.bi .sub 0 (.t 86) (i6 1)),og 88 83 true (.ia 2 (.t 85) (.t 87)),og 89 83 true (.ld (some 2) (.t 88)),og 90 83 true (.mv (.t 0) none),og 91 83 true (.mv (.t 13) none),og 92 83 true (.ia 2 (.t 90) (.t 91)),og 93 83 true (.ld (some 2) (.t 92)),og 94 83 true (.ca .pure false (.t 84) [.t 89,.t 93]),og 95 83 true (.bi .lss 0 (.t 94) (i6 0)),og 96 83 true (.nt (.t 95)),oo 97 (.pk (.t 83) (.t 96) (.k (.bool false)))]) (.cd (.t 97) (.sq (rg [qM 98 0,qM 99 1,qM 100 2,qM 101 13,qM 102 4,oo 103 (.ca .any false (.f Vd) [.t 98,.t 99,.t 100,.t 101,.t 102]),qM 15 103]) (.sq (rg [qM 104 15,qM 1 104]) (.ex 1))) (.sk))) (.sq (rg [qM 106 0,qM 107 1,qM 108 2,qM 109 13,qM 110 4,oo 111 (.ca .any false (.f Qc) [.t 106,.t 107,.t 108,.t 109,.t 110]),qM 105 111,qE 112 0 105,qE 113 1 105,qM 16 112,qM 17 113]) (.sq (rg [qM 114 17,qM 11 114]) (.sq (rg [qM 115 16,qM 116 1,qB 117 .sub 115 116,qM 118 2,qM 119 16,qB 120 .sub 118 119,qM 18 117,qM 19 120]) (.sq (rg [qM 121 12,oo 122 (.bi .quo 0 (.t 121) (i6 8)),qM 20 122]) (.sq (rg [qM 123 18,qM 124 19,qB 125 .lss 123 124]) (.cd (.t 125) (.sq (rg [qM 126 18,qM 127 20,qB 128 .geq 126 127,qM 10 128]) (.sq (rg [qM 129 0,qM 130 1,qM 131 16,qM 132 3,qM 133 4,oo 134 (.ca .any false (.f ZI) [.t 129,.t 130,.t 131,.t 132,.t 133])])
 (rg [qM 135 16,oo 136 (.bi .add 0 (.t 135) (i6 1)),qM 1 136]))) (.sq (rg [qM 137 19,qM 138 20,qB 139 .geq 137 138,qM 10 139]) (.sq (rg [qM 140 0,qM 141 16,oo 142 (.bi .add 0 (.t 141) (i6 1)),qM 143 2,qM 144 3,qM 145 4,oo 146 (.ca .any false (.f ZI) [.t 140,.t 142,.t 143,.t 144,.t 145])])
 (rg [qM 147 16,qM 2 147])))))))))))))))))))))) }
theorem Xz:ZK Proofs.Tryz.prog ZI Yy=true:=by kernel_rfl
def Jy:F2 :=
 { nt:=42,res:=[.t 4 [2]],body:=(.sq (rg [om 4 (.k (.slice none 0 0))]) (.sq (rg [qM 8 0,qM 9 1,oo 10 (.ca .pure false (.f Z3) [.t 8,.t 9]),qM 5 10]) (.sq (.sq (rg [qM 11 5,oo 12 (.bi .eql 0 (.t 11) (i6 (-1)))]) (.cd (.t 12) (.sq (rg [qM 13 0,qM 4 13]) (.rt)) (.sk))) (.sq (.sq (rg [qM 14 5,oo 15 (.bi .add 0 (.t 14) (i6 1)),qM 6 15]) (.bl 0 (.lp [0,1,5,6] [] (.sq (.sq (rg [qM 16 6,qM 17 0,qN 18 17,qB 19 .lss 16 18]) (.cd (.t 19) (.sk) (.ex 0))) (.sq (.bl 1 (.sq (rg [qM 22 0,qM 23 6,qI 24 1 22 23,qL 25 24,qM 7 25]) (.sq (rg [qM 26 1,qM 27 7,oo 28 (.ca .pure false (.t 26) [.t 27]),oo 29 (.nt (.t 28))]) (.cd (.t 29) (.sq (rg [qM 30 0,qM 31 5,qM 32 7,qI 33 1 30 31,on1 (.st 1 (.t 33) (.t 32))])
 (rg [qM 34 5,oo 35 (.bi .add 0 (.t 34) (i6 1)),qM 5 35])) (.sk)))))
 (rg [qM 20 6,oo 21 (.bi .add 0 (.t 20) (i6 1)),qM 6 21])))))) (.sq (rg [qM 36 0,qM 37 5,oo 38 (.sx 1 (.t 36) (some (.t 37)) none none),on1 (.cl 1 [.string ⟨#[]⟩] (.t 38))]) (.sq (rg [qM 39 0,qM 40 5,oo 41 (.sx 1 (.t 39) none (some (.t 40)) none),qM 4 41]) (.rt))))))) }
theorem Yz:ZK Proofs.Tryz.prog Jt Jy=true:=by kernel_rfl
def Wy:F2 :=
 { nt:=7,res:=[.t 3 [0]],body:=(.sq (rg [om 3 (.k (.bool false))]) (.sq (rg [qM 4 0,qL 5 1,qB 6 .eql 4 5,qM 3 6]) (.rt))) }
theorem Zbs:ZK Proofs.Tryz.prog Yj Wy=true:=by kernel_rfl
def VI:F2 :=
 { nt:=11,res:=[],body:=(.sq (rg [qM 3 0,qN 4 3,qM 2 4])
 (rg [qM 5 0,qM 6 2,qM 7 2,oo 8 (.cv (.int .u64) (.t 7)),oo 9 (.ca .pure false (.f YO) [.t 8]),oo 10 (.ca .any false (.f ZR) [.t 5,i6 0,.t 6,.t 9])])) }
theorem Ug:ZK Proofs.Tryz.prog Z2 VI=true:=by kernel_rfl
def JL:F2 :=
 { nt:=61,res:=[.t 2 [2]],body:=(.sq (rg [om 2 (.k (.slice none 0 0))]) (.sq (.sq (rg [qM 6 0,qN 7 6,oo 8 (.bi .lss 0 (.t 7) (i6 2))]) (.cd (.t 8) (.sq (rg [qM 9 0,qM 2 9]) (.rt)) (.sk))) (.sq (.sq (rg [om 3 (i6 1)]) (.bl 0 (.lp [0,3] [] (.sq (.sq (rg [qM 10 3,qM 11 0,qN 12 11,qB 13 .lss 10 12]) (.cd (.t 13) (.sk) (.ex 0))) (.sq (.bl 1 (.sq (.rg (some 0) [qM 16 0,qM 17 3,qI 18 1 16 17,qL 19 18,qM 20 0,qM 21 3,oo 22 (.bi .sub 0 (.t 21) (i6 1)),qI 23 1 20 22,qL 24 23,qB 25 .eql 19 24]) (.cd (.t 25) (.sq (rg [qM 26 0,qM 27 3,oo 28 (.sx 1 (.t 26) (some (.t 27)) none none),qM 4 28]) (.sq (.sq (rg [om 5 (i6 1)]) (.bl 2 (.lp [0,3,4,5] [] (.sq (.sq (rg [qM 29 5,qM 30 4,qN 31 30,qB 32 .lss 29 31]) (.cd (.t 32) (.sk) (.ex 2))) (.sq (.bl 3 (.sq (.rg (some 0) [qM 35 4,qM 36 5,qI 37 1 35 36,qL 38 37,qM 39 4,qM 40 5,oo 41 (.bi .sub 0 (.t 40) (i6 1)),qI 42 1 39 41,qL 43 42,qB 44 .neq 38 43]) (.cd (.t 44) (.sq (rg [qM 45 0,qM 46 3,qM 47 4,qM 48 5,qI 49 1 47 48,qL 50 49,qI 51 1 45 46,on1 (.st 1 (.t 51) (.t 50))])
 (rg [qM 52 3,oo 53 (.bi .add 0 (.t 52) (i6 1)),qM 3 53])) (.sk))))
 (rg [qM 33 5,oo 34 (.bi .add 0 (.t 33) (i6 1)),qM 5 34])))))) (.sq (rg [qM 54 0,qM 55 3,oo 56 (.sx 1 (.t 54) (some (.t 55)) none none),on1 (.cl 1 [.string ⟨#[]⟩] (.t 56))]) (.sq (rg [qM 57 0,qM 58 3,oo 59 (.sx 1 (.t 57) none (some (.t 58)) none),qM 2 59]) (.rt))))) (.sk))))
 (rg [qM 14 3,oo 15 (.bi .add 0 (.t 14) (i6 1)),qM 3 15])))))) (.sq (rg [qM 60 0,qM 2 60]) (.rt))))) }
theorem YW:ZK Proofs.Tryz.prog JC JL=true:=by kernel_rfl
def JM:F2 :=
 { nt:=53,res:=[],body:=(.sq (rg [qM 10 1,oo 11 (.bi .add 0 (.t 10) (i6 1)),qM 8 11]) (.bl 0 (.lp [0,1,2,3,8] [] (.sq (.sq (rg [qM 12 8,qM 13 2,qB 14 .lss 12 13]) (.cd (.t 14) (.sk) (.ex 0))) (.sq (.bl 1 (.sq (rg [qM 17 8,qM 9 17]) (.bl 2 (.lp [0,1,2,3,8,9] [] (.sq (.sq (.rg (some 0) [qM 18 9,qM 19 1,qB 20 .gtr 18 19,qM 21 20,og 22 21 true (.mv (.t 3) none),og 23 21 true (.mv (.t 0) none),og 24 21 true (.mv (.t 9) none),og 25 21 true (.ia 2 (.t 23) (.t 24)),og 26 21 true (.ld (some 2) (.t 25)),og 27 21 true (.mv (.t 0) none),og 28 21 true (.mv (.t 9) none),og 29 21 true (.bi .sub 0 (.t 28) (i6 1)),og 30 21 true (.ia 2 (.t 27) (.t 29)),og 31 21 true (.ld (some 2) (.t 30)),og 32 21 true (.ca .pure false (.t 22) [.t 26,.t 31]),og 33 21 true (.bi .lss 0 (.t 32) (i6 0)),oo 34 (.pk (.t 21) (.t 33) (.k (.bool false)))]) (.cd (.t 34) (.sk) (.ex 2))) (.sq (.bl 3 (.rg (some 0) [qM 37 0,qM 38 9,qM 39 0,qM 40 9,oo 41 (.bi .sub 0 (.t 40) (i6 1)),qM 42 0,qM 43 9,oo 44 (.bi .sub 0 (.t 43) (i6 1)),qI 45 2 42 44,qS 46 2 45,qM 47 0,qM 48 9,qI 49 2 47 48,qS 50 2 49,qI 51 2 37 38,on1 (.s0 2 (.t 51) (.t 46)),qI 52 2 39 41,on1 (.st 2 (.t 52) (.t 50))]))
 (rg [qM 35 9,oo 36 (.bi .sub 0 (.t 35) (i6 1)),qM 9 36])))))))
 (rg [qM 15 8,oo 16 (.bi .add 0 (.t 15) (i6 1)),qM 8 16])))))) }
theorem VJ:ZK Proofs.Tryz.prog Z4 JM=true:=by kernel_rfl
def YX:F2 :=
 { nt:=134,res:=[],body:=(.sq (rg [om 8 (.k (.bool true))]) (.sq (rg [om 9 (.k (.bool true))]) (.bl 0 (.lp [0,1,2,3,8,9] [] (.bl 1 (.sq (rg [qM 19 2,qM 20 1,qB 21 .sub 19 20,qM 10 21]) (.sq (.sq (rg [qM 22 10,oo 23 (.bi .leq 0 (.t 22) (i6 12))]) (.cd (.t 23) (.sq (rg [qM 24 0,qM 25 1,qM 26 2,oo 27 (.ca .any false (.f Jf) [.t 24,.t 25,.t 26])]) (.rt)) (.sk))) (.sq (.sq (rg [qM 28 3,oo 29 (.bi .eql 0 (.t 28) (i6 0))]) (.cd (.t 29) (.sq (rg [qM 30 0,qM 31 1,qM 32 2,oo 33 (.ca .pure false (.f Xt) [.t 30,.t 31,.t 32])]) (.rt)) (.sk))) (.sq (.sq (rg [qM 34 8,oo 35 (.nt (.t 34))]) (.cd (.t 35) (.sq (rg [qM 36 0,qM 37 1,qM 38 2,oo 39 (.ca .pure false (.f V0) [.t 36,.t 37,.t 38])])
 (rg [qM 40 3,oo 41 (.bi .sub 0 (.t 40) (i6 1)),qM 3 41])) (.sk))) (.sq (rg [qM 43 0,qM 44 1,qM 45 2,oo 46 (.ca .pure false (.f Qp) [.t 43,.t 44,.t 45]),qM 42 46,qE 47 0 42,qE 48 1 42,qM 11 47,qM 12 48]) (.sq (.sq (rg [qM 49 12,oo 50 (.bi .eql 0 (.t 49) (i6 2))]) (.cd (.t 50) (.sq (rg [qM 51 0,qM 52 1,qM 53 2,oo 54 (.ca .pure false (.f Qd) [.t 51,.t 52,.t 53])]) (.sq (rg [qM 55 2,oo 56 (.bi .sub 0 (.t 55) (i6 1)),qM 57 11,qM 58 1,qB 59 .sub 57 58,qB 60 .sub 56 59,qM 11 60])
 (rg [om 12 (i6 1)]))) (.sk))) (.sq (.sq (rg [qM 61 8,qM 62 61,og 63 62 true (.mv (.t 9) none),oo 64 (.pk (.t 62) (.t 63) (.k (.bool false))),qM 65 64,og 66 65 true (.mv (.t 12) none),og 67 65 true (.bi .eql 0 (.t 66) (i6 1)),oo 68 (.pk (.t 65) (.t 67) (.k (.bool false)))]) (.cd (.t 68) (.sq (rg [qM 69 0,qM 70 1,qM 71 2,oo 72 (.ca .pure false (.f YR) [.t 69,.t 70,.t 71])]) (.cd (.t 72) (.rt) (.sk))) (.sk))) (.sq (.sq (.rg (some 0) [qM 73 1,oo 74 (.bi .gtr 0 (.t 73) (i6 0)),qM 75 74,og 76 75 true (.mv (.t 0) none),og 77 75 true (.mv (.t 1) none),og 78 75 true (.bi .sub 0 (.t 77) (i6 1)),og 79 75 true (.ia 1 (.t 76) (.t 78)),og 80 75 true (.ld none (.t 79)),og 81 75 true (.mv (.t 0) none),og 82 75 true (.mv (.t 11) none),og 83 75 true (.ia 1 (.t 81) (.t 82)),og 84 75 true (.ld none (.t 83)),og 85 75 true (.ca .pure false (.f Y6) [.t 80,.t 84]),og 86 75 true (.nt (.t 85)),oo 87 (.pk (.t 75) (.t 86) (.k (.bool false)))]) (.cd (.t 87) (.sq (rg [qM 88 0,qM 89 1,qM 90 2,qM 91 11,oo 92 (.ca .pure false (.f VE) [.t 88,.t 89,.t 90,.t 91]),qM 13 92]) (.sq (rg [qM 93 13,qM 1 93]) (.ex 1))) (.sk))) (.sq (rg [qM 95 0,qM 96 1,qM 97 2,qM 98 11,oo 99 (.ca .pure false (.f Q0) [.t 95,.t 96,.t 97,.t 98]),qM 94 99,qE 100 0 94,qE 101 1 94,qM 14 100,qM 15 101]) (.sq (rg [qM 102 15,qM 9 102]) (.sq (rg [qM 103 14,qM 104 1,qB 105 .sub 103 104,qM 106 2,qM 107 14,qB 108 .sub 106 107,qM 16 105,qM 17 108]) (.sq (rg [qM 109 10,oo 110 (.bi .quo 0 (.t 109) (i6 8)),qM 18 110]) (.sq (rg [qM 111 16,qM 112 17,qB 113 .lss 111 112]) (.cd (.t 113) (.sq (rg [qM 114 16,qM 115 18,qB 116 .geq 114 115,qM 8 116]) (.sq (rg [qM 117 0,qM 118 1,qM 119 14,qM 120 3,oo 121 (.ca .any false (.f ZR) [.t 117,.t 118,.t 119,.t 120])])
 (rg [qM 122 14,oo 123 (.bi .add 0 (.t 122) (i6 1)),qM 1 123]))) (.sq (rg [qM 124 17,qM 125 18,qB 126 .geq 124 125,qM 8 126]) (.sq (rg [qM 127 0,qM 128 14,oo 129 (.bi .add 0 (.t 128) (i6 1)),qM 130 2,qM 131 3,oo 132 (.ca .any false (.f ZR) [.t 127,.t 129,.t 130,.t 131])])
 (rg [qM 133 14,qM 2 133])))))))))))))))))))))) }
theorem Wd:ZK Proofs.Tryz.prog ZR YX=true:=by kernel_rfl
def J2:F2 :=
 { nt:=49,res:=[],body:=(.sq (rg [qM 8 1,oo 9 (.bi .add 0 (.t 8) (i6 1)),qM 6 9]) (.bl 0 (.lp [0,1,2,6] [] (.sq (.sq (rg [qM 10 6,qM 11 2,qB 12 .lss 10 11]) (.cd (.t 12) (.sk) (.ex 0))) (.sq (.bl 1 (.sq (rg [qM 15 6,qM 7 15]) (.bl 2 (.lp [0,1,2,6,7] [] (.sq (.sq (.rg (some 0) [qM 16 7,qM 17 1,qB 18 .gtr 16 17,qM 19 18,og 20 19 true (.mv (.t 0) none),og 21 19 true (.mv (.t 7) none),og 22 19 true (.ia 1 (.t 20) (.t 21)),og 23 19 true (.ld none (.t 22)),og 24 19 true (.mv (.t 0) none),og 25 19 true (.mv (.t 7) none),og 26 19 true (.bi .sub 0 (.t 25) (i6 1)),og 27 19 true (.ia 1 (.t 24) (.t 26)),og 28 19 true (.ld none (.t 27)),og 29 19 true (.ca .pure false (.f Y6) [.t 23,.t 28]),oo 30 (.pk (.t 19) (.t 29) (.k (.bool false)))]) (.cd (.t 30) (.sk) (.ex 2))) (.sq (.bl 3 (.rg (some 0) [qM 33 0,qM 34 7,qM 35 0,qM 36 7,oo 37 (.bi .sub 0 (.t 36) (i6 1)),qM 38 0,qM 39 7,oo 40 (.bi .sub 0 (.t 39) (i6 1)),qI 41 1 38 40,qL 42 41,qM 43 0,qM 44 7,qI 45 1 43 44,qL 46 45,qI 47 1 33 34,on1 (.s0 1 (.t 47) (.t 42)),qI 48 1 35 37,on1 (.st 1 (.t 48) (.t 46))]))
 (rg [qM 31 7,oo 32 (.bi .sub 0 (.t 31) (i6 1)),qM 7 32])))))))
 (rg [qM 13 6,oo 14 (.bi .add 0 (.t 13) (i6 1)),qM 6 14])))))) }
theorem Qu:ZK Proofs.Tryz.prog Jf J2=true:=by kernel_rfl
def Df:F2 :=
 { nt:=17,res:=[.t 4 [0]],body:=(.sq (rg [om 4 (.k (.bool false))]) (.sq (rg [qM 5 0,oo 6 (.ca .pure false (.f YN) [.t 5]),qM 7 6,og 8 7 true (.mv (.t 1) none),og 9 7 true (.ca .pure false (.f YN) [.t 8]),og 10 7 true (.nt (.t 9)),oo 11 (.pk (.t 7) (.t 10) (.k (.bool false))),qM 12 11,og 13 12 false (.mv (.t 0) none),og 14 12 false (.mv (.t 1) none),og 15 12 false (.bi .lss 0 (.t 13) (.t 14)),oo 16 (.pk (.t 12) (.k (.bool true)) (.t 15)),qM 4 16]) (.rt))) }
theorem ZdT:ZK Proofs.Tryz.prog Y6 Df=true:=by kernel_rfl
def UF:F2 :=
 { nt:=6,res:=[.t 2 [0]],body:=(.sq (rg [om 2 (.k (.bool false))]) (.sq (rg [qM 3 0,qM 4 0,qB 5 .neq 3 4,qM 2 5]) (.rt))) }
theorem Zc6:ZK Proofs.Tryz.prog YN UF=true:=by kernel_rfl
end Go.Fd

/-
  The annotated codes of the functions, printed by a program of mine (gen.py), and the check that they belong to the program.
-/
namespace Go.Fd
end Go.Fd

/-
  ANNOTATED CODES OF GO'S GENERIC FUNCTIONS ON SLICES, AT ANY ELEMENT (printed by generic.py out of one instance each). Own work.
-/
namespace Go.Fd
def ZoD(k:Nat)(m:Option Nat):F2 :=
 { nt:=19,res:=[.t 4 [0]],body:=(.sq (.rg none [⟨some 4,none,.mv (.k (.int .i64 0)) none⟩]) (.sq (.sq (.rg none [⟨some 6,none,.mv (.t 0) none⟩,
    ⟨some 7,none,.ln (.t 6)⟩,
    ⟨some 8,none,.mv (.k (.int .i64 0)) none⟩]) (.bl 0 (.lp [0,1,7,8] [] (.sq (.rg none [⟨some 9,none,.bi .lss 0 (.t 8) (.t 7)⟩]) (.sq (.cd (.t 9) (.sk) (.ex 0)) (.sq (.bl 1 (.sq (.rg none [⟨some 10,none,.mv (.t 8) none⟩,
      ⟨some 5,none,.mv (.t 10) none⟩]) (.sq (.rg none [⟨some 11,none,.mv (.t 1) none⟩,
      ⟨some 12,none,.mv (.t 0) none⟩,
      ⟨some 13,none,.mv (.t 5) none⟩,
      ⟨some 14,none,.ia k (.t 12) (.t 13)⟩,
      ⟨some 15,none,.ld m (.t 14)⟩,
      ⟨some 16,none,.ca .pure false (.t 11) [.t 15]⟩]) (.cd (.t 16) (.sq (.rg none [⟨some 17,none,.mv (.t 5) none⟩,
      ⟨some 4,none,.mv (.t 17) none⟩]) (.rt)) (.sk))))) (.rg none [⟨some 18,none,.bi .add 0 (.t 8) (.k (.int .i64 1))⟩,
    ⟨some 8,none,.mv (.t 18) none⟩]))))))) (.sq (.rg none [⟨some 4,none,.mv (.k (.int .i64 (-1))) none⟩]) (.rt)))) }
def ZrU(fi:FuncId):F2 :=
 { nt:=9,res:=[.t 4 [0]],body:=(.sq (.rg none [⟨some 4,none,.mv (.k (.bool false)) none⟩]) (.sq (.rg none [⟨some 5,none,.mv (.t 0) none⟩,
   ⟨some 6,none,.mv (.t 1) none⟩,
   ⟨some 7,none,.ca .pure false (.f fi) [.t 5,.t 6]⟩,
   ⟨some 8,none,.bi .geq 0 (.t 7) (.k (.int .i64 0))⟩,
   ⟨some 4,none,.mv (.t 8) none⟩]) (.rt))) }
def ZxV  : F2 :=
 { nt:=19,res:=[.t 4 [0]],body:=(.sq (.rg none [⟨some 4,none,.mv (.k (.int .i64 0)) none⟩]) (.sq (.sq (.rg none [⟨some 6,none,.mv (.t 0) none⟩,
    ⟨some 7,none,.ln (.t 6)⟩,
    ⟨some 8,none,.mv (.k (.int .i64 0)) none⟩]) (.bl 0 (.lp [0,1,7,8] [] (.sq (.rg none [⟨some 9,none,.bi .lss 0 (.t 8) (.t 7)⟩]) (.sq (.cd (.t 9) (.sk) (.ex 0)) (.sq (.bl 1 (.sq (.rg none [⟨some 10,none,.mv (.t 8) none⟩,
      ⟨some 5,none,.mv (.t 10) none⟩]) (.sq (.rg none [⟨some 11,none,.mv (.t 1) none⟩,
      ⟨some 12,none,.mv (.t 0) none⟩,
      ⟨some 13,none,.mv (.t 5) none⟩,
      ⟨some 14,none,.ia 1 (.t 12) (.t 13)⟩,
      ⟨some 15,none,.ld none (.t 14)⟩,
      ⟨some 16,none,.bi .eql 0 (.t 11) (.t 15)⟩]) (.cd (.t 16) (.sq (.rg none [⟨some 17,none,.mv (.t 5) none⟩,
      ⟨some 4,none,.mv (.t 17) none⟩]) (.rt)) (.sk))))) (.rg none [⟨some 18,none,.bi .add 0 (.t 8) (.k (.int .i64 1))⟩,
    ⟨some 8,none,.mv (.t 18) none⟩]))))))) (.sq (.rg none [⟨some 4,none,.mv (.k (.int .i64 (-1))) none⟩]) (.rt)))) }
def ZBK(fi:FuncId):F2 :=
 { nt:=9,res:=[.t 4 [0]],body:=(.sq (.rg none [⟨some 4,none,.mv (.k (.bool false)) none⟩]) (.sq (.rg none [⟨some 5,none,.mv (.t 0) none⟩,
   ⟨some 6,none,.mv (.t 1) none⟩,
   ⟨some 7,none,.ca .pure false (.f fi) [.t 5,.t 6]⟩,
   ⟨some 8,none,.bi .geq 0 (.t 7) (.k (.int .i64 0))⟩,
   ⟨some 4,none,.mv (.t 8) none⟩]) (.rt))) }
end Go.Fd

/-
  GO'S GENERIC FUNCTIONS ON SLICES, AT ANY ELEMENT. Own work.
-/
namespace Go.Fd
set_option maxRecDepth 20000
section rules
variable {L:Sto} {F:List IV->Prop} {lvl:Nat}
theorem UG:∀{l:List (List Tr)} {F:List IV->Prop},JE L (l.map IV.ta) F=F (l.map IV.ta)
 | [],F=>ZsQ
 | x::r,F=>by
  simp only[List.map_cons]
  rw[Zvm,UG]
  rfl
theorem Yk{Pd:Oid->Prop}:∀{l:List (List Tr)},Zd Pd (l.map IV.ta)=True
 | []=>rfl
 | x::r=>by
  simp only[List.map_cons,Zd,men,true_and]
  exact Yk
theorem Jp{js:List Nat}{l:List (List Tr)}:ZlC lvl js (l.map IV.ta)=True:=Yk
end rules
section
variable {P:Program} {α:Type}
theorem WH{α β:Type}{c:α->β}{l:List α}{j:Nat}(h:j<l.length):(l.map c)[j]? = some (c l[j]):=by simp [h]
theorem ZoE{α:Type}{c:α->List Tr}{l:List α}{j:Nat}:cut (l.map c) 0 (j-0)=(l.take j).map c:=by
 simp only[cut,List.drop_zero,Nat.sub_zero,List.map_take]
theorem Zc7{α:Type}{l:List α}{j:Nat}(h:j<l.length):l.drop j=l[j]::l.drop (j+1):=List.drop_eq_getElem_cons h
def ixF(f:α->Bool):List α->Int->Int
 | [],_=>-1
 | x::r,j=>if f x=true then j else ixF f r (j+1)
theorem WI{f:α->Bool}{x:α}{r:List α}{j:Int}:ixF f (x::r) j=if f x=true then j else ixF f r (j+1):=rfl
theorem ZiG{f:α->Bool}:∀{l:List α} {j:Int},0<=j->(0<=ixF f l j↔l.any f=true)
 | [],j,_=>by simp [ixF]
 | x::r,j,h=>by
  rw[WI,List.any_cons]
  cases hx:f x with
  | true=>simp [h]
  | false =>
   simp only[Bool.false_eq_true,if_false,Bool.false_or]
   exact ZiG (by omega)
theorem Zme{fid:FuncId}(hc:ZK P fid (ZoD 1 none)=true){t:α->Tr}{f:α->Bool}{fe:FuncId}{cs:List (List Tr)}(l:List α)(hl:l.length<=9223372036854775807)
  (hf:∀ x∈l,∀ lvl S,Sem P fe lvl (.tr (t x)::cs.map IV.ta) S (iB (f x)) S) (lvl:Nat) (S:Sto):Sem P fid lvl [.tr (.sl (l.map fun x=>[t x])),.fn fe (cs.map IV.ta)] S (iI (ixF f l 0)) S:=by
 refine Zc hc trivial ?_
 simp only[ZoD,List.length_map,Jp,EVA,seval,Zd,men]
 refine Zz (α:=Unit) l.length (fun j _=>[(8,iI j)]) (fun _ _=>[]) (fun j _=>ixF f (l.drop j) j=ixF f l 0) () (by simp only[Jp,EVA,seval,Zd,men]) (by (simp only[EVA,seval,Zd,men]) <;> rfl) rfl ?_
 intro j _ hj hA
 simp only[List.length_map,Jp,EVA,seval,Zd,men]
 refine Zl (fun hlt=>?_) (fun hge=>?_)
 ·have hja:j<l.length:=by omega
  have ga:=WH (c:=fun x=>[t x]) hja
  rw[Zc7 hja,WI] at hA
  simp only[ga,Jp,UG,Yk,EVA,seval,Zd,men]
  refine Za (hf _ (List.getElem_mem hja)) ?_
  simp only[Yk,Jp,EVA,seval,Zd,men]
  refine Zl (fun h=>?_) (fun h=>?_)
  ·rw[if_pos h] at hA
   rw[<-hA]
  ·rw[if_neg h] at hA
   exact⟨by rw[Ze];omega,Zf () hja rfl hA⟩
 ·have:j=l.length:=by omega
  subst this
  rw[List.drop_length] at hA
  rw[<-hA]
  rfl
theorem ZqT{k:Nat}{fid:FuncId}(hc:ZK P fid (ZoD k (some k))=true){c:α->List Tr}(hk:∀ x,(c x).length=k){f:α->Bool}{fe:FuncId}{cs:List (List Tr)}(l:List α)(hl:l.length<=9223372036854775807)
  (hf:∀ x∈l,∀ lvl S,Sem P fe lvl (.ag ((c x).map .tr)::cs.map IV.ta) S (iB (f x)) S) (lvl:Nat) (S:Sto):Sem P fid lvl [.tr (.sl (l.map c)),.fn fe (cs.map IV.ta)] S (iI (ixF f l 0)) S:=by
 refine Zc hc trivial ?_
 simp only[ZoD,List.length_map,Jp,EVA,seval,Zd,men]
 refine Zz (α:=Unit) l.length (fun j _=>[(8,iI j)]) (fun _ _=>[]) (fun j _=>ixF f (l.drop j) j=ixF f l 0) () (by simp only[Jp,EVA,seval,Zd,men]) (by (simp only[EVA,seval,Zd,men]) <;> rfl) rfl ?_
 intro j _ hj hA
 simp only[List.length_map,Jp,EVA,seval,Zd,men]
 refine Zl (fun hlt=>?_) (fun hge=>?_)
 ·have hja:j<l.length:=by omega
  have ga:=WH (c:=c) hja
  have hkk:=hk l[j]
  have htk:(c l[j]).take k=c l[j]:=List.take_of_length_le (by omega)
  rw[Zc7 hja,WI] at hA
  simp only[ga,hkk,htk,Jp,UG,Zto,Yk,Zic,EVA,seval,Zd,men]
  refine Za (hf _ (List.getElem_mem hja)) ?_
  simp only[Yk,Zic,Jp,EVA,seval,Zd,men]
  refine Zl (fun h=>?_) (fun h=>?_)
  ·rw[if_pos h] at hA
   rw[<-hA]
  ·rw[if_neg h] at hA
   exact⟨by rw[Ze];omega,Zf () hja rfl hA⟩
 ·have:j=l.length:=by omega
  subst this
  rw[List.drop_length] at hA
  rw[<-hA]
  rfl
theorem ZoF{fid fi:FuncId}(hc:ZK P fid (ZrU fi)=true){es:Row}{f:α->Bool}{fe:FuncId}{cs:List (List Tr)}{l:List α}
  (hi:∀ lvl S,Sem P fi lvl [.tr (.sl es),.fn fe (cs.map IV.ta)] S (iI (ixF f l 0)) S) (lvl:Nat) (S:Sto):Sem P fid lvl [.tr (.sl es),.fn fe (cs.map IV.ta)] S (iB (l.any f)) S:=by
 refine Zc hc trivial ?_
 simp only[ZrU,UG,Yk,Jp,EVA,seval,Zd,men]
 refine Za hi ?_
 simp only[UG,Yk,EVA,seval,Zd,men]
 have:=ZiG (f:=f) (l:=l) (Int.le_refl 0)
 by_cases h:l.any f=true
 ·simp [h,this.2 h]
 ·simp [h,mt this.1 h]
theorem Ze8{fid fi:FuncId}(hc:ZK P fid (ZrU fi)=true)(hi:ZK P fi (ZoD 1 none)=true){t:α->Tr}{f:α->Bool}{fe:FuncId}{cs:List (List Tr)}(l:List α)(hl:l.length<=9223372036854775807)
  (hf:∀ x∈l,∀ lvl S,Sem P fe lvl (.tr (t x)::cs.map IV.ta) S (iB (f x)) S) (lvl:Nat) (S:Sto):Sem P fid lvl [.tr (.sl (l.map fun x=>[t x])),.fn fe (cs.map IV.ta)] S (iB (l.any f)) S :=
 ZoF hc (Zme hi l hl hf) lvl S
theorem Zmf{k:Nat}{fid fi:FuncId}(hc:ZK P fid (ZrU fi)=true)(hi:ZK P fi (ZoD k (some k))=true){c:α->List Tr}(hk:∀ x,(c x).length=k){f:α->Bool}{fe:FuncId}{cs:List (List Tr)}(l:List α)(hl:l.length<=9223372036854775807)
  (hf:∀ x∈l,∀ lvl S,Sem P fe lvl (.ag ((c x).map .tr)::cs.map IV.ta) S (iB (f x)) S) (lvl:Nat) (S:Sto):Sem P fid lvl [.tr (.sl (l.map c)),.fn fe (cs.map IV.ta)] S (iB (l.any f)) S :=
 ZoF hc (ZqT hi hk l hl hf) lvl S
structure Cmp (t:α->Tr):Prop where
 neq:∀(x y:α) (F:IV->Prop),bi2 .neq 0 (.tr (t x)) (.tr (t y)) F=F (iB (!(@decide (x=y) (Classical.propDecidable _))))
 eql:∀(x y:α) (F:IV->Prop),bi2 .eql 0 (.tr (t x)) (.tr (t y)) F=F (iB (@decide (x=y) (Classical.propDecidable _)))
theorem ZwZ:Cmp ts:=⟨fun x y F=>by rw[Zu4];congr 2;by_cases h:x=y <;> simp [h],fun x y F=>by rw[Zu3];congr 2;by_cases h:x=y <;> simp [h]⟩
theorem ZoG{fid:FuncId}(hc:ZK P fid ZxV=true)[DecidableEq α]{t:α->Tr}(hT:Cmp t)(l:List α)(v:α)(hl:l.length<=9223372036854775807)(lvl:Nat)(S:Sto):Sem P fid lvl [.tr (.sl (l.map fun x=>[t x])),.tr (t v)] S (iI (ixF (fun x=>decide (v=x)) l 0)) S:=by
 refine Zc hc trivial ?_
 simp only[ZxV,List.length_map,EVA,seval,Zd,men]
 refine Zz (α:=Unit) l.length (fun j _=>[(8,iI j)]) (fun _ _=>[]) (fun j _=>ixF (fun x=>decide (v=x)) (l.drop j) j=ixF (fun x=>decide (v=x)) l 0) () (by simp only[EVA,seval,Zd,men]) (by (simp only[EVA,seval,Zd,men]) <;> rfl) rfl ?_
 intro j _ hj hA
 simp only[List.length_map,EVA,seval,Zd,men]
 refine Zl (fun hlt=>?_) (fun hge=>?_)
 ·have hja:j<l.length:=by omega
  have ga:=WH (c:=fun x=>[t x]) hja
  have hq:=hT.eql v l[j]
  rw[Zc7 hja,WI] at hA
  simp only[ga,hq,EVA,seval,Zd,men]
  refine Zl (fun h=>?_) (fun h=>?_)
  ·rw[if_pos (by simpa using h)] at hA
   rw[<-hA]
  ·rw[if_neg (by simpa using h)] at hA
   exact⟨by rw[Ze];omega,Zf () hja rfl hA⟩
 ·have:j=l.length:=by omega
  subst this
  rw[List.drop_length] at hA
  rw[<-hA]
  rfl
theorem ZtF[DecidableEq α]{l:List α}{v:α}:l.any (fun x=>decide (v=x))=decide (v∈l):=by
 rw[Bool.eq_iff_iff]
 simp [List.any_eq_true]
theorem ZtG{fid fi:FuncId}(hc:ZK P fid (ZBK fi)=true)(hi:ZK P fi ZxV=true)[DecidableEq α]{t:α->Tr}(hT:Cmp t)(l:List α)(v:α)(hl:l.length<=9223372036854775807)(lvl:Nat)(S:Sto):Sem P fid lvl [.tr (.sl (l.map fun x=>[t x])),.tr (t v)] S (iB (decide (v∈l))) S:=by
 refine Zc hc trivial ?_
 simp only[ZBK,EVA,seval,Zd,men]
 refine Za (ZoG hi hT l v hl) ?_
 simp only[EVA,seval,Zd,men]
 have:=ZiG (f:=fun x=>decide (v=x)) (l:=l) (Int.le_refl 0)
 rw[ZtF] at this
 by_cases h:v∈l
 ·simp [h,this.2 (by simpa using h)]
 ·have h2:¬ 0<=ixF (fun x=>decide (v=x)) l 0:=fun hh=>h (by simpa using this.1 hh)
  simp [h,h2]
end
end Go.Fd

/-
  WHAT HOLDS OF THE PROGRAM'S AND THE REFERENCE'S SMALL FUNCTIONS ON NUMBERS. Own work.
-/
namespace Go.Fd
set_option maxRecDepth 20000
noncomputable def dc(p:Prop):Bool:=@decide p (Classical.propDecidable p)
theorem dc_iff{p:Prop}:dc p=true↔p:=by unfold dc;simp
theorem ZN{p:Prop}(h:p):dc p=true:=dc_iff.2 h
theorem Zj{p:Prop}(h:¬ p):dc p=false:=by
 cases hh:dc p with
 | false=>rfl
 | true=>exact absurd (dc_iff.1 hh) h
theorem dc_not{p:Prop}:dc p=false ↔ ¬ p:=⟨fun h hp=>(by rw[ZN hp] at h;cases h),Zj⟩
theorem Vs{p q:Prop}(h:p↔q):dc p=dc q:=by rw[propext h]
theorem XA{p:Prop}[Decidable p]:dc p=decide p:=by
 by_cases h:p
 ·rw[ZN h];simp [h]
 ·rw[Zj h];simp [h]
abbrev g0(l:List Int)(i:Nat):Int:=l.getD i 0
abbrev A3:=Int×Int×Int
abbrev g3(l:List A3)(i:Nat):A3:=l.getD i (0,0,0)
theorem V5{l:List Int}{i:Nat}(h:i<l.length):(rI l)[i]? = some [tv (g0 l i)]:=by simp [h]
def inB(n a b:Int):Bool:=decide (a<=n)&&decide (n<=b)
theorem inB_iff{n a b:Int}:inB n a b=true↔a<=n/\n<=b:=by simp [inB]
theorem inB_not{n a b:Int}:inB n a b=false ↔ ¬ (a<=n/\n<=b):=by
 rw[<-inB_iff];cases inB n a b <;> simp
theorem QE(n a b:Int)(lvl:Nat)(S:Sto):Sem Proofs.Tryz.prog Z5 lvl [iI n,iI a,iI b] S (iB (inB n a b)) S:=by
 refine Zc Zk3 trivial ?_
 simp only[ZfL,EVA,seval,Zd,men]
 refine Zl (fun h=>?_) (fun h=>?_) <;> simp [inB,h]
theorem YS(n a b:Int)(lvl:Nat)(S:Sto):Sem Proofs.Tryz.prog ZU lvl [iI n,iI a,iI b] S (iB (inB n a b)) S:=by
 refine Zc Zim trivial ?_
 simp only[ZcJ,EVA,seval,Zd,men]
 refine Zl (fun h=>?_) (fun h=>?_) <;> simp [inB,h]
theorem ZoH(l:List Int)(n:Int)(hl:l.length<=9223372036854775807)(lvl:Nat)(S:Sto):Sem Proofs.Tryz.prog UQ lvl [tI l,iI n] S (iB (decide (n∈l))) S:=by
 refine Zc ZjT trivial ?_
 simp only[Zep,EVA,seval,Zd,men]
 refine Z8 (α:=Unit) l.length (fun j _=>⟨lvl,[(0,tI l),(1,iI n),(5,iI j)],[],S⟩) (fun j _=>n ∉ l.take j) () ⟨by simp only[EVA,seval,Zd,men],by (simp only[EVA,seval,Zd,men]) <;> rfl⟩ (by simp) ?_
 intro j _ hj hA
 simp only[List.length_map,EVA,seval,Zd,men]
 refine Zl (fun hlt=>?_) (fun hge=>?_)
 ·have hja:j<l.length:=by omega
  have ga:=V5 hja
  simp only[ga,EVA,seval,Zd,men]
  have hg:g0 l j=l[j]:=by simp [hja]
  refine Zl (fun he=>?_) (fun hne=>?_)
  ·have:n∈l:=by rw[<-he,hg];exact List.getElem_mem hja
   simp [this]
  ·refine⟨by rw[Ze];omega,Zf () hja rfl ?_⟩
   rw[List.take_succ_eq_append_getElem hja]
   simp only[List.mem_append,List.mem_singleton,not_or]
   exact⟨hA,fun e=>hne (by rw[hg,e])⟩
 ·have:j=l.length:=by omega
  subst this
  rw[List.take_length] at hA
  simp [hA]
theorem ZoI(x:Int)(lvl:Nat)(S:Sto):Sem Proofs.Tryz.prog VX lvl [iI x] S (iB false) S:=by
 refine Zc ZfS trivial ?_
 simp only[ZaO,EVA,seval,Zd,men]
end Go.Fd

/-
  NUMBERS OF LIBRARY FUNCTIONS IN THIS PROGRAM, as the guide's shelf lays them (printed by lay.py out of the kit's own command).
-/
namespace Go.Proofs
open Go.Shelf
def Tryz.lays160_ren:Go.Shelf.Ren:=⟨fun | 160=>154 | 232=>201 | 231=>200 | 227=>202 | 234=>204 | 233=>203 | 236=>206 | 235=>205 | 228=>247 | 271=>250 | 151=>249 | 197=>248 | 120=>275 | 152=>274 | 260=>273 | 137=>292 | 119=>293 | 224=>294 | 225=>295 | 217=>307 | 266=>320 | n=>n,fun | 9=>9 | 4=>4 | 3=>3 | 5=>5 | 117=>224 | 116=>223 | 0=>0 | 124=>227 | 21=>21 | 105=>261 | 46=>181 | 119=>295 | 139=>298 | 138=>297 | n=>n,fun | 3=>2 | 4=>3 | n=>n⟩
theorem Tryz.lays160:Go.Proofs.Lays.n160 Tryz.prog Tryz.lays160_ren:={
  mixed:=by kernel_rfl,
  f119:=Tryz.func293.trans (congrArg some (by kernel_rfl)),
  f120:=Tryz.func275.trans (congrArg some (by kernel_rfl)),
  f137:=Tryz.func292.trans (congrArg some (by kernel_rfl)),
  f151:=Tryz.func249.trans (congrArg some (by kernel_rfl)),
  f152:=Tryz.func274.trans (congrArg some (by kernel_rfl)),
  f160:=Tryz.func154.trans (congrArg some (by kernel_rfl)),
  f197:=Tryz.func248.trans (congrArg some (by kernel_rfl)),
  f217:=Tryz.func307.trans (congrArg some (by kernel_rfl)),
  f224:=Tryz.func294.trans (congrArg some (by kernel_rfl)),
  f225:=Tryz.func295.trans (congrArg some (by kernel_rfl)),
  f227:=Tryz.func202.trans (congrArg some (by kernel_rfl)),
  f228:=Tryz.func247.trans (congrArg some (by kernel_rfl)),
  f231:=Tryz.func200.trans (congrArg some (by kernel_rfl)),
  f232:=Tryz.func201.trans (congrArg some (by kernel_rfl)),
  f233:=Tryz.func203.trans (congrArg some (by kernel_rfl)),
  f234:=Tryz.func204.trans (congrArg some (by kernel_rfl)),
  f235:=Tryz.func205.trans (congrArg some (by kernel_rfl)),
  f236:=Tryz.func206.trans (congrArg some (by kernel_rfl)),
  f260:=Tryz.func273.trans (congrArg some (by kernel_rfl)),
  f266:=Tryz.func320.trans (congrArg some (by kernel_rfl)),
  f271:=Tryz.func250.trans (congrArg some (by kernel_rfl)),
  t0:=Tryz.underlying0,
  a0:=Tryz.isAgg0,
  z0:=Tryz.sizeOf0,
  v0:=Tryz.zeroValue0,
  t3:=Tryz.underlying3,
  a3:=Tryz.isAgg3,
  z3:=Tryz.sizeOf3,
  v3:=Tryz.zeroValue3,
  t4:=Tryz.underlying4,
  a4:=Tryz.isAgg4,
  z4:=Tryz.sizeOf4,
  v4:=Tryz.zeroValue4,
  t5:=Tryz.underlying5,
  a5:=Tryz.isAgg5,
  z5:=Tryz.sizeOf5,
  v5:=Tryz.zeroValue5,
  t9:=Tryz.underlying9,
  a9:=Tryz.isAgg9,
  z9:=Tryz.sizeOf9,
  v9:=Tryz.zeroValue9,
  t21:=Tryz.underlying21,
  a21:=Tryz.isAgg21,
  z21:=Tryz.sizeOf21,
  v21:=Tryz.zeroValue21,
  t46:=Tryz.underlying181,
  a46:=Tryz.isAgg181,
  z46:=Tryz.sizeOf181,
  v46:=Tryz.zeroValue181,
  t105:=Tryz.underlying261,
  a105:=Tryz.isAgg261,
  z105:=Tryz.sizeOf261,
  v105:=Tryz.zeroValue261,
  t116:=Tryz.underlying223,
  a116:=Tryz.isAgg223,
  z116:=Tryz.sizeOf223,
  t117:=Tryz.underlying224,
  a117:=Tryz.isAgg224,
  z117:=Tryz.sizeOf224,
  v117:=Tryz.zeroValue224,
  t119:=Tryz.underlying295,
  a119:=Tryz.isAgg295,
  z119:=Tryz.sizeOf295,
  t124:=Tryz.underlying227,
  a124:=Tryz.isAgg227,
  z124:=Tryz.sizeOf227,
  v124:=Tryz.zeroValue227,
  t138:=Tryz.underlying297,
  a138:=Tryz.isAgg297,
  z138:=Tryz.sizeOf297,
  v138:=Tryz.zeroValue297,
  t139:=Tryz.underlying298,
  a139:=Tryz.isAgg298,
  z139:=Tryz.sizeOf298,
  v139:=Tryz.zeroValue298,
  g3:=by kernel_rfl,
  g4:=by kernel_rfl }
def Tryz.lays190_ren:Go.Shelf.Ren:=⟨fun | 190=>284 | 125=>146 | 258=>304 | 128=>191 | 129=>192 | 302=>311 | 303=>312 | 304=>313 | 305=>314 | 306=>315 | 307=>316 | 308=>317 | 309=>318 | 310=>319 | 333=>322 | 329=>229 | 330=>230 | 334=>323 | 335=>324 | 336=>325 | 344=>326 | n=>n,fun | 31=>46 | 9=>9 | 3=>3 | 46=>181 | 0=>0 | 51=>216 | 53=>218 | 4=>4 | 183=>208 | 182=>207 | 131=>213 | 5=>5 | 218=>243 | 222=>247 | 228=>278 | 229=>279 | n=>n,fun | n=>n⟩
theorem Tryz.lays190:Go.Proofs.Lays.n190 Tryz.prog Tryz.lays190_ren:={
  mixed:=by kernel_rfl,
  f125:=Tryz.func146.trans (congrArg some (by kernel_rfl)),
  f128:=Tryz.func191.trans (congrArg some (by kernel_rfl)),
  f129:=Tryz.func192.trans (congrArg some (by kernel_rfl)),
  f190:=Tryz.func284.trans (congrArg some (by kernel_rfl)),
  f258:=Tryz.func304.trans (congrArg some (by kernel_rfl)),
  f302:=Tryz.func311.trans (congrArg some (by kernel_rfl)),
  f303:=Tryz.func312.trans (congrArg some (by kernel_rfl)),
  f304:=Tryz.func313.trans (congrArg some (by kernel_rfl)),
  f305:=Tryz.func314.trans (congrArg some (by kernel_rfl)),
  f306:=Tryz.func315.trans (congrArg some (by kernel_rfl)),
  f307:=Tryz.func316.trans (congrArg some (by kernel_rfl)),
  f308:=Tryz.func317.trans (congrArg some (by kernel_rfl)),
  f309:=Tryz.func318.trans (congrArg some (by kernel_rfl)),
  f310:=Tryz.func319.trans (congrArg some (by kernel_rfl)),
  f329:=Tryz.func229.trans (congrArg some (by kernel_rfl)),
  f330:=Tryz.func230.trans (congrArg some (by kernel_rfl)),
  f333:=Tryz.func322.trans (congrArg some (by kernel_rfl)),
  f334:=Tryz.func323.trans (congrArg some (by kernel_rfl)),
  f335:=Tryz.func324.trans (congrArg some (by kernel_rfl)),
  f336:=Tryz.func325.trans (congrArg some (by kernel_rfl)),
  f344:=Tryz.func326.trans (congrArg some (by kernel_rfl)),
  t0:=Tryz.underlying0,
  a0:=Tryz.isAgg0,
  z0:=Tryz.sizeOf0,
  v0:=Tryz.zeroValue0,
  t3:=Tryz.underlying3,
  a3:=Tryz.isAgg3,
  z3:=Tryz.sizeOf3,
  v3:=Tryz.zeroValue3,
  t4:=Tryz.underlying4,
  a4:=Tryz.isAgg4,
  z4:=Tryz.sizeOf4,
  v4:=Tryz.zeroValue4,
  t5:=Tryz.underlying5,
  a5:=Tryz.isAgg5,
  z5:=Tryz.sizeOf5,
  v5:=Tryz.zeroValue5,
  t9:=Tryz.underlying9,
  a9:=Tryz.isAgg9,
  z9:=Tryz.sizeOf9,
  v9:=Tryz.zeroValue9,
  t31:=Tryz.underlying46,
  a31:=Tryz.isAgg46,
  z31:=Tryz.sizeOf46,
  v31:=Tryz.zeroValue46,
  t46:=Tryz.underlying181,
  a46:=Tryz.isAgg181,
  z46:=Tryz.sizeOf181,
  v46:=Tryz.zeroValue181,
  t51:=Tryz.underlying216,
  a51:=Tryz.isAgg216,
  z51:=Tryz.sizeOf216,
  v51:=Tryz.zeroValue216,
  t53:=Tryz.underlying218,
  a53:=Tryz.isAgg218,
  z53:=Tryz.sizeOf218,
  v53:=Tryz.zeroValue218,
  t131:=Tryz.underlying213,
  a131:=Tryz.isAgg213,
  z131:=Tryz.sizeOf213,
  v131:=Tryz.zeroValue213,
  t182:=Tryz.underlying207,
  a182:=Tryz.isAgg207,
  z182:=Tryz.sizeOf207,
  v182:=Tryz.zeroValue207,
  t183:=Tryz.underlying208,
  a183:=Tryz.isAgg208,
  z183:=Tryz.sizeOf208,
  v183:=Tryz.zeroValue208,
  t218:=Tryz.underlying243,
  a218:=Tryz.isAgg243,
  z218:=Tryz.sizeOf243,
  v218:=Tryz.zeroValue243,
  t222:=Tryz.underlying247,
  a222:=Tryz.isAgg247,
  z222:=Tryz.sizeOf247,
  v222:=Tryz.zeroValue247,
  t228:=Tryz.underlying278,
  a228:=Tryz.isAgg278,
  z228:=Tryz.sizeOf278,
  v228:=Tryz.zeroValue278,
  t229:=Tryz.underlying279,
  a229:=Tryz.isAgg279,
  z229:=Tryz.sizeOf279,
  v229:=Tryz.zeroValue279 }
end Go.Proofs

/-
  NAMES AND SIGNATURES, BOTH SIDES. Own work.
-/
namespace Go.Fd
set_option maxRecDepth 20000
def Zw0(P:Program)(f:FuncId):Bool:=match P.funcs[f]? with | some fn=>fn.body.isSome && !(fn.name == "runtime.NumGoroutine") | none=>false
theorem Zc8{P:Program}{f:FuncId}(h:Zw0 P f=true):Dy P f:=by
 unfold Zw0 at h
 split at h
 ·rename_i fn hf
  simp only[Bool.and_eq_true,Bool.not_eq_true'] at h
  exact⟨fn,hf,h.1,h.2⟩
 ·cases h
abbrev AZ:ByteArray:=⟨#[97,98,99,100,101,102,103,104,105,106,107,108,109,110,111,112,113,114,115,116,117,118,119,120,121,122]⟩
theorem ZqU(s:ByteArray)(hs:s.size<=9223372036854775807)(lvl:Nat)(S:Sto):Sem Proofs.Tryz.prog D8 lvl [iS s,iS AZ] S (iS ⟨(Lib.trimS s.data.toList AZ.data.toList).toArray⟩) S :=
 ZfD (xs:=[.string s,.string AZ]) (Zc8 (by kernel_rfl)) rfl (fun w=>Go.Proofs.Any.strings_Trim_laid Proofs.Tryz.lays160 (by kernel_rfl) s AZ w hs (by decide) (Go.Proofs.ascii_of_all (by decide)))
def Zcb(s:ByteArray):Prop:=(∀ b∈s.data.toList,97<=b.toNat/\b.toNat<=122)/\1<=s.size/\s.size<=4
theorem ZfZ(s:ByteArray):s.size=s.data.toList.length:=by rw[Array.length_toList];rfl
theorem ZrV(b:UInt8):b∈AZ.data.toList↔97<=b.toNat/\b.toNat<=122:=by
 have:∀ n:Fin 256,(UInt8.ofNat n.val)∈AZ.data.toList↔97<=n.val/\n.val<=122:=by decide +kernel
 have h:UInt8.ofNat b.toNat∈AZ.data.toList↔97<=b.toNat/\b.toNat<=122:=this ⟨b.toNat,b.toNat_lt⟩
 rw[show UInt8.ofNat b.toNat=b from UInt8.ofNat_toNat] at h
 exact h
theorem ZoJ{p:UInt8->Bool}:∀{l:List UInt8},l.dropWhile p=[]↔∀ b∈l,p b=true
 | []=>by simp
 | x::r=>by
  simp only[List.dropWhile_cons,List.mem_cons,forall_eq_or_imp]
  cases h:p x with
  | true=>simp [ZoJ (l:=r)]
  | false=>simp
theorem ZrW{p:UInt8->Bool}{b:UInt8}:∀{l:List UInt8},b∈l.takeWhile p->p b=true
 | [],h=>by simp at h
 | x::r,h=>by
  rw[List.takeWhile_cons] at h
  split at h
  ·rename_i hx
   rcases List.mem_cons.1 h with rfl | h
   ·exact hx
   ·exact ZrW h
  ·cases h
theorem ZqV{l cs:List UInt8}(h:∀ b∈l,b∈cs):l.dropWhile (cs.contains ·)=[]:=by
 rw[ZoJ]
 intro b hb
 simpa using h b hb
theorem trimS_nil{l cs:List UInt8}:Lib.trimS l cs=[]↔∀ b∈l,b∈cs:=by
 unfold Lib.trimS Lib.trimLeftS Lib.trimRightS
 constructor
 ·intro h b hb
  rw[ZoJ] at h
  have hrev:∀ x∈(l.reverse.dropWhile (cs.contains ·)),x∈cs:=fun x hx=>by
   have:=h x (by simpa using hx)
   simpa using this
  have hsplit:l.reverse=l.reverse.takeWhile (cs.contains ·)++l.reverse.dropWhile (cs.contains ·):=(List.takeWhile_append_dropWhile).symm
  have hb2:b∈l.reverse:=by simpa using hb
  rw[hsplit] at hb2
  rcases List.mem_append.1 hb2 with h1 | h1
  ·have:=ZrW h1
   simpa using this
  ·exact hrev b h1
 ·intro h
  rw[ZqV (l:=l.reverse) (fun b hb=>h b (by simpa using hb))]
  rfl
theorem ZdU(s:ByteArray)(hs:s.size<=9223372036854775807)(lvl:Nat)(S:Sto):Sem Proofs.Tryz.prog Vz lvl [iS s] S (iB (dc (Zcb s))) S:=by
 refine Zc Zin trivial ?_
 simp only[ZcK,EVA,seval,Zd,men]
 refine Zz (α:=Unit) s.size (fun j _=>[(3,iI j)]) (fun _ _=>[]) (fun j _=>∀ b∈s.data.toList.take j,97<=b.toNat/\b.toNat<=122) () (by simp only[EVA,seval,Zd,men]) (by (simp only[EVA,seval,Zd,men]) <;> rfl) (fun b hb=>by simp at hb) ?_
 intro j _ hj hA
 simp only[EVA,seval,Zd,men]
 refine Zl (fun hlt=>?_) (fun hge=>?_)
 ·have hja:j<s.data.toList.length:=by rw[<-ZfZ];omega
  have ga:s.data.toList[j]? = some (s.data.toList[j]):=List.getElem?_eq_getElem hja
  have hno:¬ (97<=(s.data.toList[j]).toNat/\(s.data.toList[j]).toNat<=122) -> ¬ Zcb s:=fun h hn=>h (hn.1 _ (List.getElem_mem hja))
  by_cases h1:((s.data.toList[j]).toNat:Int)<97
  ·simp only[ga,h1,EVA,seval,Zd,men]
   rw[Zj (hno (by omega))]
  by_cases h2:(122:Int)<(s.data.toList[j]).toNat
  ·simp only[ga,h1,h2,EVA,seval,Zd,men]
   rw[Zj (hno (by omega))]
  ·simp only[ga,h1,h2,EVA,seval,Zd,men]
   refine⟨by rw[Ze];omega,Zf () (by omega) rfl ?_⟩
   intro b hb
   rw[List.take_succ_eq_append_getElem hja] at hb
   rcases List.mem_append.1 hb with h | h
   ·exact hA b h
   ·have:b=s.data.toList[j]:=by simpa using h
    subst this
    omega
 ·have:j=s.size:=by omega
  subst this
  rw[ZfZ,List.take_length] at hA
  refine Za (QE s.size 1 4) ?_
  simp only[EVA,seval,Zd,men]
  rw[Vs (q:=1<=s.size/\s.size<=4) ⟨fun h=>h.2,fun h=>⟨hA,h⟩⟩]
  by_cases h:1<=s.size/\s.size<=4
  ·rw[ZN h,inB_iff.2 (by omega)]
  ·rw[Zj h,inB_not.2 (by omega)]
theorem Dg(s:ByteArray)(hs:s.size<=9223372036854775807)(lvl:Nat)(S:Sto):Sem Proofs.Tryz.prog Ye lvl [iS s] S (iB (dc (Zcb s))) S:=by
 refine Zc Ziq trivial ?_
 simp only[ZcL,EVA,seval,Zd,men]
 refine Za (YS s.size 1 4) ?_
 simp only[EVA,seval,Zd,men]
 cases hin:inB (s.size:Int) 1 4 with
 | false =>
  have:¬ Zcb s:=fun h=>(inB_not.1 hin) (by have:=h.2;omega)
  rw[Zj this]
  simp only[EVA,seval,Zd,men]
 | true =>
  have hin':=inB_iff.1 hin
  simp only[EVA,seval,Zd,men]
  refine Za (ZqU s hs) ?_
  simp only[EVA,seval,Zd,men]
  by_cases h:Zcb s
  ·have:Lib.trimS s.data.toList AZ.data.toList=[]:=trimS_nil.2 (fun b hb=>(ZrV b).2 (h.1 b hb))
   rw[ZN h,this]
   rfl
  ·have:¬ Lib.trimS s.data.toList AZ.data.toList=[]:=fun e=>h ⟨fun b hb=>(ZrV b).1 (trimS_nil.1 e b hb),by omega,by omega⟩
   rw[Zj h]
   have h2:¬ (⟨(Lib.trimS s.data.toList AZ.data.toList).toArray⟩:ByteArray)=⟨#[]⟩:=fun e=>this (by
    have:=congrArg (fun b:ByteArray=>b.data.toList) e
    simpa using this)
   simp [h2]
def ZqW(c:TControl):Prop:=Zcb c.name/\(0<=c.ports/\c.ports<=3)/\0<=c.kind_/\c.kind_<=2
def ZoK(sig:List TControl)(i:Nat):Prop:=∀ h:i<sig.length,ZqW sig[i]/\∀ k (hk:k<i),(sig[k]'(by omega)).name≠sig[i].name
def Yl(sig:List TControl):Prop:=(∀ i,ZoK sig i)/\1<=sig.length/\sig.length<=6
theorem ZdV(c d:TControl)(lvl:Nat)(S:Sto):Sem Proofs.Tryz.prog Yi lvl [.ag ((Zh d).map .tr),.ta (Zh c)] S (iB (decide (d.name=c.name))) S:=by
 refine Zc Zbq trivial ?_
 simp only[Ww,Zh,EVA,seval,Zd,men]
theorem ZjZ:ZK Proofs.Tryz.prog Jq (ZoD 3 (some 3))=true:=by kernel_rfl
theorem Zj0:ZK Proofs.Tryz.prog Jh (ZrU Jq)=true:=by kernel_rfl
theorem Zj1(sig:List TControl)(hl:sig.length<=9223372036854775807)(hb:∀ y∈sig,Zp 9223372036854775807 y)(lvl:Nat)(S:Sto):Sem Proofs.Tryz.prog X0 lvl [.tr (.sl (sig.map Zh))] S (iB (dc (Yl sig))) S:=by
 refine Zc ZjQ trivial ?_
 simp only[Zem,List.length_map,EVA,seval,Zd,men]
 refine Zz (α:=Unit) sig.length (fun j _=>[(3,iI j)]) (fun _ _=>[]) (fun j _=>∀ i,i<j->ZoK sig i) () (by simp only[EVA,seval,Zd,men]) (by (simp only[EVA,seval,Zd,men]) <;> rfl) (fun i hi=>by omega) ?_
 intro j _ hj hA
 simp only[List.length_map,EVA,seval,Zd,men]
 refine Zl (fun hlt=>?_) (fun hge=>?_)
 ·have hja:j<sig.length:=by omega
  have ga:=WH (c:=Zh) hja
  have hbj:sig[j].name.size<=9223372036854775807:=hb _ (List.getElem_mem hja)
  have hno:¬ ZqW sig[j] -> ¬ Yl sig:=fun h hs=>h (hs.1 j hja).1
  simp only[ga,Zh,EVA,seval,Zd,men]
  refine Za (ZdU sig[j].name hbj) ?_
  simp only[ga,Zh,EVA,seval,Zd,men]
  cases hn:dc (Zcb sig[j].name) with
  | false =>
   simp only[EVA,seval,Zd,men]
   rw[Zj (hno fun h=>dc_not.1 hn h.1)]
  | true =>
   have hn':=dc_iff.1 hn
   simp only[ga,Zh,EVA,seval,Zd,men]
   refine Za (QE sig[j].ports 0 3) ?_
   simp only[ga,Zh,EVA,seval,Zd,men]
   cases hp:inB sig[j].ports 0 3 with
   | false =>
    simp only[EVA,seval,Zd,men]
    rw[Zj (hno fun h=>inB_not.1 hp h.2.1)]
   | true =>
    have hp':=inB_iff.1 hp
    simp only[ga,Zh,EVA,seval,Zd,men]
    refine Za (QE sig[j].kind_ 0 2) ?_
    simp only[ga,Zh,EVA,seval,Zd,men]
    cases hk:inB sig[j].kind_ 0 2 with
    | false =>
     simp only[EVA,seval,Zd,men]
     rw[Zj (hno fun h=>inB_not.1 hk h.2.2)]
    | true =>
     have hk':=inB_iff.1 hk
     simp only[EVA,seval,Zd,men]
     refine Zz (α:=Unit) j (fun k _=>[(4,iI k)]) (fun _ _=>[]) (fun k _=>∀ i (hi:i<k),k<=j->∀ hi2:i<sig.length,(sig[i]'hi2).name≠sig[j].name) () (by simp only[EVA,seval,Zd,men]) (by (simp only[EVA,seval,Zd,men]) <;> rfl) (fun i hi=>by omega) ?_
     intro k _ hkj hB
     simp only[List.length_map,EVA,seval,Zd,men]
     refine Zl (fun hlt2=>?_) (fun hge2=>?_)
     ·have hka:k<sig.length:=by omega
      have gb:=WH (c:=Zh) hka
      simp only[ga,gb,Zh,EVA,seval,Zd,men]
      refine Zl (fun he=>?_) (fun hne=>?_)
      ·rw[Zj (fun hs:Yl sig=>(hs.1 j hja).2 k (by omega) he)]
      ·refine⟨by rw[Ze];omega,Zf () (by omega) rfl (fun i hi _ hi2=>?_)⟩
       by_cases e:i=k
       ·subst e;exact hne
       ·exact hB i (by omega) (by omega) hi2
     ·have:k=j:=by omega
      subst this
      refine⟨by rw[Ze];omega,Zf () hja rfl (fun i hi=>?_)⟩
      by_cases e:i=k
      ·subst e
       exact fun h=>⟨⟨hn',hp',hk'⟩,fun q hq=>hB q hq (Nat.le_refl _) (by omega)⟩
      ·exact hA i (by omega)
 ·have:j=sig.length:=by omega
  subst this
  refine Za (QE sig.length 1 6) ?_
  simp only[EVA,seval,Zd,men]
  have hall:∀ i,ZoK sig i:=fun i h=>hA i h h
  rw[Vs (q:=1<=sig.length/\sig.length<=6) ⟨fun h=>h.2,fun h=>⟨hall,h⟩⟩]
  by_cases h:1<=sig.length/\sig.length<=6
  ·rw[ZN h,inB_iff.2 (by omega)]
  ·rw[Zj h,inB_not.2 (by omega)]
theorem Qf(sig:List TControl)(hl:sig.length<=9223372036854775807)(hb:∀ y∈sig,Zp 9223372036854775807 y)(lvl:Nat)(S:Sto):Sem Proofs.Tryz.prog JV lvl [.tr (.sl (sig.map Zh))] S (iB (dc (Yl sig))) S:=by
 refine Zc ZcH trivial ?_
 simp only[Uz,List.length_map,EVA,seval,Zd,men]
 refine Za (YS sig.length 1 6) ?_
 simp only[List.length_map,EVA,seval,Zd,men]
 refine Zl (fun h=>?_) (fun h=>?_)
 ·rw[Zj (fun hs:Yl sig=>(inB_not.1 h) (by have:=hs.2;omega))]
 have hln:=inB_iff.1 (by simpa using h)
 refine Zz (α:=Unit) sig.length (fun j _=>[(11,iI j)]) (fun _ _=>[]) (fun j _=>∀ i,i<j->ZoK sig i) () (by simp only[EVA,seval,Zd,men]) (by (simp only[EVA,seval,Zd,men]) <;> rfl) (fun i hi=>by omega) ?_
 intro j _ hj hA
 simp only[List.length_map,EVA,seval,Zd,men]
 refine Zl (fun hlt=>?_) (fun hge=>?_)
 ·have hja:j<sig.length:=by omega
  have ga:=WH (c:=Zh) hja
  have hbj:sig[j].name.size<=9223372036854775807:=hb _ (List.getElem_mem hja)
  have hno:¬ ZqW sig[j] -> ¬ Yl sig:=fun h hs=>h (hs.1 j hja).1
  simp only[ga,Zh,EVA,seval,Zd,men]
  refine Za (Dg sig[j].name hbj) ?_
  simp only[ga,Zh,EVA,seval,Zd,men]
  cases hn:dc (Zcb sig[j].name) with
  | false =>
   simp only[EVA,seval,Zd,men]
   rw[Zj (hno fun h=>dc_not.1 hn h.1)]
  | true =>
   have hn':=dc_iff.1 hn
   simp only[ga,Zh,EVA,seval,Zd,men]
   refine Za (YS sig[j].ports 0 3) ?_
   simp only[ga,Zh,EVA,seval,Zd,men]
   cases hp:inB sig[j].ports 0 3 with
   | false =>
    simp only[EVA,seval,Zd,men]
    rw[Zj (hno fun h=>inB_not.1 hp h.2.1)]
   | true =>
    have hp':=inB_iff.1 hp
    simp only[ga,Zh,EVA,seval,Zd,men]
    refine Za (YS sig[j].kind_ 0 2) ?_
    simp only[ga,Zh,EVA,seval,Zd,men]
    cases hk:inB sig[j].kind_ 0 2 with
    | false =>
     simp only[EVA,seval,Zd,men]
     rw[Zj (hno fun h=>inB_not.1 hk h.2.2)]
    | true =>
     have hk':=inB_iff.1 hk
     have hjl:j<=sig.length:=by omega
     simp only[List.length_map,hjl,EVA,seval,Zd,men]
     have hc:=Zmf (P:=Proofs.Tryz.prog) Zj0 ZjZ Zek (f:=fun d:TControl=>decide (d.name=sig[j].name)) (fe:=Yi) (cs:=[Zh sig[j]]) (sig.take j) (by rw[List.length_take];omega) (fun d _ lvl S=>ZdV sig[j] d lvl S)
     rw[<-ZoE] at hc
     refine⟨fun h=>h.elim,Nat.zero_le _,Za hc ?_⟩
     simp only[EVA,seval,Zd,men]
     cases ha:(sig.take j).any (fun d:TControl=>decide (d.name=sig[j].name)) with
     | true =>
      simp only[EVA,seval,Zd,men]
      obtain⟨d,hd,he⟩:=List.any_eq_true.1 ha
      obtain⟨q,hq,rfl⟩:=List.getElem_of_mem hd
      rw[List.length_take] at hq
      rw[Zj (fun hs:Yl sig=>(hs.1 j hja).2 q (by omega) (by simpa using he))]
     | false =>
      simp only[EVA,seval,Zd,men]
      refine⟨by rw[Ze];omega,Zf () hja rfl (fun i hi=>?_)⟩
      by_cases e:i=j
      ·subst e
       refine fun h=>⟨⟨hn',hp',hk'⟩,fun q hq=>?_⟩
       have:=(List.any_eq_false.1 ha) sig[q] (by
        rw[List.mem_take_iff_getElem]
        exact⟨q,by omega,rfl⟩)
       simpa using this
      ·exact hA i (by omega)
 ·have:j=sig.length:=by omega
  subst this
  have hall:∀ i,ZoK sig i:=fun i h=>hA i h h
  rw[ZN (p:=Yl sig) ⟨hall,by omega,by omega⟩]
theorem YA(a b:List Int):rI (a++b)=rI a++rI b:=List.map_append
theorem ZrX:ZK Proofs.Tryz.prog Vq (ZoD 1 none)=true:=by kernel_rfl
theorem ZrY:ZK Proofs.Tryz.prog JG (ZrU Vq)=true:=by kernel_rfl
end Go.Fd
