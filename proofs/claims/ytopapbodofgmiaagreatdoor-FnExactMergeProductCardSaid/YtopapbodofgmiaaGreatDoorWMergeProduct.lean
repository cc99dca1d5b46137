/-
  WHAT THE LAW OF MergeProduct LEANS ON. Own work.
-/
import Derived.Test.YtopapbodofgmiaaGreatDoorT08
set_option linter.all false
namespace Go.Fd
theorem Dv (sig : List TControl) (a b : TBigraph) (_hn : sig.length <= 4294967296) (_hbs : ∀ y ∈ sig, ZD 4294967296 y) (_ha : Zl 4294967296 a) (_hb : Zl 4294967296 b) : Zl 4294967296 (Zs sig a b) /\ 1 + (ZI (Zs sig a b) : Int) <= 4611686018427387904 := by
 unfold Zs
 split
 ·rename_i h; exact ZkP ((ZkR (ZbW h.1 h.2.1)).2 h.2.2.2).1
 ·exact ZhF
end Go.Fd

/-
  THE LAW OF MergeProduct (printed by lawtext.py). Own work.
-/
namespace Go.Fd
set_option maxRecDepth 20000
set_option maxHeartbeats 2000000 in
theorem Uw (x0 : (List TControl)) (x1 : TBigraph) (x2 : TBigraph) (hb0_0 : x0.length <= 9223372036854775807) (hb0_1 : ∀ y ∈ x0, ZD 9223372036854775807 y) (hb1_0 : Zl 9223372036854775807 x1) (hb2_0 : Zl 9223372036854775807 x2) (hf1 : Zx x1) (hf2 : Zx x2) (lvl : Nat) (S : Sto) : Sem Go.Proofs.Tryz.prog YO lvl [.tr (.sl (x0.map Zn)), .ag ((Za x1).map .tr), .ag ((Za x2).map .tr)] S (iB true) S := by
 refine Zf X9 trivial ?_
 simp only [Vk, List.length_map, Zh, Zj, Zd, ne_eq, not_true_eq_false, bne_self_eq_false, Za, Zc, EVA, ↓reduceIte, Nat.reduceEqDiff, Nat.reduceMul, reduceCtorEq, Nat.reduceAdd, Nat.reduceSub, Nat.reduceLeDiff, Nat.reduceLT, Int.reduceToNat, Int.reduceLE, Int.reduceLT, Ze, men]
 have ul : (1048576 : Int) <= 1048576 := Int.le_refl _
 obtain ⟨_, ha0⟩ := WC x0 hb0_0 hb0_1 (1048576) (by omega) (by omega)
 refine Zb ha0 ?_
 simp only [List.length_map, Zh, Zj, Zd, ne_eq, not_true_eq_false, bne_self_eq_false, Za, Zc, EVA, ↓reduceIte, Nat.reduceEqDiff, Nat.reduceMul, reduceCtorEq, Nat.reduceAdd, Nat.reduceSub, Nat.reduceLeDiff, Nat.reduceLT, Int.reduceToNat, Int.reduceLE, Int.reduceLT, Ze, men]
 refine Zu (fun _ => trivial) (fun hz0 => ?_)
 have zp0 := (ZoY (f := ZL) (fun y => (Zdj y)) x0) (1048576) (by omega) (by omega)
 have zq0 := (ZoX (f := ZL) (n := JD) (fun y => ZaV (ZdD y) (by omega)) x0) (1048576) (by omega) (by omega)
 simp only at zp0 zq0
 have hp0 := zp0.2 (by omega)
 have hq0 := zq0.2 (by omega)
 obtain ⟨hs0_0, hs0_1⟩ := hp0
 obtain ⟨_, ha1⟩ := Vi x1 hb1_0 (szL ZL x0 (1048576)) (by omega) (by omega)
 refine Zb ha1 ?_
 simp only [List.length_map, Zh, Zj, Zd, ne_eq, not_true_eq_false, bne_self_eq_false, Za, Zc, EVA, ↓reduceIte, Nat.reduceEqDiff, Nat.reduceMul, reduceCtorEq, Nat.reduceAdd, Nat.reduceSub, Nat.reduceLeDiff, Nat.reduceLT, Int.reduceToNat, Int.reduceLE, Int.reduceLT, Ze, men]
 refine Zu (fun _ => trivial) (fun hz1 => ?_)
 have zp1 := (WZ x1) (szL ZL x0 (1048576)) (by omega) (by omega)
 have zq1 := (W3 x1) (szL ZL x0 (1048576)) (by omega) (by omega)
 simp only at zp1 zq1
 have hp1 := zp1.2 (by omega)
 have hq1 := zq1.2 (by omega)
 have hs1_0 := hp1
 obtain ⟨_, ha2⟩ := Vi x2 hb2_0 (JU x1 (szL ZL x0 (1048576))) (by omega) (by omega)
 refine Zb ha2 ?_
 simp only [List.length_map, Zh, Zj, Zd, ne_eq, not_true_eq_false, bne_self_eq_false, Za, Zc, EVA, ↓reduceIte, Nat.reduceEqDiff, Nat.reduceMul, reduceCtorEq, Nat.reduceAdd, Nat.reduceSub, Nat.reduceLeDiff, Nat.reduceLT, Int.reduceToNat, Int.reduceLE, Int.reduceLT, Ze, men]
 refine Zu (fun _ => trivial) (fun hz2 => ?_)
 have zp2 := (WZ x2) (JU x1 (szL ZL x0 (1048576))) (by omega) (by omega)
 have zq2 := (W3 x2) (JU x1 (szL ZL x0 (1048576))) (by omega) (by omega)
 simp only at zp2 zq2
 have hp2 := zp2.2 (by omega)
 have hq2 := zq2.2 (by omega)
 have hs2_0 := hp2
 refine Zb (ZE x0 hs0_0 hs0_1) ?_
 simp only [List.length_map, Zh, Zj, Zd, ne_eq, not_true_eq_false, bne_self_eq_false, Za, Zc, EVA, ↓reduceIte, Nat.reduceEqDiff, Nat.reduceMul, reduceCtorEq, Nat.reduceAdd, Nat.reduceSub, Nat.reduceLeDiff, Nat.reduceLT, Int.reduceToNat, Int.reduceLE, Int.reduceLT, Ze, men]
 refine Zb (Zo x1 hs1_0) ?_
 simp only [List.length_map, Zh, Zj, Zd, ne_eq, not_true_eq_false, bne_self_eq_false, Za, Zc, EVA, ↓reduceIte, Nat.reduceEqDiff, Nat.reduceMul, reduceCtorEq, Nat.reduceAdd, Nat.reduceSub, Nat.reduceLeDiff, Nat.reduceLT, Int.reduceToNat, Int.reduceLE, Int.reduceLT, Ze, men]
 refine Zb (Zo x2 hs2_0) ?_
 simp only [List.length_map, Zh, Zj, Zd, ne_eq, not_true_eq_false, bne_self_eq_false, Za, Zc, EVA, ↓reduceIte, Nat.reduceEqDiff, Nat.reduceMul, reduceCtorEq, Nat.reduceAdd, Nat.reduceSub, Nat.reduceLeDiff, Nat.reduceLT, Int.reduceToNat, Int.reduceLE, Int.reduceLT, Ze, men]
 by_cases hB : YU x0 x1 x2
 ·refine Zb (Uu x0 x1 x2 hs0_0 hs0_1 hs1_0 hs2_0 hf1 hf2 hB) ?_
  simp only [List.length_map, Zh, Zj, Zd, ne_eq, not_true_eq_false, bne_self_eq_false, Za, Zc, EVA, ↓reduceIte, Nat.reduceEqDiff, Nat.reduceMul, reduceCtorEq, Nat.reduceAdd, Nat.reduceSub, Nat.reduceLeDiff, Nat.reduceLT, Int.reduceToNat, Int.reduceLE, Int.reduceLT, Ze, men]
  refine Zb (ZE x0 hs0_0 hs0_1) ?_
  simp only [List.length_map, Zh, Zj, Zd, ne_eq, not_true_eq_false, bne_self_eq_false, Za, Zc, EVA, ↓reduceIte, Nat.reduceEqDiff, Nat.reduceMul, reduceCtorEq, Nat.reduceAdd, Nat.reduceSub, Nat.reduceLeDiff, Nat.reduceLT, Int.reduceToNat, Int.reduceLE, Int.reduceLT, Ze, men]
  refine Zb (Zo x1 hs1_0) ?_
  simp only [List.length_map, Zh, Zj, Zd, ne_eq, not_true_eq_false, bne_self_eq_false, Za, Zc, EVA, ↓reduceIte, Nat.reduceEqDiff, Nat.reduceMul, reduceCtorEq, Nat.reduceAdd, Nat.reduceSub, Nat.reduceLeDiff, Nat.reduceLT, Int.reduceToNat, Int.reduceLE, Int.reduceLT, Ze, men]
  refine Zb (Zo x2 hs2_0) ?_
  simp only [List.length_map, Zh, Zj, Zd, ne_eq, not_true_eq_false, bne_self_eq_false, Za, Zc, EVA, ↓reduceIte, Nat.reduceEqDiff, Nat.reduceMul, reduceCtorEq, Nat.reduceAdd, Nat.reduceSub, Nat.reduceLeDiff, Nat.reduceLT, Int.reduceToNat, Int.reduceLE, Int.reduceLT, Ze, men]
  refine Zb (Yj x0 x1 x2 hs0_0 hs0_1 hs1_0 hs2_0 hf1 hf2) ?_
  simp only [List.length_map, Zh, Zj, Zd, ne_eq, not_true_eq_false, bne_self_eq_false, Za, Zc, EVA, ↓reduceIte, Nat.reduceEqDiff, Nat.reduceMul, reduceCtorEq, Nat.reduceAdd, Nat.reduceSub, Nat.reduceLeDiff, Nat.reduceLT, Int.reduceToNat, Int.reduceLE, Int.reduceLT, Ze, men]
  obtain ⟨hr0_0, hrn⟩ := Dv x0 x1 x2 hs0_0 hs0_1 hs1_0 hs2_0
  refine Zb (Zv (Zs x0 x1 x2) (Zs x0 x1 x2) (Z5 hr0_0)) ?_
  simp only [List.length_map, Zh, Zj, Zd, ne_eq, not_true_eq_false, bne_self_eq_false, Za, Zc, EVA, ↓reduceIte, Nat.reduceEqDiff, Nat.reduceMul, reduceCtorEq, Nat.reduceAdd, Nat.reduceSub, Nat.reduceLeDiff, Nat.reduceLT, Int.reduceToNat, Int.reduceLE, Int.reduceLT, Ze, men]
  refine Zb (ZE x0 hs0_0 hs0_1) ?_
  simp only [List.length_map, Zh, Zj, Zd, ne_eq, not_true_eq_false, bne_self_eq_false, Za, Zc, EVA, ↓reduceIte, Nat.reduceEqDiff, Nat.reduceMul, reduceCtorEq, Nat.reduceAdd, Nat.reduceSub, Nat.reduceLeDiff, Nat.reduceLT, Int.reduceToNat, Int.reduceLE, Int.reduceLT, Ze, men]
  refine Zb (YH x0 x0 hb0_0 hb0_1) ?_
  simp only [List.length_map, Zh, Zj, Zd, ne_eq, not_true_eq_false, bne_self_eq_false, Za, Zc, EVA, ↓reduceIte, Nat.reduceEqDiff, Nat.reduceMul, reduceCtorEq, Nat.reduceAdd, Nat.reduceSub, Nat.reduceLeDiff, Nat.reduceLT, Int.reduceToNat, Int.reduceLE, Int.reduceLT, Ze, men]
  refine Zb (Zo x1 hs1_0) ?_
  simp only [List.length_map, Zh, Zj, Zd, ne_eq, not_true_eq_false, bne_self_eq_false, Za, Zc, EVA, ↓reduceIte, Nat.reduceEqDiff, Nat.reduceMul, reduceCtorEq, Nat.reduceAdd, Nat.reduceSub, Nat.reduceLeDiff, Nat.reduceLT, Int.reduceToNat, Int.reduceLE, Int.reduceLT, Ze, men]
  refine Zb (Zv x1 x1 hb1_0) ?_
  simp only [List.length_map, Zh, Zj, Zd, ne_eq, not_true_eq_false, bne_self_eq_false, Za, Zc, EVA, ↓reduceIte, Nat.reduceEqDiff, Nat.reduceMul, reduceCtorEq, Nat.reduceAdd, Nat.reduceSub, Nat.reduceLeDiff, Nat.reduceLT, Int.reduceToNat, Int.reduceLE, Int.reduceLT, Ze, men]
  refine Zb (Zo x2 hs2_0) ?_
  simp only [List.length_map, Zh, Zj, Zd, ne_eq, not_true_eq_false, bne_self_eq_false, Za, Zc, EVA, ↓reduceIte, Nat.reduceEqDiff, Nat.reduceMul, reduceCtorEq, Nat.reduceAdd, Nat.reduceSub, Nat.reduceLeDiff, Nat.reduceLT, Int.reduceToNat, Int.reduceLE, Int.reduceLT, Ze, men]
  refine Zb (Zv x2 x2 hb2_0) ?_
  simp only [List.length_map, Zh, Zj, Zd, ne_eq, not_true_eq_false, bne_self_eq_false, Za, Zc, EVA, ↓reduceIte, Nat.reduceEqDiff, Nat.reduceMul, reduceCtorEq, Nat.reduceAdd, Nat.reduceSub, Nat.reduceLeDiff, Nat.reduceLT, Int.reduceToNat, Int.reduceLE, Int.reduceLT, Ze, men]
  simp only [WD]
  refine WO Vh (a := x0) rfl (by omega) (by omega) hs0_0 hs0_1 ?_
  simp only [List.length_map, Zh, Zj, Zd, ne_eq, not_true_eq_false, bne_self_eq_false, Za, Zc, EVA, ↓reduceIte, Nat.reduceEqDiff, Nat.reduceMul, reduceCtorEq, Nat.reduceAdd, Nat.reduceSub, Nat.reduceLeDiff, Nat.reduceLT, Int.reduceToNat, Int.reduceLE, Int.reduceLT, Ze, men]
  simp only [WD]
  refine ZH (x := x1) (by decide) (by decide) (by decide) (by decide) (by decide) (by decide) rfl rfl rfl rfl (by omega) (by omega) hs1_0 ?_
  simp only [List.length_map, Zh, Zj, Zd, ne_eq, not_true_eq_false, bne_self_eq_false, Za, Zc, EVA, ↓reduceIte, Nat.reduceEqDiff, Nat.reduceMul, reduceCtorEq, Nat.reduceAdd, Nat.reduceSub, Nat.reduceLeDiff, Nat.reduceLT, Int.reduceToNat, Int.reduceLE, Int.reduceLT, Ze, men]
  simp only [WD]
  refine ZH (x := x2) (by decide) (by decide) (by decide) (by decide) (by decide) (by decide) rfl rfl rfl rfl (by omega) (by omega) hs2_0 ?_
  simp only [List.length_map, Zh, Zj, Zd, ne_eq, not_true_eq_false, bne_self_eq_false, Za, Zc, EVA, ↓reduceIte, Nat.reduceEqDiff, Nat.reduceMul, reduceCtorEq, Nat.reduceAdd, Nat.reduceSub, Nat.reduceLeDiff, Nat.reduceLT, Int.reduceToNat, Int.reduceLE, Int.reduceLT, Ze, men]
  have hk0 : ¬ (1 + (nL JD x0 : Nat) + (ZI x1 : Nat) + (ZI x2 : Nat) < (0 : Int)) := by omega
  simp only [hk0, List.length_map, Zh, Zj, Zd, ne_eq, not_true_eq_false, bne_self_eq_false, Za, Zc, EVA, ↓reduceIte, Nat.reduceEqDiff, Nat.reduceMul, reduceCtorEq, Nat.reduceAdd, Nat.reduceSub, Nat.reduceLeDiff, Nat.reduceLT, Int.reduceToNat, Int.reduceLE, Int.reduceLT, Ze, men]
  refine Zb (Zv (Zs x0 x1 x2) (Zs x0 x1 x2) (Z5 hr0_0)) ?_
  simp only [List.length_map, Zh, Zj, Zd, ne_eq, not_true_eq_false, bne_self_eq_false, Za, Zc, EVA, ↓reduceIte, Nat.reduceEqDiff, Nat.reduceMul, reduceCtorEq, Nat.reduceAdd, Nat.reduceSub, Nat.reduceLeDiff, Nat.reduceLT, Int.reduceToNat, Int.reduceLE, Int.reduceLT, Ze, men]
  simp only [WD]
  refine ZH (x := (Zs x0 x1 x2)) (by decide) (by decide) (by decide) (by decide) (by decide) (by decide) rfl rfl rfl rfl (by omega) (by omega) hr0_0 ?_
  simp only [List.length_map, Zh, Zj, Zd, ne_eq, not_true_eq_false, bne_self_eq_false, Za, Zc, EVA, ↓reduceIte, Nat.reduceEqDiff, Nat.reduceMul, reduceCtorEq, Nat.reduceAdd, Nat.reduceSub, Nat.reduceLeDiff, Nat.reduceLT, Int.reduceToNat, Int.reduceLE, Int.reduceLT, Ze, men]
  refine Zb (Jz (Zs x0 x1 x2) (1) hr0_0 (by omega) (by omega)) ?_
  have hh0 : ¬ (1 + (ZI (Zs x0 x1 x2) : Nat) < (0 : Int)) := by omega
  simp only [hh0, List.length_map, Zh, Zj, Zd, ne_eq, not_true_eq_false, bne_self_eq_false, Za, Zc, EVA, ↓reduceIte, Nat.reduceEqDiff, Nat.reduceMul, reduceCtorEq, Nat.reduceAdd, Nat.reduceSub, Nat.reduceLeDiff, Nat.reduceLT, Int.reduceToNat, Int.reduceLE, Int.reduceLT, Ze, men]
  refine Zb (ZE x0 hs0_0 hs0_1) ?_
  simp only [List.length_map, Zh, Zj, Zd, ne_eq, not_true_eq_false, bne_self_eq_false, Za, Zc, EVA, ↓reduceIte, Nat.reduceEqDiff, Nat.reduceMul, reduceCtorEq, Nat.reduceAdd, Nat.reduceSub, Nat.reduceLeDiff, Nat.reduceLT, Int.reduceToNat, Int.reduceLE, Int.reduceLT, Ze, men]
  refine Zb (Zo x1 hs1_0) ?_
  simp only [List.length_map, Zh, Zj, Zd, ne_eq, not_true_eq_false, bne_self_eq_false, Za, Zc, EVA, ↓reduceIte, Nat.reduceEqDiff, Nat.reduceMul, reduceCtorEq, Nat.reduceAdd, Nat.reduceSub, Nat.reduceLeDiff, Nat.reduceLT, Int.reduceToNat, Int.reduceLE, Int.reduceLT, Ze, men]
  refine Zb (Zo x2 hs2_0) ?_
  simp only [List.length_map, Zh, Zj, Zd, ne_eq, not_true_eq_false, bne_self_eq_false, Za, Zc, EVA, ↓reduceIte, Nat.reduceEqDiff, Nat.reduceMul, reduceCtorEq, Nat.reduceAdd, Nat.reduceSub, Nat.reduceLeDiff, Nat.reduceLT, Int.reduceToNat, Int.reduceLE, Int.reduceLT, Ze, men]
  refine Zb (Yj x0 x1 x2 hs0_0 hs0_1 hs1_0 hs2_0 hf1 hf2) ?_
  simp only [List.length_map, Zh, Zj, Zd, ne_eq, not_true_eq_false, bne_self_eq_false, Za, Zc, EVA, ↓reduceIte, Nat.reduceEqDiff, Nat.reduceMul, reduceCtorEq, Nat.reduceAdd, Nat.reduceSub, Nat.reduceLeDiff, Nat.reduceLT, Int.reduceToNat, Int.reduceLE, Int.reduceLT, Ze, men]
  refine Zb (Zv (Zs x0 x1 x2) (Zs x0 x1 x2) (Z5 hr0_0)) ?_
  simp only [List.length_map, Zh, Zj, Zd, ne_eq, not_true_eq_false, bne_self_eq_false, Za, Zc, EVA, ↓reduceIte, Nat.reduceEqDiff, Nat.reduceMul, reduceCtorEq, Nat.reduceAdd, Nat.reduceSub, Nat.reduceLeDiff, Nat.reduceLT, Int.reduceToNat, Int.reduceLE, Int.reduceLT, Ze, men]
  refine Zb (Jz (Zs x0 x1 x2) (1) hr0_0 (by omega) (by omega)) ?_
  have hh0 : ¬ (1 + (ZI (Zs x0 x1 x2) : Nat) < (0 : Int)) := by omega
  simp only [hh0, List.length_map, Zh, Zj, Zd, ne_eq, not_true_eq_false, bne_self_eq_false, Za, Zc, EVA, ↓reduceIte, Nat.reduceEqDiff, Nat.reduceMul, reduceCtorEq, Nat.reduceAdd, Nat.reduceSub, Nat.reduceLeDiff, Nat.reduceLT, Int.reduceToNat, Int.reduceLE, Int.reduceLT, Ze, men]
 ·refine Zb (Uv x0 x1 x2 hs0_0 hs0_1 hs1_0 hs2_0 hf1 hf2 hB) ?_
  simp only [List.length_map, Zh, Zj, Zd, ne_eq, not_true_eq_false, bne_self_eq_false, Za, Zc, EVA, ↓reduceIte, Nat.reduceEqDiff, Nat.reduceMul, reduceCtorEq, Nat.reduceAdd, Nat.reduceSub, Nat.reduceLeDiff, Nat.reduceLT, Int.reduceToNat, Int.reduceLE, Int.reduceLT, Ze, men]
  refine Zb (ZE x0 hs0_0 hs0_1) ?_
  simp only [List.length_map, Zh, Zj, Zd, ne_eq, not_true_eq_false, bne_self_eq_false, Za, Zc, EVA, ↓reduceIte, Nat.reduceEqDiff, Nat.reduceMul, reduceCtorEq, Nat.reduceAdd, Nat.reduceSub, Nat.reduceLeDiff, Nat.reduceLT, Int.reduceToNat, Int.reduceLE, Int.reduceLT, Ze, men]
  refine Zb (Zo x1 hs1_0) ?_
  simp only [List.length_map, Zh, Zj, Zd, ne_eq, not_true_eq_false, bne_self_eq_false, Za, Zc, EVA, ↓reduceIte, Nat.reduceEqDiff, Nat.reduceMul, reduceCtorEq, Nat.reduceAdd, Nat.reduceSub, Nat.reduceLeDiff, Nat.reduceLT, Int.reduceToNat, Int.reduceLE, Int.reduceLT, Ze, men]
  refine Zb (Zo x2 hs2_0) ?_
  simp only [List.length_map, Zh, Zj, Zd, ne_eq, not_true_eq_false, bne_self_eq_false, Za, Zc, EVA, ↓reduceIte, Nat.reduceEqDiff, Nat.reduceMul, reduceCtorEq, Nat.reduceAdd, Nat.reduceSub, Nat.reduceLeDiff, Nat.reduceLT, Int.reduceToNat, Int.reduceLE, Int.reduceLT, Ze, men]
  refine Zb (Yj x0 x1 x2 hs0_0 hs0_1 hs1_0 hs2_0 hf1 hf2) ?_
  simp only [List.length_map, Zh, Zj, Zd, ne_eq, not_true_eq_false, bne_self_eq_false, Za, Zc, EVA, ↓reduceIte, Nat.reduceEqDiff, Nat.reduceMul, reduceCtorEq, Nat.reduceAdd, Nat.reduceSub, Nat.reduceLeDiff, Nat.reduceLT, Int.reduceToNat, Int.reduceLE, Int.reduceLT, Ze, men]
  obtain ⟨hr0_0, hrn⟩ := Dv x0 x1 x2 hs0_0 hs0_1 hs1_0 hs2_0
  refine Zb (Zv (Zs x0 x1 x2) (Zs x0 x1 x2) (Z5 hr0_0)) ?_
  simp only [List.length_map, Zh, Zj, Zd, ne_eq, not_true_eq_false, bne_self_eq_false, Za, Zc, EVA, ↓reduceIte, Nat.reduceEqDiff, Nat.reduceMul, reduceCtorEq, Nat.reduceAdd, Nat.reduceSub, Nat.reduceLeDiff, Nat.reduceLT, Int.reduceToNat, Int.reduceLE, Int.reduceLT, Ze, men]
  refine Zb (ZE x0 hs0_0 hs0_1) ?_
  simp only [List.length_map, Zh, Zj, Zd, ne_eq, not_true_eq_false, bne_self_eq_false, Za, Zc, EVA, ↓reduceIte, Nat.reduceEqDiff, Nat.reduceMul, reduceCtorEq, Nat.reduceAdd, Nat.reduceSub, Nat.reduceLeDiff, Nat.reduceLT, Int.reduceToNat, Int.reduceLE, Int.reduceLT, Ze, men]
  refine Zb (YH x0 x0 hb0_0 hb0_1) ?_
  simp only [List.length_map, Zh, Zj, Zd, ne_eq, not_true_eq_false, bne_self_eq_false, Za, Zc, EVA, ↓reduceIte, Nat.reduceEqDiff, Nat.reduceMul, reduceCtorEq, Nat.reduceAdd, Nat.reduceSub, Nat.reduceLeDiff, Nat.reduceLT, Int.reduceToNat, Int.reduceLE, Int.reduceLT, Ze, men]
  refine Zb (Zo x1 hs1_0) ?_
  simp only [List.length_map, Zh, Zj, Zd, ne_eq, not_true_eq_false, bne_self_eq_false, Za, Zc, EVA, ↓reduceIte, Nat.reduceEqDiff, Nat.reduceMul, reduceCtorEq, Nat.reduceAdd, Nat.reduceSub, Nat.reduceLeDiff, Nat.reduceLT, Int.reduceToNat, Int.reduceLE, Int.reduceLT, Ze, men]
  refine Zb (Zv x1 x1 hb1_0) ?_
  simp only [List.length_map, Zh, Zj, Zd, ne_eq, not_true_eq_false, bne_self_eq_false, Za, Zc, EVA, ↓reduceIte, Nat.reduceEqDiff, Nat.reduceMul, reduceCtorEq, Nat.reduceAdd, Nat.reduceSub, Nat.reduceLeDiff, Nat.reduceLT, Int.reduceToNat, Int.reduceLE, Int.reduceLT, Ze, men]
  refine Zb (Zo x2 hs2_0) ?_
  simp only [List.length_map, Zh, Zj, Zd, ne_eq, not_true_eq_false, bne_self_eq_false, Za, Zc, EVA, ↓reduceIte, Nat.reduceEqDiff, Nat.reduceMul, reduceCtorEq, Nat.reduceAdd, Nat.reduceSub, Nat.reduceLeDiff, Nat.reduceLT, Int.reduceToNat, Int.reduceLE, Int.reduceLT, Ze, men]
  refine Zb (Zv x2 x2 hb2_0) ?_
  simp only [List.length_map, Zh, Zj, Zd, ne_eq, not_true_eq_false, bne_self_eq_false, Za, Zc, EVA, ↓reduceIte, Nat.reduceEqDiff, Nat.reduceMul, reduceCtorEq, Nat.reduceAdd, Nat.reduceSub, Nat.reduceLeDiff, Nat.reduceLT, Int.reduceToNat, Int.reduceLE, Int.reduceLT, Ze, men]
  simp only [WD]
  refine WO Vh (a := x0) rfl (by omega) (by omega) hs0_0 hs0_1 ?_
  simp only [List.length_map, Zh, Zj, Zd, ne_eq, not_true_eq_false, bne_self_eq_false, Za, Zc, EVA, ↓reduceIte, Nat.reduceEqDiff, Nat.reduceMul, reduceCtorEq, Nat.reduceAdd, Nat.reduceSub, Nat.reduceLeDiff, Nat.reduceLT, Int.reduceToNat, Int.reduceLE, Int.reduceLT, Ze, men]
  simp only [WD]
  refine ZH (x := x1) (by decide) (by decide) (by decide) (by decide) (by decide) (by decide) rfl rfl rfl rfl (by omega) (by omega) hs1_0 ?_
  simp only [List.length_map, Zh, Zj, Zd, ne_eq, not_true_eq_false, bne_self_eq_false, Za, Zc, EVA, ↓reduceIte, Nat.reduceEqDiff, Nat.reduceMul, reduceCtorEq, Nat.reduceAdd, Nat.reduceSub, Nat.reduceLeDiff, Nat.reduceLT, Int.reduceToNat, Int.reduceLE, Int.reduceLT, Ze, men]
  simp only [WD]
  refine ZH (x := x2) (by decide) (by decide) (by decide) (by decide) (by decide) (by decide) rfl rfl rfl rfl (by omega) (by omega) hs2_0 ?_
  simp only [List.length_map, Zh, Zj, Zd, ne_eq, not_true_eq_false, bne_self_eq_false, Za, Zc, EVA, ↓reduceIte, Nat.reduceEqDiff, Nat.reduceMul, reduceCtorEq, Nat.reduceAdd, Nat.reduceSub, Nat.reduceLeDiff, Nat.reduceLT, Int.reduceToNat, Int.reduceLE, Int.reduceLT, Ze, men]
  have hk0 : ¬ (1 + (nL JD x0 : Nat) + (ZI x1 : Nat) + (ZI x2 : Nat) < (0 : Int)) := by omega
  simp only [hk0, List.length_map, Zh, Zj, Zd, ne_eq, not_true_eq_false, bne_self_eq_false, Za, Zc, EVA, ↓reduceIte, Nat.reduceEqDiff, Nat.reduceMul, reduceCtorEq, Nat.reduceAdd, Nat.reduceSub, Nat.reduceLeDiff, Nat.reduceLT, Int.reduceToNat, Int.reduceLE, Int.reduceLT, Ze, men]
  refine Zb (Zv (Zs x0 x1 x2) (Zs x0 x1 x2) (Z5 hr0_0)) ?_
  simp only [List.length_map, Zh, Zj, Zd, ne_eq, not_true_eq_false, bne_self_eq_false, Za, Zc, EVA, ↓reduceIte, Nat.reduceEqDiff, Nat.reduceMul, reduceCtorEq, Nat.reduceAdd, Nat.reduceSub, Nat.reduceLeDiff, Nat.reduceLT, Int.reduceToNat, Int.reduceLE, Int.reduceLT, Ze, men]
  simp only [WD]
  refine ZH (x := (Zs x0 x1 x2)) (by decide) (by decide) (by decide) (by decide) (by decide) (by decide) rfl rfl rfl rfl (by omega) (by omega) hr0_0 ?_
  simp only [List.length_map, Zh, Zj, Zd, ne_eq, not_true_eq_false, bne_self_eq_false, Za, Zc, EVA, ↓reduceIte, Nat.reduceEqDiff, Nat.reduceMul, reduceCtorEq, Nat.reduceAdd, Nat.reduceSub, Nat.reduceLeDiff, Nat.reduceLT, Int.reduceToNat, Int.reduceLE, Int.reduceLT, Ze, men]
  refine Zb (Jz (Zs x0 x1 x2) (1) hr0_0 (by omega) (by omega)) ?_
  have hh0 : ¬ (1 + (ZI (Zs x0 x1 x2) : Nat) < (0 : Int)) := by omega
  simp only [hh0, List.length_map, Zh, Zj, Zd, ne_eq, not_true_eq_false, bne_self_eq_false, Za, Zc, EVA, ↓reduceIte, Nat.reduceEqDiff, Nat.reduceMul, reduceCtorEq, Nat.reduceAdd, Nat.reduceSub, Nat.reduceLeDiff, Nat.reduceLT, Int.reduceToNat, Int.reduceLE, Int.reduceLT, Ze, men]
  refine Zb (ZE x0 hs0_0 hs0_1) ?_
  simp only [List.length_map, Zh, Zj, Zd, ne_eq, not_true_eq_false, bne_self_eq_false, Za, Zc, EVA, ↓reduceIte, Nat.reduceEqDiff, Nat.reduceMul, reduceCtorEq, Nat.reduceAdd, Nat.reduceSub, Nat.reduceLeDiff, Nat.reduceLT, Int.reduceToNat, Int.reduceLE, Int.reduceLT, Ze, men]
  refine Zb (Zo x1 hs1_0) ?_
  simp only [List.length_map, Zh, Zj, Zd, ne_eq, not_true_eq_false, bne_self_eq_false, Za, Zc, EVA, ↓reduceIte, Nat.reduceEqDiff, Nat.reduceMul, reduceCtorEq, Nat.reduceAdd, Nat.reduceSub, Nat.reduceLeDiff, Nat.reduceLT, Int.reduceToNat, Int.reduceLE, Int.reduceLT, Ze, men]
  refine Zb (Zo x2 hs2_0) ?_
  simp only [List.length_map, Zh, Zj, Zd, ne_eq, not_true_eq_false, bne_self_eq_false, Za, Zc, EVA, ↓reduceIte, Nat.reduceEqDiff, Nat.reduceMul, reduceCtorEq, Nat.reduceAdd, Nat.reduceSub, Nat.reduceLeDiff, Nat.reduceLT, Int.reduceToNat, Int.reduceLE, Int.reduceLT, Ze, men]
  refine Zb (Yj x0 x1 x2 hs0_0 hs0_1 hs1_0 hs2_0 hf1 hf2) ?_
  simp only [List.length_map, Zh, Zj, Zd, ne_eq, not_true_eq_false, bne_self_eq_false, Za, Zc, EVA, ↓reduceIte, Nat.reduceEqDiff, Nat.reduceMul, reduceCtorEq, Nat.reduceAdd, Nat.reduceSub, Nat.reduceLeDiff, Nat.reduceLT, Int.reduceToNat, Int.reduceLE, Int.reduceLT, Ze, men]
  refine Zb (Zv (Zs x0 x1 x2) (Zs x0 x1 x2) (Z5 hr0_0)) ?_
  simp only [List.length_map, Zh, Zj, Zd, ne_eq, not_true_eq_false, bne_self_eq_false, Za, Zc, EVA, ↓reduceIte, Nat.reduceEqDiff, Nat.reduceMul, reduceCtorEq, Nat.reduceAdd, Nat.reduceSub, Nat.reduceLeDiff, Nat.reduceLT, Int.reduceToNat, Int.reduceLE, Int.reduceLT, Ze, men]
  refine Zb (Jz (Zs x0 x1 x2) (1) hr0_0 (by omega) (by omega)) ?_
  have hh0 : ¬ (1 + (ZI (Zs x0 x1 x2) : Nat) < (0 : Int)) := by omega
  simp only [hh0, List.length_map, Zh, Zj, Zd, ne_eq, not_true_eq_false, bne_self_eq_false, Za, Zc, EVA, ↓reduceIte, Nat.reduceEqDiff, Nat.reduceMul, reduceCtorEq, Nat.reduceAdd, Nat.reduceSub, Nat.reduceLeDiff, Nat.reduceLT, Int.reduceToNat, Int.reduceLE, Int.reduceLT, Ze, men]
end Go.Fd
